/- A part of an abstract machine, its walks, their tie. -/
import Derived.Test.YtekghmfbgbhobaaGreatDoorD26
import Derived.Test.YtekghmfbgbhobaaGreatDoorD16
set_option linter.all false
section
set_option maxHeartbeats 64000000
set_option maxRecDepth 20000
namespace Go.Eng
variable (tab:Tab) (gl:Gl)
theorem St.sut_go {s:St}(h:s.Ok){l:List Ix}{r w:List Int}(h1:l.length≤6)(h2 : ∀ x∈l,x.Ok)(h3:r.length≤s.rl.length+1)(h4:w.length≤s.wl.length+1):s.Go 1 { s with a := { s.a with ix:=l },rl:=r,wl:=w }:=
 ⟨{ h with a := { h.a with ix:=⟨h1,h2⟩ } },fun m hm=>by unfold St.cn at *;simp only;omega⟩
theorem St.aut_go {s:St}(h:s.Ok){l:List (List UInt8)}(h1:l.length=4 ∧ ∀ x∈l,x.length≤32):s.Go 0 { s with a := { s.a with au:=l } }:=
 ⟨{ h with a := { h.a with au:=h1 } },fun m hm=>by rw[Int.add_zero];exact hm⟩
theorem St.reg_go {s:St}(h:s.Ok){bk:List zB}{u:Int}(h1:BkS s.a.act bk)(h2:0≤u∧u≤s.u+1):s.Go 1 { s with bk:=bk,u:=u }:=
 ⟨{ h with bk:=h1,u:=h2.1 },fun m hm=>by unfold St.cn at *;simp only;omega⟩
theorem St.clr_go {s:St}(h:s.Ok){b a0 a2 u0 u2:List UInt8}(hb:b.length=Int.toNat 32)(hx:a0.length≤32∧a2.length≤32∧u0.length≤32∧u2.length≤32) :
  s.Go 3 { s with dr:=s.dr+1,a := { s.a with sd:=[a0,b,a2],au:=[u0,[],u2,[]],ix:=[],lk:=⟨0,5,100,0,0,1000⟩ },ses:=[zSm,zSm,zSm],obs:=[zZ5,zZ5,zZ5],rl:=[],wl:=[] }:=by
 have hb':b.length=32:=hb;have hd:=h.dr;refine⟨{ h with a := { h.a with sd:=⟨rfl,?_⟩,au:=⟨rfl,?_⟩,ix:=⟨sM,sM⟩,lk:=?_ },dr:=?_,ses:=⟨rfl,?_⟩,obs:=⟨rfl,?_⟩ },?_⟩
 ·intro x hm;simp only[List.mem_cons,List.not_mem_nil,or_false] at hm;rcases hm with rfl | rfl | rfl<;>omega
 ·intro x hm;simp only[List.mem_cons,List.not_mem_nil,or_false] at hm;rcases hm with rfl | rfl | rfl | rfl<;>first | omega | simp
 ·unfold Lk.Ok;simp
 ·show 0≤s.dr+1;omega
 ·intro x hm;simp only[List.mem_cons,List.not_mem_nil,or_false] at hm;rcases hm with rfl | rfl | rfl<;>exact Ses.ok0
 ·intro x hm;simp only[List.mem_cons,List.not_mem_nil,or_false] at hm;rcases hm with rfl | rfl | rfl<;>exact zRd
 ·intro m hm;unfold St.cn at *;simp only[List.length_nil];omega
theorem qUc {g1}(h1:LkE tab 144 kD g1){g2}(h2:LkE tab 108 kW g2){g3}(h3:LkE tab 211 qPh g3)(s:St)(q:Rq)(hp:(s.Ok∧s.cn 1000000)∧q.Ok∧q.co=22) :
  qAa.1.wp tab gl (qE 0 [.t (stA s),.t (rqA q)]) (qE 0 []) (qX [(4,(some (30,true))),(5,(some (4,true)))] 0 (qPb.K (s,q))):=by
 obtain⟨⟨hs,hc⟩,hq,rfl'⟩:=hp;obtain⟨_,q2,_,q4,q5⟩:=hq;obtain⟨co,hh,au,ns,bl⟩:=q;simp only at rfl' q2 q4 q5;subst rfl';rw[show qG6 22=(1,1,1,0) from rfl] at q2 q4 q5;obtain⟨n0,rfl⟩:=qQp q4.1;have b0:tmI n0:=q4.2 n0 sM;have l1:=hs.a.ix;obtain⟨c1,c2,c3,c4,c5,c6,c7⟩:=hc;obtain⟨rb,eb⟩:=qCc (g:=g2) (s:=s) (e:=7);have e1:=qHh (g:=g1) (s:=s) (h:=256+n0) ⟨l1.1,fun x hx=>(l1.2 x hx).1⟩;have hz : ∀ {l:List Ix},qRz 8 (List.map ixA l)=true:=zIx;rcases @zEd s.a.ix (256+n0) 0 with r1 | ⟨r1,r2⟩
 ·rw[r1] at e1;simp only[stA,rsA] at e1 eb;simp(maxSteps:=9^9)(disch:=try exact dS)only[go_sem,qAa,stA,rqA,mcn,iT,h1,h2,e1,eb];repeat refine aiG ?_
  exact jL0 s rb (St.go_rfl hs oM) rfl rfl
 ·generalize ixP s.a.ix (256+n0) 0=j at *;obtain⟨k,rfl⟩ : ∃ k:Nat,j=k:=⟨j.toNat,oM⟩;obtain⟨r',hl1,e3⟩:=jA9 (g:=g3) (l:=s.rl) (n:=n0) oM;obtain⟨w',hl2,e4⟩:=jA9 (g:=g3) (l:=s.wl) (n:=n0) oM;have hgo:=St.sut_go hs (l:=s.a.ix.take k++s.a.ix.drop (k+1)) (r:=r') (w:=w') soM (fun x hx=>by
   rcases List.mem_append.1 hx with h | h
   ·exact l1.2 x (List.mem_of_mem_take h)
   ·exact l1.2 x (List.mem_of_mem_drop h)) oM oM
  simp only[stA] at e1;have t1:List.take (s.a.ix.length-(k+1)) (List.drop (k+1) s.a.ix)=List.drop (k+1) s.a.ix:=List.take_of_length_le sM;have t2:List.take (k+(s.a.ix.length-(k+1))) (List.take k s.a.ix++List.drop (k+1) s.a.ix)=List.take k s.a.ix++List.drop (k+1) s.a.ix:=List.take_of_length_le soM;simp(maxSteps:=9^9)(disch:=try exact dS)only[go_sem,qAa,stA,rqA,mcn,iT,h1,h3,e1,e3,e4,hz];repeat refine aiG ?_
  exact jL0 _ ⟨0,[],[],[]⟩ (hgo.le oM) (by rw[t1,t2];rfl) rfl
theorem qYx {g1}(h1:LkE tab 108 kW g1)(s:St)(q:Rq)(hp:(s.Ok∧s.cn 1000000)∧q.Ok∧q.Al s∧q.co=30) :
  qBy.1.wp tab gl (qE 0 [.t (stA s),.t (rqA q)]) (qE 0 []) (qX [(4,(some (30,true))),(5,(some (4,true)))] 0 (qIq.K (s,q))):=by
 obtain⟨⟨hs,hc⟩,hq,al,rfl'⟩:=hp;obtain⟨_,q2,_,q4,q5⟩:=hq;obtain⟨co,hh,au,ns,bl⟩:=q;simp only at rfl' q2 q4 q5;subst rfl';rw[show qG6 30=(1,1,0,1) from rfl] at q2 q4 q5;obtain⟨n0,rfl⟩:=qQp q2.1;obtain⟨b0,rfl⟩:=qQp (l:=bl) (by rcases q5.1 with h | h;exact h;exact absurd h.1 (by decide));have hb0:=q5.2 b0 sM;have al':0≤n0∧n0≤3:=al.2.2.1 rfl;have l1:=hs.a.au;obtain⟨rb,eb⟩:=qCc (g:=g1) (s:=s) (e:=4);by_cases c:32<b0.length
 ·simp only[stA,rsA] at eb;simp(maxSteps:=9^9)(disch:=try exact dS)only[go_sem,qBy,stA,rqA,mcn,iT,bsT,h1,eb,c];repeat refine aiG ?_
  exact zY4 s rb (St.go_rfl hs oM) rfl rfl
 ·have hgo:=St.aut_go hs (l:=s.a.au.set n0.toNat b0) ⟨by simp[l1.1],fun y hy=>by
   rcases List.mem_or_eq_of_mem_set hy with h | rfl
   ·exact l1.2 y h
   ·omega⟩
  simp(maxSteps:=9^9)(disch:=try exact dS)only[go_sem,qBy,stA,rqA,mcn,iT,bsT,c];repeat refine aiG ?_
  exact zY4 _ ⟨0,[],[],[]⟩ (hgo.le oM) (by rw[List.take_of_length_le sM];rfl) rfl
theorem zCl {g1}(h1:LkE tab 19 qDo g1)(h2:LkC tab 71 qVs)(s:St)(hp:s.Ok∧s.cn 1000000) :
  qGq.1.wp tab gl (qE 0 [.t (stA s)]) (qE 0 []) (qX [(2,(some (30,true))),(3,(some (4,true)))] 0 (qNf.K s)):=by
 obtain⟨hs,hc⟩:=hp;obtain⟨a0,a1,a2,ha⟩:=zVr (l:=s.a.sd) (by have:=hs.a.sd.1;omega);obtain⟨u0,u1,u2,u3,hu⟩:=jVw (l:=s.a.au) (by have:=hs.a.au.1;omega);obtain⟨b,hb,e1⟩:=jKq (g:=g1) hs hc (n:=32) oM;have e2:=zQw;simp only[stA,St.more,ha,hu,mcn,bsT] at e1;simp(maxSteps:=9^9)(disch:=try exact dS)only[go_sem,qGq,stA,ha,hu,h1,h2,e1,e2,mcn,bsT];repeat refine aiG ?_
 exact jN1 _ ⟨0,[],[],[]⟩ (St.clr_go hs hb (a0:=a0) (a2:=a2) (u0:=u0) (u2:=u2) (by
  refine⟨hs.a.sd.2 a0 ?_,hs.a.sd.2 a2 ?_,hs.a.au.2 u0 ?_,hs.a.au.2 u2 ?_⟩<;>simp[ha,hu])) rfl rfl
theorem qXf (h1:LkC tab 193 qZp){g2}(h2:LkE tab 108 kW g2)(h3:LkC tab 194 qF1)(h4:LkC tab 195 qVr)(h5:LkC tab 196 zPd)(h6:LkC tab 197 qHd)(s:St)(lo:Int)(q:Rq)(hp:(s.Ok∧s.cn 1000000)∧q.Ok∧(q.co=5∨q.co=6∨q.co=7∨q.co=8)) :
  jJ.1.wp tab gl (qE 0 [.t (stA s),.t (.int .i64 lo),.t (rqA q)]) (qE 0 []) (qX [(6,(some (30,true))),(7,(some (4,true)))] 0 (qOh.K (s,lo,q))):=by
 obtain⟨⟨hs,hc⟩,hq,hco⟩:=hp;obtain⟨_,q2,_,q4,q5⟩:=hq;obtain⟨co,hh,au,ns,bl⟩:=q;simp only at hco q2 q4 q5;obtain⟨c1,c2,c3,c4,c5,c6,c7⟩:=hc;have hk:=hs.bk;have hku:=hs.u;rcases hco with rfl | rfl | rfl | rfl
 ·rw[show qG6 5=(0,0,2,0) from rfl] at q2 q4 q5;obtain⟨n0,n1',rfl⟩:=jC3 q4.1;rcases jQm hk.rv.rm (u:=s.u) (a:=n0) (i:=n1') with⟨e,he,e1⟩ | ⟨y,e1⟩
  ·obtain⟨rb,eb⟩:=qCc (g:=g2) (s:=s) (e:=e);simp only[stA,rsA] at eb;simp(maxSteps:=9^9)(disch:=try exact dS)only[go_sem,jJ,stA,rqA,mcn,iT,h1,h2,e1,eb,he];repeat refine aiG ?_
   exact zEl s rb (St.go_rfl hs oM) rfl rfl
  ·simp(maxSteps:=9^9)(disch:=try exact dS)only[go_sem,jJ,stA,rqA,mcn,iT,h1,e1];repeat refine aiG ?_
   exact zEl s ⟨0,[s.u],[y],[]⟩ (St.go_rfl hs oM) rfl rfl
 ·rw[show qG6 6=(0,0,1,2) from rfl] at q2 q4 q5;obtain⟨n0,rfl⟩:=qQp q4.1;have hl:(bl.length:Int)=2:=by
   rcases q5.1 with h | h
   ·exact h
   ·exact absurd h.1 (by decide)
  obtain⟨bk',u',e,hok,e1⟩:=jOd hk (u:=s.u) ⟨hku,oM⟩ (lo:=lo) (i:=n0) (ds:=bl) ⟨oM,fun d hd=>by have:=q5.2 d hd;omega⟩;obtain⟨rb,eb⟩:=qCc (g:=g2) (s:=s) (e:=e);by_cases c:e=0
  ·have hgo:=St.reg_go hs (hok c).1 (hok c).2;subst c;simp(maxSteps:=9^9)(disch:=try exact dS)only[go_sem,jJ,stA,rqA,mcn,iT,h3,e1];repeat refine aiG ?_
   exact zEl _ ⟨0,[],[],[]⟩ (hgo.le oM) rfl rfl
  ·simp only[stA,rsA] at eb;simp(maxSteps:=9^9)(disch:=try exact dS)only[go_sem,jJ,stA,rqA,mcn,iT,h2,h3,e1,eb,c];repeat refine aiG ?_
   exact zEl s rb (St.go_rfl hs oM) rfl rfl
 ·rw[show qG6 7=(0,0,1,1) from rfl] at q2 q4 q5;obtain⟨n0,rfl⟩:=qQp q4.1;obtain⟨b0,rfl⟩:=qQp (l:=bl) (by rcases q5.1 with h | h;exact h;exact absurd h.1 (by decide));have hb0:=q5.2 b0 sM;have ed:=jN9 hk.rv.1 (u:=s.u) (d:=b0) oM;obtain⟨bk',u',e,hok,e1⟩:=jWc hk (u:=s.u) ⟨hku,oM⟩ (lo:=lo) (i:=n0) (d:=b0) oM;obtain⟨rb,eb⟩:=qCc (g:=g2) (s:=s) (e:=e);by_cases c:e=0
  ·have hgo:=St.reg_go hs (hok c).1 (hok c).2;subst c;simp(maxSteps:=9^9)(disch:=try exact dS)only[go_sem,jJ,stA,rqA,mcn,iT,bsT,h4,h5,ed,e1];repeat refine aiG ?_
   exact zEl _ ⟨0,[],qVv s.bk b0,[]⟩ (hgo.le oM) rfl rfl
  ·simp only[stA,rsA] at eb;simp(maxSteps:=9^9)(disch:=try exact dS)only[go_sem,jJ,stA,rqA,mcn,iT,bsT,h2,h4,h5,ed,e1,eb,c];repeat refine aiG ?_
   exact zEl s rb (St.go_rfl hs oM) rfl rfl
 ·rw[show qG6 8=(0,0,1,0) from rfl] at q2 q4 q5;obtain⟨n0,rfl⟩:=qQp q4.1;obtain⟨bk',u',e,hok,e1⟩:=jPw hk (u:=s.u) ⟨hku,oM⟩ (lo:=lo) (i:=n0);obtain⟨rb,eb⟩:=qCc (g:=g2) (s:=s) (e:=e);by_cases c:e=0
  ·have hgo:=St.reg_go hs (hok c).1 (hok c).2;subst c;simp(maxSteps:=9^9)(disch:=try exact dS)only[go_sem,jJ,stA,rqA,mcn,iT,h6,e1];repeat refine aiG ?_
   exact zEl _ ⟨0,[],[],[]⟩ (hgo.le oM) rfl rfl
  ·simp only[stA,rsA] at eb;simp(maxSteps:=9^9)(disch:=try exact dS)only[go_sem,jJ,stA,rqA,mcn,iT,h2,h6,e1,eb,c];repeat refine aiG ?_
   exact zEl s rb (St.go_rfl hs oM) rfl rfl
theorem jCk {α:Type}{l:List α}(h:1≤l.length) : ∃ x,l[0]?=some x∧x∈l:=by
 obtain⟨x,hg,hm,_⟩:=qN (l:=l) (k:=0) oM;exact⟨x,hg,hm⟩
theorem zCd {g1}(h1:LkE tab 192 qIx g1)(s:St)(q:Rq)(hp:s.Ok∧q.hs.length≤8) :
  qGn.1.wp tab gl (qE 0 [.t (stA s),.t (rqA q)]) (qE 0 []) (qX [(4,none)] 0 (qK8.K (s,q))):=by
 obtain⟨hs,hq⟩:=hp;obtain⟨co,hh,au,ns,bl⟩:=q;simp only at hq;simp(maxSteps:=9^9)(disch:=try exact dS)only[go_sem,qGn,stA,rqA];refine zD (σ:=Nat×List (List UInt8)) (fun t=>t.1≤hh.length∧t.2.length=t.1 ∧ ∀ x∈t.2,x.length≤32) (fun t=>hh.length-t.1) (fun t=>[(2,.ref 4096 0 0),(3,.ref 4112 0 0),(5,.sl 9000 0 t.2.length),(6,.t (.int .i64 t.1))]) (fun t=>[(9000,.live 1 ((t.2.map bsT).map V.t) true false),(4112,.live 5 [.t (rqA ⟨co,hh,au,ns,bl⟩)] true true),(4096,.live 30 [.t (stA s)] true true)]) (0,[]) ⟨sM,rfl,sM⟩ ?_ ?_
 ·refine qI.cv0 (hv:=[(9000,.live 1 [] true false)]) (ho:=[(4112,.live 5 [.t (rqA ⟨co,hh,au,ns,bl⟩)] true true),(4096,.live 30 [.t (stA s)] true true)]) id ?_ ?_ rfl rfl;all_goals simp(maxSteps:=9^9)(disch:=try exact dS)only[go_sem,id,stA,rqA]
  all_goals rfl
 rintro⟨k,r⟩ ⟨hk,hr,hx⟩;simp only at hk hr hx;by_cases hlt:k<hh.length
 ·obtain⟨x,hg,hm,_⟩:=qN hlt;obtain⟨y,hy,e⟩:=zQ7 (g:=g1) (h:=x) hs;simp only[stA] at e;simp(maxSteps:=9^9)(disch:=try exact dS)only[go_sem,stA,rqA,hlt,hg,oms,iT,h1,e,hr];repeat refine aiG ?_
  refine qDd.of (k+1,r++[y]) ⟨by show k+1≤_;omega,by simp[hr],?_⟩ (by show hh.length-(k+1)<hh.length-k;omega) (qI.rd (fun j=>if j=9000 then 24720 else j) ?_ ?_ rfl)
  ·intro x hx';simp only[List.mem_append,List.mem_cons,List.not_mem_nil,or_false] at hx';rcases hx' with hx' | rfl
   ·exact hx x hx'
   ·exact hy
  all_goals simp(maxSteps:=9^9)(disch:=try exact dS)only[go_sem,id,stA,rqA,hr]
  all_goals first | omega | rfl | simp[hr]
 ·simp(maxSteps:=9^9)(disch:=try exact dS)only[go_sem,stA,rqA,hlt,hr];exact jO8 r ⟨oM,hx⟩ (by first | rfl | rw[List.take_of_length_le oM]) rfl
theorem zCk {g1}(h1:LkE tab 153 qK8 g1)(s:St)(q:Rq)(hp:s.Ok∧q.hs.length≤8) :
  qGp.1.wp tab gl (qE 0 [.t (stA s),.t (rqA q)]) (qE 0 []) (qX [(4,none)] 0 (qOk.K (s,q))):=by
 obtain⟨l,hl,e⟩:=zZ4 (g:=g1) hp;simp only[stA,rqA] at e;simp(maxSteps:=9^9)(disch:=try exact dS)only[go_sem,qGp,stA,rqA,h1,e];exact jO7 l hl rfl rfl
theorem qYn (h1:LkC tab 42 yT)(h2:LkC tab 191 qAw)(h3:tab.look 102=some (qJm 32 yK).fs)(l:List (List UInt8))(q:Rq)(hp:(l.length≤8 ∧ ∀ x∈l,x.length≤32)∧q.B) :
  qEp.1.wp tab gl (qE 0 [.t (.sl (l.map bsT)),.t (rqA q)]) (qE 0 []) (qX [(4,none)] 0 (qKu.K (l,q))):=by
 obtain⟨⟨q1,q2⟩,b1,b2,b3,b4,b5,b6⟩:=hp;obtain⟨co,hh,au,ns,bl⟩:=q;simp only at b1 b2 b3 b4 b5 b6;simp(maxSteps:=9^9)(disch:=try exact dS)only[go_sem,qEp,rqA];refine zD (σ:=Nat×List UInt8) (fun t=>t.1≤l.length∧t.2.length≤32*t.1) (fun t=>l.length-t.1) (fun t=>[(0,.t (.sl (l.map bsT))),(3,.ref 4096 0 0),(5,.sl 9000 0 t.2.length),(6,.nil),(7,.t (.int .i64 t.1))]) (fun t=>[(9000,.live 1 ((t.2.map qA).map V.t) true false),(4096,.live 5 [.t (rqA ⟨co,hh,au,ns,bl⟩)] true true)]) (0,[]) ⟨sM,sM⟩ ?_ ?_
 ·refine qI.cv0 (hv:=[(9000,.live 1 [] true false)]) (ho:=[(4096,.live 5 [.t (rqA ⟨co,hh,au,ns,bl⟩)] true true)]) id ?_ ?_ rfl rfl;all_goals simp(maxSteps:=9^9)(disch:=try exact dS)only[go_sem,id,rqA]
  all_goals rfl
 rintro⟨k,r⟩ ⟨hk,hr⟩;simp only at hk hr;by_cases hlt:k<l.length
 ·obtain⟨x,hg,hm,_⟩:=qN hlt;have hx:=q2 x hm;simp(maxSteps:=9^9)(disch:=try exact dS)only[go_sem,rqA,hlt,hg];repeat refine aiG ?_
  refine qDd.of (k+1,r++x) ⟨by show k+1≤_;omega,soM⟩ (by show l.length-(k+1)<l.length-k;omega) (qI.rd (fun j=>if j=9000 then 24656 else j) ?_ ?_ rfl);all_goals simp(maxSteps:=9^9)(disch:=try exact dS)only[go_sem,id,rqA]
  all_goals first | omega | rfl | simp
 ·simp(maxSteps:=9^9)(disch:=try exact dS)only[go_sem,rqA,hlt];refine zD (σ:=Nat×List UInt8) (fun t=>t.1≤ns.length∧t.2.length≤8*t.1) (fun t=>ns.length-t.1) (fun t=>[(3,.ref 4096 0 0),(5,.sl 9000 0 r.length),(6,.sl 9001 0 t.2.length),(8,.t (.int .i64 t.1))]) (fun t=>[(9001,.live 1 ((t.2.map qA).map V.t) true false),(9000,.live 1 ((r.map qA).map V.t) true false),(4096,.live 5 [.t (rqA ⟨co,hh,au,ns,bl⟩)] true true)]) (0,[]) ⟨sM,sM⟩ ?_ ?_
  ·refine qI.cv0 (hv:=[(9001,.live 1 [] true false)]) (ho:=[(9000,.live 1 ((r.map qA).map V.t) true false),(4096,.live 5 [.t (rqA ⟨co,hh,au,ns,bl⟩)] true true)]) id ?_ ?_ rfl rfl;all_goals simp(maxSteps:=9^9)(disch:=try exact dS)only[go_sem,id,rqA]
   all_goals rfl
  rintro⟨j,w⟩ ⟨hj,hw⟩;simp only at hj hw;by_cases hlt2:j<ns.length
  ·obtain⟨x,hg,hm,_⟩:=qN hlt2;obtain⟨y,hy,e⟩:=qF8 (b:=w) (k:=8) (n:=x) ⟨oM,oM,oM⟩;rw[show ((8:Nat):Int)=8 from rfl] at e;simp(maxSteps:=9^9)(disch:=try exact dS)only[go_sem,rqA,hlt2,hg,oms,iT,h1,e,List.take_length];repeat refine aiG ?_
   refine qDd.of (j+1,y) ⟨by show j+1≤_;omega,by simp only;omega⟩ (by show ns.length-(j+1)<ns.length-j;omega) (qI.rd (fun j=>if j=9001 then 41056 else j) ?_ ?_ rfl);all_goals simp(maxSteps:=9^9)(disch:=try exact dS)only[go_sem,id,rqA]
   all_goals first | omega | rfl | simp
  ·obtain⟨y,hy,e⟩:=zQh (t:=10) (fs:=[u8I co]::r::w::bl) oM soM (by
     intro x hx;simp only[List.mem_cons] at hx;rcases hx with rfl | rfl | rfl | hx
     ·simp
     ·omega
     ·omega
     ·exact b5 x hx)
   simp only[mcn,bsT] at e;rw[show ((10:Nat):Int)=10 from rfl] at e;obtain⟨z,hz,e2⟩:=jLq (b:=y) oM;rw[hz] at e2;have tz:z.take 32=z:=List.take_of_length_le oM;have tb:List.take (3+bl.length) (.sl [qA (u8I co)] :: .sl (r.map qA) :: .sl (w.map qA)::bl.map bsT) = .sl [qA (u8I co)] :: .sl (r.map qA) :: .sl (w.map qA)::bl.map bsT:=List.take_of_length_le soM;simp(maxSteps:=9^9)(disch:=try exact dS)only[go_sem,rqA,hlt2,h2,h3,u8w,e,e2,tb,List.take_length,tz,hz];exact jNz z hz rfl rfl
theorem zI0 (h1:LkC tab 191 qAw)(h2:LkC tab 83 qTe)(v d m c:List UInt8)(hp:v.length≤64∧d.length≤4000∧m.length≤4000∧c.length≤4000) :
  qJ9.1.wp tab gl (qE 0 [.t (.sl (v.map qA)),.t (.sl (d.map qA)),.t (.sl (m.map qA)),.t (.sl (c.map qA))]) (qE 0 []) (qX [(8,none)] 0 (qKx.K (v,d,m,c))):=by
 obtain⟨q1,q2,q3,q4⟩:=hp;obtain⟨y,hy,e⟩:=jCg (t:=10) (fs:=[d,m,c]) oM sM soM;simp only[mcn,bsT] at e;rw[show ((10:Nat):Int)=10 from rfl] at e;have e2:=zKy (k:=v) (b:=y) ⟨q1,oM⟩;have lh:(zD8 v y).length=32:=qFj;have th:(zD8 v y).take 32=zD8 v y:=List.take_of_length_le oM;simp(maxSteps:=9^9)(disch:=try exact dS)only[go_sem,qJ9,h1,h2,e,e2,List.take_length,lh,th];exact jN2 _ lh rfl rfl
theorem zCe  (c:Int) :
  qGo.1.wp tab gl (qE 0 [.t (.int .i64 c)]) (qE 0 []) (qX [(2,none)] 0 (qLg.K c)):=by
 simp +contextual(maxSteps:=9^9)(disch:=try exact dS)only[go_sem,qGo,↓qB,↓qC,qU]
 (repeat' (first | apply And.intro | intro _))<;>(try rfl)
 all_goals exact jPj _ trivial rfl rfl
theorem zFs  (r:Bool)(a b:Int) :
  qH5.1.wp tab gl (qE 0 [.t (.bool r),.t (.int .i64 a),.t (.int .i64 b)]) (qE 0 []) (qX [(6,none)] 0 (qLb.K (r,a,b))):=by
 cases r;all_goals simp(maxSteps:=9^9)(disch:=try exact dS)only[go_sem,qH5]
 all_goals exact jPb _ trivial rfl rfl
theorem qYp {g1}(h1:LkE tab 186 qOc g1){g2}(h2:LkE tab 187 qLd g2){g3}(h3:LkE tab 188 qN8 g3)(s:St)(h:Int)(hp:s.Ok) :
  qBw.1.wp tab gl (qE 0 [.t (stA s),.t (.int .i64 h)]) (qE 0 []) (qX [(4,none)] 0 (qOa.K (s,h))):=by
 have e1 := @jJc g1 s.a.lk s.clk;obtain⟨v,_,e2⟩:=jAb (g:=g2) (h:=h) hp;obtain⟨w,_,e3⟩:=jI6 (g:=g3) (l:=s.a.lk) (now:=s.clk) ⟨hp.a.lk,hp.clk⟩;simp only[stA,lkA] at e1 e2 e3;by_cases c:h=3
 ·subst c;simp(maxSteps:=9^9)(disch:=try exact dS)only[go_sem,qBw,stA,h1,e1];exact jI8 _ trivial rfl rfl
 ·cases v;all_goals simp(maxSteps:=9^9)(disch:=try exact dS)only[go_sem,qBw,stA,h2,h3,e2,e3,c]
  all_goals exact jI8 _ trivial rfl rfl
theorem zCf {g1}(h1:LkE tab 189 qOd g1){g2}(h2:LkE tab 187 qLd g2){g3}(h3:LkE tab 190 qN9 g3)(s:St)(h:Int)(ok:Bool)(hp:s.Ok) :
  kM.1.wp tab gl (qE 0 [.t (stA s),.t (.int .i64 h),.t (.bool ok)]) (qE 0 []) (qX [(6,(some (30,true))),(7,none)] 0 (qPe.K (s,h,ok))):=by
 cases ok
 rotate_left
 ·simp(maxSteps:=9^9)(disch:=try exact dS)only[go_sem,kM,stA];exact zYg s 0 ⟨s.a.lk,hp.a.lk,rfl⟩ rfl rfl
 obtain⟨l1,o1,e1⟩:=jJd (g:=g1) (l:=s.a.lk) (now:=s.clk) ⟨hp.a.lk,hp.clk⟩;obtain⟨v,_,e2⟩:=jAb (g:=g2) (h:=h) hp;obtain⟨l3,o3,e3⟩:=jI7 (g:=g3) (l:=s.a.lk) (now:=s.clk) ⟨hp.a.lk,hp.clk⟩;simp only[stA,lkA] at e1 e2 e3;by_cases c:h=3
 ·subst c;simp(maxSteps:=9^9)(disch:=try exact dS)only[go_sem,kM,stA,h1,e1,lkA];exact zYg (s.lkd l1) 9 ⟨l1,o1,rfl⟩ rfl rfl
 ·cases v
  ·simp(maxSteps:=9^9)(disch:=try exact dS)only[go_sem,kM,stA,h2,e2,c,lkA];exact zYg s 9 ⟨s.a.lk,hp.a.lk,rfl⟩ rfl rfl
  ·simp(maxSteps:=9^9)(disch:=try exact dS)only[go_sem,kM,stA,h2,h3,e2,e3,c,lkA];exact zYg (s.lkd l3) 9 ⟨l3,o3,rfl⟩ rfl rfl
theorem jJe {a n:Int}(h:0≤a∧a≤31) : ∃ r:Int,(0≤r∧r≤31)∧qGy .and (.int .i64 a) (.int .i64 n)=some (.int .i64 r):=by
 obtain⟨a,rfl⟩:=Int.eq_ofNat_of_zero_le h.1;have ha:a≤31:=oM;have e:(BitVec.ofInt 64 (a:Int) &&& BitVec.ofInt 64 n).toNat≤a:=by
  rw[BitVec.toNat_and];refine Nat.le_trans Nat.and_le_left ?_;simp;omega
 refine⟨((BitVec.ofInt 64 (a:Int) &&& BitVec.ofInt 64 n).toNat:Int),oM,?_⟩;change some (T.int .i64 (IntKind.i64.wrap ((BitVec.ofInt 64 (a:Int) &&& BitVec.ofInt 64 n).toNat:Int)))=_;rw[qBd oM]
theorem qYl {g1}(h1:LkE tab 248 qIy g1){g2}(h2:LkE tab 268 qPf g2){g3}(h3:LkE tab 269 qOy g3){g4}(h4:LkE tab 270 qNw g4){g5}(h5:LkE tab 271 qNi g5)(h6:LkC tab 20 xO){g7}(h7:LkE tab 250 qG0 g7){g8}(h8:LkE tab 166 qB5 g8)(s:St)(h:Int)(a:Asr)(hp:s.Ok∧s.cn 1000000∧a.B∧tmI h) :
  zG.1.wp tab gl (qE 0 [.t (stA s),.t (.int .i64 h),.t (vN a)]) (qE 0 []) (qX [(6,(some (30,true))),(7,none)] 0 (qKr.K (s,h,a))):=by
 obtain⟨hs,hc,ha,q3⟩:=hp;obtain⟨k,hk,e1⟩:=zRk (g:=g1) (h:=h) ⟨hs.ses.1,q3⟩;obtain⟨w,_,e2⟩:=jM5 (g:=g2) ha;rcases hk with rfl | ⟨k0,k1⟩
 ·simp only[stA] at e1;simp(maxSteps:=9^9)(disch:=try exact dS)only[go_sem,zG,stA,vN,h1,e1];exact kZ default 8 oM rfl rfl
 obtain⟨x,hg,hm⟩:=qTp hs.ses.1 k0 k1;have hx:=hs.ses.2 x hm;have hd:=hx.2.2.1;obtain⟨y,b,e,⟨hy,hb⟩,e3⟩:=jKo (g:=g3) ⟨hs,hx,ha⟩;obtain⟨ei,_,e4⟩:=jIr (g:=g4) ⟨hs,hc,ha⟩;obtain⟨r5,_,e5⟩:=jHl (g:=g5) (o:=a.op) (a:=s.clk) (b:=a.n);have put : ∀ x':Ses,x'.Ok → ∃ t:St,s.Go 0 t∧qB5.fs g8 [.t (stA s),.t (.int .i64 k),.t (jL x')] []=some (.t (stA t),[]):=fun x' hx'=>⟨_,St.sput_go hs hx',qZx ⟨hs.ses.1,k0,k1⟩⟩
 obtain⟨da,la,ea⟩:=zDz (g:=g7) (d:=x.dg) (a:=a) ⟨oM,ha⟩;obtain⟨db,lb,eb⟩:=zDz (g:=g7) (d:=y.dg) (a:=b) ⟨by have:=hy.2.2.1;omega,hb⟩;obtain⟨lo,hlo,elo⟩:=jJe (n:=a.n) hx.2.2.2.1;obtain⟨t1,j1,f1⟩:=put { y with dg:=db } ⟨hy.1,hy.2.1,lb,hy.2.2.2⟩;obtain⟨t2,j2,f2⟩:=put { x with dg:=da,lo:=lo } ⟨hx.1,hx.2.1,la,hlo,hx.2.2.2.2⟩;obtain⟨t3,j3,f3⟩:=put { x with dg:=da,cm:=a.n } ⟨hx.1,hx.2.1,la,hx.2.2.2⟩;obtain⟨t4,j4,f4⟩:=put { x with dg:=da } ⟨hx.1,hx.2.1,la,hx.2.2.2⟩;obtain⟨t5,j5,f5⟩:=put { x with dg:=da,av:=true } ⟨hx.1,hx.2.1,la,hx.2.2.2⟩;have hbr:=ha.2.2.2.2;obtain⟨xk,xn,xd,xu,xl,xc,xt,xv⟩:=x;obtain⟨kd,s0,s1,dg,n,op,od,nm,rf,br⟩:=a;simp only[stA,jL,vN] at *;by_cases c1:kd=1
 ·subst c1;simp +contextual(maxSteps:=9^9)(disch:=try exact dS)only[go_sem,zG,stA,vN,h1,e1,k0,h2,e2,hg,oms,jL,h3,e3,h7,eb,h8,f1,↓qB,↓qC,qU]
  (repeat' (first | apply And.intro | intro _))<;>(try rfl)
  all_goals first | exact kZ default w (fun e=>absurd e ‹_›) rfl rfl | exact kZ default e (fun e=>absurd e ‹_›) rfl rfl | exact kZ t1 0 (fun _=>j1) rfl rfl | skip
 by_cases c2:kd=2
 ·subst c2;simp +contextual(maxSteps:=9^9)(disch:=try exact dS)only[go_sem,zG,stA,vN,h1,e1,k0,h2,e2,hg,oms,jL,↓elo,h7,ea,h8,f2,↓qB,↓qC,qU]
  (repeat' (first | apply And.intro | intro _))<;>(try rfl)
  all_goals first | exact kZ default w (fun e=>absurd e ‹_›) rfl rfl | exact kZ t2 0 (fun _=>j2) rfl rfl | skip
 by_cases c3:kd=3
 ·subst c3;clear c1 c2;by_cases d1:xk=2
  ·subst d1;by_cases d2:xc=0
   ·subst d2;simp +contextual(maxSteps:=9^9)(disch:=try exact dS)only[go_sem,zG,stA,vN,h1,e1,k0,h2,e2,hg,oms,jL,h7,ea,h8,f3,↓qB,↓qC,qU]
    (repeat' (first | apply And.intro | intro _))<;>(try rfl)
    all_goals first | exact kZ default w (fun e=>absurd e ‹_›) rfl rfl | exact kZ t3 0 (fun _=>j3) rfl rfl | skip
   ·by_cases d3:xc=n
    ·subst d3;simp +contextual(maxSteps:=9^9)(disch:=try exact dS)only[go_sem,zG,stA,vN,h1,e1,k0,h2,e2,hg,oms,jL,h7,ea,h8,f3,d2,↓qB,↓qC,qU]
     (repeat' (first | apply And.intro | intro _))<;>(try rfl)
     all_goals first | exact kZ default w (fun e=>absurd e ‹_›) rfl rfl | exact kZ t3 0 (fun _=>j3) rfl rfl | skip
    ·simp +contextual(maxSteps:=9^9)(disch:=try exact dS)only[go_sem,zG,stA,vN,h1,e1,k0,h2,e2,hg,oms,jL,d2,d3,↓qB,↓qC,qU]
     (repeat' (first | apply And.intro | intro _))<;>(try rfl)
     all_goals first | exact kZ default w (fun e=>absurd e ‹_›) rfl rfl | exact kZ default 16 oM rfl rfl | skip
  ·simp +contextual(maxSteps:=9^9)(disch:=try exact dS)only[go_sem,zG,stA,vN,h1,e1,k0,h2,e2,hg,oms,jL,h7,ea,h8,f3,d1,↓qB,↓qC,qU]
   (repeat' (first | apply And.intro | intro _))<;>(try rfl)
   all_goals first | exact kZ default w (fun e=>absurd e ‹_›) rfl rfl | exact kZ t3 0 (fun _=>j3) rfl rfl | skip
 by_cases c4:kd=4
 ·subst c4;clear c1 c2 c3;by_cases d1:xk=2
  ·subst d1;simp +contextual(maxSteps:=9^9)(disch:=try exact dS)only[go_sem,zG,stA,vN,h1,e1,k0,h2,e2,hg,oms,jL,h4,e4,h7,ea,h8,f4,↓qB,↓qC,qU]
   (repeat' (first | apply And.intro | intro _))<;>(try rfl)
   all_goals first | exact kZ default w (fun e=>absurd e ‹_›) rfl rfl | exact kZ default ei (fun e=>absurd e ‹_›) rfl rfl | exact kZ t4 0 (fun _=>j4) rfl rfl | skip
  ·simp +contextual(maxSteps:=9^9)(disch:=try exact dS)only[go_sem,zG,stA,vN,h1,e1,k0,h2,e2,hg,oms,jL,h4,e4,h7,ea,h8,f4,d1,↓qB,↓qC,qU]
   (repeat' (first | apply And.intro | intro _))<;>(try rfl)
   all_goals first | exact kZ default w (fun e=>absurd e ‹_›) rfl rfl | exact kZ t4 0 (fun _=>j4) rfl rfl | skip
 by_cases c5:kd=5
 ·subst c5;clear c1 c2 c3 c4;by_cases d1:xk=2
  ·subst d1;obtain⟨sf,hsf⟩ : ∃ b,s.safe=b:=⟨_,rfl⟩;rw[hsf] at e1 f4;cases sf
   ·skip
    simp +contextual(maxSteps:=9^9)(disch:=try exact dS)only[go_sem,zG,stA,vN,h1,e1,k0,h2,e2,hg,oms,jL,hsf,↓qB,↓qC,qU]
    (repeat' (first | apply And.intro | intro _))<;>(try rfl)
    all_goals first | exact kZ default w (fun e=>absurd e ‹_›) rfl rfl | exact kZ default 16 oM rfl rfl | skip
   ·cases r5;all_goals
     simp +contextual(maxSteps:=9^9)(disch:=try exact dS)only[go_sem,zG,stA,vN,h1,e1,k0,h2,e2,hg,oms,jL,hsf,h5,e5,h7,ea,h8,f4,↓qB,↓qC,qU]
     (repeat' (first | apply And.intro | intro _))<;>(try rfl)
     all_goals first | exact kZ default w (fun e=>absurd e ‹_›) rfl rfl | exact kZ default 16 oM rfl rfl | exact kZ t4 0 (fun _=>j4) rfl rfl | skip
  ·simp +contextual(maxSteps:=9^9)(disch:=try exact dS)only[go_sem,zG,stA,vN,h1,e1,k0,h2,e2,hg,oms,jL,h5,e5,h7,ea,h8,f4,d1,↓qB,↓qC,qU]
   (repeat' (first | apply And.intro | intro _))<;>(try rfl)
   all_goals first | exact kZ default w (fun e=>absurd e ‹_›) rfl rfl | exact kZ default 16 oM rfl rfl | exact kZ t4 0 (fun _=>j4) rfl rfl | skip
 by_cases c7:kd=7
 ·subst c7;simp +contextual(maxSteps:=9^9)(disch:=try exact dS)only[go_sem,zG,stA,vN,h1,e1,k0,h2,e2,hg,oms,jL,h7,ea,h8,f5,↓qB,↓qC,qU]
  (repeat' (first | apply And.intro | intro _))<;>(try rfl)
  all_goals first | exact kZ default w (fun e=>absurd e ‹_›) rfl rfl | exact kZ t5 0 (fun _=>j5) rfl rfl | skip
 by_cases c8:kd=8
 ·subst c8;clear c1 c2 c3 c4 c5 c7;simp +contextual(maxSteps:=9^9)(disch:=try exact dS)only[go_sem,zG,stA,vN,h1,e1,k0,h2,e2,hg,oms,jL,↓qB,↓qC,qU];refine⟨fun c=>kZ default w (fun e=>absurd e c) rfl rfl,fun c=>?_⟩;refine zD (σ:=Nat×Bool) (fun t=>t.1≤br.length) (fun t=>br.length-t.1) (fun t=>[(3,.ref 4096 0 0),(5,.ref 4112 0 0),(6,.ref 4128 0 0),(8,.t (.int .i64 k)),(10,.ref 32864 0 0),(11,.t (.bool (xk==2))),(12,.t (.int .i64 0)),(13,.t (.bool t.2)),(14,.t (.int .i64 t.1))])
   (fun t=>[(32864,.live 8 [.t (jL ⟨xk,xn,xd,xu,xl,xc,xt,xv⟩)] true true),(4128,.live 30 [.agg [.nil,.nil,.nil,.t (.int .i64 0),.t (.int .i64 0),.t (.int .i64 0),.t (.int .i64 0),.t (.bool false),.nil,.t (.int .i64 0),.t (.int .i64 0),.nil,.t (.int .i64 0),.t (.int .i64 0),.t (.int .i64 0),.t (.int .i64 0),.t (.int .i64 0),.t (.int .i64 0),.nil,.t (.bool false),.t (.bool false),.nil,.t (.int .i64 0),.t (.int .i64 0),.t (.bool false),.t (.int .i64 0),.nil,.nil,.nil,.nil]] true true),(4112,.live 10 [.t (vN ⟨8,s0,s1,dg,n,op,od,nm,rf,br⟩)] true true),(4096,.live 30 [.t (stA s)] true true)]) (0,false) sM (qI.rd id ?_ ?_ rfl) ?_
  ·simp(maxSteps:=9^9)(disch:=try exact dS)only[go_sem,id,stA,vN,jL]
  ·simp(maxSteps:=9^9)(disch:=try exact dS)only[go_sem,id,stA,vN,jL]
  rintro⟨j,v⟩ hj;simp only at hj;by_cases hlt:j<br.length
  ·obtain⟨z,hgz,hmz,_⟩:=qN hlt;have hz:=hbr.2 z hmz;have e6:=kX (a:=z) (b:=xd) ⟨oM,oM⟩;generalize decide (z=xd)=d at *;cases v
   ·simp(maxSteps:=9^9)(disch:=try exact dS)only[go_sem,stA,vN,jL,hlt,hgz,h6,e6];repeat refine aiG ?_
    refine qDd.of (j+1,d) (by show j+1≤br.length;omega) (by show br.length-(j+1)<br.length-j;omega) (qI.rd id ?_ ?_ rfl);all_goals simp(maxSteps:=9^9)(disch:=try exact dS)only[go_sem,id,stA,vN,jL]
   ·simp(maxSteps:=9^9)(disch:=try exact dS)only[go_sem,stA,vN,jL,hlt,hgz,h6,e6];repeat refine aiG ?_
    refine qDd.of (j+1,true) (by show j+1≤br.length;omega) (by show br.length-(j+1)<br.length-j;omega) (qI.rd id ?_ ?_ rfl);all_goals simp(maxSteps:=9^9)(disch:=try exact dS)only[go_sem,id,stA,vN,jL]
  ·by_cases d1:xk=2
   ·subst d1;cases v;all_goals
     simp(maxSteps:=9^9)(disch:=try exact dS)only[go_sem,stA,vN,jL,hlt,h7,ea,h8,f4,BEq.rfl];first | exact kZ t4 0 (fun _=>j4) rfl rfl | exact kZ default 16 oM rfl rfl
   ·have d2:(xk==2)=false:=by simpa using d1
    cases v;all_goals
     simp(maxSteps:=9^9)(disch:=try exact dS)only[go_sem,stA,vN,jL,hlt,h7,ea,h8,f4,d2];first | exact kZ t4 0 (fun _=>j4) rfl rfl | exact kZ default 16 oM rfl rfl
 ·simp +contextual(maxSteps:=9^9)(disch:=try exact dS)only[go_sem,zG,stA,vN,h1,e1,k0,h2,e2,hg,oms,jL,c1,c2,c3,c4,c5,c7,c8,h7,ea,h8,f4,↓qB,↓qC,qU]
  (repeat' (first | apply And.intro | intro _))<;>(try rfl)
  all_goals first | exact kZ default w (fun e=>absurd e ‹_›) rfl rfl | exact kZ t4 0 (fun _=>j4) rfl rfl | skip
theorem jWi {α:Type}{l:List α}(h:(l.length:Int)=6) : ∃ a b c d e f,l=[a,b,c,d,e,f]:=by
 match l,h with
 | [a,b,c,d,e,f],_=>exact⟨a,b,c,d,e,f,rfl⟩
 | [],h=>simp at h
 | [_],h=>simp at h
 | [_,_],h=>simp at h
 | [_,_,_],h=>simp at h
 | [_,_,_,_],h=>simp at h
 | [_,_,_,_,_],h=>simp at h
 | _::_::_::_::_::_::_::_,h=>simp at h;omega
theorem jDs {g:EF qB4}{s t:St}{e:Int}(hs:s.Ok)(h:e=0→s.Go 0 t) : ∃ (v:St) (r:Rs),s.Go 3 v∧qB4.fs g [.t (stA s),.t (stA t),.t (.int .i64 e)] []=some (.tup [.t (stA v),.t (rsA r)],[]):=by
 obtain⟨v,r,⟨h1,h2⟩,e1⟩:=zZ9 (g:=g) (s:=s) (t:=t) (e:=e);refine⟨v,r,?_,e1⟩;by_cases c:e=0
 ·rw[h1 c];exact (h c).le oM
 ·rw[h2 c];exact St.go_rfl hs oM
theorem qYw {g1}(h1:LkE tab 108 kW g1){g2}(h2:LkE tab 144 kD g2){g3}(h3:LkE tab 192 qIx g3){g4}(h4:LkE tab 247 qKr g4){g5}(h5:LkE tab 154 qB4 g5)(s:St)(q:Rq)(hp:(s.Ok∧s.cn 1000000)∧q.Ok∧q.co=17) :
  jO.1.wp tab gl (qE 0 [.t (stA s),.t (rqA q)]) (qE 0 []) (qX [(4,(some (30,true))),(5,(some (4,true)))] 0 (qNa.K (s,q))):=by
 obtain⟨⟨hs,hc⟩,hq,rfl'⟩:=hp;obtain⟨_,q2,_,q4,q5⟩:=hq;obtain⟨co,hh,au,ns,bl⟩:=q;simp only at rfl' q2 q4 q5;subst rfl';rw[show qG6 17=(0,0,6,-1) from rfl] at q2 q4 q5;obtain⟨k0,k1,k2,k3,k4,k5,rfl⟩:=jWi q4.1;have t0:tmI k0:=q4.2 k0 sM;have t4:tmI k4:=q4.2 k4 sM;obtain⟨q5,q6⟩:=q5;have hl:bl.length≤8:=by
  rcases q5 with h | h
  ·have h':(bl.length:Int) = -1:=h;omega
  ·exact h.2
 obtain⟨ra,ea⟩:=qCc (g:=g1) (s:=s) (e:=1);obtain⟨rb,eb⟩:=qCc (g:=g1) (s:=s) (e:=7);have fin : ∀ a:Asr,a.B → ∃ (t:St) (e:Int) (v:St) (r:Rs),s.Go 3 v∧qKr.fs g4 [.t (stA s),.t (.int .i64 k0),.t (vN a)] []=some (.tup [.t (stA t),.t (.int .i64 e)],[])∧
   qB4.fs g5 [.t (stA s),.t (stA t),.t (.int .i64 e)] []=some (.tup [.t (stA v),.t (rsA r)],[]):=by
  intro a ha;obtain⟨t,e,hg,e1⟩:=jG0 (g:=g4) (s:=s) (h:=k0) (a:=a) ⟨hs,hc,ha,t0⟩;obtain⟨v,r,hv,e2⟩:=jDs (g:=g5) hs hg;exact⟨t,e,v,r,hv,e1,e2⟩
 by_cases c1:k1=1
 ·subst c1;by_cases cl:bl.length=1
  ·obtain⟨b0,rfl⟩:=List.length_eq_one_iff.1 cl;have hb0:=q6 b0 sM;obtain⟨t,e,v,r,hv,e1,e2⟩:=fin ⟨1,k2,k3,b0,k4,k5,[],[],[],[]⟩ ⟨by simp only;omega,sM,sM,sM,sM,sM⟩;simp only[stA,vN,rsA,List.map_nil] at e1 e2;simp(maxSteps:=9^9)(disch:=try exact dS)only[go_sem,jO,stA,rqA,mcn,iT,bsT,h4,h5,e1,e2];repeat refine aiG ?_
   exact zDo v r hv rfl rfl
  ·simp only[stA,rsA] at ea;simp(maxSteps:=9^9)(disch:=try exact dS)only[go_sem,jO,stA,rqA,mcn,iT,h1,ea,cl];repeat refine aiG ?_
   exact zDo s ra (St.go_rfl hs oM) rfl rfl
 by_cases c4:k1=4
 ·subst c4;by_cases cl:bl.length=1
  ·obtain⟨b0,rfl⟩:=List.length_eq_one_iff.1 cl;have hb0:=q6 b0 sM;have l1:=hs.a.ix;have ei:=qHh (g:=g2) (s:=s) (h:=k4) ⟨l1.1,fun x hx=>(l1.2 x hx).1⟩;generalize ixP s.a.ix k4 0=j at *;by_cases cj:j<0
   ·simp only[stA,rsA] at eb ei;simp(maxSteps:=9^9)(disch:=try exact dS)only[go_sem,jO,stA,rqA,mcn,iT,bsT,h1,h2,eb,ei,cj];repeat refine aiG ?_
    exact zDo s rb (St.go_rfl hs oM) rfl rfl
   ·obtain⟨nm,hnm,en⟩:=zQ7 (g:=g3) (s:=s) (h:=k4) hs;obtain⟨t,e,v,r,hv,e1,e2⟩:=fin ⟨4,k2,k3,[],k4,k5,b0,nm,[],[]⟩ ⟨sM,by simp only;omega,by simp only;omega,sM,sM,sM⟩;simp only[stA,vN,rsA,List.map_nil] at e1 e2 en ei;simp(maxSteps:=9^9)(disch:=try exact dS)only[go_sem,jO,stA,rqA,mcn,iT,bsT,h2,h3,h4,h5,ei,en,e1,e2,cj];repeat refine aiG ?_
    exact zDo v r hv rfl rfl
  ·simp only[stA,rsA] at ea;simp(maxSteps:=9^9)(disch:=try exact dS)only[go_sem,jO,stA,rqA,mcn,iT,h1,ea,cl];repeat refine aiG ?_
   exact zDo s ra (St.go_rfl hs oM) rfl rfl
 by_cases c8:k1=8
 ·subst c8;obtain⟨t,e,v,r,hv,e1,e2⟩:=fin ⟨8,k2,k3,[],k4,k5,[],[],[],bl⟩ ⟨sM,sM,sM,sM,hl,fun x hx=>by have:=q6 x hx;omega⟩;simp only[stA,vN,rsA,List.map_nil] at e1 e2;simp(maxSteps:=9^9)(disch:=try exact dS)only[go_sem,jO,stA,rqA,mcn,iT,h4,h5,e1,e2];repeat refine aiG ?_
  exact zDo v r hv rfl rfl
 by_cases cl:0<bl.length
 ·simp only[stA,rsA] at ea;simp(maxSteps:=9^9)(disch:=try exact dS)only[go_sem,jO,stA,rqA,mcn,iT,h1,ea,cl,c1,c4,c8];repeat refine aiG ?_
  exact zDo s ra (St.go_rfl hs oM) rfl rfl
 ·obtain rfl:bl=[]:=List.length_eq_zero_iff.1 oM;obtain⟨t,e,v,r,hv,e1,e2⟩:=fin ⟨k1,k2,k3,[],k4,k5,[],[],[],[]⟩ ⟨sM,sM,sM,sM,sM,sM⟩;simp only[stA,vN,rsA,List.map_nil] at e1 e2;simp(maxSteps:=9^9)(disch:=try exact dS)only[go_sem,jO,stA,rqA,mcn,iT,h4,h5,e1,e2,c1,c4,c8];repeat refine aiG ?_
  exact zDo v r hv rfl rfl
theorem qUb {g1}(h1:LkE tab 205 qOn g1){g2}(h2:LkE tab 108 kW g2){g3}(h3:LkE tab 145 qCr g3){g4}(h4:LkE tab 206 qNa g4){g5}(h5:LkE tab 192 qIx g5){g6}(h6:LkE tab 207 qO0 g6){g7}(h7:LkE tab 154 qB4 g7){g8}(h8:LkE tab 208 qLf g8){g9}(h9:LkE tab 209 qM9 g9)(s:St)(q:Rq)(hp:(s.Ok∧s.cn 1000000)∧q.Ok∧(q.co=16∨q.co=17∨q.co=18∨q.co=19∨q.co=20)) :
  zP.1.wp tab gl (qE 0 [.t (stA s),.t (rqA q)]) (qE 0 []) (qX [(4,(some (30,true))),(5,(some (4,true)))] 0 (qO5.K (s,q))):=by
 obtain⟨⟨hs,hc⟩,hq,hco⟩:=hp;have hq':=hq;obtain⟨_,q2,q3,q4,q5⟩:=hq;obtain⟨co,hh,au,ns,bl⟩:=q;simp only at hco q2 q3 q4 q5;rcases hco with rfl | rfl | rfl | rfl | rfl
 ·rw[show qG6 16=(0,0,1,0) from rfl] at q2 q3 q4 q5;obtain⟨n0,rfl⟩:=qQp q4.1;obtain⟨t,h,e,hg,e1⟩:=jJv (g:=g1) (s:=s) (k:=n0) ⟨hs,hc⟩;have hg:e=0→s.Go 1 t∧tmI h:=hg;by_cases c:e=0
  ·subst c;obtain⟨ht,hh'⟩:=hg rfl;obtain⟨x,e',_,e2⟩:=qQi (g:=g3) (s:=t) (h:=h) ⟨ht.1,hh'⟩;simp only[stA,jL] at e1 e2;simp(maxSteps:=9^9)(disch:=try exact dS)only[go_sem,zP,stA,rqA,mcn,iT,h1,h3,e1,e2];repeat refine aiG ?_
   exact qX2 t ⟨0,[h],[x.no],[]⟩ (ht.le oM) rfl rfl
  ·obtain⟨rb,eb⟩:=qCc (g:=g2) (s:=s) (e:=e);simp only[stA,rsA] at e1 eb;simp(maxSteps:=9^9)(disch:=try exact dS)only[go_sem,zP,stA,rqA,mcn,iT,h1,h2,e1,eb,c];repeat refine aiG ?_
   exact qX2 s rb (St.go_rfl hs oM) rfl rfl
 ·obtain⟨t,r,hg,e1⟩:=jGy (g:=g4) (s:=s) (q:=⟨17,hh,au,ns,bl⟩) ⟨⟨hs,hc⟩,hq',rfl⟩;simp only[stA,rqA,rsA] at e1;simp(maxSteps:=9^9)(disch:=try exact dS)only[go_sem,zP,stA,rqA,h4,e1];exact qX2 t r hg rfl rfl
 ·rw[show qG6 18=(1,1,2,1) from rfl] at q2 q3 q4 q5;obtain⟨hd,rfl⟩:=qQp q2.1;obtain⟨az,rfl⟩:=qQp q3.1;obtain⟨n0,n1',rfl⟩:=jC3 q4.1;obtain⟨b0,rfl⟩:=qQp (l:=bl) (by rcases q5.1 with h | h;exact h;exact absurd h.1 (by decide));have hb0:=q5.2 b0 sM;by_cases c:n0=az.s
  ·subst c;obtain⟨rb,eb⟩:=qCc (g:=g2) (s:=s) (e:=8);simp only[stA,rsA] at eb;simp(maxSteps:=9^9)(disch:=try exact dS)only[go_sem,zP,stA,rqA,azA,mcn,iT,bsT,h2,eb];repeat refine aiG ?_
   exact qX2 s rb (St.go_rfl hs oM) rfl rfl
  ·obtain⟨nm,hnm,en⟩:=zQ7 (g:=g5) (s:=s) (h:=hd) hs;obtain⟨t,e,hg,e1⟩:=jK4 (g:=g6) (s:=s) (h:=n0) (nm:=nm) (rf:=b0) (n:=n1') ⟨hs,oM,oM,q4.2 n0 sM⟩;obtain⟨v,r,hv,e2⟩:=jDs (g:=g7) hs hg;simp only[stA,rsA] at en e1 e2;simp(maxSteps:=9^9)(disch:=try exact dS)only[go_sem,zP,stA,rqA,azA,mcn,iT,bsT,h5,h6,h7,en,e1,e2,c];repeat refine aiG ?_
   exact qX2 v r hv rfl rfl
 ·rw[show qG6 19=(0,0,1,3) from rfl] at q2 q3 q4 q5;obtain⟨n0,rfl⟩:=qQp q4.1;obtain⟨b0,b1,b2,rfl⟩:=zVr (l:=bl) (by rcases q5.1 with h | h;exact h;exact absurd h.1 (by decide));have hb0:=q5.2 b0 sM;have hb1:=q5.2 b1 sM;have hb2:=q5.2 b2 sM;obtain⟨k,e,hk,e1⟩:=jAd (g:=g8) (b:=b0) oM;by_cases c:e=0
  ·subst c;obtain⟨t,e,hg,e2⟩:=jGw (g:=g9) (s:=s) (h:=n0) (k:=k) (rf:=b1) (sg:=b2) ⟨hs,hk rfl,oM,oM,q4.2 n0 sM⟩;obtain⟨v,r,hv,e3⟩:=jDs (g:=g7) hs hg;simp only[stA,rsA,puA] at e1 e2 e3;simp(maxSteps:=9^9)(disch:=try exact dS)only[go_sem,zP,stA,rqA,mcn,iT,bsT,h7,h8,h9,e1,e2,e3];repeat refine aiG ?_
   exact qX2 v r hv rfl rfl
  ·obtain⟨rb,eb⟩:=qCc (g:=g2) (s:=s) (e:=e);simp only[stA,rsA,puA] at e1 eb;simp(maxSteps:=9^9)(disch:=try exact dS)only[go_sem,zP,stA,rqA,mcn,iT,bsT,h2,h8,e1,eb,c];repeat refine aiG ?_
   exact qX2 s rb (St.go_rfl hs oM) rfl rfl
 ·rw[show qG6 20=(0,0,1,0) from rfl] at q2 q3 q4 q5;obtain⟨n0,rfl⟩:=qQp q4.1;obtain⟨x,e,_,e1⟩:=qQi (g:=g3) (s:=s) (h:=n0) ⟨hs,q4.2 n0 sM⟩;obtain⟨rb,eb⟩:=qCc (g:=g2) (s:=s) (e:=8);by_cases c:e=0
  ·subst c;by_cases c2:x.kd=1
   ·simp only[stA,rsA,jL,c2] at e1 eb;simp(maxSteps:=9^9)(disch:=try exact dS)only[go_sem,zP,stA,rqA,mcn,iT,h2,h3,e1,eb];repeat refine aiG ?_
    exact qX2 s rb (St.go_rfl hs oM) rfl rfl
   ·simp only[stA,jL] at e1;simp(maxSteps:=9^9)(disch:=try exact dS)only[go_sem,zP,stA,rqA,mcn,iT,h3,e1,c2];repeat refine aiG ?_
    exact qX2 s ⟨0,[],[x.dg],[]⟩ (St.go_rfl hs oM) rfl rfl
  ·simp only[stA,rsA,jL] at e1 eb;simp(maxSteps:=9^9)(disch:=try exact dS)only[go_sem,zP,stA,rqA,mcn,iT,h2,h3,e1,eb,c];repeat refine aiG ?_
   exact qX2 s rb (St.go_rfl hs oM) rfl rfl
theorem St.iwr_go {s:St}(h:s.Ok){k:Nat}{y:Ix}{m:Int}(hy:y.Ok)(hm:tmI m):s.Go 0 { s with a := { s.a with ix:=s.a.ix.set k y,mc:=m } }:=by
 have h2 : ∀ x∈s.a.ix.set k y,x.Ok:=by
  intro x hx;rcases List.mem_or_eq_of_mem_set hx with h1 | rfl
  ·exact h.a.ix.2 x h1
  ·exact hy
 exact⟨{ h with a := { h.a with ix:=⟨by simp[h.a.ix.1],h2⟩,mc:=hm } },fun m hm=>by rw[Int.add_zero];exact hm⟩
theorem St.lks_go {s:St}(h:s.Ok){r w:List Int}(h3:r.length≤s.rl.length+1)(h4:w.length≤s.wl.length+1):s.Go 1 { s with rl:=r,wl:=w }:=
 ⟨{ h with },fun m hm=>by unfold St.cn at *;simp only;omega⟩
theorem zCo {g1}(h1:LkE tab 144 kD g1){g2}(h2:LkE tab 212 qPg g2){g3}(h3:LkE tab 213 qIs g3){g4}(h4:LkE tab 108 kW g4){g5}(h5:LkE tab 214 qN2 g5){g6}(h6:LkE tab 215 qN5 g6){g7}(h7:LkE tab 216 qNz g7){g8}(h8:LkE tab 217 qN3 g8){g9}(h9:LkE tab 218 qNx g9)(s:St)(q:Rq)(hp:(s.Ok∧s.cn 1000000)∧q.Ok∧q.Al s∧23≤q.co∧q.co≤29) :
  zE.1.wp tab gl (qE 0 [.t (stA s),.t (rqA q)]) (qE 0 []) (qX [(4,(some (30,true))),(5,(some (4,true)))] 0 (qO6.K (s,q))):=by
 obtain⟨⟨hs,hc⟩,hq,al,hlo,hhi⟩:=hp;obtain⟨_,q2,q3,q4,q5⟩:=hq;obtain⟨co,hh,au,ns,bl⟩:=q;simp only at hlo hhi q2 q3 q4 q5;have l1:=hs.a.ix;have lm:=hs.a.mc;obtain⟨c1,c2,c3,c4,c5,c6,c7⟩:=hc;have hk:=al.2.2.2 ⟨hlo,hhi⟩;have hco:co=23∨co=24∨co=25∨co=26∨co=27∨co=28∨co=29:=oM;have h2':(hh.length:Int)=2:=by rcases hco with rfl | rfl | rfl | rfl | rfl | rfl | rfl<;>exact q2.1
 obtain⟨hd0,hd1,rfl⟩:=jC3 h2';have hk:0≤ixP s.a.ix hd1 0:=hk;have e1:=qHh (g:=g1) (s:=s) (h:=hd1) ⟨l1.1,fun x hx=>(l1.2 x hx).1⟩;have r2 := @zEd s.a.ix hd1 0;clear al;generalize ixP s.a.ix hd1 0=j at *;obtain⟨k,rfl⟩ : ∃ k:Nat,j=k:=⟨j.toNat,oM⟩;have hlt:k<s.a.ix.length:=oM;obtain⟨x,hg,hm,_⟩:=qN hlt;have hx:=l1.2 x hm;obtain⟨b1,_,f1⟩:=zKu (g:=g3) (l:=s.rl) (n:=x.n) oM;obtain⟨b2,_,f2⟩:=zKu (g:=g3) (l:=s.wl) (n:=x.n) oM;obtain⟨rk,ek⟩:=qCc (g:=g4) (s:=s) (e:=23);have hz:qRz 8 (List.map ixA s.a.ix)=true:=zIx;have hself:s.Go 3 s:=St.go_rfl hs oM;simp only[stA,rsA] at e1 ek;rcases hco with rfl | rfl | rfl | rfl | rfl | rfl | rfl
 ·rw[show qG6 23=(2,1,1,1) from rfl] at q2 q3 q4 q5;obtain⟨n0,rfl⟩:=qQp q4.1;obtain⟨d0,rfl⟩:=qQp (l:=bl) (by rcases q5.1 with h | h;exact h;exact absurd h.1 (by decide));have hd0:=q5.2 d0 sM;cases b2
  ·obtain⟨y,e,hy,e2⟩:=jI1 (g:=g6) (x:=x) (o:=n0) (d:=d0) ⟨hx,oM⟩;by_cases c:e=0
   ·subst c;have hgo:=St.iwr_go hs (k:=k) (hy rfl).1 lm;simp only[ixA] at e2;simp(maxSteps:=9^9)(disch:=try exact dS)only[go_sem,zE,stA,rqA,mcn,iT,bsT,h1,h3,h6,e1,f2,e2,hlt,hg,oms,ixA,hz];repeat refine aiG ?_
    exact qLz _ ⟨0,[],[],[]⟩ (hgo.le oM) (by rw[List.take_of_length_le sM];simp only[stA,List.map_set,ixA];try rfl) rfl
   ·obtain⟨rb,eb⟩:=qCc (g:=g4) (s:=s) (e:=e);simp only[stA,rsA,ixA] at eb e2;simp(maxSteps:=9^9)(disch:=try exact dS)only[go_sem,zE,stA,rqA,mcn,iT,bsT,h1,h3,h4,h6,e1,f2,e2,eb,c,hlt,hg,oms,ixA];repeat refine aiG ?_
    exact qLz s rb hself rfl rfl
  ·simp(maxSteps:=9^9)(disch:=try exact dS)only[go_sem,zE,stA,rqA,mcn,iT,bsT,h1,h3,h4,e1,f2,ek,hlt,hg,oms,ixA];repeat refine aiG ?_
   exact qLz s rk hself rfl rfl
 ·rw[show qG6 24=(2,1,2,0) from rfl] at q2 q3 q4 q5;obtain⟨n0,n1',rfl⟩:=jC3 q4.1;have t1:tmI n1':=q4.2 n1' sM;cases b1
  ·obtain⟨y,e,hy,e2⟩:=jIy (g:=g5) (x:=x) (o:=n0) (n:=n1') ⟨hx,t1⟩;by_cases c:e=0
   ·subst c;simp only[ixA] at e2;simp(maxSteps:=9^9)(disch:=try exact dS)only[go_sem,zE,stA,rqA,mcn,iT,bsT,h1,h3,h5,e1,f1,e2,hlt,hg,oms,ixA];repeat refine aiG ?_
    exact qLz s ⟨0,[],[y],[]⟩ hself rfl rfl
   ·obtain⟨rb,eb⟩:=qCc (g:=g4) (s:=s) (e:=e);simp only[stA,rsA,ixA] at eb e2;simp(maxSteps:=9^9)(disch:=try exact dS)only[go_sem,zE,stA,rqA,mcn,iT,bsT,h1,h3,h4,h5,e1,f1,e2,eb,c,hlt,hg,oms,ixA];repeat refine aiG ?_
    exact qLz s rb hself rfl rfl
  ·simp(maxSteps:=9^9)(disch:=try exact dS)only[go_sem,zE,stA,rqA,mcn,iT,bsT,h1,h3,h4,e1,f1,ek,hlt,hg,oms,ixA];repeat refine aiG ?_
   exact qLz s rk hself rfl rfl
 ·cases b2
  ·obtain⟨y,m,e,hy,e2⟩:=jIu (g:=g7) (x:=x) (m:=s.a.mc) ⟨hx,lm⟩;by_cases c:e=0
   ·subst c;have hgo:=St.iwr_go hs (k:=k) (hy rfl).1.1 (hy rfl).2;simp only[ixA] at e2;simp(maxSteps:=9^9)(disch:=try exact dS)only[go_sem,zE,stA,rqA,mcn,iT,bsT,h1,h3,h7,e1,f2,e2,hlt,hg,oms,ixA,hz];repeat refine aiG ?_
    exact qLz _ ⟨0,[],[],[]⟩ (hgo.le oM) (by rw[List.take_of_length_le sM];simp only[stA,List.map_set,ixA];try rfl) rfl
   ·obtain⟨rb,eb⟩:=qCc (g:=g4) (s:=s) (e:=e);simp only[stA,rsA,ixA] at eb e2;simp(maxSteps:=9^9)(disch:=try exact dS)only[go_sem,zE,stA,rqA,mcn,iT,bsT,h1,h3,h4,h7,e1,f2,e2,eb,c,hlt,hg,oms,ixA];repeat refine aiG ?_
    exact qLz s rb hself rfl rfl
  ·simp(maxSteps:=9^9)(disch:=try exact dS)only[go_sem,zE,stA,rqA,mcn,iT,bsT,h1,h3,h4,e1,f2,ek,hlt,hg,oms,ixA];repeat refine aiG ?_
   exact qLz s rk hself rfl rfl
 ·rw[show qG6 26=(2,1,0,1) from rfl] at q2 q3 q4 q5;obtain⟨d0,rfl⟩:=qQp (l:=bl) (by rcases q5.1 with h | h;exact h;exact absurd h.1 (by decide));have hd0:=q5.2 d0 sM;cases b2
  ·obtain⟨y,e,hy,e2⟩:=jIz (g:=g8) (x:=x) (b:=d0) ⟨hx,oM⟩;by_cases c:e=0
   ·subst c;have hgo:=St.iwr_go hs (k:=k) (hy rfl).1 lm;simp only[ixA] at e2;simp(maxSteps:=9^9)(disch:=try exact dS)only[go_sem,zE,stA,rqA,mcn,iT,bsT,h1,h3,h8,e1,f2,e2,hlt,hg,oms,ixA,hz];repeat refine aiG ?_
    exact qLz _ ⟨0,[],[],[]⟩ (hgo.le oM) (by rw[List.take_of_length_le sM];simp only[stA,List.map_set,ixA];try rfl) rfl
   ·obtain⟨rb,eb⟩:=qCc (g:=g4) (s:=s) (e:=e);simp only[stA,rsA,ixA] at eb e2;simp(maxSteps:=9^9)(disch:=try exact dS)only[go_sem,zE,stA,rqA,mcn,iT,bsT,h1,h3,h4,h8,e1,f2,e2,eb,c,hlt,hg,oms,ixA];repeat refine aiG ?_
    exact qLz s rb hself rfl rfl
  ·simp(maxSteps:=9^9)(disch:=try exact dS)only[go_sem,zE,stA,rqA,mcn,iT,bsT,h1,h3,h4,e1,f2,ek,hlt,hg,oms,ixA];repeat refine aiG ?_
   exact qLz s rk hself rfl rfl
 ·rw[show qG6 27=(2,1,0,1) from rfl] at q2 q3 q4 q5;obtain⟨d0,rfl⟩:=qQp (l:=bl) (by rcases q5.1 with h | h;exact h;exact absurd h.1 (by decide));have hd0:=q5.2 d0 sM;cases b2
  ·obtain⟨y,e,hy,e2⟩:=jIs (g:=g9) (x:=x) (b:=d0) ⟨hx,oM⟩;by_cases c:e=0
   ·subst c;have hgo:=St.iwr_go hs (k:=k) (hy rfl).1 lm;simp only[ixA] at e2;simp(maxSteps:=9^9)(disch:=try exact dS)only[go_sem,zE,stA,rqA,mcn,iT,bsT,h1,h3,h9,e1,f2,e2,hlt,hg,oms,ixA,hz];repeat refine aiG ?_
    exact qLz _ ⟨0,[],[],[]⟩ (hgo.le oM) (by rw[List.take_of_length_le sM];simp only[stA,List.map_set,ixA];try rfl) rfl
   ·obtain⟨rb,eb⟩:=qCc (g:=g4) (s:=s) (e:=e);simp only[stA,rsA,ixA] at eb e2;simp(maxSteps:=9^9)(disch:=try exact dS)only[go_sem,zE,stA,rqA,mcn,iT,bsT,h1,h3,h4,h9,e1,f2,e2,eb,c,hlt,hg,oms,ixA];repeat refine aiG ?_
    exact qLz s rb hself rfl rfl
  ·simp(maxSteps:=9^9)(disch:=try exact dS)only[go_sem,zE,stA,rqA,mcn,iT,bsT,h1,h3,h4,e1,f2,ek,hlt,hg,oms,ixA];repeat refine aiG ?_
   exact qLz s rk hself rfl rfl
 ·obtain⟨r,hr,e2⟩:=jA8 (g:=g2) (l:=s.rl) (n:=x.n) oM;have hgo:=St.lks_go hs (r:=r) (w:=s.wl) hr oM;simp(maxSteps:=9^9)(disch:=try exact dS)only[go_sem,zE,stA,rqA,mcn,iT,bsT,h1,h2,e1,e2,hlt,hg,oms,ixA];repeat refine aiG ?_
  exact qLz _ ⟨0,[],[],[]⟩ (hgo.le oM) rfl rfl
 ·obtain⟨r,hr,e2⟩:=jA8 (g:=g2) (l:=s.wl) (n:=x.n) oM;have hgo:=St.lks_go hs (r:=s.rl) (w:=r) oM hr;simp(maxSteps:=9^9)(disch:=try exact dS)only[go_sem,zE,stA,rqA,mcn,iT,bsT,h1,h2,e1,e2,hlt,hg,oms,ixA];repeat refine aiG ?_
  exact qLz _ ⟨0,[],[],[]⟩ (hgo.le oM) rfl rfl
theorem zUb (a b:Int) : ∃ r,qGy .and (.int .i64 a) (.int .i64 b)=some (.int .i64 r):=⟨_,rfl⟩
theorem jP6 {h:Int}(h0:0≤h∧h≤3) : ∃ r:Int,(1≤r∧r≤8)∧qGy .shl (.int .i64 1) (.int .u64 h)=some (.int .i64 r):=by
 have h8:h=0∨h=1∨h=2∨h=3:=oM;rcases h8 with rfl | rfl | rfl | rfl
 ·exact⟨1,oM,rfl⟩
 ·exact⟨2,oM,rfl⟩
 ·exact⟨4,oM,rfl⟩
 ·exact⟨8,oM,rfl⟩
theorem zCg {g1}(h1:LkE tab 142 qAi g1){g2}(h2:LkE tab 240 qIz g2){g3}(h3:LkE tab 167 qKw g3){g4}(h4:LkE tab 238 qA9 g4)(s:St)(q:Rq)(hp:(s.Ok∧s.cn 1000000)∧q.Ok∧q.co=12) :
  qAq.1.wp tab gl (qE 0 [.t (stA s),.t (rqA q)]) (qE 0 []) (qX [(4,(some (30,true))),(5,(some (4,true)))] 0 (qNp.K (s,q))):=by
 obtain⟨⟨hs,hc⟩,hq,rfl'⟩:=hp;have hq':=hq;obtain⟨_,q2,_,q4,q5⟩:=hq';obtain⟨co,hh,au,ns,bl⟩:=q;simp only at rfl' q2 q4 q5;subst rfl';rw[show qG6 12=(0,0,1,0) from rfl] at q2 q4 q5;obtain⟨n0,rfl⟩:=qQp q4.1;have hn:=q4.2 n0 sM;have l2:=hs.obs;have e1:=qMt (g:=g1) (s:=s) (h:=n0) oM;have r2 := @zNk s.obs n0 0;have hG : ∀ {k:Int},0≤k→s.Go k s:=fun hk=>St.go_rfl hs hk
 rcases r2 with r2 | r2
 ·rw[r2] at e1;obtain⟨t,e,⟨hok,_⟩,e2⟩:=zY6 (g:=g3) (s:=s) (h:=n0) ⟨hs,hn⟩;obtain⟨r0,e3⟩:=qJd (g:=g4) (s:=s) (e:=7);simp only[stA,rsA] at e1 e2 e3;by_cases c:e=0
  ·subst c;simp(maxSteps:=9^9)(disch:=try exact dS)only[go_sem,qAq,stA,rqA,mcn,iT,h1,h3,e1,e2];repeat refine aiG ?_
   exact jCf t ⟨0,[],[],[]⟩ ((hok rfl).le oM) rfl rfl
  ·simp(maxSteps:=9^9)(disch:=try exact dS)only[go_sem,qAq,stA,rqA,mcn,iT,h1,h3,h4,e1,e2,e3,c];repeat refine aiG ?_
   exact jCf s r0 (hG oM) rfl rfl
 ·have e2:=zRm (g:=g2) (s:=s) (k:=slP s.obs n0 0) (x:=zZ5) ⟨l2.1,oM,oM⟩;have hgo:=St.oput_go hs (k:=slP s.obs n0 0) zRd;generalize slP s.obs n0 0=j at *;simp only[stA,wI,zZ5,List.map_nil] at e1 e2;simp(maxSteps:=9^9)(disch:=try exact dS)only[go_sem,qAq,stA,rqA,mcn,iT,h1,h2,e1,e2,r2];repeat refine aiG ?_
  exact jCf (s.oput j zZ5) ⟨0,[],[],[]⟩ (hgo.le oM) rfl rfl
theorem qYr {g1}(h1:LkE tab 241 qFe g1){g2}(h2:LkE tab 238 qA9 g2)(h3:LkC tab 99 qAg)(s:St)(q:Rq)(hp:(s.Ok∧s.cn 1000000)∧q.Ok∧q.Al s∧q.co=13) :
  qBx.1.wp tab gl (qE 0 [.t (stA s),.t (rqA q)]) (qE 0 []) (qX [(4,(some (30,true))),(5,(some (4,true)))] 0 (qPc.K (s,q))):=by
 obtain⟨⟨hs,hc⟩,hq,al,rfl'⟩:=hp;have hq':=hq;obtain⟨_,q2,_,q4,q5⟩:=hq';obtain⟨co,hh,au,ns,bl⟩:=q;simp only at rfl' q2 q4 q5;subst rfl';rw[show qG6 13=(1,1,0,0) from rfl] at q2 q4 q5;obtain⟨h0,rfl⟩:=qQp q2.1;have ha:=al.2.1 (.inr (.inr (.inl rfl)));obtain⟨x,hx,e1⟩:=zEo (g:=g1) (s:=s) (q:=⟨13,[h0],au,ns,bl⟩) ⟨hs,sM,ha⟩;obtain⟨r0,e2⟩:=qJd (g:=g2) (s:=s) (e:=19);have e3:=zY (bs:=x.s.da) (by have:=hx.2.1.2.2;omega);have hG : ∀ {k:Int},0≤k→s.Go k s:=fun hk=>St.go_rfl hs hk
 simp only[mcn,stA,rqA,wI,iT,rsA] at e1 e2;by_cases c1:x.p.kd=3
 ·simp(maxSteps:=9^9)(disch:=try exact dS)only[go_sem,qBx,stA,rqA,wI,mcn,iT,h1,h3,e1,e3,c1,List.take_length];repeat refine aiG ?_
  exact jL2 s ⟨0,[],[x.s.da],[]⟩ (hG oM) rfl rfl
 ·simp(maxSteps:=9^9)(disch:=try exact dS)only[go_sem,qBx,stA,rqA,wI,mcn,iT,h1,h2,e1,e2,c1];repeat refine aiG ?_
  exact jL2 s r0 (hG oM) rfl rfl
def St.kset (s:St)(l:List Lv):St := { s with a := { s.a with ks:=l } }
theorem St.kset_go {s:St}(h:s.Ok){l:List Lv}(h1:l.length≤8)(h2 : ∀ x∈l,x.Ok):s.Go 0 (s.kset l):=⟨{ h with a := { h.a with ks:=⟨h1,h2⟩ } },fun m hm=>by rw[Int.add_zero];exact hm⟩
theorem zFw (h1:LkC tab 20 xO)(s:St)(x:Obj)(hp:s.Ok∧x.Ok) :
  qH7.1.wp tab gl (qE 0 [.t (stA s),.t (wI x)]) (qE 0 []) (qX [(4,(some (30,true))),(5,none),(6,none)] 0 (qN6.K (s,x))):=by
 obtain⟨hs,hx⟩:=hp;have hk:=hs.a.ks;obtain⟨r,hr,er⟩:=jP6 (h:=x.p.ht) hx.1.2.2.1;have hu:=hx.1.2.2.2.2;have t0:0≤x.p.ht:=hx.1.2.2.1.1;have t1:x.p.ht≤3:=hx.1.2.2.1.2;simp(maxSteps:=9^9)(disch:=try exact dS)only[go_sem,qH7,stA,wI];refine zD (σ:=Nat) (fun k=>k≤s.a.ks.length) (fun k=>s.a.ks.length-k) (fun k=>[(2,.ref 4096 0 0),(3,.ref 4112 0 0),(4,.ref 4128 0 0),(7,.t (.int .i64 k))]) (fun k=>[(4128,.live 30 [.agg [.nil,.nil,.nil,.t (.int .i64 0),.t (.int .i64 0),.t (.int .i64 0),.t (.int .i64 0),.t (.bool false),.nil,.t (.int .i64 0),.t (.int .i64 0),.nil,.t (.int .i64 0),.t (.int .i64 0),.t (.int .i64 0),.t (.int .i64 0),.t (.int .i64 0),.t (.int .i64 0),.nil,.t (.bool false),.t (.bool false),.nil,.t (.int .i64 0),.t (.int .i64 0),.t (.bool false),.t (.int .i64 0),.nil,.nil,.nil,.nil]] true true),(4112,.live 9 [.t (wI x)] true true),(4096,.live 30 [.t (stA s)] true true)]) 0 oM (qI.rd id ?_ ?_ rfl) ?_
 ·simp(maxSteps:=9^9)(disch:=try exact dS)only[go_sem,id,stA,wI]
 ·simp(maxSteps:=9^9)(disch:=try exact dS)only[go_sem,id,stA,wI]
 intro k hkl;by_cases hlt:k<s.a.ks.length
 ·obtain⟨y,hg,hm,_⟩:=qN hlt;have hy:=hk.2 y hm;have e1:=kX (a:=y.un) (b:=x.p.un) ⟨by have:=hy.1;omega,oM⟩;by_cases c1:y.un=x.p.un
  rotate_left
  ·rw[decide_eq_false c1] at e1;simp(maxSteps:=9^9)(disch:=try exact dS)only[go_sem,stA,wI,hlt,hg,oms,lvA,h1,e1];repeat refine aiG ?_
   refine qDd.of (k+1) oM oM (qI.rd id ?_ ?_ rfl);all_goals simp(maxSteps:=9^9)(disch:=try exact dS)only[go_sem,id,stA,wI]
  rw[decide_eq_true c1] at e1;by_cases c2:r≤y.us
  ·simp(maxSteps:=9^9)(disch:=try exact dS)only[go_sem,stA,wI,hlt,hg,oms,lvA,h1,e1,↓er,c2];repeat refine aiG ?_
   exact zVq s 0 26 oM rfl rfl
  ·have hgo:=St.kset_go hs (l:=s.a.ks.set k ⟨y.un,y.us+1⟩) (by simp;exact hk.1) (by
    intro z hz;rcases List.mem_or_eq_of_mem_set hz with h1 | rfl
    ·exact hk.2 z h1
    ·exact⟨hy.1,by have:=hy.2;simp only;omega,by have:=hy.2;simp only;omega⟩)
   have hz:qRz 2 (List.map lvA s.a.ks)=true:=zLv;have hy2:=hy.2;simp(maxSteps:=9^9)(disch:=try exact dS)only[go_sem,stA,wI,hlt,hg,oms,lvA,h1,e1,↓er,c2,hz];repeat refine aiG ?_
   exact zVq (s.kset (s.a.ks.set k ⟨y.un,y.us+1⟩)) y.us 0 (fun _=>hgo) (by rw[List.take_of_length_le sM];simp only[stA,St.kset,List.map_set,lvA]) rfl
 ·have hz:qRz 2 (List.map lvA s.a.ks)=true:=zLv;by_cases c1:8≤s.a.ks.length
  ·simp(maxSteps:=9^9)(disch:=try exact dS)only[go_sem,stA,wI,hlt,c1];exact zVq s 0 25 oM rfl rfl
  ·have hgo:=St.kset_go hs (l:=s.a.ks++[⟨x.p.un,1⟩]) soM (by
    intro z hz;simp only[List.mem_append,List.mem_cons,List.not_mem_nil,or_false] at hz;rcases hz with hz | rfl
    ·exact hk.2 z hz
    ·exact⟨hu,sM,sM⟩)
   simp(maxSteps:=9^9)(disch:=try exact dS)only[go_sem,stA,wI,hlt,c1,hz];repeat refine aiG ?_
   exact zVq (s.kset (s.a.ks++[⟨x.p.un,1⟩])) 0 0 (fun _=>hgo) (by rw[List.take_of_length_le sM];simp only[stA,St.kset,List.map_append,mcn,lvA]) rfl
theorem zFx {g1}(h1:LkE tab 266 qN6 g1){g2}(h2:LkE tab 173 qI1 g2)(s:St)(x:Obj)(b:List UInt8)(hp:s.Ok∧x.Ok∧b.length≤20000) :
  qD2.1.wp tab gl (qE 0 [.t (stA s),.t (wI x),.t (.sl (b.map qA))]) (qE 0 []) (qX [(6,(some (30,true))),(7,none),(8,none)] 0 (qLh.K (s,x,b))):=by
 obtain⟨hs,hx,hb⟩:=hp;obtain⟨t,n,e,hok,e1⟩:=jI4 (g:=g1) (s:=s) (x:=x) ⟨hs,hx⟩;obtain⟨y,ly,e2⟩:=zSr (g:=g2) (s:=x.s.sd) (h:=x.p.ht) (l:=n) (m:=b) ⟨by have:=hx.2.1.2.1;omega,oM⟩;simp only[stA,wI] at e1;by_cases c:e=0
 ·subst c;simp(maxSteps:=9^9)(disch:=try exact dS)only[go_sem,qD2,stA,wI,h1,h2,e1,e2];repeat refine aiG ?_
  exact jLa t y 0 hok rfl rfl
 ·simp(maxSteps:=9^9)(disch:=try exact dS)only[go_sem,qD2,stA,wI,h1,e1,c];repeat refine aiG ?_
  exact jLa s [] e (fun h=>absurd h c) rfl rfl
theorem zFu {g1}(h1:LkE tab 241 qFe g1){g2}(h2:LkE tab 238 qA9 g2){g3}(h3:LkE tab 243 qLh g3)(s:St)(q:Rq)(hp:(s.Ok∧s.cn 1000000)∧q.Ok∧q.Al s∧q.co=14) :
  wY.1.wp tab gl (qE 0 [.t (stA s),.t (rqA q)]) (qE 0 []) (qX [(4,(some (30,true))),(5,(some (4,true)))] 0 (qO2.K (s,q))):=by
 obtain⟨⟨hs,hc⟩,hq,al,rfl'⟩:=hp;have hq':=hq;obtain⟨_,q2,_,q4,q5⟩:=hq';obtain⟨co,hh,au,ns,bl⟩:=q;simp only at rfl' q2 q4 q5;subst rfl';rw[show qG6 14=(1,1,0,1) from rfl] at q2 q4 q5;obtain⟨h0,rfl⟩:=qQp q2.1;obtain⟨b0,rfl⟩:=qQp (l:=bl) (by rcases q5.1 with h | h;exact h;exact absurd h.1 (by decide));have hb0:=q5.2 b0 sM;have ha:=al.2.1 (.inr (.inr (.inr (.inl rfl))));obtain⟨x,hx,e1⟩:=zEo (g:=g1) (s:=s) (q:=⟨14,[h0],au,ns,[b0]⟩) ⟨hs,sM,ha⟩;obtain⟨ra,ea⟩:=qJd (g:=g2) (s:=s) (e:=19);obtain⟨rb,eb⟩:=qJd (g:=g2) (s:=s) (e:=20);obtain⟨rc,ec⟩:=qJd (g:=g2) (s:=s) (e:=4);obtain⟨t,y,e,hok,e3⟩:=jAs (g:=g3) (s:=s) (x:=x) (b:=b0) ⟨hs,hx,oM⟩;obtain⟨rd,ed⟩:=qJd (g:=g2) (s:=s) (e:=e);have hG : ∀ {k:Int},0≤k→s.Go k s:=fun hk=>St.go_rfl hs hk
 obtain⟨v,ev⟩:=zUb x.p.ar 4;simp only[mcn,bsT,stA,rqA,wI,iT,rsA] at e1 ea eb ec e3 ed;by_cases c1:x.p.kd=2
 rotate_left
 ·simp(maxSteps:=9^9)(disch:=try exact dS)only[go_sem,wY,stA,rqA,wI,mcn,bsT,iT,h1,h2,e1,ea,c1];repeat refine aiG ?_
  exact zSs s ra (hG oM) rfl rfl
 rw[c1] at e3;by_cases c2:v=0
 rotate_left
 ·simp(maxSteps:=9^9)(disch:=try exact dS)only[go_sem,wY,stA,rqA,wI,mcn,bsT,iT,h1,h2,e1,eb,c1,↓ev,c2];repeat refine aiG ?_
  exact zSs s rb (hG oM) rfl rfl
 by_cases c3:128<b0.length
 ·simp(maxSteps:=9^9)(disch:=try exact dS)only[go_sem,wY,stA,rqA,wI,mcn,bsT,iT,h1,h2,e1,ec,c1,↓ev,c2,c3];repeat refine aiG ?_
  exact zSs s rc (hG oM) rfl rfl
 by_cases c4:e=0
 ·subst c4;simp(maxSteps:=9^9)(disch:=try exact dS)only[go_sem,wY,stA,rqA,wI,mcn,bsT,iT,h1,h3,e1,e3,c1,↓ev,c2,c3];repeat refine aiG ?_
  exact zSs t ⟨0,[],[y],[]⟩ ((hok rfl).le oM) rfl rfl
 ·simp(maxSteps:=9^9)(disch:=try exact dS)only[go_sem,wY,stA,rqA,wI,mcn,bsT,iT,h1,h2,h3,e1,e3,ed,c1,↓ev,c2,c3,c4];repeat refine aiG ?_
  exact zSs s rd (hG oM) rfl rfl
theorem zCh {g1}(h1:LkE tab 241 qFe g1){g2}(h2:LkE tab 238 qA9 g2){g3}(h3:LkE tab 223 qCs g3)(h4:LkC tab 244 qM5){g5}(h5:LkE tab 245 qM7 g5){g6}(h6:LkE tab 243 qLh g6)(s:St)(q:Rq)(hp:(s.Ok∧s.cn 1000000)∧q.Ok∧q.Al s∧q.co=15) :
  vC.1.wp tab gl (qE 0 [.t (stA s),.t (rqA q)]) (qE 0 []) (qX [(4,(some (30,true))),(5,(some (4,true)))] 0 (qOx.K (s,q))):=by
 obtain⟨⟨hs,hc⟩,hq,al,rfl'⟩:=hp;have hq':=hq;obtain⟨_,q2,_,q4,q5⟩:=hq';obtain⟨co,hh,au,ns,bl⟩:=q;simp only at rfl' q2 q4 q5;subst rfl';rw[show qG6 15=(1,1,2,1) from rfl] at q2 q4 q5;obtain⟨h0,rfl⟩:=qQp q2.1;obtain⟨n0,n1',rfl⟩:=jC3 q4.1;obtain⟨b0,rfl⟩:=qQp (l:=bl) (by rcases q5.1 with h | h;exact h;exact absurd h.1 (by decide));have hb0:=q5.2 b0 sM;have ha:=al.2.1 (.inr (.inr (.inr (.inr rfl))));obtain⟨x,hx,e1⟩:=zEo (g:=g1) (s:=s) (q:=⟨15,[h0],au,[n0,n1'],[b0]⟩) ⟨hs,sM,ha⟩;obtain⟨ra,ea⟩:=qJd (g:=g2) (s:=s) (e:=19);obtain⟨rb,eb⟩:=qJd (g:=g2) (s:=s) (e:=20);obtain⟨rc,ec⟩:=qJd (g:=g2) (s:=s) (e:=4);obtain⟨nm,lnm,e3⟩:=qWf (g:=g3) (p:=x.p) ⟨by have:=hx.1.2.2.2.1;omega,by have:=hx.1.2.2.2.2;omega⟩;have hG : ∀ {k:Int},0≤k→s.Go k s:=fun hk=>St.go_rfl hs hk
 obtain⟨v,ev⟩:=zUb x.p.ar 4;simp only[mcn,bsT,stA,rqA,wI,puA,iT,rsA] at e1 ea eb ec e3;by_cases c1:x.p.kd=2
 rotate_left
 ·simp(maxSteps:=9^9)(disch:=try exact dS)only[go_sem,vC,stA,rqA,wI,mcn,bsT,iT,h1,h2,e1,ea,c1];repeat refine aiG ?_
  exact zMz s ra (hG oM) rfl rfl
 rw[c1] at e3;by_cases c2:v=0
 ·simp(maxSteps:=9^9)(disch:=try exact dS)only[go_sem,vC,stA,rqA,wI,mcn,bsT,iT,h1,h2,e1,eb,c1,↓ev,c2];repeat refine aiG ?_
  exact zMz s rb (hG oM) rfl rfl
 by_cases c3:128<b0.length
 ·simp(maxSteps:=9^9)(disch:=try exact dS)only[go_sem,vC,stA,rqA,wI,mcn,bsT,iT,h1,h2,e1,ec,c1,↓ev,c2,c3];repeat refine aiG ?_
  exact zMz s rc (hG oM) rfl rfl
 rcases @zPi s.bk s.u n0 n1' hs.bk.rv with⟨e,he,e4⟩ | ⟨dg,ldg,e4⟩
 ·obtain⟨rd,ed⟩:=qJd (g:=g2) (s:=s) (e:=e);simp only[stA,rsA] at ed;simp(maxSteps:=9^9)(disch:=try exact dS)only[go_sem,vC,stA,rqA,wI,puA,mcn,bsT,iT,h1,h2,h3,h4,e1,e3,e4,ed,c1,↓ev,c2,c3,he];repeat refine aiG ?_
  exact zMz s rd (hG oM) rfl rfl
 have td:List.take 32 dg=dg:=List.take_of_length_le oM;obtain⟨z,lz,e5⟩:=jGo (g:=g5) (a:=⟨nm,b0,s.a.res,s.a.rst,s.clk,s.safe,s.u,n0,n1',dg⟩) ⟨by simp only;omega,by simp only;omega,by simp only;omega⟩;obtain⟨t,y,e,hok,e6⟩:=jAs (g:=g6) (s:=s) (x:=x) (b:=z) ⟨hs,hx,lz⟩;obtain⟨re,ee⟩:=qJd (g:=g2) (s:=s) (e:=e);simp only[stA,wI,zUe,rsA] at e5 e6 ee;rw[c1] at e6;by_cases c4:e=0
 ·subst c4;simp(maxSteps:=9^9)(disch:=try exact dS)only[go_sem,vC,stA,rqA,wI,puA,mcn,bsT,iT,h1,h3,h4,h5,h6,e1,e3,e4,e5,e6,c1,↓ev,c2,c3,td,ldg];repeat refine aiG ?_
  exact zMz t ⟨0,[],[z,y],[]⟩ ((hok rfl).le oM) rfl rfl
 ·simp(maxSteps:=9^9)(disch:=try exact dS)only[go_sem,vC,stA,rqA,wI,puA,mcn,bsT,iT,h1,h2,h3,h4,h5,h6,e1,e3,e4,e5,e6,ee,c1,↓ev,c2,c3,td,ldg,c4];repeat refine aiG ?_
  exact zMz s re (hG oM) rfl rfl
end Go.Eng
end
