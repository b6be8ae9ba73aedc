/- A part of an abstract machine, its walks, their tie. -/
import Derived.Test.YtekghmfbgbhobaaGreatDoorS32
import Derived.Test.YtekghmfbgbhobaaGreatDoorS27
import Derived.Test.YtekghmfbgbhobaaGreatDoorS22
set_option linter.all false
section
set_option maxHeartbeats 64000000
set_option maxRecDepth 20000
namespace Go.Eng
variable (tab:Tab) (gl:Gl)
theorem jPo {α:Type}{l:List α}(h:(l.length:Int)=4) : ∃ a b c d,l=[a,b,c,d]:=by
 match l,h with
 | [a,b,c,d],_=>exact⟨a,b,c,d,rfl⟩
 | [],h=>simp at h
 | [_],h=>simp at h
 | [_,_],h=>simp at h
 | [_,_,_],h=>simp at h
 | _::_::_::_::_::_,h=>simp at h;omega
theorem BkS.ext {act:Int}{bk:List zE}(h:BkS act bk)(i:Nat)(ds:List (List UInt8)):BkS act (qP3 bk i ds):=by
 rcases h with rfl | ⟨h1,h2⟩
 ·exact .inl rfl
 ·exact .inr ⟨h1,h2.ext i ds⟩
theorem BkS.rst {act:Int}{bk:List zE}(h:BkS act bk)(i:Nat):BkS act (zEr bk i):=by
 rcases h with rfl | ⟨h1,b0,b1,rfl,h0,h3,z0,z1⟩
 ·exact .inl rfl
 ·refine .inr ⟨h1,_,_,rfl,jQ.trans h0,jQ.trans h3,?_,?_⟩
  ·unfold qTu;split
   ·exact qYl z0 (by simp[szA])
   ·exact z0
  ·unfold qTu;split
   ·exact qYl z1 (by simp[szA])
   ·exact z1
theorem zUp {act:Int}{bk:List zE}(h:BkS act bk){u:Int}(hu:0≤u){lo i:Int}{ds:List (List UInt8)} : ∃ (bk':List zE) (u' e:Int),(e=0→BkS act bk'∧0≤u'∧u'≤u+1)∧qQx bk u lo i ds = .tup [.t (.agg [.sl (bk'.map vM),.int .i64 u']),.t (.int .i64 e)]:=by
 unfold qQx;split
 ·exact⟨_,_,_,fun _=>⟨h.ext _ _,oM,oM⟩,rfl⟩
 ·rename_i c;exact⟨[],0,_,fun e=>absurd e c,rfl⟩
theorem jIz {act:Int}{bk:List zE}(h:BkS act bk){u:Int}(hu:0≤u∧u<1000000000){lo i:Int}{ds:List (List UInt8)}(hd:ds.length≤8 ∧ ∀ d∈ds,d.length≤4000) : ∃ (bk':List zE) (u' e:Int),(e=0→BkS act bk'∧0≤u'∧u'≤u+1)∧qEd.fs [.t (.agg [.sl (bk.map vM),.int .i64 u]),.t (.int .i64 lo),.t (.int .i64 i),.t (.sl (ds.map bsT))] []=some (.tup [.t (.agg [.sl (bk'.map vM),.int .i64 u']),.t (.int .i64 e)],[]):=by
 obtain⟨bk',u',e,h1,h2⟩:=zUp h hu.1 (lo:=lo) (i:=i) (ds:=ds);refine⟨bk',u',e,h1,?_⟩;rw[zUq ⟨h.rv,hu,by show ds.length<_;omega,fun d hm=>by have:=hd.2 d hm;omega⟩,h2]
theorem jP5 {act:Int}{bk:List zE}(h:BkS act bk){u:Int}(hu:0≤u∧u<1000000000){lo i:Int}{d:List UInt8}(hd:d.length≤4000) : ∃ (bk':List zE) (u' e:Int),(e=0→BkS act bk'∧0≤u'∧u'≤u+1)∧zK0.fs [.t (.agg [.sl (bk.map vM),.int .i64 u]),.t (.int .i64 lo),.t (.int .i64 i),.t (.sl (d.map qA))] []=some (.tup [.t (.agg [.sl (bk'.map vM),.int .i64 u']),.t (.int .i64 e)],[]):=by
 have he:zK0.fs [.t (.agg [.sl (bk.map vM),.int .i64 u]),.t (.int .i64 lo),.t (.int .i64 i),.t (.sl (d.map qA))] []=some (evR bk u lo i d,[]):=zK0.eq (bk,u,lo,i,d) ⟨h.rv,hu,by show d.length<_;omega⟩;rw[he];unfold evR;split
 ·exact⟨[],0,4,oM,rfl⟩
 ·obtain⟨bk',u',e,h1,h2⟩:=zUp h hu.1 (lo:=lo) (i:=i) (ds:=qS6 bk d);exact⟨bk',u',e,h1,by rw[h2]⟩
theorem jKh {act:Int}{bk:List zE}(h:BkS act bk){u:Int}(hu:0≤u∧u<1000000000){lo i:Int} : ∃ (bk':List zE) (u' e:Int),(e=0→BkS act bk'∧0≤u'∧u'≤u+1)∧qFn.fs [.t (.agg [.sl (bk.map vM),.int .i64 u]),.t (.int .i64 lo),.t (.int .i64 i)] []=some (.tup [.t (.agg [.sl (bk'.map vM),.int .i64 u']),.t (.int .i64 e)],[]):=by
 have he:qFn.fs [.t (.agg [.sl (bk.map vM),.int .i64 u]),.t (.int .i64 lo),.t (.int .i64 i)] []=some (zZj bk u lo i,[]):=jFf ⟨h.rv.rm,hu.1,hu.2⟩;rw[he];unfold zZj;split
 ·exact⟨_,_,_,fun _=>⟨h.rst _,oM,oM⟩,rfl⟩
 ·rename_i c;exact⟨[],0,_,fun e=>absurd e c,rfl⟩
theorem jK9 {bk:List zE}(h:RM bk){u a i:Int}:(∃ e:Int,e≠0∧qWw.fs [.t (.agg [.sl (bk.map vM),.int .i64 u]),.t (.int .i64 a),.t (.int .i64 i)] []=some (.tup [.nil,.t (.int .i64 e)],[]))∨
  ∃ y:List UInt8,qWw.fs [.t (.agg [.sl (bk.map vM),.int .i64 u]),.t (.int .i64 a),.t (.int .i64 i)] []=some (.tup [.sl 0 0 y.length,.t (.int .i64 0)],[.live 1 ((y.map qA).map V.t) true false]):=by
 have he:qWw.fs [.t (.agg [.sl (bk.map vM),.int .i64 u]),.t (.int .i64 a),.t (.int .i64 i)] []=some (jA8 bk a i,jA7 bk a i):=qWw.eq (bk,u,a,i) h;rw[he];unfold jA8 jA7;split
 ·exact .inl ⟨1,by decide,rfl⟩
 ·split
  ·exact .inr ⟨_,rfl⟩
  ·exact .inl ⟨27,by decide,rfl⟩
theorem jIv {bk:List zE}(h:RK bk){u:Int}{d:List UInt8}(hd:d.length≤4000):qS2.fs [.t (.agg [.sl (bk.map vM),.int .i64 u]),.t (.sl (d.map qA))] []=some (.t (.sl ((qS6 bk d).map bsT)),[]):=qS2.eq (bk,u,d) ⟨h,by show d.length<_;omega⟩
theorem qV6  (s:St)(e:Int) :
  qDc.1.wp tab gl (qD 0 [.t (stA s),.t (.int .i64 e)]) (qD 0 []) (qY [(4,(some (30,true))),(5,(some (4,true)))] 0 (wR.K (s,e))):=by
 simp(disch:=omega)only[go_sem,qDc,stA];exact jKa s ⟨e,[],[],[]⟩ rfl rfl rfl
theorem qA0 {g:EF wR}{s:St}{e:Int} : ∃ r:Rs,wR.fs g [.t (stA s),.t (.int .i64 e)] []=some (.tup [.t (stA s),.t (rsA r)],[]):=by
 obtain⟨t,r,rfl,h⟩:=jE7 (g:=g) (s:=s) (e:=e);exact⟨r,h⟩
theorem qZh {g1}(h1:LkE tab 108 wR g1)(s t:St)(e:Int) :
  qBm.1.wp tab gl (qD 0 [.t (stA s),.t (stA t),.t (.int .i64 e)]) (qD 0 []) (qY [(6,(some (30,true))),(7,(some (4,true)))] 0 (qAu.K (s,t,e))):=by
 obtain⟨r,e1⟩:=qA0 (g:=g1) (s:=s) (e:=e);simp only[stA,rsA] at e1;by_cases c:e=0
 ·subst c;simp(disch:=omega)only[go_sem,qBm,stA];exact jEn t ⟨0,[],[],[]⟩ ⟨fun _=>rfl,fun h=>absurd rfl h⟩ rfl rfl
 ·simp(disch:=omega)only[go_sem,qBm,stA,h1,e1,c];exact jEn s r ⟨fun h=>absurd h c,fun _=>rfl⟩ rfl rfl
theorem qZg  (s:St) :
  qBl.1.wp tab gl (qD 0 [.t (stA s)]) (qD 0 []) (qY [(2,(some (30,true))),(3,(some (4,true)))] 0 (qLs.K s)):=by
 obtain⟨sf,hsf⟩ : ∃ b,s.safe=b:=⟨_,rfl⟩;cases sf
 ·simp(disch:=omega)only[go_sem,qBl,stA,hsf];repeat refine aiG ?_
  exact jCb s ⟨0,[s.clk,s.a.res,s.a.rst,0],[],[]⟩ rfl (by simp only[stA,hsf];rfl) rfl
 ·simp(disch:=omega)only[go_sem,qBl,stA,hsf];repeat refine aiG ?_
  exact jCb s ⟨0,[s.clk,s.a.res,s.a.rst,1],[],[]⟩ rfl (by simp only[stA,hsf];rfl) rfl
theorem qUn {g1}(h1:LkE tab 198 qM5 g1){g2}(h2:LkE tab 199 qLv g2){g3}(h3:LkE tab 200 qMp g3){g4}(h4:LkE tab 201 qL1 g4){g5}(h5:LkE tab 202 qNr g5){g6}(h6:LkE tab 203 qNf g6){g7}(h7:LkE tab 204 qM9 g7)(s:St)(q:Rq)(hp:(s.Ok∧s.cn 1000000)∧q.Ok∧q.Al s∧(q.co=9∨q.co=10∨q.co=11∨q.co=12∨q.co=13∨q.co=14∨q.co=15)) :
  jK.1.wp tab gl (qD 0 [.t (stA s),.t (rqA q)]) (qD 0 []) (qY [(4,(some (30,true))),(5,(some (4,true)))] 0 (qMw.K (s,q))):=by
 obtain⟨hs,hq,al,hco⟩:=hp;obtain⟨co,hh,au,ns,bl⟩:=q;simp only at hco;rcases hco with rfl | rfl | rfl | rfl | rfl | rfl | rfl
 ·obtain⟨t,r,hg,e⟩:=jEs (g:=g1) (s:=s) (q:=⟨9,hh,au,ns,bl⟩) ⟨hs,hq,al,rfl⟩;simp only[stA,rqA,rsA] at e;simp(disch:=omega)only[go_sem,jK,stA,rqA,h1,e];exact zEo t r hg rfl rfl
 ·obtain⟨t,r,hg,e⟩:=jCf (g:=g2) (s:=s) (q:=⟨10,hh,au,ns,bl⟩) ⟨hs,hq,al,rfl⟩;simp only[stA,rqA,rsA] at e;simp(disch:=omega)only[go_sem,jK,stA,rqA,h2,e];exact zEo t r hg rfl rfl
 ·obtain⟨t,r,hg,e⟩:=jD2 (g:=g3) (s:=s) (q:=⟨11,hh,au,ns,bl⟩) ⟨hs,hq,al,rfl⟩;simp only[stA,rqA,rsA] at e;simp(disch:=omega)only[go_sem,jK,stA,rqA,h3,e];exact zEo t r hg rfl rfl
 ·obtain⟨t,r,hg,e⟩:=jCp (g:=g4) (s:=s) (q:=⟨12,hh,au,ns,bl⟩) ⟨hs,hq,rfl⟩;simp only[stA,rqA,rsA] at e;simp(disch:=omega)only[go_sem,jK,stA,rqA,h4,e];exact zEo t r hg rfl rfl
 ·obtain⟨t,r,hg,e⟩:=jGo (g:=g5) (s:=s) (q:=⟨13,hh,au,ns,bl⟩) ⟨hs,hq,al,rfl⟩;simp only[stA,rqA,rsA] at e;simp(disch:=omega)only[go_sem,jK,stA,rqA,h5,e];exact zEo t r hg rfl rfl
 ·obtain⟨t,r,hg,e⟩:=jFs (g:=g6) (s:=s) (q:=⟨14,hh,au,ns,bl⟩) ⟨hs,hq,al,rfl⟩;simp only[stA,rqA,rsA] at e;simp(disch:=omega)only[go_sem,jK,stA,rqA,h6,e];exact zEo t r hg rfl rfl
 ·obtain⟨t,r,hg,e⟩:=jEw (g:=g7) (s:=s) (q:=⟨15,hh,au,ns,bl⟩) ⟨hs,hq,al,rfl⟩;simp only[stA,rqA,rsA] at e;simp(disch:=omega)only[go_sem,jK,stA,rqA,h7,e];exact zEo t r hg rfl rfl
def St.iset (s:St)(l:List Ix):St := { s with a := { s.a with ix:=l } }
theorem St.iset_go {s:St}(h:s.Ok){l:List Ix}(h1:l.length≤6)(h2 : ∀ x∈l,x.Ok):s.Go 0 (s.iset l):=⟨{ h with a := { h.a with ix:=⟨h1,h2⟩ } },fun m hm=>by rw[Int.add_zero];exact hm⟩
theorem qV5 {g1}(h1:LkE tab 210 qMb g1){g2}(h2:LkE tab 108 wR g2){g3}(h3:LkE tab 144 wB g3)(s:St)(q:Rq)(hp:(s.Ok∧s.cn 1000000)∧q.Ok∧q.co=21) :
  vQ.1.wp tab gl (qD 0 [.t (stA s),.t (rqA q)]) (qD 0 []) (qY [(4,(some (30,true))),(5,(some (4,true)))] 0 (qLw.K (s,q))):=by
 obtain⟨⟨hs,hc⟩,hq,rfl'⟩:=hp;obtain⟨_,q2,_,q4,q5⟩:=hq;obtain⟨co,hh,au,ns,bl⟩:=q;simp only at rfl' q2 q4 q5;subst rfl';rw[show qFh 21=(1,1,4,2) from rfl] at q2 q4 q5;obtain⟨n0,n1',n2',n3',rfl⟩:=jPo q4.1;obtain⟨b0,b1,rfl⟩:=zXy (l:=bl) (by rcases q5.1 with h | h;exact h;exact absurd h.1 (by decide));have hb0:=q5.2 b0 sM;have hb1:=q5.2 b1 sM;have l1:=hs.a.ix;obtain⟨x,e,hok,e1⟩:=jDh (g:=g1) (n:=n0) (k:=n1') (r:=n2') (z:=n3') (au:=b0) (po:=b1) ⟨oM,oM⟩;obtain⟨ra,ea⟩:=qA0 (g:=g2) (s:=s) (e:=e);obtain⟨rb,eb⟩:=qA0 (g:=g2) (s:=s) (e:=21);obtain⟨rc,ec⟩:=qA0 (g:=g2) (s:=s) (e:=25);have hG : ∀ {k:Int},0≤k→s.Go k s:=fun hk=>St.go_rfl hs hk
 have hz:qPv 8 (List.map ixA s.a.ix)=true:=zIx;by_cases c:e=0
 rotate_left
 ·simp only[stA,rsA,ixA] at e1 ea;simp(maxSteps:=9^9)(disch:=try exact dS)only[go_sem,vQ,stA,rqA,mcn,iT,bsT,h1,h2,e1,ea,c];repeat refine aiG ?_
  exact zQf s ra (hG oM) rfl rfl
 have hx:=hok c;subst c;have e3:=qFr (g:=g3) (s:=s) (h:=256+x.n) ⟨l1.1,fun x hx=>(l1.2 x hx).1⟩;have hxn:=hx.1;rcases @zA0 s.a.ix (256+x.n) 0 with r1 | ⟨r1,r2⟩
 ·rw[r1] at e3;by_cases c2:6≤s.a.ix.length
  ·simp only[stA,rsA,ixA] at e1 e3 ec;simp(maxSteps:=9^9)(disch:=try exact dS)only[go_sem,vQ,stA,rqA,mcn,iT,bsT,h1,h2,h3,e1,e3,ec,c2];repeat refine aiG ?_
   exact zQf s rc (hG oM) rfl rfl
  ·have hgo:=St.iset_go hs (l:=s.a.ix++[x]) soM (by
    intro z hz;simp only[List.mem_append,List.mem_cons,List.not_mem_nil,or_false] at hz;rcases hz with hz | rfl
    ·exact l1.2 z hz
    ·exact hx)
   simp only[stA,rsA,ixA] at e1 e3;simp(maxSteps:=9^9)(disch:=try exact dS)only[go_sem,vQ,stA,rqA,mcn,iT,bsT,h1,h3,e1,e3,c2,hz];repeat refine aiG ?_
   exact zQf (s.iset (s.a.ix++[x])) ⟨0,[],[],[]⟩ (hgo.le oM) (by rw[List.take_of_length_le sM];simp only[stA,rsA,St.iset,List.map_append,mcn,ixA]) rfl
 ·generalize ixP s.a.ix (256+x.n) 0=j at *;simp only[stA,rsA,ixA] at e1 e3 eb;simp(maxSteps:=9^9)(disch:=try exact dS)only[go_sem,vQ,stA,rqA,mcn,iT,bsT,h1,h2,h3,e1,e3,eb,r1];repeat refine aiG ?_
  exact zQf s rb (hG oM) rfl rfl
theorem qUo  (l:List Int)(n:Int)(hp:l.length≤1000000) :
  qB2.1.wp tab gl (qD 0 [.t (.sl (l.map iT)),.t (.int .i64 n)]) (qD 0 []) (qY [(4,none)] 0 (qNw.K (l,n))):=by
 simp(disch:=omega)only[go_sem,qB2];refine qW (σ:=Nat×List Int) (fun t=>t.1≤l.length∧t.2.length≤t.1) (fun t=>l.length-t.1) (fun t=>[(0,.t (.sl (l.map iT))),(1,.t (.int .i64 n)),(5,.sl 9000 0 t.2.length),(6,.t (.int .i64 t.1))]) (fun t=>[(9000,.live 1 ((t.2.map iT).map V.t) true false)]) (0,[]) ⟨sM,sM⟩ (qI.cv0 (hv:=[(9000,.live 1 [] true false)]) (ho:=[]) id ?_ ?_ rfl rfl) ?_
 ·simp(disch:=omega)only[go_sem,id]
 ·simp(disch:=omega)only[go_sem,id];all_goals rfl
 rintro⟨k,r⟩ ⟨hk,hr⟩;simp only at hk hr;by_cases hlt:k<l.length
 ·obtain⟨x,hg,hm,_⟩:=qQ hlt;by_cases c:x=n
  ·subst c;simp(disch:=omega)only[go_sem,hlt,hg,oms,iT];refine qAf.of (k+1,r) ⟨by simp only;omega,by simp only;omega⟩ (by simp only;omega) (qI.rd id ?_ ?_ rfl)
   ·simp(disch:=omega)only[go_sem,id]
   ·simp(disch:=omega)only[go_sem,id]
  ·simp(disch:=omega)only[go_sem,hlt,hg,oms,iT,c];refine qAf.of (k+1,r++[x]) ⟨by simp only;omega,soM⟩ (by simp only;omega) (qI.rd (fun j=>if j=9000 then 28768 else j) ?_ ?_ rfl)
   ·simp(disch:=omega)only[go_sem,id,List.length_append,List.length_cons,List.length_nil]
   ·have e:List.map iT (r++[x])=List.map iT r++[T.int .i64 x]:=by simp[iT]
    simp(disch:=omega)only[go_sem,id,e]
 ·simp(disch:=omega)only[go_sem,hlt];exact jLo r oM rfl rfl
theorem jRj {l:List Int}:qPv 1 (l.map iT)=true:=by simp only[qPv,List.all_map,List.all_eq_true];intro x _;rfl
theorem zCs {g1}(h1:LkE tab 213 qG9 g1)(l:List Int)(n:Int)(hp:l.length≤1000000) :
  qCj.1.wp tab gl (qD 0 [.t (.sl (l.map iT)),.t (.int .i64 n)]) (qD 0 []) (qY [(4,none)] 0 (qNv.K (l,n))):=by
 obtain⟨v,_,e⟩:=zG0 (g:=g1) (l:=l) (n:=n) hp;cases v
 ·simp(disch:=omega)only[go_sem,qCj,h1,e,jRj];exact jHt (l++[n]) sM (by rw[List.take_of_length_le sM];simp[iT]) rfl
 ·simp(disch:=omega)only[go_sem,qCj,h1,e];exact jHt l oM rfl rfl
theorem St.sut_go {s:St}(h:s.Ok){l:List Ix}{r w:List Int}(h1:l.length≤6)(h2 : ∀ x∈l,x.Ok)(h3:r.length≤s.rl.length+1)(h4:w.length≤s.wl.length+1):s.Go 1 { s with a := { s.a with ix:=l },rl:=r,wl:=w }:=
 ⟨{ h with a := { h.a with ix:=⟨h1,h2⟩ } },fun m hm=>by unfold St.cn at *;simp only;omega⟩
theorem St.aut_go {s:St}(h:s.Ok){l:List (List UInt8)}(h1:l.length=4 ∧ ∀ x∈l,x.length≤32):s.Go 0 { s with a := { s.a with au:=l } }:=
 ⟨{ h with a := { h.a with au:=h1 } },fun m hm=>by rw[Int.add_zero];exact hm⟩
theorem St.reg_go {s:St}(h:s.Ok){bk:List zE}{u:Int}(h1:BkS s.a.act bk)(h2:0≤u∧u≤s.u+1):s.Go 1 { s with bk:=bk,u:=u }:=
 ⟨{ h with bk:=h1,u:=h2.1 },fun m hm=>by unfold St.cn at *;simp only;omega⟩
theorem St.clr_go {s:St}(h:s.Ok){b a0 a2 u0 u2:List UInt8}(hb:b.length=Int.toNat 32)(hx:a0.length≤32∧a2.length≤32∧u0.length≤32∧u2.length≤32) :
  s.Go 3 { s with dr:=s.dr+1,a := { s.a with sd:=[a0,b,a2],au:=[u0,[],u2,[]],ix:=[],lk:=⟨0,5,100,0,0,1000⟩ },ses:=[zN1,zN1,zN1],obs:=[zVb,zVb,zVb],rl:=[],wl:=[] }:=by
 have hb':b.length=32:=hb;have hd:=h.dr;refine⟨{ h with a := { h.a with sd:=⟨rfl,?_⟩,au:=⟨rfl,?_⟩,ix:=⟨sM,sM⟩,lk:=?_ },dr:=?_,ses:=⟨rfl,?_⟩,obs:=⟨rfl,?_⟩ },?_⟩
 ·intro x hm;simp only[List.mem_cons,List.not_mem_nil,or_false] at hm;rcases hm with rfl | rfl | rfl<;>omega
 ·intro x hm;simp only[List.mem_cons,List.not_mem_nil,or_false] at hm;rcases hm with rfl | rfl | rfl | rfl<;>first | omega | simp
 ·unfold Lk.Ok;simp
 ·show 0≤s.dr+1;omega
 ·intro x hm;simp only[List.mem_cons,List.not_mem_nil,or_false] at hm;rcases hm with rfl | rfl | rfl<;>exact Ses.ok0
 ·intro x hm;simp only[List.mem_cons,List.not_mem_nil,or_false] at hm;rcases hm with rfl | rfl | rfl<;>exact zMr
 ·intro m hm;unfold St.cn at *;simp only[List.length_nil];omega
theorem qRq {g1}(h1:LkE tab 144 wB g1){g2}(h2:LkE tab 108 wR g2){g3}(h3:LkE tab 211 qNw g3)(s:St)(q:Rq)(hp:(s.Ok∧s.cn 1000000)∧q.Ok∧q.co=22) :
  kL.1.wp tab gl (qD 0 [.t (stA s),.t (rqA q)]) (qD 0 []) (qY [(4,(some (30,true))),(5,(some (4,true)))] 0 (qNq.K (s,q))):=by
 obtain⟨⟨hs,hc⟩,hq,rfl'⟩:=hp;obtain⟨_,q2,_,q4,q5⟩:=hq;obtain⟨co,hh,au,ns,bl⟩:=q;simp only at rfl' q2 q4 q5;subst rfl';rw[show qFh 22=(1,1,1,0) from rfl] at q2 q4 q5;obtain⟨n0,rfl⟩:=qOu q4.1;have b0:tmI n0:=q4.2 n0 sM;have l1:=hs.a.ix;obtain⟨c1,c2,c3,c4,c5,c6,c7⟩:=hc;obtain⟨rb,eb⟩:=qA0 (g:=g2) (s:=s) (e:=7);have e1:=qFr (g:=g1) (s:=s) (h:=256+n0) ⟨l1.1,fun x hx=>(l1.2 x hx).1⟩;have hz : ∀ {l:List Ix},qPv 8 (List.map ixA l)=true:=zIx;rcases @zA0 s.a.ix (256+n0) 0 with r1 | ⟨r1,r2⟩
 ·rw[r1] at e1;simp only[stA,rsA] at e1 eb;simp(maxSteps:=9^9)(disch:=try exact dS)only[go_sem,kL,stA,rqA,mcn,iT,h1,h2,e1,eb];repeat refine aiG ?_
  exact jGl s rb (St.go_rfl hs oM) rfl rfl
 ·generalize ixP s.a.ix (256+n0) 0=j at *;obtain⟨k,rfl⟩ : ∃ k:Nat,j=k:=⟨j.toNat,oM⟩;obtain⟨r',hl1,e3⟩:=zWa (g:=g3) (l:=s.rl) (n:=n0) oM;obtain⟨w',hl2,e4⟩:=zWa (g:=g3) (l:=s.wl) (n:=n0) oM;have hgo:=St.sut_go hs (l:=s.a.ix.take k++s.a.ix.drop (k+1)) (r:=r') (w:=w') soM (fun x hx=>by
   rcases List.mem_append.1 hx with h | h
   ·exact l1.2 x (List.mem_of_mem_take h)
   ·exact l1.2 x (List.mem_of_mem_drop h)) oM oM
  simp only[stA] at e1;have t1:List.take (s.a.ix.length-(k+1)) (List.drop (k+1) s.a.ix)=List.drop (k+1) s.a.ix:=List.take_of_length_le sM;have t2:List.take (k+(s.a.ix.length-(k+1))) (List.take k s.a.ix++List.drop (k+1) s.a.ix)=List.take k s.a.ix++List.drop (k+1) s.a.ix:=List.take_of_length_le soM;simp(maxSteps:=9^9)(disch:=try exact dS)only[go_sem,kL,stA,rqA,mcn,iT,h1,h3,e1,e3,e4,hz];repeat refine aiG ?_
  exact jGl _ ⟨0,[],[],[]⟩ (hgo.le oM) (by rw[t1,t2];rfl) rfl
theorem qV4 {g1}(h1:LkE tab 108 wR g1)(s:St)(q:Rq)(hp:(s.Ok∧s.cn 1000000)∧q.Ok∧q.Al s∧q.co=30) :
  qAr.1.wp tab gl (qD 0 [.t (stA s),.t (rqA q)]) (qD 0 []) (qY [(4,(some (30,true))),(5,(some (4,true)))] 0 (qG7.K (s,q))):=by
 obtain⟨⟨hs,hc⟩,hq,al,rfl'⟩:=hp;obtain⟨_,q2,_,q4,q5⟩:=hq;obtain⟨co,hh,au,ns,bl⟩:=q;simp only at rfl' q2 q4 q5;subst rfl';rw[show qFh 30=(1,1,0,1) from rfl] at q2 q4 q5;obtain⟨n0,rfl⟩:=qOu q2.1;obtain⟨b0,rfl⟩:=qOu (l:=bl) (by rcases q5.1 with h | h;exact h;exact absurd h.1 (by decide));have hb0:=q5.2 b0 sM;have al':0≤n0∧n0≤3:=al.2.2.1 rfl;have l1:=hs.a.au;obtain⟨rb,eb⟩:=qA0 (g:=g1) (s:=s) (e:=4);by_cases c:32<b0.length
 ·simp only[stA,rsA] at eb;simp(maxSteps:=9^9)(disch:=try exact dS)only[go_sem,qAr,stA,rqA,mcn,iT,bsT,h1,eb,c];repeat refine aiG ?_
  exact zUd s rb (St.go_rfl hs oM) rfl rfl
 ·have hgo:=St.aut_go hs (l:=s.a.au.set n0.toNat b0) ⟨by simp[l1.1],fun y hy=>by
   rcases List.mem_or_eq_of_mem_set hy with h | rfl
   ·exact l1.2 y h
   ·omega⟩
  simp(maxSteps:=9^9)(disch:=try exact dS)only[go_sem,qAr,stA,rqA,mcn,iT,bsT,c];repeat refine aiG ?_
  exact zUd _ ⟨0,[],[],[]⟩ (hgo.le oM) (by rw[List.take_of_length_le sM];rfl) rfl
theorem qZf {g1}(h1:LkE tab 19 kS g1)(h2:LkC tab 71 qS4)(s:St)(hp:s.Ok∧s.cn 1000000) :
  qE2.1.wp tab gl (qD 0 [.t (stA s)]) (qD 0 []) (qY [(2,(some (30,true))),(3,(some (4,true)))] 0 (qLr.K s)):=by
 obtain⟨hs,hc⟩:=hp;obtain⟨a0,a1,a2,ha⟩:=zQ6 (l:=s.a.sd) (by have:=hs.a.sd.1;omega);obtain⟨u0,u1,u2,u3,hu⟩:=jPo (l:=s.a.au) (by have:=hs.a.au.1;omega);obtain⟨b,hb,e1⟩:=jFa (g:=g1) hs hc (n:=32) oM;have e2:=zMa;simp only[stA,St.more,ha,hu,mcn,bsT] at e1;simp(maxSteps:=9^9)(disch:=try exact dS)only[go_sem,qE2,stA,ha,hu,h1,h2,e1,e2,mcn,bsT];repeat refine aiG ?_
 exact jIm _ ⟨0,[],[],[]⟩ (St.clr_go hs hb (a0:=a0) (a2:=a2) (u0:=u0) (u2:=u2) (by
  refine⟨hs.a.sd.2 a0 ?_,hs.a.sd.2 a2 ?_,hs.a.au.2 u0 ?_,hs.a.au.2 u2 ?_⟩<;>simp[ha,hu])) rfl rfl
theorem qUm (h1:LkC tab 193 qWw){g2}(h2:LkE tab 108 wR g2)(h3:LkC tab 194 qEd)(h4:LkC tab 195 qS2)(h5:LkC tab 196 zK0)(h6:LkC tab 197 qFn)(s:St)(lo:Int)(q:Rq)(hp:(s.Ok∧s.cn 1000000)∧q.Ok∧(q.co=5∨q.co=6∨q.co=7∨q.co=8)) :
  jD.1.wp tab gl (qD 0 [.t (stA s),.t (.int .i64 lo),.t (rqA q)]) (qD 0 []) (qY [(6,(some (30,true))),(7,(some (4,true)))] 0 (qMs.K (s,lo,q))):=by
 obtain⟨⟨hs,hc⟩,hq,hco⟩:=hp;obtain⟨_,q2,_,q4,q5⟩:=hq;obtain⟨co,hh,au,ns,bl⟩:=q;simp only at hco q2 q4 q5;obtain⟨c1,c2,c3,c4,c5,c6,c7⟩:=hc;have hk:=hs.bk;have hku:=hs.u;rcases hco with rfl | rfl | rfl | rfl
 ·rw[show qFh 5=(0,0,2,0) from rfl] at q2 q4 q5;obtain⟨n0,n1',rfl⟩:=zXy q4.1;rcases jK9 hk.rv.rm (u:=s.u) (a:=n0) (i:=n1') with⟨e,he,e1⟩ | ⟨y,e1⟩
  ·obtain⟨rb,eb⟩:=qA0 (g:=g2) (s:=s) (e:=e);simp only[stA,rsA] at eb;simp(maxSteps:=9^9)(disch:=try exact dS)only[go_sem,jD,stA,rqA,mcn,iT,h1,h2,e1,eb,he];repeat refine aiG ?_
   exact zA6 s rb (St.go_rfl hs oM) rfl rfl
  ·simp(maxSteps:=9^9)(disch:=try exact dS)only[go_sem,jD,stA,rqA,mcn,iT,h1,e1];repeat refine aiG ?_
   exact zA6 s ⟨0,[s.u],[y],[]⟩ (St.go_rfl hs oM) rfl rfl
 ·rw[show qFh 6=(0,0,1,2) from rfl] at q2 q4 q5;obtain⟨n0,rfl⟩:=qOu q4.1;have hl:(bl.length:Int)=2:=by
   rcases q5.1 with h | h
   ·exact h
   ·exact absurd h.1 (by decide)
  obtain⟨bk',u',e,hok,e1⟩:=jIz hk (u:=s.u) ⟨hku,oM⟩ (lo:=lo) (i:=n0) (ds:=bl) ⟨oM,fun d hd=>by have:=q5.2 d hd;omega⟩;obtain⟨rb,eb⟩:=qA0 (g:=g2) (s:=s) (e:=e);by_cases c:e=0
  ·have hgo:=St.reg_go hs (hok c).1 (hok c).2;subst c;simp(maxSteps:=9^9)(disch:=try exact dS)only[go_sem,jD,stA,rqA,mcn,iT,h3,e1];repeat refine aiG ?_
   exact zA6 _ ⟨0,[],[],[]⟩ (hgo.le oM) rfl rfl
  ·simp only[stA,rsA] at eb;simp(maxSteps:=9^9)(disch:=try exact dS)only[go_sem,jD,stA,rqA,mcn,iT,h2,h3,e1,eb,c];repeat refine aiG ?_
   exact zA6 s rb (St.go_rfl hs oM) rfl rfl
 ·rw[show qFh 7=(0,0,1,1) from rfl] at q2 q4 q5;obtain⟨n0,rfl⟩:=qOu q4.1;obtain⟨b0,rfl⟩:=qOu (l:=bl) (by rcases q5.1 with h | h;exact h;exact absurd h.1 (by decide));have hb0:=q5.2 b0 sM;have ed:=jIv hk.rv.1 (u:=s.u) (d:=b0) oM;obtain⟨bk',u',e,hok,e1⟩:=jP5 hk (u:=s.u) ⟨hku,oM⟩ (lo:=lo) (i:=n0) (d:=b0) oM;obtain⟨rb,eb⟩:=qA0 (g:=g2) (s:=s) (e:=e);by_cases c:e=0
  ·have hgo:=St.reg_go hs (hok c).1 (hok c).2;subst c;simp(maxSteps:=9^9)(disch:=try exact dS)only[go_sem,jD,stA,rqA,mcn,iT,bsT,h4,h5,ed,e1];repeat refine aiG ?_
   exact zA6 _ ⟨0,[],qS6 s.bk b0,[]⟩ (hgo.le oM) rfl rfl
  ·simp only[stA,rsA] at eb;simp(maxSteps:=9^9)(disch:=try exact dS)only[go_sem,jD,stA,rqA,mcn,iT,bsT,h2,h4,h5,ed,e1,eb,c];repeat refine aiG ?_
   exact zA6 s rb (St.go_rfl hs oM) rfl rfl
 ·rw[show qFh 8=(0,0,1,0) from rfl] at q2 q4 q5;obtain⟨n0,rfl⟩:=qOu q4.1;obtain⟨bk',u',e,hok,e1⟩:=jKh hk (u:=s.u) ⟨hku,oM⟩ (lo:=lo) (i:=n0);obtain⟨rb,eb⟩:=qA0 (g:=g2) (s:=s) (e:=e);by_cases c:e=0
  ·have hgo:=St.reg_go hs (hok c).1 (hok c).2;subst c;simp(maxSteps:=9^9)(disch:=try exact dS)only[go_sem,jD,stA,rqA,mcn,iT,h6,e1];repeat refine aiG ?_
   exact zA6 _ ⟨0,[],[],[]⟩ (hgo.le oM) rfl rfl
  ·simp only[stA,rsA] at eb;simp(maxSteps:=9^9)(disch:=try exact dS)only[go_sem,jD,stA,rqA,mcn,iT,h2,h6,e1,eb,c];repeat refine aiG ?_
   exact zA6 s rb (St.go_rfl hs oM) rfl rfl
theorem zXg {α:Type}{l:List α}(h:1≤l.length) : ∃ x,l[0]?=some x∧x∈l:=by
 obtain⟨x,hg,hm,_⟩:=qQ (l:=l) (k:=0) oM;exact⟨x,hg,hm⟩
theorem qY7 {g1}(h1:LkE tab 192 qHd g1)(s:St)(q:Rq)(hp:s.Ok∧q.hs.length≤8) :
  qEz.1.wp tab gl (qD 0 [.t (stA s),.t (rqA q)]) (qD 0 []) (qY [(4,none)] 0 (qJf.K (s,q))):=by
 obtain⟨hs,hq⟩:=hp;obtain⟨co,hh,au,ns,bl⟩:=q;simp only at hq;simp(maxSteps:=9^9)(disch:=try exact dS)only[go_sem,qEz,stA,rqA];refine qW (σ:=Nat×List (List UInt8)) (fun t=>t.1≤hh.length∧t.2.length=t.1 ∧ ∀ x∈t.2,x.length≤32) (fun t=>hh.length-t.1) (fun t=>[(2,.ref 4096 0 0),(3,.ref 4112 0 0),(5,.sl 9000 0 t.2.length),(6,.t (.int .i64 t.1))]) (fun t=>[(9000,.live 1 ((t.2.map bsT).map V.t) true false),(4112,.live 5 [.t (rqA ⟨co,hh,au,ns,bl⟩)] true true),(4096,.live 30 [.t (stA s)] true true)]) (0,[]) ⟨sM,rfl,sM⟩ ?_ ?_
 ·refine qI.cv0 (hv:=[(9000,.live 1 [] true false)]) (ho:=[(4112,.live 5 [.t (rqA ⟨co,hh,au,ns,bl⟩)] true true),(4096,.live 30 [.t (stA s)] true true)]) id ?_ ?_ rfl rfl;all_goals simp(maxSteps:=9^9)(disch:=try exact dS)only[go_sem,id,stA,rqA]
  all_goals rfl
 rintro⟨k,r⟩ ⟨hk,hr,hx⟩;simp only at hk hr hx;by_cases hlt:k<hh.length
 ·obtain⟨x,hg,hm,_⟩:=qQ hlt;obtain⟨y,hy,e⟩:=zMn (g:=g1) (h:=x) hs;simp only[stA] at e;simp(maxSteps:=9^9)(disch:=try exact dS)only[go_sem,stA,rqA,hlt,hg,oms,iT,h1,e,hr];repeat refine aiG ?_
  refine qAf.of (k+1,r++[y]) ⟨by show k+1≤_;omega,by simp[hr],?_⟩ (by show hh.length-(k+1)<hh.length-k;omega) (qI.rd (fun j=>if j=9000 then 24720 else j) ?_ ?_ rfl)
  ·intro x hx';simp only[List.mem_append,List.mem_cons,List.not_mem_nil,or_false] at hx';rcases hx' with hx' | rfl
   ·exact hx x hx'
   ·exact hy
  all_goals simp(maxSteps:=9^9)(disch:=try exact dS)only[go_sem,id,stA,rqA,hr]
  all_goals first | omega | rfl | simp[hr]
 ·simp(maxSteps:=9^9)(disch:=try exact dS)only[go_sem,stA,rqA,hlt,hr];exact jJu r ⟨oM,hx⟩ (by first | rfl | rw[List.take_of_length_le oM]) rfl
theorem qZe {g1}(h1:LkE tab 153 qJf g1)(s:St)(q:Rq)(hp:s.Ok∧q.hs.length≤8) :
  qE1.1.wp tab gl (qD 0 [.t (stA s),.t (rqA q)]) (qD 0 []) (qY [(4,none)] 0 (qMv.K (s,q))):=by
 obtain⟨l,hl,e⟩:=zVa (g:=g1) hp;simp only[stA,rqA] at e;simp(maxSteps:=9^9)(disch:=try exact dS)only[go_sem,qE1,stA,rqA,h1,e];exact jJt l hl rfl rfl
theorem qVu (h1:LkC tab 42 vN)(h2:LkC tab 191 xI)(h3:tab.look 102=some (qHx 32 jY).fs)(l:List (List UInt8))(q:Rq)(hp:(l.length≤8 ∧ ∀ x∈l,x.length≤32)∧q.B) :
  qC7.1.wp tab gl (qD 0 [.t (.sl (l.map bsT)),.t (rqA q)]) (qD 0 []) (qY [(4,none)] 0 (qI2.K (l,q))):=by
 obtain⟨⟨q1,q2⟩,b1,b2,b3,b4,b5,b6⟩:=hp;obtain⟨co,hh,au,ns,bl⟩:=q;simp only at b1 b2 b3 b4 b5 b6;simp(maxSteps:=9^9)(disch:=try exact dS)only[go_sem,qC7,rqA];refine qW (σ:=Nat×List UInt8) (fun t=>t.1≤l.length∧t.2.length≤32*t.1) (fun t=>l.length-t.1) (fun t=>[(0,.t (.sl (l.map bsT))),(3,.ref 4096 0 0),(5,.sl 9000 0 t.2.length),(6,.nil),(7,.t (.int .i64 t.1))]) (fun t=>[(9000,.live 1 ((t.2.map qA).map V.t) true false),(4096,.live 5 [.t (rqA ⟨co,hh,au,ns,bl⟩)] true true)]) (0,[]) ⟨sM,sM⟩ ?_ ?_
 ·refine qI.cv0 (hv:=[(9000,.live 1 [] true false)]) (ho:=[(4096,.live 5 [.t (rqA ⟨co,hh,au,ns,bl⟩)] true true)]) id ?_ ?_ rfl rfl;all_goals simp(maxSteps:=9^9)(disch:=try exact dS)only[go_sem,id,rqA]
  all_goals rfl
 rintro⟨k,r⟩ ⟨hk,hr⟩;simp only at hk hr;by_cases hlt:k<l.length
 ·obtain⟨x,hg,hm,_⟩:=qQ hlt;have hx:=q2 x hm;simp(maxSteps:=9^9)(disch:=try exact dS)only[go_sem,rqA,hlt,hg];repeat refine aiG ?_
  refine qAf.of (k+1,r++x) ⟨by show k+1≤_;omega,soM⟩ (by show l.length-(k+1)<l.length-k;omega) (qI.rd (fun j=>if j=9000 then 24656 else j) ?_ ?_ rfl);all_goals simp(maxSteps:=9^9)(disch:=try exact dS)only[go_sem,id,rqA]
  all_goals first | omega | rfl | simp
 ·simp(maxSteps:=9^9)(disch:=try exact dS)only[go_sem,rqA,hlt];refine qW (σ:=Nat×List UInt8) (fun t=>t.1≤ns.length∧t.2.length≤8*t.1) (fun t=>ns.length-t.1) (fun t=>[(3,.ref 4096 0 0),(5,.sl 9000 0 r.length),(6,.sl 9001 0 t.2.length),(8,.t (.int .i64 t.1))]) (fun t=>[(9001,.live 1 ((t.2.map qA).map V.t) true false),(9000,.live 1 ((r.map qA).map V.t) true false),(4096,.live 5 [.t (rqA ⟨co,hh,au,ns,bl⟩)] true true)]) (0,[]) ⟨sM,sM⟩ ?_ ?_
  ·refine qI.cv0 (hv:=[(9001,.live 1 [] true false)]) (ho:=[(9000,.live 1 ((r.map qA).map V.t) true false),(4096,.live 5 [.t (rqA ⟨co,hh,au,ns,bl⟩)] true true)]) id ?_ ?_ rfl rfl;all_goals simp(maxSteps:=9^9)(disch:=try exact dS)only[go_sem,id,rqA]
   all_goals rfl
  rintro⟨j,w⟩ ⟨hj,hw⟩;simp only at hj hw;by_cases hlt2:j<ns.length
  ·obtain⟨x,hg,hm,_⟩:=qQ hlt2;obtain⟨y,hy,e⟩:=qEk (b:=w) (k:=8) (n:=x) ⟨oM,oM,oM⟩;rw[show ((8:Nat):Int)=8 from rfl] at e;simp(maxSteps:=9^9)(disch:=try exact dS)only[go_sem,rqA,hlt2,hg,oms,iT,h1,e,List.take_length];repeat refine aiG ?_
   refine qAf.of (j+1,y) ⟨by show j+1≤_;omega,by simp only;omega⟩ (by show ns.length-(j+1)<ns.length-j;omega) (qI.rd (fun j=>if j=9001 then 41056 else j) ?_ ?_ rfl);all_goals simp(maxSteps:=9^9)(disch:=try exact dS)only[go_sem,id,rqA]
   all_goals first | omega | rfl | simp
  ·obtain⟨y,hy,e⟩:=zLx (t:=10) (fs:=[u8I co]::r::w::bl) oM soM (by
     intro x hx;simp only[List.mem_cons] at hx;rcases hx with rfl | rfl | rfl | hx
     ·simp
     ·omega
     ·omega
     ·exact b5 x hx)
   simp only[mcn,bsT] at e;rw[show ((10:Nat):Int)=10 from rfl] at e;obtain⟨z,hz,e2⟩:=jGc (b:=y) oM;rw[hz] at e2;have tz:z.take 32=z:=List.take_of_length_le oM;have tb:List.take (3+bl.length) (.sl [qA (u8I co)] :: .sl (r.map qA) :: .sl (w.map qA)::bl.map bsT) = .sl [qA (u8I co)] :: .sl (r.map qA) :: .sl (w.map qA)::bl.map bsT:=List.take_of_length_le soM;simp(maxSteps:=9^9)(disch:=try exact dS)only[go_sem,rqA,hlt2,h2,h3,u8w,e,e2,tb,List.take_length,tz,hz];exact jIk z hz rfl rfl
theorem zFg (h1:LkC tab 191 xI)(h2:LkC tab 83 qQv)(v d m c:List UInt8)(hp:v.length≤64∧d.length≤4000∧m.length≤4000∧c.length≤4000) :
  qIl.1.wp tab gl (qD 0 [.t (.sl (v.map qA)),.t (.sl (d.map qA)),.t (.sl (m.map qA)),.t (.sl (c.map qA))]) (qD 0 []) (qY [(8,none)] 0 (qI5.K (v,d,m,c))):=by
 obtain⟨q1,q2,q3,q4⟩:=hp;obtain⟨y,hy,e⟩:=zXc (t:=10) (fs:=[d,m,c]) oM sM soM;simp only[mcn,bsT] at e;rw[show ((10:Nat):Int)=10 from rfl] at e;have e2:=zG4 (k:=v) (b:=y) ⟨q1,oM⟩;have lh:(zAw v y).length=32:=qDx;have th:(zAw v y).take 32=zAw v y:=List.take_of_length_le oM;simp(maxSteps:=9^9)(disch:=try exact dS)only[go_sem,qIl,h1,h2,e,e2,List.take_length,lh,th];exact jIn _ lh rfl rfl
theorem qY8  (c:Int) :
  qE0.1.wp tab gl (qD 0 [.t (.int .i64 c)]) (qD 0 []) (qY [(2,none)] 0 (qJn.K c)):=by
 simp +contextual(maxSteps:=9^9)(disch:=try exact dS)only[go_sem,qE0,↓qB,↓qC,qN]
 (repeat' (first | apply And.intro | intro _))<;>(try rfl)
 all_goals exact jJ5 _ trivial rfl rfl
theorem zCi  (r:Bool)(a b:Int) :
  qGk.1.wp tab gl (qD 0 [.t (.bool r),.t (.int .i64 a),.t (.int .i64 b)]) (qD 0 []) (qY [(6,none)] 0 (qJi.K (r,a,b))):=by
 cases r;all_goals simp(maxSteps:=9^9)(disch:=try exact dS)only[go_sem,qGk]
 all_goals exact jJw _ trivial rfl rfl
theorem qVw {g1}(h1:LkE tab 186 qMn g1){g2}(h2:LkE tab 187 qJk g2){g3}(h3:LkE tab 188 qMj g3)(s:St)(h:Int)(hp:s.Ok) :
  qAp.1.wp tab gl (qD 0 [.t (stA s),.t (.int .i64 h)]) (qD 0 []) (qY [(4,none)] 0 (qMl.K (s,h))):=by
 have e1 := @jDz g1 s.a.lk s.clk;obtain⟨v,_,e2⟩:=zVh (g:=g2) (h:=h) hp;obtain⟨w,_,e3⟩:=jDt (g:=g3) (l:=s.a.lk) (now:=s.clk) ⟨hp.a.lk,hp.clk⟩;simp only[stA,lkA] at e1 e2 e3;by_cases c:h=3
 ·subst c;simp(maxSteps:=9^9)(disch:=try exact dS)only[go_sem,qAp,stA,h1,e1];exact jDv _ trivial rfl rfl
 ·cases v;all_goals simp(maxSteps:=9^9)(disch:=try exact dS)only[go_sem,qAp,stA,h2,h3,e2,e3,c]
  all_goals exact jDv _ trivial rfl rfl
theorem qY9 {g1}(h1:LkE tab 189 qMo g1){g2}(h2:LkE tab 187 qJk g2){g3}(h3:LkE tab 190 qMk g3)(s:St)(h:Int)(ok:Bool)(hp:s.Ok) :
  wI.1.wp tab gl (qD 0 [.t (stA s),.t (.int .i64 h),.t (.bool ok)]) (qD 0 []) (qY [(6,(some (30,true))),(7,none)] 0 (qNt.K (s,h,ok))):=by
 cases ok
 rotate_left
 ·simp(maxSteps:=9^9)(disch:=try exact dS)only[go_sem,wI,stA];exact zTt s 0 ⟨s.a.lk,hp.a.lk,rfl⟩ rfl rfl
 obtain⟨l1,o1,e1⟩:=jD0 (g:=g1) (l:=s.a.lk) (now:=s.clk) ⟨hp.a.lk,hp.clk⟩;obtain⟨v,_,e2⟩:=zVh (g:=g2) (h:=h) hp;obtain⟨l3,o3,e3⟩:=jDu (g:=g3) (l:=s.a.lk) (now:=s.clk) ⟨hp.a.lk,hp.clk⟩;simp only[stA,lkA] at e1 e2 e3;by_cases c:h=3
 ·subst c;simp(maxSteps:=9^9)(disch:=try exact dS)only[go_sem,wI,stA,h1,e1,lkA];exact zTt (s.lkd l1) 9 ⟨l1,o1,rfl⟩ rfl rfl
 ·cases v
  ·simp(maxSteps:=9^9)(disch:=try exact dS)only[go_sem,wI,stA,h2,e2,c,lkA];exact zTt s 9 ⟨s.a.lk,hp.a.lk,rfl⟩ rfl rfl
  ·simp(maxSteps:=9^9)(disch:=try exact dS)only[go_sem,wI,stA,h2,h3,e2,e3,c,lkA];exact zTt (s.lkd l3) 9 ⟨l3,o3,rfl⟩ rfl rfl
theorem jD1 {a n:Int}(h:0≤a∧a≤31) : ∃ r:Int,(0≤r∧r≤31)∧qCv .and (.int .i64 a) (.int .i64 n)=some (.int .i64 r):=by
 obtain⟨a,rfl⟩:=Int.eq_ofNat_of_zero_le h.1;have ha:a≤31:=oM;have e:(BitVec.ofInt 64 (a:Int) &&& BitVec.ofInt 64 n).toNat≤a:=by
  rw[BitVec.toNat_and];refine Nat.le_trans Nat.and_le_left ?_;simp;omega
 refine⟨((BitVec.ofInt 64 (a:Int) &&& BitVec.ofInt 64 n).toNat:Int),oM,?_⟩;change some (T.int .i64 (IntKind.i64.wrap ((BitVec.ofInt 64 (a:Int) &&& BitVec.ofInt 64 n).toNat:Int)))=_;rw[xX oM]
theorem qVs {g1}(h1:LkE tab 248 qHe g1){g2}(h2:LkE tab 268 qNu g2){g3}(h3:LkE tab 269 qNa g3){g4}(h4:LkE tab 270 qL7 g4){g5}(h5:LkE tab 271 qLu g5)(h6:LkC tab 20 wA){g7}(h7:LkE tab 250 qFc g7){g8}(h8:LkE tab 166 qAv g8)(s:St)(h:Int)(a:Asr)(hp:s.Ok∧s.cn 1000000∧a.B∧tmI h) :
  zC.1.wp tab gl (qD 0 [.t (stA s),.t (.int .i64 h),.t (yX a)]) (qD 0 []) (qY [(6,(some (30,true))),(7,none)] 0 (qI0.K (s,h,a))):=by
 obtain⟨hs,hc,ha,q3⟩:=hp;obtain⟨k,hk,e1⟩:=zMy (g:=g1) (h:=h) ⟨hs.ses.1,q3⟩;obtain⟨w,_,e2⟩:=jHq (g:=g2) ha;rcases hk with rfl | ⟨k0,k1⟩
 ·simp only[stA] at e1;simp(maxSteps:=9^9)(disch:=try exact dS)only[go_sem,zC,stA,yX,h1,e1];exact wU default 8 oM rfl rfl
 obtain⟨x,hg,hm⟩:=qQ5 hs.ses.1 k0 k1;have hx:=hs.ses.2 x hm;have hd:=hx.2.2.1;obtain⟨y,b,e,⟨hy,hb⟩,e3⟩:=jE8 (g:=g3) ⟨hs,hx,ha⟩;obtain⟨ei,_,e4⟩:=jDd (g:=g4) ⟨hs,hc,ha⟩;obtain⟨r5,_,e5⟩:=jCe (g:=g5) (o:=a.op) (a:=s.clk) (b:=a.n);have put : ∀ x':Ses,x'.Ok → ∃ t:St,s.Go 0 t∧qAv.fs g8 [.t (stA s),.t (.int .i64 k),.t (zZ x')] []=some (.t (stA t),[]):=fun x' hx'=>⟨_,St.sput_go hs hx',qW2 ⟨hs.ses.1,k0,k1⟩⟩
 obtain⟨da,la,ea⟩:=zAo (g:=g7) (d:=x.dg) (a:=a) ⟨oM,ha⟩;obtain⟨db,lb,eb⟩:=zAo (g:=g7) (d:=y.dg) (a:=b) ⟨by have:=hy.2.2.1;omega,hb⟩;obtain⟨lo,hlo,elo⟩:=jD1 (n:=a.n) hx.2.2.2.1;obtain⟨t1,j1,f1⟩:=put { y with dg:=db } ⟨hy.1,hy.2.1,lb,hy.2.2.2⟩;obtain⟨t2,j2,f2⟩:=put { x with dg:=da,lo:=lo } ⟨hx.1,hx.2.1,la,hlo,hx.2.2.2.2⟩;obtain⟨t3,j3,f3⟩:=put { x with dg:=da,cm:=a.n } ⟨hx.1,hx.2.1,la,hx.2.2.2⟩;obtain⟨t4,j4,f4⟩:=put { x with dg:=da } ⟨hx.1,hx.2.1,la,hx.2.2.2⟩;obtain⟨t5,j5,f5⟩:=put { x with dg:=da,av:=true } ⟨hx.1,hx.2.1,la,hx.2.2.2⟩;have hbr:=ha.2.2.2.2;obtain⟨xk,xn,xd,xu,xl,xc,xt,xv⟩:=x;obtain⟨kd,s0,s1,dg,n,op,od,nm,rf,br⟩:=a;simp only[stA,zZ,yX] at *;by_cases c1:kd=1
 ·subst c1;simp +contextual(maxSteps:=9^9)(disch:=try exact dS)only[go_sem,zC,stA,yX,h1,e1,k0,h2,e2,hg,oms,zZ,h3,e3,h7,eb,h8,f1,↓qB,↓qC,qN]
  (repeat' (first | apply And.intro | intro _))<;>(try rfl)
  all_goals first | exact wU default w (fun e=>absurd e ‹_›) rfl rfl | exact wU default e (fun e=>absurd e ‹_›) rfl rfl | exact wU t1 0 (fun _=>j1) rfl rfl | skip
 by_cases c2:kd=2
 ·subst c2;simp +contextual(maxSteps:=9^9)(disch:=try exact dS)only[go_sem,zC,stA,yX,h1,e1,k0,h2,e2,hg,oms,zZ,↓elo,h7,ea,h8,f2,↓qB,↓qC,qN]
  (repeat' (first | apply And.intro | intro _))<;>(try rfl)
  all_goals first | exact wU default w (fun e=>absurd e ‹_›) rfl rfl | exact wU t2 0 (fun _=>j2) rfl rfl | skip
 by_cases c3:kd=3
 ·subst c3;clear c1 c2;by_cases d1:xk=2
  ·subst d1;by_cases d2:xc=0
   ·subst d2;simp +contextual(maxSteps:=9^9)(disch:=try exact dS)only[go_sem,zC,stA,yX,h1,e1,k0,h2,e2,hg,oms,zZ,h7,ea,h8,f3,↓qB,↓qC,qN]
    (repeat' (first | apply And.intro | intro _))<;>(try rfl)
    all_goals first | exact wU default w (fun e=>absurd e ‹_›) rfl rfl | exact wU t3 0 (fun _=>j3) rfl rfl | skip
   ·by_cases d3:xc=n
    ·subst d3;simp +contextual(maxSteps:=9^9)(disch:=try exact dS)only[go_sem,zC,stA,yX,h1,e1,k0,h2,e2,hg,oms,zZ,h7,ea,h8,f3,d2,↓qB,↓qC,qN]
     (repeat' (first | apply And.intro | intro _))<;>(try rfl)
     all_goals first | exact wU default w (fun e=>absurd e ‹_›) rfl rfl | exact wU t3 0 (fun _=>j3) rfl rfl | skip
    ·simp +contextual(maxSteps:=9^9)(disch:=try exact dS)only[go_sem,zC,stA,yX,h1,e1,k0,h2,e2,hg,oms,zZ,d2,d3,↓qB,↓qC,qN]
     (repeat' (first | apply And.intro | intro _))<;>(try rfl)
     all_goals first | exact wU default w (fun e=>absurd e ‹_›) rfl rfl | exact wU default 16 oM rfl rfl | skip
  ·simp +contextual(maxSteps:=9^9)(disch:=try exact dS)only[go_sem,zC,stA,yX,h1,e1,k0,h2,e2,hg,oms,zZ,h7,ea,h8,f3,d1,↓qB,↓qC,qN]
   (repeat' (first | apply And.intro | intro _))<;>(try rfl)
   all_goals first | exact wU default w (fun e=>absurd e ‹_›) rfl rfl | exact wU t3 0 (fun _=>j3) rfl rfl | skip
 by_cases c4:kd=4
 ·subst c4;clear c1 c2 c3;by_cases d1:xk=2
  ·subst d1;simp +contextual(maxSteps:=9^9)(disch:=try exact dS)only[go_sem,zC,stA,yX,h1,e1,k0,h2,e2,hg,oms,zZ,h4,e4,h7,ea,h8,f4,↓qB,↓qC,qN]
   (repeat' (first | apply And.intro | intro _))<;>(try rfl)
   all_goals first | exact wU default w (fun e=>absurd e ‹_›) rfl rfl | exact wU default ei (fun e=>absurd e ‹_›) rfl rfl | exact wU t4 0 (fun _=>j4) rfl rfl | skip
  ·simp +contextual(maxSteps:=9^9)(disch:=try exact dS)only[go_sem,zC,stA,yX,h1,e1,k0,h2,e2,hg,oms,zZ,h4,e4,h7,ea,h8,f4,d1,↓qB,↓qC,qN]
   (repeat' (first | apply And.intro | intro _))<;>(try rfl)
   all_goals first | exact wU default w (fun e=>absurd e ‹_›) rfl rfl | exact wU t4 0 (fun _=>j4) rfl rfl | skip
 by_cases c5:kd=5
 ·subst c5;clear c1 c2 c3 c4;by_cases d1:xk=2
  ·subst d1;obtain⟨sf,hsf⟩ : ∃ b,s.safe=b:=⟨_,rfl⟩;rw[hsf] at e1 f4;cases sf
   ·skip
    simp +contextual(maxSteps:=9^9)(disch:=try exact dS)only[go_sem,zC,stA,yX,h1,e1,k0,h2,e2,hg,oms,zZ,hsf,↓qB,↓qC,qN]
    (repeat' (first | apply And.intro | intro _))<;>(try rfl)
    all_goals first | exact wU default w (fun e=>absurd e ‹_›) rfl rfl | exact wU default 16 oM rfl rfl | skip
   ·cases r5;all_goals
     simp +contextual(maxSteps:=9^9)(disch:=try exact dS)only[go_sem,zC,stA,yX,h1,e1,k0,h2,e2,hg,oms,zZ,hsf,h5,e5,h7,ea,h8,f4,↓qB,↓qC,qN]
     (repeat' (first | apply And.intro | intro _))<;>(try rfl)
     all_goals first | exact wU default w (fun e=>absurd e ‹_›) rfl rfl | exact wU default 16 oM rfl rfl | exact wU t4 0 (fun _=>j4) rfl rfl | skip
  ·simp +contextual(maxSteps:=9^9)(disch:=try exact dS)only[go_sem,zC,stA,yX,h1,e1,k0,h2,e2,hg,oms,zZ,h5,e5,h7,ea,h8,f4,d1,↓qB,↓qC,qN]
   (repeat' (first | apply And.intro | intro _))<;>(try rfl)
   all_goals first | exact wU default w (fun e=>absurd e ‹_›) rfl rfl | exact wU default 16 oM rfl rfl | exact wU t4 0 (fun _=>j4) rfl rfl | skip
 by_cases c7:kd=7
 ·subst c7;simp +contextual(maxSteps:=9^9)(disch:=try exact dS)only[go_sem,zC,stA,yX,h1,e1,k0,h2,e2,hg,oms,zZ,h7,ea,h8,f5,↓qB,↓qC,qN]
  (repeat' (first | apply And.intro | intro _))<;>(try rfl)
  all_goals first | exact wU default w (fun e=>absurd e ‹_›) rfl rfl | exact wU t5 0 (fun _=>j5) rfl rfl | skip
 by_cases c8:kd=8
 ·subst c8;clear c1 c2 c3 c4 c5 c7;simp +contextual(maxSteps:=9^9)(disch:=try exact dS)only[go_sem,zC,stA,yX,h1,e1,k0,h2,e2,hg,oms,zZ,↓qB,↓qC,qN];refine⟨fun c=>wU default w (fun e=>absurd e c) rfl rfl,fun c=>?_⟩;refine qW (σ:=Nat×Bool) (fun t=>t.1≤br.length) (fun t=>br.length-t.1) (fun t=>[(3,.ref 4096 0 0),(5,.ref 4112 0 0),(6,.ref 4128 0 0),(8,.t (.int .i64 k)),(10,.ref 32864 0 0),(11,.t (.bool (xk==2))),(12,.t (.int .i64 0)),(13,.t (.bool t.2)),(14,.t (.int .i64 t.1))])
   (fun t=>[(32864,.live 8 [.t (zZ ⟨xk,xn,xd,xu,xl,xc,xt,xv⟩)] true true),(4128,.live 30 [.agg [.nil,.nil,.nil,.t (.int .i64 0),.t (.int .i64 0),.t (.int .i64 0),.t (.int .i64 0),.t (.bool false),.nil,.t (.int .i64 0),.t (.int .i64 0),.nil,.t (.int .i64 0),.t (.int .i64 0),.t (.int .i64 0),.t (.int .i64 0),.t (.int .i64 0),.t (.int .i64 0),.nil,.t (.bool false),.t (.bool false),.nil,.t (.int .i64 0),.t (.int .i64 0),.t (.bool false),.t (.int .i64 0),.nil,.nil,.nil,.nil]] true true),(4112,.live 10 [.t (yX ⟨8,s0,s1,dg,n,op,od,nm,rf,br⟩)] true true),(4096,.live 30 [.t (stA s)] true true)]) (0,false) sM (qI.rd id ?_ ?_ rfl) ?_
  ·simp(maxSteps:=9^9)(disch:=try exact dS)only[go_sem,id,stA,yX,zZ]
  ·simp(maxSteps:=9^9)(disch:=try exact dS)only[go_sem,id,stA,yX,zZ]
  rintro⟨j,v⟩ hj;simp only at hj;by_cases hlt:j<br.length
  ·obtain⟨z,hgz,hmz,_⟩:=qQ hlt;have hz:=hbr.2 z hmz;have e6:=yG (a:=z) (b:=xd) ⟨oM,oM⟩;generalize decide (z=xd)=d at *;cases v
   ·simp(maxSteps:=9^9)(disch:=try exact dS)only[go_sem,stA,yX,zZ,hlt,hgz,h6,e6];repeat refine aiG ?_
    refine qAf.of (j+1,d) (by show j+1≤br.length;omega) (by show br.length-(j+1)<br.length-j;omega) (qI.rd id ?_ ?_ rfl);all_goals simp(maxSteps:=9^9)(disch:=try exact dS)only[go_sem,id,stA,yX,zZ]
   ·simp(maxSteps:=9^9)(disch:=try exact dS)only[go_sem,stA,yX,zZ,hlt,hgz,h6,e6];repeat refine aiG ?_
    refine qAf.of (j+1,true) (by show j+1≤br.length;omega) (by show br.length-(j+1)<br.length-j;omega) (qI.rd id ?_ ?_ rfl);all_goals simp(maxSteps:=9^9)(disch:=try exact dS)only[go_sem,id,stA,yX,zZ]
  ·by_cases d1:xk=2
   ·subst d1;cases v;all_goals
     simp(maxSteps:=9^9)(disch:=try exact dS)only[go_sem,stA,yX,zZ,hlt,h7,ea,h8,f4,BEq.rfl];first | exact wU t4 0 (fun _=>j4) rfl rfl | exact wU default 16 oM rfl rfl
   ·have d2:(xk==2)=false:=by simpa using d1
    cases v;all_goals
     simp(maxSteps:=9^9)(disch:=try exact dS)only[go_sem,stA,yX,zZ,hlt,h7,ea,h8,f4,d2];first | exact wU t4 0 (fun _=>j4) rfl rfl | exact wU default 16 oM rfl rfl
 ·simp +contextual(maxSteps:=9^9)(disch:=try exact dS)only[go_sem,zC,stA,yX,h1,e1,k0,h2,e2,hg,oms,zZ,c1,c2,c3,c4,c5,c7,c8,h7,ea,h8,f4,↓qB,↓qC,qN]
  (repeat' (first | apply And.intro | intro _))<;>(try rfl)
  all_goals first | exact wU default w (fun e=>absurd e ‹_›) rfl rfl | exact wU t4 0 (fun _=>j4) rfl rfl | skip
end Go.Eng
end
