/- A part of an abstract machine, its walks, their tie. -/
import Derived.Test.YtlhjonbjbiafaaaGreatDoorU27
import Derived.Test.YtlhjonbjbiafaaaGreatDoorU22
import Derived.Test.YtlhjonbjbiafaaaGreatDoorU16
import Derived.Test.YtlhjonbjbiafaaaGreatDoorU20
import Derived.Test.YtlhjonbjbiafaaaGreatDoorU26
import Derived.Test.YtlhjonbjbiafaaaGreatDoorU24
set_option linter.all false
section
set_option maxHeartbeats 64000000
set_option maxRecDepth 20000
namespace Go.Eng
variable (tab:Tab) (gl:Gl)
variable {vv:V} {oo:List Ob}
def zGj:Ct where
 α:=List Obj
 aS x:=[.t (.sl (x.map qBv))]
 ins _:=[]
 pre x:=x≠[]∧x.length≤1000
 r x:= .sl 0 0 x.length
 outs x:=[.live 9 ((x.map qBv).map V.t) true false]
 inj:=by
  intro a b h _;simp only[List.cons.injEq,V.t.injEq,T.sl.injEq,and_true,zM2] at h;subst h;exact⟨rfl,rfl⟩
theorem jCv {x:List Obj}(h:x≠[]∧x.length≤1000):zGj.fs [.t (.sl (x.map qBv))] []=some (.sl 0 0 x.length,[.live 9 ((x.map qBv).map V.t) true false]):=zGj.eq x h
theorem qRk (x:List Obj)(hx:x≠[]∧x.length≤1000):zX.1.wp tab gl (qF 0 [.t (.sl (x.map qBv))]) (qF 0 []) (kU [] [(2,none)] 0 (fun r o=>r = .sl 0 0 x.length∧o=[.live 9 ((x.map qBv).map V.t) true false])):=by
 match x,hx with
 | [],hx=>exact absurd rfl hx.1
 | a::r,hx=>
  have hz:=jIg (l:=a::r);simp only[List.length_cons] at hx;simp only[List.map_cons] at hz;simp(maxSteps:=9^9)(disch:=try exact dS)only[go_sem,zX,List.map_cons,hz];exact⟨hz,trivial⟩
def frO:List Obj→Nat→Int
 | [],_ => -1
 | x::r,k=>if x.p.kd=0 then (k:Int) else frO r (k+1)
def qMh (s:St)(x:Obj):St×Int×Int:=if frO s.obs 0 = -1 then (s,0,25) else ({ s with obs:=s.obs.set (frO s.obs 0).toNat x },512+frO s.obs 0,0)
def qLr:ECt where
 α:=St×Obj
 β:=St×Int×Int
 aS:=fun (s,x)=>[.t (stA s),.t (qBv x)]
 pre:=fun (s,x)=>s.obs.length=3
 r:=fun (t,h,e)=> .tup [.t (stA t),.t (.int .i64 h),.t (.int .i64 e)]
 R:=fun (s,x) (t,h,e)=>(t,h,e)=qMh s x
theorem jEt {g:EF qLr}{s:St}{x:Obj}(hp:s.obs.length=3) : ∃ (t:St) (h e:Int),((t,h,e)=qMh s x)∧qLr.fs g [.t (stA s),.t (qBv x)] []=some (.tup [.t (stA t),.t (.int .i64 h),.t (.int .i64 e)],[]):=by
 obtain⟨y,h1,h2⟩:=qLr.eq g (s,x) hp;exact⟨y.1,y.2.1,y.2.2,h1,h2⟩
theorem zBn {s:St}{x:Obj}(t:St)(h e:Int)(hR:(t,h,e)=qMh s x)(hV:vv = .tup [.t (stA t),.t (.int .i64 h),.t (.int .i64 e)])(hO:oo=[]):qLr.K (s,x) vv oo:=⟨(t,h,e),hR,hV,hO⟩
theorem qZo (h1:LkC tab 184 zGj)(s:St)(x:Obj)(hp:s.obs.length=3) :
  qEv.1.wp tab gl (qF 0 [.t (stA s),.t (qBv x)]) (qF 0 []) (zD [(4,(some (30,true))),(5,none),(6,none)] 0 (qLr.K (s,x))):=by
 have e:=jCv (x:=s.obs) ⟨by intro h;rw[h] at hp;exact absurd hp (by decide),oM⟩;rw[hp] at e;simp(maxSteps:=9^9)(disch:=try exact dS)only[go_sem,qEv,stA,qBv,hp];refine jV (σ:=Nat) (fun j=>j≤3∧frO (s.obs.drop j) j=frO s.obs 0) (fun j=>3-j) (fun j=>[(2,.ref 4096 0 0),(3,.ref 4112 0 0),(4,.ref 4128 0 0),(11,.t (.sl (s.obs.map qBv))),(12,.t (.int .i64 3)),(13,.t (.int .i64 j))]) (fun j=>[(4128,.live 30 [.agg [.nil,.nil,.nil,.t (.int .i64 0),.t (.int .i64 0),.t (.int .i64 0),.t (.int .i64 0),.t (.bool false),.nil,.t (.int .i64 0),.t (.int .i64 0),.nil,.t (.int .i64 0),.t (.int .i64 0),.t (.int .i64 0),.t (.int .i64 0),.t (.int .i64 0),.t (.int .i64 0),.nil,.t (.bool false),.t (.bool false),.nil,.t (.int .i64 0),.t (.int .i64 0),.t (.bool false),.t (.int .i64 0),.nil,.nil,.nil,.nil]] true true),(4112,.live 9 [.t (qBv x)] true true),(4096,.live 30 [.t (stA s)] true true)]) 0 ⟨oM,rfl⟩ (qJ.rd id ?_ ?_ rfl) ?_
 ·simp(maxSteps:=9^9)(disch:=try exact dS)only[go_sem,id,stA,qBv,hp]
 ·simp(maxSteps:=9^9)(disch:=try exact dS)only[go_sem,id,stA,qBv]
 rintro j ⟨hj,hF⟩;by_cases hlt:j<3
 ·obtain⟨y,hg,hm,hdr⟩:=qX (l:=s.obs) (k:=j) oM;rw[hdr,frO] at hF;by_cases c3:y.p.kd=0
  ·rw[if_pos c3] at hF;simp(maxSteps:=9^9)(disch:=try exact dS)only[go_sem,stA,qBv,hp,hlt,hg,oms,c3,h1,e,jIg];first | exact (zBn { s with obs:=s.obs.set j x } ((512+j:Nat):Int) 0 (by rw[qMh,←hF,if_neg oM,Int.toNat_natCast,show ((512+j:Nat):Int)=512+(j:Int) by omega]) (by rw[List.take_of_length_le (by simp[hp])];simp only[stA,List.map_set,qBv]) rfl) | exact⟨rfl,(zBn { s with obs:=s.obs.set j x } ((512+j:Nat):Int) 0 (by rw[qMh,←hF,if_neg oM,Int.toNat_natCast,show ((512+j:Nat):Int)=512+(j:Int) by omega]) (by rw[List.take_of_length_le (by simp[hp])];simp only[stA,List.map_set,qBv]) rfl)⟩ | exact⟨rfl,rfl,(zBn { s with obs:=s.obs.set j x } ((512+j:Nat):Int) 0 (by rw[qMh,←hF,if_neg oM,Int.toNat_natCast,show ((512+j:Nat):Int)=512+(j:Int) by omega]) (by rw[List.take_of_length_le (by simp[hp])];simp only[stA,List.map_set,qBv]) rfl)⟩ | exact⟨rfl,rfl,rfl,(zBn { s with obs:=s.obs.set j x } ((512+j:Nat):Int) 0 (by rw[qMh,←hF,if_neg oM,Int.toNat_natCast,show ((512+j:Nat):Int)=512+(j:Int) by omega]) (by rw[List.take_of_length_le (by simp[hp])];simp only[stA,List.map_set,qBv]) rfl)⟩
  ·rw[if_neg c3] at hF;simp(maxSteps:=9^9)(disch:=try exact dS)only[go_sem,stA,qBv,hp,hlt,hg,oms,c3];refine qMg.of (j+1) ⟨oM,hF⟩ oM (qJ.rd id ?_ ?_ rfl);all_goals simp(maxSteps:=9^9)(disch:=try exact dS)only[go_sem,id,stA,qBv]
 ·have e3:j=3:=oM;subst e3;rw[List.drop_eq_nil_of_le oM,frO] at hF;simp(maxSteps:=9^9)(disch:=try exact dS)only[go_sem,stA,qBv,hp];first | exact (zBn s 0 25 (by rw[qMh,←hF,if_pos rfl]) rfl rfl) | exact⟨rfl,(zBn s 0 25 (by rw[qMh,←hF,if_pos rfl]) rfl rfl)⟩ | exact⟨rfl,rfl,(zBn s 0 25 (by rw[qMh,←hF,if_pos rfl]) rfl rfl)⟩ | exact⟨rfl,rfl,rfl,(zBn s 0 25 (by rw[qMh,←hF,if_pos rfl]) rfl rfl)⟩
def qLu:ECt where
 α:=St×Rq
 β:=St×Rs
 aS:=fun (s,q)=>[.t (stA s),.t (rqA q)]
 pre:=fun (s,q)=>s.En ∧ ∃ h ss v,q=qC (.un h ss v)∧tmI h∧(qA5 s h).2=0
 r:=fun (t,r)=> .tup [.t (stA t),.t (rsA r)]
 R:=fun (s,q) (t,r)=>t=s ∧ ∀ h ss v,q=qC (.un h ss v)→r=⟨0,[],[(qA5 s h).1.s.da],[]⟩
theorem jEw {g:EF qLu}{s:St}{q:Rq}(hp:s.En ∧ ∃ h ss v,q=qC (.un h ss v)∧tmI h∧(qA5 s h).2=0) : ∃ (t:St) (r:Rs),(t=s ∧ ∀ h ss v,q=qC (.un h ss v)→r=⟨0,[],[(qA5 s h).1.s.da],[]⟩)∧qLu.fs g [.t (stA s),.t (rqA q)] []=some (.tup [.t (stA t),.t (rsA r)],[]):=by
 obtain⟨y,h1,h2⟩:=qLu.eq g (s,q) hp;exact⟨y.1,y.2,h1,h2⟩
theorem zR8 {s:St}{q:Rq}(t:St)(r:Rs)(hR:t=s ∧ ∀ h ss v,q=qC (.un h ss v)→r=⟨0,[],[(qA5 s h).1.s.da],[]⟩)(hV:vv = .tup [.t (stA t),.t (rsA r)])(hO:oo=[]):qLu.K (s,q) vv oo:=⟨(t,r),hR,hV,hO⟩
def qGm:ECt where
 α:=Rq
 β:=Int
 aS:=fun q=>[.t (rqA q)]
 pre:=fun q=>1≤q.hs.length
 r:=fun r'=> .t (.int .i64 r')
 R:=fun q r'=>r'=q.h0
theorem zV5 {g:EF qGm}{q:Rq}(hp:1≤q.hs.length):qGm.fs g [.t (rqA q)] []=some (.t (.int .i64 (q.h0)),[]):=fnQ qGm q hp
theorem zR6 {q:Rq}(hV:vv = .t (.int .i64 (q.h0)))(hO:oo=[]):qGm.K q vv oo:=⟨_,rfl,hV,hO⟩
theorem qVs  (q:Rq)(hp:1≤q.hs.length) :
  qDc.1.wp tab gl (qF 0 [.t (rqA q)]) (qF 0 []) (zD [(2,none)] 0 (qGm.K q)):=by
 obtain⟨co,hs,au,ns,bl⟩:=q;cases hs with
 | nil=>simp at hp
 | cons a r=>
  simp only[List.length_cons] at hp;simp(maxSteps:=9^9)(disch:=try exact dS)only[go_sem,qDc,rqA,iT,List.map_cons];first | exact (zR6 rfl rfl) | exact⟨rfl,(zR6 rfl rfl)⟩ | exact⟨rfl,rfl,(zR6 rfl rfl)⟩ | exact⟨rfl,rfl,rfl,(zR6 rfl rfl)⟩
theorem qUq {g1}(h1:LkE tab 205 qGm g1){g2}(h2:LkE tab 142 qE9 g2)(s:St)(q:Rq)(hp:s.En ∧ ∃ h ss v,q=qC (.un h ss v)∧tmI h∧(qA5 s h).2=0) :
  qCf.1.wp tab gl (qF 0 [.t (stA s),.t (rqA q)]) (qF 0 []) (zD [(4,(some (30,true))),(5,(some (4,true)))] 0 (qLu.K (s,q))):=by
 obtain⟨he,h,ss,v,rfl,ht,h0⟩:=hp;have e1:=zV5 (g:=g1) (q:=qC (.un h ss v)) (by simp[qC]);obtain⟨x,ex,q2,e2⟩:=zGy (g:=g2) (s:=s) (h:=h) ⟨he.obs.1,ht⟩;obtain⟨po,un,au,sd,da,hh,hx,l1,l2,l3,l4⟩:=zLj he.obs h0;have hx':qA5 s h=(⟨⟨3,0,0,po,un⟩,⟨au,sd,da⟩,hh⟩,0):=Prod.ext hx h0;rw[hx'] at q2;cases q2;have hK : ∀ h' ss' v',qC (.un h ss v)=qC (.un h' ss' v')→(⟨0,[],[da],[]⟩:Rs)=⟨0,[],[(qA5 s h').1.s.da],[]⟩:=fun h' _ _ g=>by rw[←(vJ g).1,hx]
 simp only[stA,qBv,rqA,qC,azA,iT,mcn,Rq.h0,List.getD_cons_zero] at e1 e2;simp(maxSteps:=9^9)(disch:=try exact dS)only[go_sem,qCf,stA,qBv,rqA,qC,azA,iT,mcn,h1,h2,e1,e2];first | exact (zR8 s ⟨0,[],[da],[]⟩ ⟨rfl,hK⟩ rfl rfl) | exact⟨rfl,(zR8 s ⟨0,[],[da],[]⟩ ⟨rfl,hK⟩ rfl rfl)⟩ | exact⟨rfl,rfl,(zR8 s ⟨0,[],[da],[]⟩ ⟨rfl,hK⟩ rfl rfl)⟩ | exact⟨rfl,rfl,rfl,(zR8 s ⟨0,[],[da],[]⟩ ⟨rfl,hK⟩ rfl rfl)⟩
def qLs:ECt where
 α:=Rq×Int
 β:=Int
 aS:=fun (q,i)=>[.t (rqA q),.t (.int .i64 i)]
 pre:=fun (q,i)=>0≤i
 r:=fun r'=> .t (.int .i64 r')
 R:=fun (q,i) r'=>r'=q.ns.getD i.toNat 0
theorem zM0 {g:EF qLs}{q:Rq}{i:Int}(hp:0≤i):qLs.fs g [.t (rqA q),.t (.int .i64 i)] []=some (.t (.int .i64 (q.ns.getD i.toNat 0)),[]):=fnQ qLs (q,i) hp
theorem zBo {q:Rq}{i:Int}(hV:vv = .t (.int .i64 (q.ns.getD i.toNat 0)))(hO:oo=[]):qLs.K (q,i) vv oo:=⟨_,rfl,hV,hO⟩
theorem qUr  (q:Rq)(i:Int)(hp:0≤i) :
  xI.1.wp tab gl (qF 0 [.t (rqA q),.t (.int .i64 i)]) (qF 0 []) (zD [(4,none)] 0 (qLs.K (q,i))):=by
 obtain⟨n,rfl⟩:=Int.eq_ofNat_of_zero_le hp;by_cases c:n<q.ns.length
 ·obtain⟨x,hg,_⟩:=qX c;have hd:q.ns.getD n 0=x:=by rw[List.getD_eq_getElem?_getD,hg];rfl
  simp(maxSteps:=9^9)(disch:=try exact dS)only[go_sem,xI,rqA,c,hg,oms,iT];first | exact (zBo (by rw[Int.toNat_natCast,hd]) rfl) | exact⟨rfl,(zBo (by rw[Int.toNat_natCast,hd]) rfl)⟩ | exact⟨rfl,rfl,(zBo (by rw[Int.toNat_natCast,hd]) rfl)⟩ | exact⟨rfl,rfl,rfl,(zBo (by rw[Int.toNat_natCast,hd]) rfl)⟩
 ·have hd:q.ns.getD n 0=0:=by rw[List.getD_eq_getElem?_getD,List.getElem?_eq_none oM];rfl
  simp(maxSteps:=9^9)(disch:=try exact dS)only[go_sem,xI,rqA,c];first | exact (zBo (by rw[Int.toNat_natCast,hd]) rfl) | exact⟨rfl,(zBo (by rw[Int.toNat_natCast,hd]) rfl)⟩ | exact⟨rfl,rfl,(zBo (by rw[Int.toNat_natCast,hd]) rfl)⟩ | exact⟨rfl,rfl,rfl,(zBo (by rw[Int.toNat_natCast,hd]) rfl)⟩
def qFa:ECt where
 α:=Rq×Int
 β:=List UInt8
 aS:=fun (q,i)=>[.t (rqA q),.t (.int .i64 i)]
 pre:=fun (q,i)=>0≤i
 r:=fun r'=> .t (.sl (r'.map qA))
 R:=fun (q,i) r'=>r'=q.bl.getD i.toNat []
theorem zMz {g:EF qFa}{q:Rq}{i:Int}(hp:0≤i):qFa.fs g [.t (rqA q),.t (.int .i64 i)] []=some (.t (.sl ((q.bl.getD i.toNat []).map qA)),[]):=fnQ qFa (q,i) hp
theorem zBm {q:Rq}{i:Int}(hV:vv = .t (.sl ((q.bl.getD i.toNat []).map qA)))(hO:oo=[]):qFa.K (q,i) vv oo:=⟨_,rfl,hV,hO⟩
theorem qZn  (q:Rq)(i:Int)(hp:0≤i) :
  qBr.1.wp tab gl (qF 0 [.t (rqA q),.t (.int .i64 i)]) (qF 0 []) (zD [(4,none)] 0 (qFa.K (q,i))):=by
 obtain⟨n,rfl⟩:=Int.eq_ofNat_of_zero_le hp;by_cases c:n<q.bl.length
 ·obtain⟨x,hg,_⟩:=qX c;have hd:q.bl.getD n []=x:=by rw[List.getD_eq_getElem?_getD,hg];rfl
  simp(maxSteps:=9^9)(disch:=try exact dS)only[go_sem,qBr,rqA,c,hg,oms];first | exact (zBm (by rw[Int.toNat_natCast,hd]) rfl) | exact⟨rfl,(zBm (by rw[Int.toNat_natCast,hd]) rfl)⟩ | exact⟨rfl,rfl,(zBm (by rw[Int.toNat_natCast,hd]) rfl)⟩ | exact⟨rfl,rfl,rfl,(zBm (by rw[Int.toNat_natCast,hd]) rfl)⟩
 ·have hd:q.bl.getD n []=[]:=by rw[List.getD_eq_getElem?_getD,List.getElem?_eq_none oM];rfl
  simp(maxSteps:=9^9)(disch:=try exact dS)only[go_sem,qBr,rqA,c];first | exact (zBm (by rw[Int.toNat_natCast,hd];rfl) rfl) | exact⟨rfl,(zBm (by rw[Int.toNat_natCast,hd];rfl) rfl)⟩ | exact⟨rfl,rfl,(zBm (by rw[Int.toNat_natCast,hd];rfl) rfl)⟩ | exact⟨rfl,rfl,rfl,(zBm (by rw[Int.toNat_natCast,hd];rfl) rfl)⟩
def qIt:ECt where
 α:=Rq
 β:=Pu
 aS:=fun q=>[.t (rqA q)]
 pre:=fun q=>True
 r:=fun r'=> .t (puA r')
 R:=fun q r'=>r'=⟨q.ns.getD 0 0,q.ns.getD 1 0,q.ns.getD 2 0,q.bl.getD 0 [],[]⟩
theorem jEv {g:EF qIt}{q:Rq}(hp:True):qIt.fs g [.t (rqA q)] []=some (.t (puA (⟨q.ns.getD 0 0,q.ns.getD 1 0,q.ns.getD 2 0,q.bl.getD 0 [],[]⟩)),[]):=fnQ qIt q hp
theorem zR7 {q:Rq}(hV:vv = .t (puA (⟨q.ns.getD 0 0,q.ns.getD 1 0,q.ns.getD 2 0,q.bl.getD 0 [],[]⟩)))(hO:oo=[]):qIt.K q vv oo:=⟨_,rfl,hV,hO⟩
theorem qP0 {g1}(h1:LkE tab 182 qLs g1){g2}(h2:LkE tab 207 qFa g2)(q:Rq)(hp:True) :
  qAn.1.wp tab gl (qF 0 [.t (rqA q)]) (qF 0 []) (zD [(2,(some (5,true)))] 0 (qIt.K q)):=by
 have e0:=zM0 (g:=g1) (q:=q) (i:=0) oM;have e1:=zM0 (g:=g1) (q:=q) (i:=1) oM;have e2:=zM0 (g:=g1) (q:=q) (i:=2) oM;have e3:=zMz (g:=g2) (q:=q) (i:=0) oM;simp only[rqA] at e0 e1 e2 e3;simp(maxSteps:=9^9)(disch:=try exact dS)only[go_sem,qAn,rqA,h1,h2,e0,e1,e2,e3];first | exact (zR7 rfl rfl) | exact⟨rfl,(zR7 rfl rfl)⟩ | exact⟨rfl,rfl,(zR7 rfl rfl)⟩ | exact⟨rfl,rfl,rfl,(zR7 rfl rfl)⟩
def jLz (k:List UInt8)(p:Pu)(au da:List UInt8):Prop:=k.length≤64∧(∃ po,p=⟨3,0,0,po,[]⟩∧po.length=32)∧au.length≤32∧da.length≤128
def qI3:ECt where
 α:=List UInt8×Pu×List UInt8×List UInt8
 β:=Pu×Sn×Int
 aS:=fun (k,p,au,da)=>[.t (.sl (k.map qA)),.t (puA p),.t (.sl (au.map qA)),.t (.sl (da.map qA))]
 pre:=fun (k,p,au,da)=>jLz k p au da
 r:=fun (y,z,e)=> .tup [.t (puA y),.t (snA z),.t (.int .i64 e)]
 R:=fun (k,p,au,da) (y,z,e)=>e=0∧y=⟨3,0,0,p.po,qZc (qQo k) da⟩∧z=⟨au,qQo k,da⟩
theorem jH0 {g:EF qI3}{k:List UInt8}{p:Pu}{au da:List UInt8}(hp:jLz k p au da) : ∃ (y:Pu) (z:Sn) (e:Int),(e=0∧y=⟨3,0,0,p.po,qZc (qQo k) da⟩∧z=⟨au,qQo k,da⟩)∧qI3.fs g [.t (.sl (k.map qA)),.t (puA p),.t (.sl (au.map qA)),.t (.sl (da.map qA))] []=some (.tup [.t (puA y),.t (snA z),.t (.int .i64 e)],[]):=by
 obtain⟨y,h1,h2⟩:=qI3.eq g (k,p,au,da) hp;exact⟨y.1,y.2.1,y.2.2,h1,h2⟩
theorem jL0 {k:List UInt8}{p:Pu}{au da:List UInt8}(y:Pu)(z:Sn)(e:Int)(hR:e=0∧y=⟨3,0,0,p.po,qZc (qQo k) da⟩∧z=⟨au,qQo k,da⟩)(hV:vv = .tup [.t (puA y),.t (snA z),.t (.int .i64 e)])(hO:oo=[]):qI3.K (k,p,au,da) vv oo:=⟨(y,z,e),hR,hV,hO⟩
theorem zFd (h1:LkC tab 259 zVa)(h2:LkC tab 188 qXz)(h3:LkC tab 72 qS0)(h4:LkC tab 260 zGo)(k:List UInt8)(p:Pu)(au da:List UInt8)(hp:jLz k p au da) :
  qD8.1.wp tab gl (qF 0 [.t (.sl (k.map qA)),.t (puA p),.t (.sl (au.map qA)),.t (.sl (da.map qA))]) (qF 0 []) (zD [(8,(some (5,true))),(9,(some (3,true))),(10,none)] 0 (qI3.K (k,p,au,da))):=by
 obtain⟨hs,⟨po,rfl,hp⟩,ha,hd⟩:=hp;have hC:=zZa (p:=po) (u:=List.replicate 32 0) ⟨hp,sM⟩;have t32:List.take 32 (List.replicate 32 (0:UInt8))=List.replicate 32 0:=rfl;have hD:=zXo hs;have lS:(qQo k).length=32:=kA;have hU:=jGz (a:=au) (s:=qQo k) (d:=da) ⟨oM,oM⟩;have lU:=qG5 (s:=qQo k) (d:=da);have tU:List.take 32 (qZc (qQo k) da)=qZc (qQo k) da:=List.take_of_length_le oM;have hK : ∀ vv,vv = .tup [.t (puA ⟨3,0,0,po,qZc (qQo k) da⟩),.t (snA ⟨au,qQo k,da⟩),.t (.int .i64 0)]→qI3.K (k,⟨3,0,0,po,[]⟩,au,da) vv []:=fun vv h=>jL0 _ _ 0 ⟨rfl,rfl,rfl⟩ h rfl
 generalize qZc (qQo k) da=u at *;generalize qQo k=s at *;by_cases h0:0<da.length
 ·simp(maxSteps:=9^9)(disch:=try exact dS)only[go_sem,qD8,puA,h1,h2,hC,t32,hd,ha,h0,h3,hD,h4,hU,tU,lU,List.map_nil];first | exact (hK _ rfl) | exact⟨rfl,(hK _ rfl)⟩ | exact⟨rfl,rfl,(hK _ rfl)⟩ | exact⟨rfl,rfl,rfl,(hK _ rfl)⟩
 ·simp(maxSteps:=9^9)(disch:=try exact dS)only[go_sem,qD8,puA,h1,h2,hC,t32,hd,ha,h0,h3,hD,h4,hU,tU,lU,List.map_nil];first | exact (hK _ rfl) | exact⟨rfl,(hK _ rfl)⟩ | exact⟨rfl,rfl,(hK _ rfl)⟩ | exact⟨rfl,rfl,rfl,(hK _ rfl)⟩
def jIp:List UInt8:=[112,114,105,109,97,114,121]
def qMl (s:St)(h:Int)(po da:List UInt8):List UInt8:=drv (s.a.sd.getD h.toNat []) jIp (zB 0 [[3,0,0],po,da]) 32
def qHk (s:St)(h:Int)(po au da:List UInt8):Obj:=⟨⟨3,0,0,po,qZc (qQo (qMl s h po da)) da⟩,⟨au,qQo (qMl s h po da),da⟩,h⟩
def qNp (s:St)(h:Int)(po au da:List UInt8):St×Rs:=
 let x:=qHk s h po au da
 if frO s.obs 0 = -1 then (s,⟨25,[],[],[]⟩) else ((qMh s x).1,⟨0,[512+frO s.obs 0],[zAz x.p.po x.p.un,qYi x.p.po x.p.un],[]⟩)
theorem zZe {h h':Int}{po po' au au' da da':List UInt8}(e:qC (.pr h po au da)=qC (.pr h' po' au' da')):h=h'∧po=po'∧au=au'∧da=da':=by
 simp only[qC,Rq.mk.injEq,List.cons.injEq,and_true,true_and] at e;exact⟨e.1,e.2⟩
def PrP (s:St)(h:Int)(po au da:List UInt8):Prop:=(s.obs.length=3 ∧ ¬ frO s.obs 0 = -1)∧(s.a.sd.length=3 ∧ ∀ x∈s.a.sd,x.length=32)∧(0≤h∧h≤2)∧po.length=32∧au.length≤32∧da.length≤60
def qLt:ECt where
 α:=St×Rq
 β:=St×Rs
 aS:=fun (s,q)=>[.t (stA s),.t (rqA q)]
 pre:=fun (s,q) => ∃ h po au da,q=qC (.pr h po au da)∧PrP s h po au da
 r:=fun (t,r)=> .tup [.t (stA t),.t (rsA r)]
 R:=fun (s,q) (t,r) => ∀ h po au da,q=qC (.pr h po au da)→(t,r)=qNp s h po au da
theorem jEu {g:EF qLt}{s:St}{q:Rq}(hp : ∃ h po au da,q=qC (.pr h po au da)∧PrP s h po au da) : ∃ (t:St) (r:Rs),(∀ h po au da,q=qC (.pr h po au da)→(t,r)=qNp s h po au da)∧qLt.fs g [.t (stA s),.t (rqA q)] []=some (.tup [.t (stA t),.t (rsA r)],[]):=by
 obtain⟨y,h1,h2⟩:=qLt.eq g (s,q) hp;exact⟨y.1,y.2,h1,h2⟩
theorem jKg {s:St}{q:Rq}(t:St)(r:Rs)(hR : ∀ h po au da,q=qC (.pr h po au da)→(t,r)=qNp s h po au da)(hV:vv = .tup [.t (stA t),.t (rsA r)])(hO:oo=[]):qLt.K (s,q) vv oo:=⟨(t,r),hR,hV,hO⟩
theorem qRd {g1}(h1:LkE tab 205 qGm g1){g3}(h3:LkE tab 206 qIt g3){g4}(h4:LkE tab 207 qFa g4)(h5:LkC tab 132 qEa)(h6:LkC tab 72 qS0){g7}(h7:LkE tab 208 qI3 g7){g8}(h8:LkE tab 209 qLr g8)(h9:LkC tab 210 qS1)(h10:LkC tab 193 qS2)(s:St)(q:Rq)(hp : ∃ h po au da,q=qC (.pr h po au da)∧PrP s h po au da) :
  qBg.1.wp tab gl (qF 0 [.t (stA s),.t (rqA q)]) (qF 0 []) (zD [(4,(some (30,true))),(5,(some (4,true)))] 0 (qLt.K (s,q))):=by
 obtain⟨h,po,au,da,rfl,⟨hl,hf⟩,⟨hs3,hs⟩,hh,lp,la,ld⟩:=hp;obtain⟨n,rfl⟩:=Int.eq_ofNat_of_zero_le hh.1;obtain⟨sd,hg,hm,_⟩:=qX (l:=s.a.sd) (k:=n) oM;have lsd:=hs sd hm;have hsd:s.a.sd.getD n []=sd:=by rw[List.getD_eq_getElem?_getD,hg];rfl
 have e1:qGm.fs g1 [.t (rqA (qC (.pr n po au da)))] []=some (.t (.int .i64 n),[]):=zV5 (by simp[qC]);have e3:qIt.fs g3 [.t (rqA (qC (.pr n po au da)))] []=some (.t (puA ⟨3,0,0,po,[]⟩),[]):=jEv trivial;have e4:qFa.fs g4 [.t (rqA (qC (.pr n po au da))),.t (.int .i64 2)] []=some (.t (.sl (da.map qA)),[]):=zMz oM;have e5:qFa.fs g4 [.t (rqA (qC (.pr n po au da))),.t (.int .i64 1)] []=some (.t (.sl (au.map qA)),[]):=zMz oM;have e6:=qRw (t:=0) (fs:=[[3,0,0],po,da]) ⟨oM,by simp[zB,qBt];omega⟩;have lf:(zB 0 [[3,0,0],po,da]).length≤1000:=by simp[zB,qBt];omega
 have hsec:qMl s n po da=drv sd jIp (zB 0 [[3,0,0],po,da]) 32:=by rw[qMl,Int.toNat_natCast,hsd]
 have tf:List.take (zB 0 [[3,0,0],po,da]).length (zB 0 [[3,0,0],po,da])=zB 0 [[3,0,0],po,da]:=List.take_length;have e7:=zGv (k:=sd) (l:=jIp) (c:=zB 0 [[3,0,0],po,da]) (n:=32) ⟨oM,by decide,oM,oM,oM⟩;rw[←hsec] at e7;have lsec:(qMl s n po da).length=32:=kA;obtain⟨y,z,e,⟨q1,q2,q3⟩,e8⟩:=jH0 (g:=g7) (k:=qMl s n po da) (p:=⟨3,0,0,po,[]⟩) (au:=au) (da:=da) ⟨oM,⟨po,rfl,lp⟩,la,oM⟩;subst q1 q2 q3;obtain⟨t,k,e,q9,e9⟩:=jEt (g:=g8) (s:=s) (x:=qHk s n po au da) hl;have hF:qNp s n po au da=if frO s.obs 0 = -1 then (s,⟨25,[],[],[]⟩) else ((qMh s (qHk s n po au da)).1,⟨0,[512+frO s.obs 0],[zAz po (qZc (qQo (qMl s n po da)) da),qYi po (qZc (qQo (qMl s n po da)) da)],[]⟩):=rfl
 have lu:=qG5 (s:=qQo (qMl s n po da)) (d:=da);simp only[qHk] at e9 q9 hF;generalize qZc (qQo (qMl s n po da)) da=u at *;generalize qQo (qMl s n po da)=mk at *;generalize qMl s n po da=sec at *;generalize zB 0 [[3,0,0],po,da]=fr at *;have e10:=zM7 (p:=po) (u:=u) ⟨lp,lu⟩;have e11:=zM8 (p:=po) (u:=u) ⟨lp,lu⟩;have le:=qGu (p:=po) (u:=u) ⟨lp,lu⟩;have te:List.take 71 (zAz po u)=zAz po u:=List.take_of_length_le oM;have hK : ∀ t r,(t,r)=qNp s n po au da → ∀ h' po' au' da',qC (.pr n po au da)=qC (.pr h' po' au' da')→(t,r)=qNp s h' po' au' da':=by
  intro t r h h' po' au' da' g;obtain⟨rfl,rfl,rfl,rfl⟩:=zZe g;exact h
 have zz:((0:Nat):Int)=0:=rfl;have z32':((32:Nat):Int)=32:=rfl;have k3:T.int .u8 (IntKind.u8.wrap 3)=qA 3:=rfl;have k0:T.int .u8 (IntKind.u8.wrap 0)=qA 0:=rfl;simp only[stA,qBv,rqA,puA,snA,qC,azA,iT,mcn,qO,zz,z32',jIp] at e1 e3 e4 e5 e6 e7 e8 e9;rw[if_neg hf] at hF;rw[qMh,if_neg hf] at q9 hF;simp only[Prod.mk.injEq] at q9;obtain⟨rfl,rfl,rfl⟩:=q9;simp(maxSteps:=9^9)(disch:=try exact dS)only[go_sem,qBg,stA,qBv,rqA,puA,snA,qC,azA,iT,mcn,qO,hs3,hg,oms,h1,h3,h4,h5,h6,h7,h8,h9,h10,e1,e3,e4,e5,e6,e7,e8,e9,e10,e11,k3,k0,tf,te];repeat refine aiG ?_
 exact jKg _ _ (hK _ _ hF.symm) rfl rfl
def qBm:ECt where
 α:=St×Int
 β:=St×Rs
 aS:=fun (s,e)=>[.t (stA s),.t (.int .i64 e)]
 pre:=fun (s,e)=>True
 r:=fun (t,r)=> .tup [.t (stA t),.t (rsA r)]
 R:=fun (s,e) (t,r)=>t=s∧r=⟨e,[],[],[]⟩
theorem zV1 {g:EF qBm}{s:St}{e:Int} : ∃ (t:St) (r:Rs),(t=s∧r=⟨e,[],[],[]⟩)∧qBm.fs g [.t (stA s),.t (.int .i64 e)] []=some (.tup [.t (stA t),.t (rsA r)],[]):=by
 obtain⟨y,h1,h2⟩:=qBm.eq g (s,e) trivial;exact⟨y.1,y.2,h1,h2⟩
theorem zRv {s:St}{e:Int}(t:St)(r:Rs)(hR:t=s∧r=⟨e,[],[],[]⟩)(hV:vv = .tup [.t (stA t),.t (rsA r)])(hO:oo=[]):qBm.K (s,e) vv oo:=⟨(t,r),hR,hV,hO⟩
theorem qZl  (s:St)(e:Int) :
  qEt.1.wp tab gl (qF 0 [.t (stA s),.t (.int .i64 e)]) (qF 0 []) (zD [(4,(some (30,true))),(5,(some (4,true)))] 0 (qBm.K (s,e))):=by
 simp(maxSteps:=9^9)(disch:=try exact dS)only[go_sem,qEt,stA];first | exact (zRv s ⟨e,[],[],[]⟩ ⟨rfl,rfl⟩ rfl rfl) | exact⟨rfl,(zRv s ⟨e,[],[],[]⟩ ⟨rfl,rfl⟩ rfl rfl)⟩ | exact⟨rfl,rfl,(zRv s ⟨e,[],[],[]⟩ ⟨rfl,rfl⟩ rfl rfl)⟩ | exact⟨rfl,rfl,rfl,(zRv s ⟨e,[],[],[]⟩ ⟨rfl,rfl⟩ rfl rfl)⟩
def qGl:ECt where
 α:=St×St×Int
 β:=St×Rs
 aS:=fun (s,c,e)=>[.t (stA s),.t (stA c),.t (.int .i64 e)]
 pre:=fun (s,c,e)=>True
 r:=fun (t,r)=> .tup [.t (stA t),.t (rsA r)]
 R:=fun (s,c,e) (t,r)=>(t,r)=if e=0 then (c,⟨0,[],[],[]⟩) else (s,⟨e,[],[],[]⟩)
theorem zV0 {g:EF qGl}{s c:St}{e:Int} : ∃ (t:St) (r:Rs),((t,r)=if e=0 then (c,⟨0,[],[],[]⟩) else (s,⟨e,[],[],[]⟩))∧qGl.fs g [.t (stA s),.t (stA c),.t (.int .i64 e)] []=some (.tup [.t (stA t),.t (rsA r)],[]):=by
 obtain⟨y,h1,h2⟩:=qGl.eq g (s,c,e) trivial;exact⟨y.1,y.2,h1,h2⟩
theorem zBh {s c:St}{e:Int}(t:St)(r:Rs)(hR:(t,r)=if e=0 then (c,⟨0,[],[],[]⟩) else (s,⟨e,[],[],[]⟩))(hV:vv = .tup [.t (stA t),.t (rsA r)])(hO:oo=[]):qGl.K (s,c,e) vv oo:=⟨(t,r),hR,hV,hO⟩
theorem qZk {g1}(h1:LkE tab 123 qBm g1)(s c:St)(e:Int) :
  qBq.1.wp tab gl (qF 0 [.t (stA s),.t (stA c),.t (.int .i64 e)]) (qF 0 []) (zD [(6,(some (30,true))),(7,(some (4,true)))] 0 (qGl.K (s,c,e))):=by
 obtain⟨t,r,⟨rfl,rfl⟩,c1⟩:=zV1 (g:=g1) (s:=s) (e:=e);simp only[stA,rsA,List.map_nil] at c1;by_cases c0:e=0
 ·subst c0;simp(maxSteps:=9^9)(disch:=try exact dS)only[go_sem,qBq,stA];first | exact (zBh c ⟨0,[],[],[]⟩ rfl rfl rfl) | exact⟨rfl,(zBh c ⟨0,[],[],[]⟩ rfl rfl rfl)⟩ | exact⟨rfl,rfl,(zBh c ⟨0,[],[],[]⟩ rfl rfl rfl)⟩ | exact⟨rfl,rfl,rfl,(zBh c ⟨0,[],[],[]⟩ rfl rfl rfl)⟩
 ·simp(maxSteps:=9^9)(disch:=try exact dS)only[go_sem,qBq,stA,h1,c1,c0];first | exact (zBh _ ⟨e,[],[],[]⟩ (by rw[if_neg c0]) rfl rfl) | exact⟨rfl,(zBh _ ⟨e,[],[],[]⟩ (by rw[if_neg c0]) rfl rfl)⟩ | exact⟨rfl,rfl,(zBh _ ⟨e,[],[],[]⟩ (by rw[if_neg c0]) rfl rfl)⟩ | exact⟨rfl,rfl,rfl,(zBh _ ⟨e,[],[],[]⟩ (by rw[if_neg c0]) rfl rfl)⟩
theorem zQ4 : ∀ {l:List Ses} {k:Nat},frS l k = -1∨((k:Int)≤frS l k∧frS l k<k+l.length)
 | [],k=> .inl rfl
 | x::r,k=>by
  unfold frS;have ih := @zQ4 r (k+1);simp only[List.length_cons];split<;>omega
def OpP (s:St):Prop:=(s.a.en.length=32∧(0≤s.dr∧s.dr≤1000000))∧s.ses.length=3 ∧ ¬ frS s.ses 0 = -1
theorem zTw {s:St}{k:Int}(h:OpP s)(hk:k≠0):qBw (qRz s k).1 (768+frS s.ses 0)=(frS s.ses 0,nwS s k,true):=by
 have hr := @zQ4 s.ses 0;have hl:=h.2.1;have hf:0≤frS s.ses 0∧frS s.ses 0≤2:=by have:=h.2.2;omega
 rw[qRz,if_neg h.2.2];have hs:(768+frS s.ses 0-768)=frS s.ses 0:=oM;have hn:(frS s.ses 0).toNat<s.ses.length:=oM;have hg:(s.ses.set (frS s.ses 0).toNat (nwS s k)).getD (frS s.ses 0).toNat qB5=nwS s k:=by
  rw[List.getD_eq_getElem?_getD,List.getElem?_set_self hn];rfl
 have hp:zWj { s with dr:=s.dr+1,ses:=s.ses.set (frS s.ses 0).toNat (nwS s k) } (768+frS s.ses 0)=frS s.ses 0:=by
  unfold zWj;rw[if_neg oM,hs,hg,if_neg (by simpa [nwS] using hk)]
 rw[qBw,hp,if_neg h.2.2,hs,hg]
def qLn:ECt where
 α:=St×Rq
 β:=St×Rs
 aS:=fun (s,q)=>[.t (stA s),.t (rqA q)]
 pre:=fun (s,q)=>OpP s ∧ ∃ k,q=qC (.op k)∧2≤k∧k≤3
 r:=fun (t,r)=> .tup [.t (stA t),.t (rsA r)]
 R:=fun (s,q) (t,r) => ∀ k,q=qC (.op k)→t=(qRz s k).1∧r=⟨0,[768+frS s.ses 0],[qR1 s 16],[]⟩
theorem jEh {g:EF qLn}{s:St}{q:Rq}(hp:OpP s ∧ ∃ k,q=qC (.op k)∧2≤k∧k≤3) : ∃ (t:St) (r:Rs),(∀ k,q=qC (.op k)→t=(qRz s k).1∧r=⟨0,[768+frS s.ses 0],[qR1 s 16],[]⟩)∧qLn.fs g [.t (stA s),.t (rqA q)] []=some (.tup [.t (stA t),.t (rsA r)],[]):=by
 obtain⟨y,h1,h2⟩:=qLn.eq g (s,q) hp;exact⟨y.1,y.2,h1,h2⟩
theorem zRw {s:St}{q:Rq}(t:St)(r:Rs)(hR : ∀ k,q=qC (.op k)→t=(qRz s k).1∧r=⟨0,[768+frS s.ses 0],[qR1 s 16],[]⟩)(hV:vv = .tup [.t (stA t),.t (rsA r)])(hO:oo=[]):qLn.K (s,q) vv oo:=⟨(t,r),hR,hV,hO⟩
theorem qZm {g1}(h1:LkE tab 185 qL2 g1){g2}(h2:LkE tab 123 qBm g2){g3}(h3:LkE tab 153 qFb g3)(s:St)(q:Rq)(hp:OpP s ∧ ∃ k,q=qC (.op k)∧2≤k∧k≤3) :
  qEu.1.wp tab gl (qF 0 [.t (stA s),.t (rqA q)]) (qF 0 []) (zD [(4,(some (30,true))),(5,(some (4,true)))] 0 (qLn.K (s,q))):=by
 obtain⟨ho,k,rfl,k2,k3⟩:=hp;obtain⟨t,h,e,q1,c1⟩:=jFy (g:=g1) (s:=s) (k:=k) ⟨ho.1,ho.2.1,oM,k3⟩;have hr := @zQ4 s.ses 0;have hl:=ho.2.1;have hn:=ho.2.2;have q2:t=(qRz s k).1∧h=768+frS s.ses 0∧e=0:=by
  rw[qRz,if_neg hn] at q1;simp only[Prod.mk.injEq] at q1;rw[qRz,if_neg hn];exact q1
 obtain⟨q2,rfl,rfl⟩:=q2;have lt:t.ses.length=3:=by rw[q2,qRz,if_neg hn];simp[hl]
 obtain⟨x,ex,q3,c3⟩:=zHi (g:=g3) (s:=t) (h:=768+frS s.ses 0) ⟨lt,oM⟩;have hq:qBw t (768+frS s.ses 0)=(frS s.ses 0,nwS s k,true):=by rw[q2];exact zTw ho oM
 rw[hq,if_pos rfl] at q3;cases q3;have hK : ∀ k',qC (.op k)=qC (.op k')→t=(qRz s k').1∧(⟨0,[768+frS s.ses 0],[qR1 s 16],[]⟩:Rs)=⟨0,[768+frS s.ses 0],[qR1 s 16],[]⟩:=by
  intro k' g;simp only[qC,Rq.mk.injEq,List.cons.injEq,and_true,true_and] at g;exact⟨by rw[←g];exact q2,rfl⟩
 clear q1 q2 hq;simp only[stA,jX,nwS] at c1 c3;simp(maxSteps:=9^9)(disch:=try exact dS)only[go_sem,qEu,stA,rqA,qC,iT,mcn,h1,h3,c1,c3];first | exact (zRw t ⟨0,[768+frS s.ses 0],[qR1 s 16],[]⟩ hK rfl rfl) | exact⟨rfl,(zRw t ⟨0,[768+frS s.ses 0],[qR1 s 16],[]⟩ hK rfl rfl)⟩ | exact⟨rfl,rfl,(zRw t ⟨0,[768+frS s.ses 0],[qR1 s 16],[]⟩ hK rfl rfl)⟩ | exact⟨rfl,rfl,rfl,(zRw t ⟨0,[768+frS s.ses 0],[qR1 s 16],[]⟩ hK rfl rfl)⟩
def evS (s:St)(i:Int)(d:List UInt8):St := { s with bk:=evB s.bk i.toNat d,u:=s.u+1 }
def EvP (s:St):Prop:=ShA 2 s.bk∧(0≤s.u∧s.u≤1000000)
theorem ShA.on_t {bk:List qY}(h:ShA 2 bk):onB bk 0=false∧onB bk 1=true:=by
 obtain⟨b0,b1,rfl,h0,h1,-,-⟩:=h;constructor
 ·show decide (List.length b0=16)=_;rw[h0];decide
 ·show decide (List.length b1=16)=_;rw[h1];decide
theorem jHl {bk:List qY}{u b i:Int}(h:RM bk):zGq.fs [.t (.agg [.sl (bk.map wQ),.int .i64 u]),.t (.int .i64 b),.t (.int .i64 i)] []=some (jA6 bk b i,jA5 bk b i):=zGq.eq (bk,u,b,i) h
def qLp:ECt where
 α:=St×Int×Rq
 β:=St×Rs
 aS:=fun (s,lo,q)=>[.t (stA s),.t (.int .i64 lo),.t (rqA q)]
 pre:=fun (s,lo,q)=>EvP s∧lo=4 ∧ ∃ i d,q=qC (.ev i d)∧(0≤i∧i≤15)∧d.length≤100
 r:=fun (t,r)=> .tup [.t (stA t),.t (rsA r)]
 R:=fun (s,lo,q) (t,r) => ∀ i d,q=qC (.ev i d)→t=evS s i d∧r=⟨0,[],[[],jC d],[]⟩
theorem jEj {g:EF qLp}{s:St}{lo:Int}{q:Rq}(hp:EvP s∧lo=4 ∧ ∃ i d,q=qC (.ev i d)∧(0≤i∧i≤15)∧d.length≤100) : ∃ (t:St) (r:Rs),(∀ i d,q=qC (.ev i d)→t=evS s i d∧r=⟨0,[],[[],jC d],[]⟩)∧qLp.fs g [.t (stA s),.t (.int .i64 lo),.t (rqA q)] []=some (.tup [.t (stA t),.t (rsA r)],[]):=by
 obtain⟨y,h1,h2⟩:=qLp.eq g (s,lo,q) hp;exact⟨y.1,y.2,h1,h2⟩
theorem zRx {s:St}{lo:Int}{q:Rq}(t:St)(r:Rs)(hR : ∀ i d,q=qC (.ev i d)→t=evS s i d∧r=⟨0,[],[[],jC d],[]⟩)(hV:vv = .tup [.t (stA t),.t (rsA r)])(hO:oo=[]):qLp.K (s,lo,q) vv oo:=⟨(t,r),hR,hV,hO⟩
theorem qPz (h1:LkC tab 178 zGq){g2}(h2:LkE tab 123 qBm g2)(h3:LkC tab 179 kM)(h4:LkC tab 130 xV)(h5:LkC tab 180 zDy)(h6:LkC tab 181 qM7)(s:St)(lo:Int)(q:Rq)(hp:EvP s∧lo=4 ∧ ∃ i d,q=qC (.ev i d)∧(0≤i∧i≤15)∧d.length≤100) :
  qAm.1.wp tab gl (qF 0 [.t (stA s),.t (.int .i64 lo),.t (rqA q)]) (qF 0 []) (zD [(6,(some (30,true))),(7,(some (4,true)))] 0 (qLp.K (s,lo,q))):=by
 obtain⟨⟨hb,hu⟩,rfl,i,d,rfl,hi,hd⟩:=hp;obtain⟨o0,o1⟩:=hb.on_t;have e0:=jHl (u:=s.u) (b:=0) (i:=0) hb.rv.rm;have e1:=jHl (u:=s.u) (b:=1) (i:=0) hb.rv.rm;have b0 : ¬ zPy 0 0:=by decide
 have b1 : ¬ zPy 1 0:=by decide
 rw[jA6,jA5,if_neg b0,if_neg b0,show (0:Int).toNat=0 from rfl,o0,if_neg (by decide),if_neg (by decide)] at e0;rw[jA6,jA5,if_neg b1,if_neg b1,show (1:Int).toNat=1 from rfl,o1,if_pos rfl,if_pos rfl] at e1;have e2:=qP (bs:=d) oM;have e3:=zVi (u:=s.u) (i:=i) (data:=d) hb.rv oM oM oM;have hK : ∀ i' d',qC (.ev i d)=qC (.ev i' d')→evS s i d=evS s i' d'∧(⟨0,[],[[],jC d],[]⟩:Rs)=⟨0,[],[[],jC d'],[]⟩:=by
  intro i' d' g;simp only[qC,Rq.mk.injEq,List.cons.injEq,and_true,true_and] at g;rw[g.1,g.2];exact⟨rfl,rfl⟩
 have lS:(jC d).length=32:=qN;have tS:List.take 32 (jC d)=jC d:=jA;have hT:evS s i d = { s with bk:=evB s.bk i.toNat d,u:=s.u+1 }:=rfl;rw[hT] at hK;clear hT;generalize evB s.bk i.toNat d=nb at *;generalize jC d=S at *;generalize zDb s.bk 1 (Int.toNat 0)=w at *;simp(maxSteps:=9^9)(disch:=try exact dS)only[go_sem,qAm,stA,rqA,qC,iT,mcn,qO];refine qB 2 (fun k=>[(1,.t (.int .i64 4)),(3,.ref 4096 0 0),(5,.ref 4112 0 0),(6,.ref 4128 0 0),(7,.ref 4144 0 0),(8,.ref 8240 0 0),(10,.ref 16384 0 0),(77,.t (.int .i64 (k:Nat)))])
  (fun k=>match k with
   | 0=>[(16384,.live 4 [.agg [.t (.int .i64 0),.nil,.nil,.nil]] true true),(8240,.live 2 [.t (.agg [.sl (s.bk.map wQ),.int .i64 s.u])] true true),(4144,.live 4 [.agg [.t (.int .i64 0),.nil,.nil,.nil]] true true),(4128,.live 30 [.agg [.nil,.nil,.nil,.t (.int .i64 0),.t (.int .i64 0),.t (.int .i64 0),.t (.int .i64 0),.t (.bool false),.nil,.t (.int .i64 0),.t (.int .i64 0),.nil,.t (.int .i64 0),.t (.int .i64 0),.t (.int .i64 0),.t (.int .i64 0),.t (.int .i64 0),.t (.int .i64 0),.nil,.t (.bool false),.t (.bool false),.nil,.t (.int .i64 0),.t (.int .i64 0),.t (.bool false),.t (.int .i64 0),.nil,.nil,.nil,.nil]] true true),(4112,.live 5 [.t (.agg [.int .i64 7,.sl [],.sl [],.sl [.int .i64 i],.sl [.sl (d.map qA)]])] true true),(4096,.live 30 [.t (stA s)] true true)]
   | 1=>[(9000,.live 1 [.nil] true false),(16384,.live 4 [.agg [.t (.int .i64 0),.nil,.sl 9000 0 1,.nil]] true true),(8240,.live 2 [.t (.agg [.sl (s.bk.map wQ),.int .i64 s.u])] true true),(4144,.live 4 [.agg [.t (.int .i64 0),.nil,.nil,.nil]] true true),(4128,.live 30 [.agg [.nil,.nil,.nil,.t (.int .i64 0),.t (.int .i64 0),.t (.int .i64 0),.t (.int .i64 0),.t (.bool false),.nil,.t (.int .i64 0),.t (.int .i64 0),.nil,.t (.int .i64 0),.t (.int .i64 0),.t (.int .i64 0),.t (.int .i64 0),.t (.int .i64 0),.t (.int .i64 0),.nil,.t (.bool false),.t (.bool false),.nil,.t (.int .i64 0),.t (.int .i64 0),.t (.bool false),.t (.int .i64 0),.nil,.nil,.nil,.nil]] true true),(4112,.live 5 [.t (.agg [.int .i64 7,.sl [],.sl [],.sl [.int .i64 i],.sl [.sl (d.map qA)]])] true true),(4096,.live 30 [.t (stA s)] true true)]
   | _=>[(9000,.live 1 [.nil,.sl 9001 0 32] true false),(9001,.live 1 ((S.map qA).map V.t) true false),(16384,.live 4 [.agg [.t (.int .i64 0),.nil,.sl 9000 0 2,.nil]] true true),(8240,.live 2 [.t (.agg [.sl (s.bk.map wQ),.int .i64 s.u])] true true),(4144,.live 4 [.agg [.t (.int .i64 0),.nil,.nil,.nil]] true true),(4128,.live 30 [.agg [.nil,.nil,.nil,.t (.int .i64 0),.t (.int .i64 0),.t (.int .i64 0),.t (.int .i64 0),.t (.bool false),.nil,.t (.int .i64 0),.t (.int .i64 0),.nil,.t (.int .i64 0),.t (.int .i64 0),.t (.int .i64 0),.t (.int .i64 0),.t (.int .i64 0),.t (.int .i64 0),.nil,.t (.bool false),.t (.bool false),.nil,.t (.int .i64 0),.t (.int .i64 0),.t (.bool false),.t (.int .i64 0),.nil,.nil,.nil,.nil]] true true),(4112,.live 5 [.t (.agg [.int .i64 7,.sl [],.sl [],.sl [.int .i64 i],.sl [.sl (d.map qA)]])] true true),(4096,.live 30 [.t (stA s)] true true)])
  (qJ.rd id ?_ ?_ rfl) (fun k hk=>?_)
 ·simp(maxSteps:=9^9)(disch:=try exact dS)only[go_sem,id]
 ·simp(maxSteps:=9^9)(disch:=try exact dS)only[go_sem,id,stA]
 obtain rfl | rfl | rfl:k=0∨k=1∨k=2:=oM
 ·simp(maxSteps:=9^9)(disch:=try exact dS)only[go_sem,h1,h4,e0,stA];repeat refine aiG ?_
  refine qJ.rd (fun j=>if j=9000 then 90176 else j) ?_ ?_ rfl;all_goals simp(maxSteps:=9^9)(disch:=try exact dS)only[go_sem,id,stA]
 ·simp(maxSteps:=9^9)(disch:=try exact dS)only[go_sem,h1,h4,e1,e2,lS,tS,stA];repeat refine aiG ?_
  refine qJ.rd (fun j=>if j=9000 then 90176 else if j=9001 then 86096 else j) ?_ ?_ rfl;all_goals simp(maxSteps:=9^9)(disch:=try exact dS)only[go_sem,id,stA]
 ·simp(maxSteps:=9^9)(disch:=try exact dS)only[go_sem,h1,h4,h5,e1,e2,e3,lS,tS,stA];first | exact (zRx { s with bk:=nb,u:=s.u+1 } ⟨0,[],[[],S],[]⟩ hK rfl rfl) | exact⟨rfl,(zRx { s with bk:=nb,u:=s.u+1 } ⟨0,[],[[],S],[]⟩ hK rfl rfl)⟩ | exact⟨rfl,rfl,(zRx { s with bk:=nb,u:=s.u+1 } ⟨0,[],[[],S],[]⟩ hK rfl rfl)⟩ | exact⟨rfl,rfl,rfl,(zRx { s with bk:=nb,u:=s.u+1 } ⟨0,[],[[],S],[]⟩ hK rfl rfl)⟩
def qLk:ECt where
 α:=St×Rq
 β:=St×Rs
 aS:=fun (s,q)=>[.t (stA s),.t (rqA q)]
 pre:=fun (s,q)=>((RV s.bk∧0≤s.u)∧s.ses.length=3) ∧ ∃ h a,q=qC (.po h a)∧tmI h∧(qJx s h).2.2=true∧fmP a∧ckP s (qJx s h).2.1 a∧(qJx s h).2.1.dg.length=32
 r:=fun (t,r)=> .tup [.t (stA t),.t (rsA r)]
 R:=fun (s,q) (t,r) => ∀ h a,fmP a→q=qC (.po h a)→(t,r)=if (asF s h a).2=0 then ((asF s h a).1,⟨0,[],[],[]⟩) else (s,⟨(asF s h a).2,[],[],[]⟩)
theorem jEf {g:EF qLk}{s:St}{q:Rq}(hp:((RV s.bk∧0≤s.u)∧s.ses.length=3) ∧ ∃ h a,q=qC (.po h a)∧tmI h∧(qJx s h).2.2=true∧fmP a∧ckP s (qJx s h).2.1 a∧(qJx s h).2.1.dg.length=32) : ∃ (t:St) (r:Rs),(∀ h a,fmP a→q=qC (.po h a)→(t,r)=if (asF s h a).2=0 then ((asF s h a).1,⟨0,[],[],[]⟩) else (s,⟨(asF s h a).2,[],[],[]⟩))∧qLk.fs g [.t (stA s),.t (rqA q)] []=some (.tup [.t (stA t),.t (rsA r)],[]):=by
 obtain⟨y,h1,h2⟩:=qLk.eq g (s,q) hp;exact⟨y.1,y.2,h1,h2⟩
theorem zBf {s:St}{q:Rq}(t:St)(r:Rs)(hR : ∀ h a,fmP a→q=qC (.po h a)→(t,r)=if (asF s h a).2=0 then ((asF s h a).1,⟨0,[],[],[]⟩) else (s,⟨(asF s h a).2,[],[],[]⟩))(hV:vv = .tup [.t (stA t),.t (rsA r)])(hO:oo=[]):qLk.K (s,q) vv oo:=⟨(t,r),hR,hV,hO⟩
theorem zNe {h h':Int}{a a':Av}(f:fmP a)(f':fmP a')(e:qC (.po h a)=qC (.po h' a')):h=h'∧a=a':=by
 cases a<;>cases a'<;>simp only[fmP] at f f'<;>simp[qC,avN,avB] at e;all_goals first | exact⟨e,rfl⟩ | (obtain⟨rfl,rfl⟩:=e;exact⟨rfl,rfl⟩) | (exact f.elim) | (exact f'.elim) | (obtain⟨rfl,rfl,rfl⟩:=e;exact⟨rfl,rfl⟩) | (obtain⟨⟨rfl,rfl,rfl⟩,rfl⟩:=e;exact⟨rfl,rfl⟩) | (exfalso;revert e;simp)
theorem qUp {g1}(h1:LkE tab 123 qBm g1){g2}(h2:LkE tab 143 qE8 g2){g3}(h3:LkE tab 186 qIm g3){g4}(h4:LkE tab 187 qLy g4){g5}(h5:LkE tab 145 qGl g5)(s:St)(q:Rq)(hp:((RV s.bk∧0≤s.u)∧s.ses.length=3) ∧ ∃ h a,q=qC (.po h a)∧tmI h∧(qJx s h).2.2=true∧fmP a∧ckP s (qJx s h).2.1 a∧(qJx s h).2.1.dg.length=32) :
  xH.1.wp tab gl (qF 0 [.t (stA s),.t (rqA q)]) (qF 0 []) (zD [(4,(some (30,true))),(5,(some (4,true)))] 0 (qLk.K (s,q))):=by
 obtain⟨hv,h,a,rfl,ht,hb,hf,hc,hd⟩:=hp;obtain⟨t,e,q1,c1⟩:=jFt (g:=g4) (s:=s) (h:=h) (a:=a) ⟨hv.1,⟨hv.2,ht⟩,hb,hf,hc,hd⟩;obtain⟨t',r',q2,c2⟩:=zV0 (g:=g5) (s:=s) (c:=t) (e:=e);have hK : ∀ h' a',fmP a'→qC (.po h a)=qC (.po h' a')→(t',r')=if (asF s h' a').2=0 then ((asF s h' a').1,⟨0,[],[],[]⟩) else (s,⟨(asF s h' a').2,[],[],[]⟩):=by
  intro h' a' f' g;obtain⟨rfl,rfl⟩:=zNe hf f' g;rw[q2,←q1]
 clear q1 q2 hc;simp only[stA,rsA] at c1 c2;cases a
 case idx=>exact hf.elim
 case apr=>exact hf.elim
 case reg s0 s1 d=>
  obtain⟨rfl,_,rfl⟩:=hf;simp only[avA,avL,List.map_nil] at c1;simp(maxSteps:=9^9)(disch:=try exact dS)only[go_sem,xH,stA,rsA,rqA,qC,avN,avB,iT,mcn,qO,h4,h5,c1,c2];first | exact (zBf t' r' hK rfl rfl) | exact⟨rfl,(zBf t' r' hK rfl rfl)⟩ | exact⟨rfl,rfl,(zBf t' r' hK rfl rfl)⟩ | exact⟨rfl,rfl,rfl,(zBf t' r' hK rfl rfl)⟩
 all_goals
  simp only[avA,avL,List.map_nil] at c1;simp(maxSteps:=9^9)(disch:=try exact dS)only[go_sem,xH,stA,rsA,rqA,qC,avN,avB,iT,mcn,qO,h4,h5,c1,c2];first | exact (zBf t' r' hK rfl rfl) | exact⟨rfl,(zBf t' r' hK rfl rfl)⟩ | exact⟨rfl,rfl,(zBf t' r' hK rfl rfl)⟩ | exact⟨rfl,rfl,rfl,(zBf t' r' hK rfl rfl)⟩
def vZ (s:St):Cm→St×Rs
 | .up=>(zCe s,⟨0,[],[],[]⟩)
 | .ev i d=>(evS s i d,⟨0,[],[[],jC d],[]⟩)
 | .op k=>((qRz s k).1,⟨0,[768+frS s.ses 0],[qR1 s 16],[]⟩)
 | .po h a=>if (asF s h a).2=0 then ((asF s h a).1,⟨0,[],[],[]⟩) else (s,⟨(asF s h a).2,[],[],[]⟩)
 | .pd h=>(s,⟨0,[],[(qBw s h).2.1.dg],[]⟩)
 | .pr h po au da=>qNp s h po au da
 | .un h ss _=>if ckE s h ss=0 then (qU5 s ss,⟨0,[],[(qA5 s h).1.s.da],[]⟩) else (s,⟨ckE s h ss,[],[],[]⟩)
 | _=>default
def CmP (s:St)(lo:Int):Cm→Prop
 | .up=>s.a.Ok∧s.cn 1000000∧s.on=false∧s.off=false
 | .ev i d=>EvP s∧lo=4∧(0≤i∧i≤15)∧d.length≤100
 | .op k=>OpP s∧2≤k∧k≤3
 | .po h a=>((RV s.bk∧0≤s.u)∧s.ses.length=3)∧tmI h∧(qJx s h).2.2=true∧fmP a∧ckP s (qJx s h).2.1 a∧(qJx s h).2.1.dg.length=32
 | .pd h=>s.ses.length=3∧tmI h∧(qBw s h).2.2=true∧(qBw s h).2.1.kd≠1
 | .pr h po au da=>PrP s h po au da
 | .un h ss v=>CkP s (qC (.un h ss v))∧(ckE s h ss=0→(qBw s ss).2.1.kd=2)∧s.En∧tmI h∧(qA5 s h).2=0
 | _=>False
theorem jE5 {s:St}{lo:Int}{c d:Cm}(hc:CmP s lo c)(hd:CmP s lo d)(e:qC c=qC d):c=d:=by
 cases c<;>cases d<;>simp only[CmP] at hc hd
 case po.po h a h' a'=>
  obtain⟨rfl,rfl⟩:=zNe hc.2.2.2.1 hd.2.2.2.1 e;rfl
 all_goals (simp[qC] at e)
 all_goals first | rfl | (subst e;rfl) | (obtain⟨rfl,rfl⟩:=e;rfl) | (obtain⟨rfl,rfl,rfl⟩:=e;rfl) | (obtain⟨rfl,rfl,rfl,rfl⟩:=e;rfl)
theorem zHp {s:St}{lo:Int}{c:Cm}(hc:CmP s lo c){t:St}{r:Rs}(h:(t,r)=vZ s c) : ∀ d,CmP s lo d→qC c=qC d→(t,r)=vZ s d:=by
 intro d hd e;rw[←jE5 hc hd e];exact h
def qLo:ECt where
 α:=St×Int×Rq
 β:=St×Rs
 aS:=fun (s,lo,q)=>[.t (stA s),.t (.int .i64 lo),.t (rqA q)]
 pre:=fun (s,lo,q) => ∃ c,q=qC c∧CmP s lo c∧(c = .up∨(∃ i d,c = .ev i d)∨(∃ k,c = .op k)∨(∃ h a,c = .po h a) ∨ ∃ h,c = .pd h)
 r:=fun (t,r)=> .tup [.t (stA t),.t (rsA r)]
 R:=fun (s,lo,q) (t,r) => ∀ d,CmP s lo d→q=qC d→(t,r)=vZ s d
theorem jEi {g:EF qLo}{s:St}{lo:Int}{q:Rq}(hp : ∃ c,q=qC c∧CmP s lo c∧(c = .up∨(∃ i d,c = .ev i d)∨(∃ k,c = .op k)∨(∃ h a,c = .po h a) ∨ ∃ h,c = .pd h)) : ∃ (t:St) (r:Rs),(∀ d,CmP s lo d→q=qC d→(t,r)=vZ s d)∧qLo.fs g [.t (stA s),.t (.int .i64 lo),.t (rqA q)] []=some (.tup [.t (stA t),.t (rsA r)],[]):=by
 obtain⟨y,h1,h2⟩:=qLo.eq g (s,lo,q) hp;exact⟨y.1,y.2,h1,h2⟩
theorem qFp {s:St}{lo:Int}{q:Rq}(t:St)(r:Rs)(hR : ∀ d,CmP s lo d→q=qC d→(t,r)=vZ s d)(hV:vv = .tup [.t (stA t),.t (rsA r)])(hO:oo=[]):qLo.K (s,lo,q) vv oo:=⟨(t,r),hR,hV,hO⟩
theorem qVr {g1}(h1:LkE tab 144 qTb g1){g2}(h2:LkE tab 145 qGl g2){g3}(h3:LkE tab 146 zLf g3){g4}(h4:LkE tab 147 qLp g4){g6}(h6:LkE tab 149 qLn g6){g7}(h7:LkE tab 150 qLk g7){g9}(h9:LkE tab 123 qBm g9){g11}(h11:LkE tab 153 qFb g11)(s:St)(lo:Int)(q:Rq)(hp : ∃ c,q=qC c∧CmP s lo c∧(c = .up∨(∃ i d,c = .ev i d)∨(∃ k,c = .op k)∨(∃ h a,c = .po h a) ∨ ∃ h,c = .pd h)) :
  yZ.1.wp tab gl (qF 0 [.t (stA s),.t (.int .i64 lo),.t (rqA q)]) (qF 0 []) (zD [(6,(some (30,true))),(7,(some (4,true)))] 0 (qLo.K (s,lo,q))):=by
 obtain⟨c,rfl,hc,hk⟩:=hp;have hS:=fun t r => @zHp s lo c hc t r
 rcases hk with rfl | ⟨i,d,rfl⟩ | ⟨k,rfl⟩ | ⟨h,a,rfl⟩ | ⟨h,rfl⟩
 ·obtain⟨ok,cn,on,off⟩:=hc;obtain⟨y,e,⟨q1,q2⟩,e1⟩:=jGi (g:=g1) (s:=s) (m:=0) ⟨ok,cn⟩;have hs:jB0 s 0=(zCe s,0):=by simp[jB0,on,off]
  rw[hs] at q1 q2;subst q1 q2;obtain⟨t,r,q3,e2⟩:=zV0 (g:=g2) (s:=s) (c:=zCe s) (e:=0);rw[if_pos rfl] at q3;have hK:=hS t r q3;clear hS q3 hs;simp only at e1;generalize zCe s=y at *;simp only[stA,rsA] at e1 e2;simp(maxSteps:=9^9)(disch:=try exact dS)only[go_sem,yZ,stA,rsA,rqA,qC,iT,mcn,h1,h2,e1,e2];first | exact (qFp t r hK rfl rfl) | exact⟨rfl,(qFp t r hK rfl rfl)⟩ | exact⟨rfl,rfl,(qFp t r hK rfl rfl)⟩ | exact⟨rfl,rfl,rfl,(qFp t r hK rfl rfl)⟩
 ·obtain⟨t,r,q,e1⟩:=jEj (g:=g4) (s:=s) (lo:=lo) (q:=qC (.ev i d)) ⟨hc.1,hc.2.1,i,d,rfl,hc.2.2⟩;obtain⟨rfl,rfl⟩:=q i d rfl;have hK:=hS _ _ rfl;simp only[vZ] at hK;clear hS q;generalize evS s i d=y at *;simp only[stA,rsA,rqA,qC,iT,mcn,qO] at e1;simp(maxSteps:=9^9)(disch:=try exact dS)only[go_sem,yZ,stA,rsA,rqA,qC,iT,mcn,qO,h4,e1];first | exact (qFp _ _ hK rfl rfl) | exact⟨rfl,(qFp _ _ hK rfl rfl)⟩ | exact⟨rfl,rfl,(qFp _ _ hK rfl rfl)⟩ | exact⟨rfl,rfl,rfl,(qFp _ _ hK rfl rfl)⟩
 ·obtain⟨t,r,q,e1⟩:=jEh (g:=g6) (s:=s) (q:=qC (.op k)) ⟨hc.1,k,rfl,hc.2⟩;obtain⟨rfl,rfl⟩:=q k rfl;have hK:=hS _ _ rfl;simp only[vZ] at hK;clear hS q;generalize (qRz s k).1=y at *;simp only[stA,rsA,rqA,qC,iT,mcn,qO] at e1;simp(maxSteps:=9^9)(disch:=try exact dS)only[go_sem,yZ,stA,rsA,rqA,qC,iT,mcn,qO,h6,e1];first | exact (qFp _ _ hK rfl rfl) | exact⟨rfl,(qFp _ _ hK rfl rfl)⟩ | exact⟨rfl,rfl,(qFp _ _ hK rfl rfl)⟩ | exact⟨rfl,rfl,rfl,(qFp _ _ hK rfl rfl)⟩
 ·obtain⟨t,r,q,e1⟩:=jEf (g:=g7) (s:=s) (q:=qC (.po h a)) ⟨hc.1,h,a,rfl,hc.2⟩;have hK:=hS t r (q h a hc.2.2.2.1 rfl);clear hS q;simp only[stA,rsA,rqA,qC,iT,mcn] at e1;simp(maxSteps:=9^9)(disch:=try exact dS)only[go_sem,yZ,stA,rsA,rqA,qC,iT,mcn,h7,e1];first | exact (qFp t r hK rfl rfl) | exact⟨rfl,(qFp t r hK rfl rfl)⟩ | exact⟨rfl,rfl,(qFp t r hK rfl rfl)⟩ | exact⟨rfl,rfl,rfl,(qFp t r hK rfl rfl)⟩
 ·obtain⟨x,ex,q,e1⟩:=zHi (g:=g11) (s:=s) (h:=h) ⟨hc.1,hc.2.1⟩;rw[if_pos hc.2.2.1] at q;cases q;have hk:=hc.2.2.2;have hK:=hS s ⟨0,[],[(qBw s h).2.1.dg],[]⟩ rfl;clear hS hc;generalize (qBw s h).2.1=x at *;simp only[stA,jX] at e1;simp(maxSteps:=9^9)(disch:=try exact dS)only[go_sem,yZ,stA,rsA,rqA,qC,iT,mcn,qO,h11,e1,hk];first | exact (qFp s ⟨0,[],[x.dg],[]⟩ hK rfl rfl) | exact⟨rfl,(qFp s ⟨0,[],[x.dg],[]⟩ hK rfl rfl)⟩ | exact⟨rfl,rfl,(qFp s ⟨0,[],[x.dg],[]⟩ hK rfl rfl)⟩ | exact⟨rfl,rfl,rfl,(qFp s ⟨0,[],[x.dg],[]⟩ hK rfl rfl)⟩
def plC (c:Cm):Prop:=c = .up∨(∃ i d,c = .ev i d)∨(∃ k,c = .op k)∨(∃ h a,c = .po h a) ∨ ∃ h,c = .pd h
def alP (s:St)(c:Cm):Prop:=plC c∨(s.En∧((∃ h po au da,c = .pr h po au da∧0≤h∧h≤2) ∨ ∃ h ss v,c = .un h ss v∧tmI h∧(qA5 s h).2=0))
def qLj:ECt where
 α:=St×Rq
 β:=Bool
 aS:=fun (s,q)=>[.t (stA s),.t (rqA q)]
 pre:=fun (s,q) => ∃ c,q=qC c∧alP s c
 r:=fun b=> .t (.bool b)
 R:=fun (s,q) b=>b=true
theorem jEe {g:EF qLj}{s:St}{q:Rq}(hp : ∃ c,q=qC c∧alP s c) : ∃ (b:Bool),(b=true)∧qLj.fs g [.t (stA s),.t (rqA q)] []=some (.t (.bool b),[]):=qLj.eq g (s,q) hp
theorem qQ0 {s:St}{q:Rq}(b:Bool)(hR:b=true)(hV:vv = .t (.bool b))(hO:oo=[]):qLj.K (s,q) vv oo:=⟨b,hR,hV,hO⟩
theorem qRc {g1}(h1:LkE tab 141 qGi g1){g2}(h2:LkE tab 142 qE9 g2){g3}(h3:LkE tab 143 qE8 g3)(s:St)(q:Rq)(hp : ∃ c,q=qC c∧alP s c) :
  wE.1.wp tab gl (qF 0 [.t (stA s),.t (rqA q)]) (qF 0 []) (zD [(4,none)] 0 (qLj.K (s,q))):=by
 obtain⟨c,rfl,hc⟩:=hp;rcases hc with hk | ⟨he,⟨h,po,au,da,rfl,h0,h2'⟩ | ⟨h,ss,v,rfl,ht,ho⟩⟩
 ·rcases hk with rfl | ⟨i,d,rfl⟩ | ⟨k,rfl⟩ | ⟨h,a,rfl⟩ | ⟨h,rfl⟩;all_goals
   simp(maxSteps:=9^9)(disch:=try exact dS)only[go_sem,wE,stA,rqA,qC,iT,mcn,qO];refine qG 1 ?_;simp(maxSteps:=9^9)(disch:=try exact dS)only[go_sem,qD,stA,rqA,qC,iT,mcn,qO];first | exact (qQ0 true rfl rfl rfl) | exact⟨rfl,(qQ0 true rfl rfl rfl)⟩ | exact⟨rfl,rfl,(qQ0 true rfl rfl rfl)⟩ | exact⟨rfl,rfl,rfl,(qQ0 true rfl rfl rfl)⟩
 ·obtain⟨x,e,q,e1⟩:=zVe (g:=g1) (s:=s) (h:=h) ⟨he,oM⟩;rw[qHj,if_pos oM] at q;cases q;simp only[stA] at e1;simp(maxSteps:=9^9)(disch:=try exact dS)only[go_sem,wE,stA,rqA,qC,azA,iT,mcn,qO];refine qG 2 ?_;simp(maxSteps:=9^9)(disch:=try exact dS)only[go_sem,qD,stA,rqA,qC,azA,iT,mcn,qO,h1,e1,h2'];first | exact (qQ0 true rfl rfl rfl) | exact⟨rfl,(qQ0 true rfl rfl rfl)⟩ | exact⟨rfl,rfl,(qQ0 true rfl rfl rfl)⟩ | exact⟨rfl,rfl,rfl,(qQ0 true rfl rfl rfl)⟩
 ·obtain⟨x,e,q,e1⟩:=zVe (g:=g1) (s:=s) (h:=h) ⟨he,ht⟩;rw[zL3 he ho] at q;cases q;obtain⟨y,ey,q2,e2⟩:=zGy (g:=g2) (s:=s) (h:=h) ⟨he.obs.1,ht⟩;have k2:ey=0:=by rw[←ho,←q2]
  subst k2;clear q2;generalize qYi _ _=nm at *;simp only[stA,qBv] at e1 e2;simp(maxSteps:=9^9)(disch:=try exact dS)only[go_sem,wE,stA,rqA,qC,azA,iT,mcn,qO];refine qG 2 ?_;simp(maxSteps:=9^9)(disch:=try exact dS)only[go_sem,qD,stA,rqA,qC,azA,iT,mcn,qO,h1,h2,e1,e2];first | exact (qQ0 true rfl rfl rfl) | exact⟨rfl,(qQ0 true rfl rfl rfl)⟩ | exact⟨rfl,rfl,(qQ0 true rfl rfl rfl)⟩ | exact⟨rfl,rfl,rfl,(qQ0 true rfl rfl rfl)⟩
def qLl:ECt where
 α:=St×Rq
 β:=St×Rs
 aS:=fun (s,q)=>[.t (stA s),.t (rqA q)]
 pre:=fun (s,q) => ∃ lo c,q=qC c∧CmP s lo c∧((∃ h po au da,c = .pr h po au da) ∨ ∃ h ss v,c = .un h ss v)
 r:=fun (t,r)=> .tup [.t (stA t),.t (rsA r)]
 R:=fun (s,q) (t,r)=>(∀ h po au da,q=qC (.pr h po au da)→(t,r)=qNp s h po au da) ∧ ∀ h ss v,q=qC (.un h ss v)→t=s∧r=⟨0,[],[(qA5 s h).1.s.da],[]⟩
theorem zVz {g:EF qLl}{s:St}{q:Rq}(hp : ∃ lo c,q=qC c∧CmP s lo c∧((∃ h po au da,c = .pr h po au da) ∨ ∃ h ss v,c = .un h ss v)) : ∃ (t:St) (r:Rs),((∀ h po au da,q=qC (.pr h po au da)→(t,r)=qNp s h po au da) ∧ ∀ h ss v,q=qC (.un h ss v)→t=s∧r=⟨0,[],[(qA5 s h).1.s.da],[]⟩)∧qLl.fs g [.t (stA s),.t (rqA q)] []=some (.tup [.t (stA t),.t (rsA r)],[]):=by
 obtain⟨y,h1,h2⟩:=qLl.eq g (s,q) hp;exact⟨y.1,y.2,h1,h2⟩
theorem zBg {s:St}{q:Rq}(t:St)(r:Rs)(hR:(∀ h po au da,q=qC (.pr h po au da)→(t,r)=qNp s h po au da) ∧ ∀ h ss v,q=qC (.un h ss v)→t=s∧r=⟨0,[],[(qA5 s h).1.s.da],[]⟩)(hV:vv = .tup [.t (stA t),.t (rsA r)])(hO:oo=[]):qLl.K (s,q) vv oo:=⟨(t,r),hR,hV,hO⟩
theorem qMp {g1}(h1:LkE tab 156 qLt g1){g4}(h4:LkE tab 159 qLu g4){g7}(h7:LkE tab 123 qBm g7){g8}(h8:LkE tab 141 qGi g8){g10}(h10:LkE tab 145 qGl g10)(s:St)(q:Rq)(hp : ∃ lo c,q=qC c∧CmP s lo c∧((∃ h po au da,c = .pr h po au da) ∨ ∃ h ss v,c = .un h ss v)) :
  wC.1.wp tab gl (qF 0 [.t (stA s),.t (rqA q)]) (qF 0 []) (zD [(4,(some (30,true))),(5,(some (4,true)))] 0 (qLl.K (s,q))):=by
 obtain⟨lo,c,rfl,hc,⟨h,po,au,da,rfl⟩ | ⟨h,ss,v,rfl⟩⟩:=hp
 ·obtain⟨t,r,q,e1⟩:=jEu (g:=g1) (s:=s) (q:=qC (.pr h po au da)) ⟨h,po,au,da,rfl,hc⟩;have hK:(∀ h' po' au' da',qC (.pr h po au da)=qC (.pr h' po' au' da')→(t,r)=qNp s h' po' au' da') ∧ ∀ h' ss v,qC (.pr h po au da)=qC (.un h' ss v)→t=s∧r=⟨0,[],[(qA5 s h').1.s.da],[]⟩:=⟨q,fun _ _ _ g=>by simp[qC] at g⟩;clear q;simp only[stA,rsA,rqA,qC,azA,iT,mcn,qO] at e1;simp(maxSteps:=9^9)(disch:=try exact dS)only[go_sem,wC,stA,rsA,rqA,qC,azA,iT,mcn,qO,h1,e1];first | exact (zBg t r hK rfl rfl) | exact⟨rfl,(zBg t r hK rfl rfl)⟩ | exact⟨rfl,rfl,(zBg t r hK rfl rfl)⟩ | exact⟨rfl,rfl,rfl,(zBg t r hK rfl rfl)⟩
 ·obtain⟨t,r,⟨rfl,q⟩,e1⟩:=jEw (g:=g4) (s:=s) (q:=qC (.un h ss v)) ⟨hc.2.2.1,h,ss,v,rfl,hc.2.2.2⟩;have hr:=q h ss v rfl;subst hr;have hK:(∀ h' po' au' da',qC (.un h ss v)=qC (.pr h' po' au' da')→(t,(⟨0,[],[(qA5 t h).1.s.da],[]⟩:Rs))=qNp t h' po' au' da') ∧ ∀ h' ss' v',qC (.un h ss v)=qC (.un h' ss' v')→t=t∧(⟨0,[],[(qA5 t h).1.s.da],[]⟩:Rs)=⟨0,[],[(qA5 t h').1.s.da],[]⟩:=⟨fun _ _ _ _ g=>by simp[qC] at g,fun _ _ _ g=>⟨rfl,by rw[(vJ g).1]⟩⟩;clear q hc;generalize (qA5 t h).1.s.da=da at *;simp only[stA,rsA,rqA,qC,azA,iT,mcn,qO] at e1;simp(maxSteps:=9^9)(disch:=try exact dS)only[go_sem,wC,stA,rsA,rqA,qC,azA,iT,mcn,qO,h4,e1];first | exact (zBg t ⟨0,[],[da],[]⟩ hK rfl rfl) | exact⟨rfl,(zBg t ⟨0,[],[da],[]⟩ hK rfl rfl)⟩ | exact⟨rfl,rfl,(zBg t ⟨0,[],[da],[]⟩ hK rfl rfl)⟩ | exact⟨rfl,rfl,rfl,(zBg t ⟨0,[],[da],[]⟩ hK rfl rfl)⟩
structure ExP (s:St) (lo:Int) (c:Cm):Prop where
 cm:CmP s lo c
 al:alP s c
 lc:0≤lo∧lo≤4
 on:c = .up∨s.on=true
 au:plC c∨(lo=0∧CkP s (qC c)∧((∃ h po au da,c = .pr h po au da) ∨ ∃ h ss v,c = .un h ss v∧(s.ses.length=3∧tmI ss∧ss≠0)∧(qBw s ss).2.2=true))
def qLm:ECt where
 α:=St×Int×Rq
 β:=St×Rs
 aS:=fun (s,lo,q)=>[.t (stA s),.t (.int .i64 lo),.t (rqA q)]
 pre:=fun (s,lo,q) => ∃ c,q=qC c∧ExP s lo c∧(qC c).W
 r:=fun (t,r)=> .tup [.t (stA t),.t (rsA r)]
 R:=fun (s,lo,q) (t,r) => ∀ c,CmP s lo c→q=qC c→(t,r)=vZ s c
theorem jEg {g:EF qLm}{s:St}{lo:Int}{q:Rq}(hp : ∃ c,q=qC c∧ExP s lo c∧(qC c).W) : ∃ (t:St) (r:Rs),(∀ c,CmP s lo c→q=qC c→(t,r)=vZ s c)∧qLm.fs g [.t (stA s),.t (.int .i64 lo),.t (rqA q)] []=some (.tup [.t (stA t),.t (rsA r)],[]):=by
 obtain⟨y,h1,h2⟩:=qLm.eq g (s,lo,q) hp;exact⟨y.1,y.2,h1,h2⟩
theorem qJg {s:St}{lo:Int}{q:Rq}(t:St)(r:Rs)(hR : ∀ c,CmP s lo c→q=qC c→(t,r)=vZ s c)(hV:vv = .tup [.t (stA t),.t (rsA r)])(hO:oo=[]):qLm.K (s,lo,q) vv oo:=⟨(t,r),hR,hV,hO⟩
theorem qRb {g1}(h1:LkE tab 122 qK3 g1){g2}(h2:LkE tab 123 qBm g2){g3}(h3:LkE tab 124 qLj g3){g4}(h4:LkE tab 125 qLo g4){g5}(h5:LkE tab 126 qLd g5){g6}(h6:LkE tab 127 qLl g6){g7}(h7:LkE tab 128 qLf g7)(s:St)(lo:Int)(q:Rq)(hp : ∃ c,q=qC c∧ExP s lo c∧(qC c).W) :
  jY.1.wp tab gl (qF 0 [.t (stA s),.t (.int .i64 lo),.t (rqA q)]) (qF 0 []) (zD [(6,(some (30,true))),(7,(some (4,true)))] 0 (qLm.K (s,lo,q))):=by
 obtain⟨c,rfl,⟨hc,ha,hlo,hon,hk⟩,hw⟩:=hp;obtain⟨e,rfl,e1⟩:=jCo (g:=g1) hw;obtain⟨b,rfl,e3⟩:=jEe (g:=g3) (s:=s) (q:=qC c) ⟨c,rfl,ha⟩;clear hw ha;rcases hk with hk | ⟨rfl,hck,hk⟩
 ·obtain⟨t,r,hK,e4⟩:=jEi (g:=g4) (s:=s) (lo:=lo) (q:=qC c) ⟨c,rfl,hc,hk⟩;clear hc;rcases hk with rfl | ⟨i,d,rfl⟩ | ⟨k,rfl⟩ | ⟨h,a,rfl⟩ | ⟨h,rfl⟩
  ·simp only[stA,rsA,rqA,qC,iT,mcn,qO] at e1 e3 e4;simp(maxSteps:=9^9)(disch:=try exact dS)only[go_sem,jY,stA,rsA,rqA,qC,iT,mcn,qO,h1,h3,h4,e1,e3,e4];first | exact (qJg t r hK rfl rfl) | exact⟨rfl,(qJg t r hK rfl rfl)⟩ | exact⟨rfl,rfl,(qJg t r hK rfl rfl)⟩ | exact⟨rfl,rfl,rfl,(qJg t r hK rfl rfl)⟩
  all_goals
   have on:s.on=true:=hon.resolve_left (by nofun);simp only[stA,rsA,rqA,qC,iT,mcn,qO,on] at e1 e3 e4;simp(maxSteps:=9^9)(disch:=try exact dS)only[go_sem,jY,stA,rsA,rqA,qC,iT,mcn,qO,on,h1,h3,h4,e1,e3,e4];first | exact (qJg t r hK rfl rfl) | exact⟨rfl,(qJg t r hK rfl rfl)⟩ | exact⟨rfl,rfl,(qJg t r hK rfl rfl)⟩ | exact⟨rfl,rfl,rfl,(qJg t r hK rfl rfl)⟩
 rcases hk with⟨h,po,au,da,rfl⟩ | ⟨h,ss,v,rfl,hs,hb⟩
 ·have on:s.on=true:=hon.resolve_left (by nofun);obtain⟨t5,e5,⟨rfl,q5,-⟩,c5⟩:=zVu (g:=g5) (s:=s) (lo:=0) (q:=qC (.pr h po au da)) ⟨hck,rfl⟩;obtain rfl:=q5 (by show (9:Int)≠13;decide);obtain⟨t,r,⟨q6,-⟩,c6⟩:=zVz (g:=g6) (s:=t5) (q:=qC (.pr h po au da)) ⟨0,_,rfl,hc,.inl ⟨h,po,au,da,rfl⟩⟩;have q6':=q6 h po au da rfl;obtain⟨t7,l7,⟨rfl,q7,-⟩,c7⟩:=zVw (g:=g7) (s:=t) (q:=qC (.pr h po au da)) (.pr h po au da);obtain rfl:=q7 (by show (9:Int)≠13;decide);have hf : ¬ frO t5.obs 0 = -1:=hc.1.2;have hK : ∀ d,CmP t5 0 d→qC (.pr h po au da)=qC d→(t7,r)=vZ t5 d:=zHp hc q6';clear q5 q6 q7 hck hc;rw[qNp,if_neg hf] at q6';simp only[Prod.mk.injEq] at q6';obtain⟨-,rfl⟩:=q6';generalize zAz _ _=en at *;generalize qYi _ _=nm at *;generalize frO t5.obs 0=f at *;simp only[stA,rsA,rqA,qC,azA,iT,mcn,qO,on] at e1 e3 c5 c6 c7;simp(maxSteps:=9^9)(disch:=try exact dS)only[go_sem,jY,stA,rsA,rqA,qC,azA,iT,mcn,qO,on,h1,h3,h5,h6,h7,e1,e3,c5,c6,c7];first | exact (qJg t7 ⟨0,[512+f],[en,nm],[]⟩ hK rfl rfl) | exact⟨rfl,(qJg t7 ⟨0,[512+f],[en,nm],[]⟩ hK rfl rfl)⟩ | exact⟨rfl,rfl,(qJg t7 ⟨0,[512+f],[en,nm],[]⟩ hK rfl rfl)⟩ | exact⟨rfl,rfl,rfl,(qJg t7 ⟨0,[512+f],[en,nm],[]⟩ hK rfl rfl)⟩
 ·have on:s.on=true:=hon.resolve_left (by nofun);obtain⟨t5,e5,⟨rfl,-,q5⟩,c5⟩:=zVu (g:=g5) (s:=s) (lo:=0) (q:=qC (.un h ss v)) ⟨hck,rfl⟩;have q5':=q5 h ss v rfl;by_cases c0:ckE t5 h ss=0
  ·rw[c0] at q5';subst q5';obtain⟨t,r,⟨-,q6⟩,c6⟩:=zVz (g:=g6) (s:=t5) (q:=qC (.un h ss v)) ⟨0,_,rfl,hc,.inr ⟨h,ss,v,rfl⟩⟩;obtain⟨rfl,rfl⟩:=q6 h ss v rfl;obtain⟨t7,l7,⟨rfl,-,q7⟩,c7⟩:=zVw (g:=g7) (s:=t) (q:=qC (.un h ss v)) (.un h ss v hs hb (hc.2.1 c0));obtain rfl:=q7 h ss v rfl;have hK : ∀ d,CmP t 0 d→qC (.un h ss v)=qC d→(qU5 t ss,(⟨0,[],[(qA5 t h).1.s.da],[]⟩:Rs))=vZ t d:=zHp hc (by simp only[vZ];rw[if_pos c0]);clear q5 q6 q7 hck hc;generalize qU5 t ss=y at *;generalize (qA5 t h).1.s.da=da at *;simp only[stA,rsA,rqA,qC,azA,iT,mcn,qO,on] at e1 e3 c5 c6 c7;simp(maxSteps:=9^9)(disch:=try exact dS)only[go_sem,jY,stA,rsA,rqA,qC,azA,iT,mcn,qO,on,h1,h3,h5,h6,h7,e1,e3,c5,c6,c7];first | exact (qJg y ⟨0,[],[da],[]⟩ hK rfl rfl) | exact⟨rfl,(qJg y ⟨0,[],[da],[]⟩ hK rfl rfl)⟩ | exact⟨rfl,rfl,(qJg y ⟨0,[],[da],[]⟩ hK rfl rfl)⟩ | exact⟨rfl,rfl,rfl,(qJg y ⟨0,[],[da],[]⟩ hK rfl rfl)⟩
  ·obtain⟨t2,r2,⟨rfl,rfl⟩,c2⟩:=zV1 (g:=g2) (s:=t5) (e:=e5);have hK : ∀ d,CmP t2 0 d→qC (.un h ss v)=qC d→(t2,(⟨e5,[],[],[]⟩:Rs))=vZ t2 d:=zHp hc (by simp only[vZ];rw[if_neg c0,q5']);rw[←q5'] at c0;clear q5 q5' hck hc;simp only[stA,rsA,rqA,qC,azA,iT,mcn,qO,on] at e1 e3 c5 c2;simp(maxSteps:=9^9)(disch:=try exact dS)only[go_sem,jY,stA,rsA,rqA,qC,azA,iT,mcn,qO,on,h1,h2,h3,h5,e1,e3,c5,c2,c0];exact qJg t2 ⟨e5,[],[],[]⟩ hK (by simp only[stA,rsA,on,List.map_nil]) rfl
def qLq:ECt where
 α:=St×Int×List UInt8
 β:=St×List UInt8
 aS:=fun (s,lo,b)=>[.t (stA s),.t (.int .i64 lo),.t (.sl (b.map qA))]
 pre:=fun (s,lo,b) => ∃ c,ExP s lo c∧(qC c).W∧b=rqB (qC c)∧(vZ s c).2.W
 r:=fun (t,o)=> .tup [.t (stA t),.t (.sl (o.map qA))]
 R:=fun (s,lo,b) (t,o) => ∀ c,CmP s lo c→(qC c).W→b=rqB (qC c)→t=(vZ s c).1∧o=rsB (vZ s c).2
theorem jEk {g:EF qLq}{s:St}{lo:Int}{b:List UInt8}(hp : ∃ c,ExP s lo c∧(qC c).W∧b=rqB (qC c)∧(vZ s c).2.W) : ∃ (t:St) (o:List UInt8),(∀ c,CmP s lo c→(qC c).W→b=rqB (qC c)→t=(vZ s c).1∧o=rsB (vZ s c).2)∧qLq.fs g [.t (stA s),.t (.int .i64 lo),.t (.sl (b.map qA))] []=some (.tup [.t (stA t),.t (.sl (o.map qA))],[]):=by
 obtain⟨y,h1,h2⟩:=qLq.eq g (s,lo,b) hp;exact⟨y.1,y.2,h1,h2⟩
theorem zRy {s:St}{lo:Int}{b:List UInt8}(t:St)(o:List UInt8)(hR : ∀ c,CmP s lo c→(qC c).W→b=rqB (qC c)→t=(vZ s c).1∧o=rsB (vZ s c).2)(hV:vv = .tup [.t (stA t),.t (.sl (o.map qA))])(hO:oo=[]):qLq.K (s,lo,b) vv oo:=⟨(t,o),hR,hV,hO⟩
theorem zCj {g1}(h1:LkE tab 92 qIe g1){g2}(h2:LkE tab 93 qIf g2){g3}(h3:LkE tab 94 qLm g3)(s:St)(lo:Int)(b:List UInt8)(hp : ∃ c,ExP s lo c∧(qC c).W∧b=rqB (qC c)∧(vZ s c).2.W) :
  qF4.1.wp tab gl (qF 0 [.t (stA s),.t (.int .i64 lo),.t (.sl (b.map qA))]) (qF 0 []) (zD [(6,(some (30,true))),(7,none)] 0 (qLq.K (s,lo,b))):=by
 obtain⟨c,hx,hw,rfl,hr⟩:=hp;obtain⟨q,e,⟨hq,rfl⟩,e1⟩:=jCp (g:=g1) ⟨qC c,hw,rfl⟩;obtain rfl:q=qC c:=by rw[hq,zHe hw]
 obtain⟨t,r,q3,e3⟩:=jEg (g:=g3) (s:=s) (lo:=lo) (q:=qC c) ⟨c,rfl,hx,hw⟩;have q3':=q3 c hx.cm rfl;obtain⟨o,ho,e2⟩:=jCq (g:=g2) (r:=r) (by have:=congrArg Prod.snd q3';simp only at this;rw[this];exact hr);have hK : ∀ d,CmP s lo d→(qC d).W→rqB (qC c)=rqB (qC d)→t=(vZ s d).1∧o=rsB (vZ s d).2:=by
  intro d hd hdw e;have e':=zZ2 hw hdw e;have:=q3 d hd e';rw[←this];exact⟨rfl,ho⟩
 clear q3 q3' ho hq hr hx hw;generalize rqB (qC c)=b at *;generalize qC c=q at *;simp only[stA,rsA,rqA] at e1 e2 e3;simp(maxSteps:=9^9)(disch:=try exact dS)only[go_sem,qF4,stA,rsA,rqA,h1,h2,h3,e1,e2,e3];first | exact (zRy t o hK rfl rfl) | exact⟨rfl,(zRy t o hK rfl rfl)⟩ | exact⟨rfl,rfl,(zRy t o hK rfl rfl)⟩ | exact⟨rfl,rfl,rfl,(zRy t o hK rfl rfl)⟩
theorem jT1 {b:List UInt8}(h:b.length<1000000000):zXj.fs [.t (.sl (b.map qA))] []=some (.tup [.t (.agg [.sl ((dcT b).1.map wQ),.int .i64 (dcT b).2.1]),.t (.int .i64 (dcT b).2.2)],[]):=by
 rw[←(zQm b).1];exact zXj.eq b h
end Go.Eng
end
