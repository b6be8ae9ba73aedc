/- A part of an abstract machine, its walks, their tie. -/
import Derived.Test.YtpolalhffkhimaaGreatDoorE27
import Derived.Test.YtpolalhffkhimaaGreatDoorE21
import Derived.Test.YtpolalhffkhimaaGreatDoorE20
import Derived.Test.YtpolalhffkhimaaGreatDoorE26
import Derived.Test.YtpolalhffkhimaaGreatDoorE25
import Derived.Test.YtpolalhffkhimaaGreatDoorE16
import Derived.Test.YtpolalhffkhimaaGreatDoorE23
set_option linter.all false
section
set_option maxHeartbeats 64000000
set_option maxRecDepth 20000
namespace Go.Eng
variable (tab:Tab) (gl:Gl)
variable {vv:V} {oo:List Ob}
def jM2 (k:List UInt8)(p:Pu)(au da:List UInt8):Prop:=k.length≤64∧(∃ po,p=⟨3,0,0,po,[]⟩∧po.length=32)∧au.length≤32∧da.length≤128
def qJb:ECt where
 α:=List UInt8×Pu×List UInt8×List UInt8
 β:=Pu×Sn×Int
 aS:=fun (k,p,au,da)=>[.t (.sl (k.map qA)),.t (puA p),.t (.sl (au.map qA)),.t (.sl (da.map qA))]
 pre:=fun (k,p,au,da)=>jM2 k p au da
 r:=fun (y,z,e)=> .tup [.t (puA y),.t (snA z),.t (.int .i64 e)]
 R:=fun (k,p,au,da) (y,z,e)=>e=0∧y=⟨3,0,0,p.po,qY5 (qQ7 k) da⟩∧z=⟨au,qQ7 k,da⟩
theorem jIr {g:EF qJb}{k:List UInt8}{p:Pu}{au da:List UInt8}(hp:jM2 k p au da) : ∃ (y:Pu) (z:Sn) (e:Int),(e=0∧y=⟨3,0,0,p.po,qY5 (qQ7 k) da⟩∧z=⟨au,qQ7 k,da⟩)∧qJb.fs g [.t (.sl (k.map qA)),.t (puA p),.t (.sl (au.map qA)),.t (.sl (da.map qA))] []=some (.tup [.t (puA y),.t (snA z),.t (.int .i64 e)],[]):=by
 obtain⟨y,h1,h2⟩:=qJb.eq g (k,p,au,da) hp;exact⟨y.1,y.2.1,y.2.2,h1,h2⟩
theorem jM3 {k:List UInt8}{p:Pu}{au da:List UInt8}(y:Pu)(z:Sn)(e:Int)(hR:e=0∧y=⟨3,0,0,p.po,qY5 (qQ7 k) da⟩∧z=⟨au,qQ7 k,da⟩)(hV:vv = .tup [.t (puA y),.t (snA z),.t (.int .i64 e)])(hO:oo=[]):qJb.K (k,p,au,da) vv oo:=⟨(y,z,e),hR,hV,hO⟩
theorem zE0 (h1:LkC tab 251 zVh){g2}(h2:LkE tab 180 qJh g2)(h3:LkC tab 61 qTh)(h4:LkC tab 252 zGe)(k:List UInt8)(p:Pu)(au da:List UInt8)(hp:jM2 k p au da) :
  qD8.1.wp tab gl (qE 0 [.t (.sl (k.map qA)),.t (puA p),.t (.sl (au.map qA)),.t (.sl (da.map qA))]) (qE 0 []) (zA [(8,(some (5,true))),(9,(some (3,true))),(10,none)] 0 (qJb.K (k,p,au,da))):=by
 obtain⟨hs,⟨po,rfl,hp⟩,ha,hd⟩:=hp;have hC:=zW7 (g:=g2) (x:=⟨3,0,0,po,List.replicate 32 0⟩) (.inl ⟨rfl,rfl,rfl,hp,sM⟩);simp only[puA] at hC;have t32:List.take 32 (List.replicate 32 (0:UInt8))=List.replicate 32 0:=rfl;have hD:=zX8 hs;have lS:(qQ7 k).length=32:=wP;have hU:=jHq (a:=au) (s:=qQ7 k) (d:=da) ⟨oM,oM⟩;have lU:=qHc (s:=qQ7 k) (d:=da);have tU:List.take 32 (qY5 (qQ7 k) da)=qY5 (qQ7 k) da:=List.take_of_length_le oM;have hK : ∀ vv,vv = .tup [.t (puA ⟨3,0,0,po,qY5 (qQ7 k) da⟩),.t (snA ⟨au,qQ7 k,da⟩),.t (.int .i64 0)]→qJb.K (k,⟨3,0,0,po,[]⟩,au,da) vv []:=fun vv h=>jM3 _ _ 0 ⟨rfl,rfl,rfl⟩ h rfl
 generalize qY5 (qQ7 k) da=u at *;generalize qQ7 k=s at *;by_cases h0:0<da.length
 ·simp(maxSteps:=9^9)(disch:=try exact dS)only[go_sem,qD8,puA,h1,h2,hC,t32,hd,ha,h0,h3,hD,h4,hU,tU,lU,List.map_nil];first | exact (hK _ rfl) | exact⟨rfl,(hK _ rfl)⟩ | exact⟨rfl,rfl,(hK _ rfl)⟩ | exact⟨rfl,rfl,rfl,(hK _ rfl)⟩
 ·simp(maxSteps:=9^9)(disch:=try exact dS)only[go_sem,qD8,puA,h1,h2,hC,t32,hd,ha,h0,h3,hD,h4,hU,tU,lU,List.map_nil];first | exact (hK _ rfl) | exact⟨rfl,(hK _ rfl)⟩ | exact⟨rfl,rfl,(hK _ rfl)⟩ | exact⟨rfl,rfl,rfl,(hK _ rfl)⟩
def jJg:List UInt8:=[112,114,105,109,97,114,121]
def qM1 (s:St)(h:Int)(po da:List UInt8):List UInt8:=drv (s.a.sd.getD h.toNat []) jJg (qY 0 [[3,0,0],po,da]) 32
def qP2 (s:St)(h:Int)(po au da:List UInt8):Obj:=⟨⟨3,0,0,po,qY5 (qQ7 (qM1 s h po da)) da⟩,⟨au,qQ7 (qM1 s h po da),da⟩,h⟩
def qKb (s:St)(h:Int)(po au da:List UInt8):St×Rs:=
 let x:=qP2 s h po au da
 if frO s.obs 0 = -1 then (s,⟨25,[],[],[]⟩) else ((qMy s x).1,⟨0,[512+frO s.obs 0],[zPh x.p.po x.p.un,zG0 x.p.po x.p.un],[]⟩)
theorem zZo {h h':Int}{po po' au au' da da':List UInt8}(e:qC (.pr h po au da)=qC (.pr h' po' au' da')):h=h'∧po=po'∧au=au'∧da=da':=by
 simp only[qC,Rq.mk.injEq,List.cons.injEq,and_true,true_and] at e;exact⟨e.1,e.2⟩
def PrP (s:St)(h:Int)(po au da:List UInt8):Prop:=(s.obs.length=3 ∧ ¬ frO s.obs 0 = -1)∧(s.a.sd.length=3 ∧ ∀ x∈s.a.sd,x.length=32)∧(0≤h∧h≤2)∧po.length=32∧au.length≤32∧da.length≤60
def qL4:ECt where
 α:=St×Rq
 β:=St×Rs
 aS:=fun (s,q)=>[.t (stA s),.t (rqA q)]
 pre:=fun (s,q) => ∃ h po au da,q=qC (.pr h po au da)∧PrP s h po au da
 r:=fun (t,r)=> .tup [.t (stA t),.t (rsA r)]
 R:=fun (s,q) (t,r) => ∀ h po au da,q=qC (.pr h po au da)→(t,r)=qKb s h po au da
theorem jFi {g:EF qL4}{s:St}{q:Rq}(hp : ∃ h po au da,q=qC (.pr h po au da)∧PrP s h po au da) : ∃ (t:St) (r:Rs),(∀ h po au da,q=qC (.pr h po au da)→(t,r)=qKb s h po au da)∧qL4.fs g [.t (stA s),.t (rqA q)] []=some (.tup [.t (stA t),.t (rsA r)],[]):=by
 obtain⟨y,h1,h2⟩:=qL4.eq g (s,q) hp;exact⟨y.1,y.2,h1,h2⟩
theorem jLg {s:St}{q:Rq}(t:St)(r:Rs)(hR : ∀ h po au da,q=qC (.pr h po au da)→(t,r)=qKb s h po au da)(hV:vv = .tup [.t (stA t),.t (rsA r)])(hO:oo=[]):qL4.K (s,q) vv oo:=⟨(t,r),hR,hV,hO⟩
theorem qRz {g1}(h1:LkE tab 197 qGw g1){g3}(h3:LkE tab 198 qIz g3){g4}(h4:LkE tab 199 qFd g4)(h5:LkC tab 127 qEa)(h6:LkC tab 61 qTh){g7}(h7:LkE tab 200 qJb g7){g8}(h8:LkE tab 201 qL2 g8){g9}(h9:LkE tab 202 qG2 g9){g10}(h10:LkE tab 185 qG3 g10)(s:St)(q:Rq)(hp : ∃ h po au da,q=qC (.pr h po au da)∧PrP s h po au da) :
  qA6.1.wp tab gl (qE 0 [.t (stA s),.t (rqA q)]) (qE 0 []) (zA [(4,(some (30,true))),(5,(some (4,true)))] 0 (qL4.K (s,q))):=by
 obtain⟨h,po,au,da,rfl,⟨hl,hf⟩,⟨hs3,hs⟩,hh,lp,la,ld⟩:=hp;obtain⟨n,rfl⟩:=Int.eq_ofNat_of_zero_le hh.1;obtain⟨sd,hg,hm,_⟩:=zF (l:=s.a.sd) (k:=n) oM;have lsd:=hs sd hm;have hsd:s.a.sd.getD n []=sd:=by rw[List.getD_eq_getElem?_getD,hg];rfl
 have e1:qGw.fs g1 [.t (rqA (qC (.pr n po au da)))] []=some (.t (.int .i64 n),[]):=zV8 (by simp[qC]);have e3:qIz.fs g3 [.t (rqA (qC (.pr n po au da)))] []=some (.t (puA ⟨3,0,0,po,[]⟩),[]):=jFj trivial;have e4:qFd.fs g4 [.t (rqA (qC (.pr n po au da))),.t (.int .i64 2)] []=some (.t (.sl (da.map qA)),[]):=zMr oM;have e5:qFd.fs g4 [.t (rqA (qC (.pr n po au da))),.t (.int .i64 1)] []=some (.t (.sl (au.map qA)),[]):=zMr oM;have e6:=qSg (t:=0) (fs:=[[3,0,0],po,da]) ⟨oM,by simp[qY,qAl];omega⟩;have lf:(qY 0 [[3,0,0],po,da]).length≤1000:=by simp[qY,qAl];omega
 have hsec:qM1 s n po da=drv sd jJg (qY 0 [[3,0,0],po,da]) 32:=by rw[qM1,Int.toNat_natCast,hsd]
 have tf:List.take (qY 0 [[3,0,0],po,da]).length (qY 0 [[3,0,0],po,da])=qY 0 [[3,0,0],po,da]:=List.take_length;have e7:=zGk (k:=sd) (l:=jJg) (c:=qY 0 [[3,0,0],po,da]) (n:=32) ⟨oM,by decide,oM,oM,oM⟩;rw[←hsec] at e7;have lsec:(qM1 s n po da).length=32:=wP;obtain⟨y,z,e,⟨q1,q2,q3⟩,e8⟩:=jIr (g:=g7) (k:=qM1 s n po da) (p:=⟨3,0,0,po,[]⟩) (au:=au) (da:=da) ⟨oM,⟨po,rfl,lp⟩,la,oM⟩;subst q1 q2 q3;obtain⟨t,k,e,q9,e9⟩:=jFh (g:=g8) (s:=s) (x:=qP2 s n po au da) hl;have hF:qKb s n po au da=if frO s.obs 0 = -1 then (s,⟨25,[],[],[]⟩) else ((qMy s (qP2 s n po au da)).1,⟨0,[512+frO s.obs 0],[zPh po (qY5 (qQ7 (qM1 s n po da)) da),zG0 po (qY5 (qQ7 (qM1 s n po da)) da)],[]⟩):=rfl
 have lu:=qHc (s:=qQ7 (qM1 s n po da)) (d:=da);simp only[qP2] at e9 q9 hF;generalize qY5 (qQ7 (qM1 s n po da)) da=u at *;generalize qQ7 (qM1 s n po da)=mk at *;generalize qM1 s n po da=sec at *;generalize qY 0 [[3,0,0],po,da]=fr at *;obtain⟨E,q10,e10⟩:=zW8 (g:=g9) (x:=⟨3,0,0,po,u⟩) (.inl ⟨rfl,rfl,rfl,lp,lu⟩);rw[jDt] at q10;have e11:=zW9 (g:=g10) (x:=⟨3,0,0,po,u⟩) (.inl ⟨rfl,rfl,rfl,lp,lu⟩);rw[zV7] at e11;have le:=qTo (p:=po) (u:=u) ⟨lp,lu⟩;rw[q10,le] at e10;clear q10;simp only[puA] at e10 e11;have te:List.take 71 (zPh po u)=zPh po u:=List.take_of_length_le oM;have hK : ∀ t r,(t,r)=qKb s n po au da → ∀ h' po' au' da',qC (.pr n po au da)=qC (.pr h' po' au' da')→(t,r)=qKb s h' po' au' da':=by
  intro t r h h' po' au' da' g;obtain⟨rfl,rfl,rfl,rfl⟩:=zZo g;exact h
 have zz:((0:Nat):Int)=0:=rfl;have z32':((32:Nat):Int)=32:=rfl;have k3:T.int .u8 (IntKind.u8.wrap 3)=qA 3:=rfl;have k0:T.int .u8 (IntKind.u8.wrap 0)=qA 0:=rfl;simp only[stA,qBl,rqA,puA,snA,qC,azA,iT,mcn,qG,zz,z32',jJg] at e1 e3 e4 e5 e6 e7 e8 e9;rw[if_neg hf] at hF;rw[qMy,if_neg hf] at q9 hF;simp only[Prod.mk.injEq] at q9;obtain⟨rfl,rfl,rfl⟩:=q9;simp(maxSteps:=9^9)(disch:=try exact dS)only[go_sem,qA6,stA,qBl,rqA,puA,snA,qC,azA,iT,mcn,qG,hs3,hg,oms,h1,h3,h4,h5,h6,h7,h8,h9,h10,e1,e3,e4,e5,e6,e7,e8,e9,e10,e11,k3,k0,tf,te];repeat refine aiG ?_
 exact jLg _ _ (hK _ _ hF.symm) rfl rfl
def xM:ECt where
 α:=St×Int
 β:=St×Rs
 aS:=fun (s,e)=>[.t (stA s),.t (.int .i64 e)]
 pre:=fun (s,e)=>True
 r:=fun (t,r)=> .tup [.t (stA t),.t (rsA r)]
 R:=fun (s,e) (t,r)=>t=s∧r=⟨e,[],[],[]⟩
theorem zV3 {g:EF xM}{s:St}{e:Int} : ∃ (t:St) (r:Rs),(t=s∧r=⟨e,[],[],[]⟩)∧xM.fs g [.t (stA s),.t (.int .i64 e)] []=some (.tup [.t (stA t),.t (rsA r)],[]):=by
 obtain⟨y,h1,h2⟩:=xM.eq g (s,e) trivial;exact⟨y.1,y.2,h1,h2⟩
theorem zR2 {s:St}{e:Int}(t:St)(r:Rs)(hR:t=s∧r=⟨e,[],[],[]⟩)(hV:vv = .tup [.t (stA t),.t (rsA r)])(hO:oo=[]):xM.K (s,e) vv oo:=⟨(t,r),hR,hV,hO⟩
theorem qZh  (s:St)(e:Int) :
  qEu.1.wp tab gl (qE 0 [.t (stA s),.t (.int .i64 e)]) (qE 0 []) (zA [(4,(some (30,true))),(5,(some (4,true)))] 0 (xM.K (s,e))):=by
 simp(maxSteps:=9^9)(disch:=try exact dS)only[go_sem,qEu,stA];first | exact (zR2 s ⟨e,[],[],[]⟩ ⟨rfl,rfl⟩ rfl rfl) | exact⟨rfl,(zR2 s ⟨e,[],[],[]⟩ ⟨rfl,rfl⟩ rfl rfl)⟩ | exact⟨rfl,rfl,(zR2 s ⟨e,[],[],[]⟩ ⟨rfl,rfl⟩ rfl rfl)⟩ | exact⟨rfl,rfl,rfl,(zR2 s ⟨e,[],[],[]⟩ ⟨rfl,rfl⟩ rfl rfl)⟩
def qGv:ECt where
 α:=St×St×Int
 β:=St×Rs
 aS:=fun (s,c,e)=>[.t (stA s),.t (stA c),.t (.int .i64 e)]
 pre:=fun (s,c,e)=>True
 r:=fun (t,r)=> .tup [.t (stA t),.t (rsA r)]
 R:=fun (s,c,e) (t,r)=>(t,r)=if e=0 then (c,⟨0,[],[],[]⟩) else (s,⟨e,[],[],[]⟩)
theorem zMl {g:EF qGv}{s c:St}{e:Int} : ∃ (t:St) (r:Rs),((t,r)=if e=0 then (c,⟨0,[],[],[]⟩) else (s,⟨e,[],[],[]⟩))∧qGv.fs g [.t (stA s),.t (stA c),.t (.int .i64 e)] []=some (.tup [.t (stA t),.t (rsA r)],[]):=by
 obtain⟨y,h1,h2⟩:=qGv.eq g (s,c,e) trivial;exact⟨y.1,y.2,h1,h2⟩
theorem zBc {s c:St}{e:Int}(t:St)(r:Rs)(hR:(t,r)=if e=0 then (c,⟨0,[],[],[]⟩) else (s,⟨e,[],[],[]⟩))(hV:vv = .tup [.t (stA t),.t (rsA r)])(hO:oo=[]):qGv.K (s,c,e) vv oo:=⟨(t,r),hR,hV,hO⟩
theorem qZg {g1}(h1:LkE tab 119 xM g1)(s c:St)(e:Int) :
  qBi.1.wp tab gl (qE 0 [.t (stA s),.t (stA c),.t (.int .i64 e)]) (qE 0 []) (zA [(6,(some (30,true))),(7,(some (4,true)))] 0 (qGv.K (s,c,e))):=by
 obtain⟨t,r,⟨rfl,rfl⟩,c1⟩:=zV3 (g:=g1) (s:=s) (e:=e);simp only[stA,rsA,List.map_nil] at c1;by_cases c0:e=0
 ·subst c0;simp(maxSteps:=9^9)(disch:=try exact dS)only[go_sem,qBi,stA];first | exact (zBc c ⟨0,[],[],[]⟩ rfl rfl rfl) | exact⟨rfl,(zBc c ⟨0,[],[],[]⟩ rfl rfl rfl)⟩ | exact⟨rfl,rfl,(zBc c ⟨0,[],[],[]⟩ rfl rfl rfl)⟩ | exact⟨rfl,rfl,rfl,(zBc c ⟨0,[],[],[]⟩ rfl rfl rfl)⟩
 ·simp(maxSteps:=9^9)(disch:=try exact dS)only[go_sem,qBi,stA,h1,c1,c0];first | exact (zBc _ ⟨e,[],[],[]⟩ (by rw[if_neg c0]) rfl rfl) | exact⟨rfl,(zBc _ ⟨e,[],[],[]⟩ (by rw[if_neg c0]) rfl rfl)⟩ | exact⟨rfl,rfl,(zBc _ ⟨e,[],[],[]⟩ (by rw[if_neg c0]) rfl rfl)⟩ | exact⟨rfl,rfl,rfl,(zBc _ ⟨e,[],[],[]⟩ (by rw[if_neg c0]) rfl rfl)⟩
theorem zRa : ∀ {l:List Ses} {k:Nat},frS l k = -1∨((k:Int)≤frS l k∧frS l k<k+l.length)
 | [],k=> .inl rfl
 | x::r,k=>by
  unfold frS;have ih := @zRa r (k+1);simp only[List.length_cons];split<;>omega
def OpP (s:St):Prop:=(s.a.en.length=32∧(0≤s.dr∧s.dr≤1000000))∧s.ses.length=3 ∧ ¬ frS s.ses 0 = -1
theorem zT0 {s:St}{k:Int}(h:OpP s)(hk:k≠0):qBm (qSj s k).1 (768+frS s.ses 0)=(frS s.ses 0,nwS s k,true):=by
 have hr := @zRa s.ses 0;have hl:=h.2.1;have hf:0≤frS s.ses 0∧frS s.ses 0≤2:=by have:=h.2.2;omega
 rw[qSj,if_neg h.2.2];have hs:(768+frS s.ses 0-768)=frS s.ses 0:=oM;have hn:(frS s.ses 0).toNat<s.ses.length:=oM;have hg:(s.ses.set (frS s.ses 0).toNat (nwS s k)).getD (frS s.ses 0).toNat qBw=nwS s k:=by
  rw[List.getD_eq_getElem?_getD,List.getElem?_set_self hn];rfl
 have hp:zWq { s with dr:=s.dr+1,ses:=s.ses.set (frS s.ses 0).toNat (nwS s k) } (768+frS s.ses 0)=frS s.ses 0:=by
  unfold zWq;rw[if_neg oM,hs,hg,if_neg (by simpa [nwS] using hk)]
 rw[qBm,hp,if_neg h.2.2,hs,hg]
def qLy:ECt where
 α:=St×Rq
 β:=St×Rs
 aS:=fun (s,q)=>[.t (stA s),.t (rqA q)]
 pre:=fun (s,q)=>OpP s ∧ ∃ k,q=qC (.op k)∧2≤k∧k≤3
 r:=fun (t,r)=> .tup [.t (stA t),.t (rsA r)]
 R:=fun (s,q) (t,r) => ∀ k,q=qC (.op k)→t=(qSj s k).1∧r=⟨0,[768+frS s.ses 0],[qYr s 16],[]⟩
theorem jE4 {g:EF qLy}{s:St}{q:Rq}(hp:OpP s ∧ ∃ k,q=qC (.op k)∧2≤k∧k≤3) : ∃ (t:St) (r:Rs),(∀ k,q=qC (.op k)→t=(qSj s k).1∧r=⟨0,[768+frS s.ses 0],[qYr s 16],[]⟩)∧qLy.fs g [.t (stA s),.t (rqA q)] []=some (.tup [.t (stA t),.t (rsA r)],[]):=by
 obtain⟨y,h1,h2⟩:=qLy.eq g (s,q) hp;exact⟨y.1,y.2,h1,h2⟩
theorem zR3 {s:St}{q:Rq}(t:St)(r:Rs)(hR : ∀ k,q=qC (.op k)→t=(qSj s k).1∧r=⟨0,[768+frS s.ses 0],[qYr s 16],[]⟩)(hV:vv = .tup [.t (stA t),.t (rsA r)])(hO:oo=[]):qLy.K (s,q) vv oo:=⟨(t,r),hR,hV,hO⟩
theorem qZi {g1}(h1:LkE tab 177 qMd g1){g2}(h2:LkE tab 119 xM g2){g3}(h3:LkE tab 146 qFe g3)(s:St)(q:Rq)(hp:OpP s ∧ ∃ k,q=qC (.op k)∧2≤k∧k≤3) :
  qEv.1.wp tab gl (qE 0 [.t (stA s),.t (rqA q)]) (qE 0 []) (zA [(4,(some (30,true))),(5,(some (4,true)))] 0 (qLy.K (s,q))):=by
 obtain⟨ho,k,rfl,k2,k3⟩:=hp;obtain⟨t,h,e,q1,c1⟩:=jGt (g:=g1) (s:=s) (k:=k) ⟨ho.1,ho.2.1,oM,k3⟩;have hr := @zRa s.ses 0;have hl:=ho.2.1;have hn:=ho.2.2;have q2:t=(qSj s k).1∧h=768+frS s.ses 0∧e=0:=by
  rw[qSj,if_neg hn] at q1;simp only[Prod.mk.injEq] at q1;rw[qSj,if_neg hn];exact q1
 obtain⟨q2,rfl,rfl⟩:=q2;have lt:t.ses.length=3:=by rw[q2,qSj,if_neg hn];simp[hl]
 obtain⟨x,ex,q3,c3⟩:=zHb (g:=g3) (s:=t) (h:=768+frS s.ses 0) ⟨lt,oM⟩;have hq:qBm t (768+frS s.ses 0)=(frS s.ses 0,nwS s k,true):=by rw[q2];exact zT0 ho oM
 rw[hq,if_pos rfl] at q3;cases q3;have hK : ∀ k',qC (.op k)=qC (.op k')→t=(qSj s k').1∧(⟨0,[768+frS s.ses 0],[qYr s 16],[]⟩:Rs)=⟨0,[768+frS s.ses 0],[qYr s 16],[]⟩:=by
  intro k' g;simp only[qC,Rq.mk.injEq,List.cons.injEq,and_true,true_and] at g;exact⟨by rw[←g];exact q2,rfl⟩
 clear q1 q2 hq;simp only[stA,jP,nwS] at c1 c3;simp(maxSteps:=9^9)(disch:=try exact dS)only[go_sem,qEv,stA,rqA,qC,iT,mcn,h1,h3,c1,c3];first | exact (zR3 t ⟨0,[768+frS s.ses 0],[qYr s 16],[]⟩ hK rfl rfl) | exact⟨rfl,(zR3 t ⟨0,[768+frS s.ses 0],[qYr s 16],[]⟩ hK rfl rfl)⟩ | exact⟨rfl,rfl,(zR3 t ⟨0,[768+frS s.ses 0],[qYr s 16],[]⟩ hK rfl rfl)⟩ | exact⟨rfl,rfl,rfl,(zR3 t ⟨0,[768+frS s.ses 0],[qYr s 16],[]⟩ hK rfl rfl)⟩
def evS (s:St)(i:Int)(d:List UInt8):St := { s with bk:=evB s.bk i.toNat d,u:=s.u+1 }
def EvP (s:St):Prop:=ShA 2 s.bk∧(0≤s.u∧s.u≤1000000)
theorem ShA.on_t {bk:List qX}(h:ShA 2 bk):onB bk 0=false∧onB bk 1=true:=by
 obtain⟨b0,b1,rfl,h0,h1,-,-⟩:=h;constructor
 ·show decide (List.length b0=16)=_;rw[h0];decide
 ·show decide (List.length b1=16)=_;rw[h1];decide
theorem jIb {bk:List qX}{u b i:Int}(h:RM bk):zGf.fs [.t (.agg [.sl (bk.map wY),.int .i64 u]),.t (.int .i64 b),.t (.int .i64 i)] []=some (jBi bk b i,jBh bk b i):=zGf.eq (bk,u,b,i) h
def qL0:ECt where
 α:=St×Int×Rq
 β:=St×Rs
 aS:=fun (s,lo,q)=>[.t (stA s),.t (.int .i64 lo),.t (rqA q)]
 pre:=fun (s,lo,q)=>EvP s∧lo=4 ∧ ∃ i d,q=qC (.ev i d)∧(0≤i∧i≤15)∧d.length≤100
 r:=fun (t,r)=> .tup [.t (stA t),.t (rsA r)]
 R:=fun (s,lo,q) (t,r) => ∀ i d,q=qC (.ev i d)→t=evS s i d∧r=⟨0,[],[[],jQ d],[]⟩
theorem jE6 {g:EF qL0}{s:St}{lo:Int}{q:Rq}(hp:EvP s∧lo=4 ∧ ∃ i d,q=qC (.ev i d)∧(0≤i∧i≤15)∧d.length≤100) : ∃ (t:St) (r:Rs),(∀ i d,q=qC (.ev i d)→t=evS s i d∧r=⟨0,[],[[],jQ d],[]⟩)∧qL0.fs g [.t (stA s),.t (.int .i64 lo),.t (rqA q)] []=some (.tup [.t (stA t),.t (rsA r)],[]):=by
 obtain⟨y,h1,h2⟩:=qL0.eq g (s,lo,q) hp;exact⟨y.1,y.2,h1,h2⟩
theorem zR4 {s:St}{lo:Int}{q:Rq}(t:St)(r:Rs)(hR : ∀ i d,q=qC (.ev i d)→t=evS s i d∧r=⟨0,[],[[],jQ d],[]⟩)(hV:vv = .tup [.t (stA t),.t (rsA r)])(hO:oo=[]):qL0.K (s,lo,q) vv oo:=⟨(t,r),hR,hV,hO⟩
theorem qQi (h1:LkC tab 170 zGf){g2}(h2:LkE tab 119 xM g2)(h3:LkC tab 171 qFu)(h4:LkC tab 125 qDq)(h5:LkC tab 172 zKx)(h6:LkC tab 173 qNs)(s:St)(lo:Int)(q:Rq)(hp:EvP s∧lo=4 ∧ ∃ i d,q=qC (.ev i d)∧(0≤i∧i≤15)∧d.length≤100) :
  qAb.1.wp tab gl (qE 0 [.t (stA s),.t (.int .i64 lo),.t (rqA q)]) (qE 0 []) (zA [(6,(some (30,true))),(7,(some (4,true)))] 0 (qL0.K (s,lo,q))):=by
 obtain⟨⟨hb,hu⟩,rfl,i,d,rfl,hi,hd⟩:=hp;obtain⟨o0,o1⟩:=hb.on_t;have e0:=jIb (u:=s.u) (b:=0) (i:=0) hb.rv.rm;have e1:=jIb (u:=s.u) (b:=1) (i:=0) hb.rv.rm;have b0 : ¬ zP3 0 0:=by decide
 have b1 : ¬ zP3 1 0:=by decide
 rw[jBi,jBh,if_neg b0,if_neg b0,show (0:Int).toNat=0 from rfl,o0,if_neg (by decide),if_neg (by decide)] at e0;rw[jBi,jBh,if_neg b1,if_neg b1,show (1:Int).toNat=1 from rfl,o1,if_pos rfl,if_pos rfl] at e1;have e2:=zC (bs:=d) oM;have e3:=jDv (u:=s.u) (i:=i) (data:=d) hb.rv oM oM oM;have hK : ∀ i' d',qC (.ev i d)=qC (.ev i' d')→evS s i d=evS s i' d'∧(⟨0,[],[[],jQ d],[]⟩:Rs)=⟨0,[],[[],jQ d'],[]⟩:=by
  intro i' d' g;simp only[qC,Rq.mk.injEq,List.cons.injEq,and_true,true_and] at g;rw[g.1,g.2];exact⟨rfl,rfl⟩
 have lS:(jQ d).length=32:=qM;have tS:List.take 32 (jQ d)=jQ d:=wF;have hT:evS s i d = { s with bk:=evB s.bk i.toNat d,u:=s.u+1 }:=rfl;rw[hT] at hK;clear hT;generalize evB s.bk i.toNat d=nb at *;generalize jQ d=S at *;generalize zC2 s.bk 1 (Int.toNat 0)=w at *;simp(maxSteps:=9^9)(disch:=try exact dS)only[go_sem,qAb,stA,rqA,qC,iT,mcn,qG];refine qB 2 (fun k=>[(1,.t (.int .i64 4)),(3,.ref 4096 0 0),(5,.ref 4112 0 0),(6,.ref 4128 0 0),(7,.ref 4144 0 0),(8,.ref 8240 0 0),(10,.ref 16384 0 0),(77,.t (.int .i64 (k:Nat)))])
  (fun k=>match k with
   | 0=>[(16384,.live 4 [.agg [.t (.int .i64 0),.nil,.nil,.nil]] true true),(8240,.live 2 [.t (.agg [.sl (s.bk.map wY),.int .i64 s.u])] true true),(4144,.live 4 [.agg [.t (.int .i64 0),.nil,.nil,.nil]] true true),(4128,.live 30 [.agg [.nil,.nil,.nil,.t (.int .i64 0),.t (.int .i64 0),.t (.int .i64 0),.t (.int .i64 0),.t (.bool false),.nil,.t (.int .i64 0),.t (.int .i64 0),.nil,.t (.int .i64 0),.t (.int .i64 0),.t (.int .i64 0),.t (.int .i64 0),.t (.int .i64 0),.t (.int .i64 0),.nil,.t (.bool false),.t (.bool false),.nil,.t (.int .i64 0),.t (.int .i64 0),.t (.bool false),.t (.int .i64 0),.nil,.nil,.nil,.nil]] true true),(4112,.live 5 [.t (.agg [.int .i64 7,.sl [],.sl [],.sl [.int .i64 i],.sl [.sl (d.map qA)]])] true true),(4096,.live 30 [.t (stA s)] true true)]
   | 1=>[(9000,.live 1 [.nil] true false),(16384,.live 4 [.agg [.t (.int .i64 0),.nil,.sl 9000 0 1,.nil]] true true),(8240,.live 2 [.t (.agg [.sl (s.bk.map wY),.int .i64 s.u])] true true),(4144,.live 4 [.agg [.t (.int .i64 0),.nil,.nil,.nil]] true true),(4128,.live 30 [.agg [.nil,.nil,.nil,.t (.int .i64 0),.t (.int .i64 0),.t (.int .i64 0),.t (.int .i64 0),.t (.bool false),.nil,.t (.int .i64 0),.t (.int .i64 0),.nil,.t (.int .i64 0),.t (.int .i64 0),.t (.int .i64 0),.t (.int .i64 0),.t (.int .i64 0),.t (.int .i64 0),.nil,.t (.bool false),.t (.bool false),.nil,.t (.int .i64 0),.t (.int .i64 0),.t (.bool false),.t (.int .i64 0),.nil,.nil,.nil,.nil]] true true),(4112,.live 5 [.t (.agg [.int .i64 7,.sl [],.sl [],.sl [.int .i64 i],.sl [.sl (d.map qA)]])] true true),(4096,.live 30 [.t (stA s)] true true)]
   | _=>[(9000,.live 1 [.nil,.sl 9001 0 32] true false),(9001,.live 1 ((S.map qA).map V.t) true false),(16384,.live 4 [.agg [.t (.int .i64 0),.nil,.sl 9000 0 2,.nil]] true true),(8240,.live 2 [.t (.agg [.sl (s.bk.map wY),.int .i64 s.u])] true true),(4144,.live 4 [.agg [.t (.int .i64 0),.nil,.nil,.nil]] true true),(4128,.live 30 [.agg [.nil,.nil,.nil,.t (.int .i64 0),.t (.int .i64 0),.t (.int .i64 0),.t (.int .i64 0),.t (.bool false),.nil,.t (.int .i64 0),.t (.int .i64 0),.nil,.t (.int .i64 0),.t (.int .i64 0),.t (.int .i64 0),.t (.int .i64 0),.t (.int .i64 0),.t (.int .i64 0),.nil,.t (.bool false),.t (.bool false),.nil,.t (.int .i64 0),.t (.int .i64 0),.t (.bool false),.t (.int .i64 0),.nil,.nil,.nil,.nil]] true true),(4112,.live 5 [.t (.agg [.int .i64 7,.sl [],.sl [],.sl [.int .i64 i],.sl [.sl (d.map qA)]])] true true),(4096,.live 30 [.t (stA s)] true true)])
  (qK.rd id ?_ ?_ rfl) (fun k hk=>?_)
 ·simp(maxSteps:=9^9)(disch:=try exact dS)only[go_sem,id]
 ·simp(maxSteps:=9^9)(disch:=try exact dS)only[go_sem,id,stA]
 obtain rfl | rfl | rfl:k=0∨k=1∨k=2:=oM
 ·simp(maxSteps:=9^9)(disch:=try exact dS)only[go_sem,h1,h4,e0,stA];repeat refine aiG ?_
  refine qK.rd (fun j=>if j=9000 then 90176 else j) ?_ ?_ rfl;all_goals simp(maxSteps:=9^9)(disch:=try exact dS)only[go_sem,id,stA]
 ·simp(maxSteps:=9^9)(disch:=try exact dS)only[go_sem,h1,h4,e1,e2,lS,tS,stA];repeat refine aiG ?_
  refine qK.rd (fun j=>if j=9000 then 90176 else if j=9001 then 86096 else j) ?_ ?_ rfl;all_goals simp(maxSteps:=9^9)(disch:=try exact dS)only[go_sem,id,stA]
 ·simp(maxSteps:=9^9)(disch:=try exact dS)only[go_sem,h1,h4,h5,e1,e2,e3,lS,tS,stA];first | exact (zR4 { s with bk:=nb,u:=s.u+1 } ⟨0,[],[[],S],[]⟩ hK rfl rfl) | exact⟨rfl,(zR4 { s with bk:=nb,u:=s.u+1 } ⟨0,[],[[],S],[]⟩ hK rfl rfl)⟩ | exact⟨rfl,rfl,(zR4 { s with bk:=nb,u:=s.u+1 } ⟨0,[],[[],S],[]⟩ hK rfl rfl)⟩ | exact⟨rfl,rfl,rfl,(zR4 { s with bk:=nb,u:=s.u+1 } ⟨0,[],[[],S],[]⟩ hK rfl rfl)⟩
def ixV (s:St)(d:List UInt8):Av:= .idx 257 2 d (inF (s.a.ix.getD 0 default))
def pxP (s:St)(h:Int)(d:List UInt8):Prop:=(qHs s h).2.2=true∧(∃ v y,ctN s v∧y≠0∧d=z7 y)∧(qHs s h).2.1.kd=2∧(qHs s h).2.1.dg.length=32
def asR (s:St)(h:Int)(a:Av):St×Rs:=if (asF s h a).2=0 then ((asF s h a).1,⟨0,[],[],[]⟩) else (s,⟨(asF s h a).2,[],[],[]⟩)
def qLv:ECt where
 α:=St×Rq
 β:=St×Rs
 aS:=fun (s,q)=>[.t (stA s),.t (rqA q)]
 pre:=fun (s,q)=>((RV s.bk∧0≤s.u)∧s.ses.length=3)∧((∃ h a,q=qC (.po h a)∧tmI h∧(qHs s h).2.2=true∧fmP a∧ckP s (qHs s h).2.1 a∧(qHs s h).2.1.dg.length=32) ∨ ∃ h d,q=qC (.px h d)∧tmI h∧pxP s h d)
 r:=fun (t,r)=> .tup [.t (stA t),.t (rsA r)]
 R:=fun (s,q) (t,r)=>(∀ h a,fmP a→q=qC (.po h a)→(t,r)=asR s h a) ∧ ∀ h d,q=qC (.px h d)→(t,r)=asR s h (ixV s d)
theorem zV2 {g:EF qLv}{s:St}{q:Rq}(hp:((RV s.bk∧0≤s.u)∧s.ses.length=3)∧((∃ h a,q=qC (.po h a)∧tmI h∧(qHs s h).2.2=true∧fmP a∧ckP s (qHs s h).2.1 a∧(qHs s h).2.1.dg.length=32) ∨ ∃ h d,q=qC (.px h d)∧tmI h∧pxP s h d)) : ∃ (t:St) (r:Rs),((∀ h a,fmP a→q=qC (.po h a)→(t,r)=asR s h a) ∧ ∀ h d,q=qC (.px h d)→(t,r)=asR s h (ixV s d))∧qLv.fs g [.t (stA s),.t (rqA q)] []=some (.tup [.t (stA t),.t (rsA r)],[]):=by
 obtain⟨y,h1,h2⟩:=qLv.eq g (s,q) hp;exact⟨y.1,y.2,h1,h2⟩
theorem qRm {s:St}{q:Rq}(t:St)(r:Rs)(hR:(∀ h a,fmP a→q=qC (.po h a)→(t,r)=asR s h a) ∧ ∀ h d,q=qC (.px h d)→(t,r)=asR s h (ixV s d))(hV:vv = .tup [.t (stA t),.t (rsA r)])(hO:oo=[]):qLv.K (s,q) vv oo:=⟨(t,r),hR,hV,hO⟩
theorem zG7 {h h':Int}{a:Av}{d:List UInt8}(f:fmP a) : ¬ qC (.po h a)=qC (.px h' d):=by
 intro e;cases a<;>simp only[fmP] at f<;>simp[qC,avN,avB] at e
theorem zM6 {h h':Int}{a a':Av}(f:fmP a)(f':fmP a')(e:qC (.po h a)=qC (.po h' a')):h=h'∧a=a':=by
 cases a<;>cases a'<;>simp only[fmP] at f f'<;>simp[qC,avN,avB] at e;all_goals first | exact⟨e,rfl⟩ | (obtain⟨rfl,rfl⟩:=e;exact⟨rfl,rfl⟩) | (exact f.elim) | (exact f'.elim) | (obtain⟨rfl,rfl,rfl⟩:=e;exact⟨rfl,rfl⟩) | (obtain⟨⟨rfl,rfl,rfl⟩,rfl⟩:=e;exact⟨rfl,rfl⟩) | (exfalso;revert e;simp)
theorem qU5 {g1}(h1:LkE tab 119 xM g1){g2}(h2:LkE tab 136 qDr g2){g3}(h3:LkE tab 178 qGs g3){g4}(h4:LkE tab 179 qL9 g4){g5}(h5:LkE tab 138 qGv g5)(s:St)(q:Rq)(hp:((RV s.bk∧0≤s.u)∧s.ses.length=3)∧((∃ h a,q=qC (.po h a)∧tmI h∧(qHs s h).2.2=true∧fmP a∧ckP s (qHs s h).2.1 a∧(qHs s h).2.1.dg.length=32) ∨ ∃ h d,q=qC (.px h d)∧tmI h∧pxP s h d)) :
  wG.1.wp tab gl (qE 0 [.t (stA s),.t (rqA q)]) (qE 0 []) (zA [(4,(some (30,true))),(5,(some (4,true)))] 0 (qLv.K (s,q))):=by
 obtain⟨hv,hq⟩:=hp;rcases hq with⟨h,a,rfl,ht,hb,hf,hc,hd⟩ | ⟨h,d,rfl,ht,hb,⟨v,y,hv',hy,rfl⟩,hk2,hd⟩
 rotate_left
 ·have hx0:s.a.ix.getD 0 default=cnI true (z7 v):=by rw[hv'.1];rfl
  obtain⟨t,e,q1,c1⟩:=zWn (g:=g4) (s:=s) (h:=h) (a:= .idx 257 2 (z7 y) (inF (cnI true (z7 v)))) ⟨hv.1,⟨hv.2,ht⟩,hb,.inr ⟨_,_,rfl,rfl,qC4⟩,⟨.inl hk2,hk2,v,y,hv',hy,rfl,rfl,rfl,rfl⟩,hd⟩;obtain⟨t',r',q2,c2⟩:=zMl (g:=g5) (s:=s) (c:=t) (e:=e);obtain⟨i,ei,q3,c3⟩:=zAw (g:=g2) (s:=s) (h:=257) ⟨by rw[hv'.1];simp,by rw[hv'.1];simp[cnI],by unfold tmI;omega⟩;obtain⟨rfl,rfl⟩:i=0∧ei=0:=by
   have hx:ixP s.a.ix 257 0=0:=by rw[hv'.1];simp[ixP,cnI]
   rw[qRf,hx] at q3;exact⟨congrArg (·.1) q3,congrArg (·.2) q3⟩
  have c4:=zL9 (g:=g3) (x:=cnI true (z7 v)) (by simp[cnI]);have hK:(∀ h' a',fmP a'→qC (.px h (z7 y))=qC (.po h' a')→(t',r')=asR s h' a') ∧ ∀ h' d',qC (.px h (z7 y))=qC (.px h' d')→(t',r')=asR s h' (ixV s d'):=by
   refine⟨fun h' a' f' e'=>absurd e'.symm (zG7 f'),fun h' d' e'=>?_⟩;simp[qC] at e';obtain⟨rfl,rfl⟩:=e';rw[q2,asR,ixV,hx0,←q1]
  clear q1 q2 q3 hx0 hb hk2 hd;have ln:=qC4 (x:=cnI true (z7 v));have l8:(z7 y).length=8:=rfl;obtain⟨hix,hv0,hrl⟩:=hv';generalize inF (cnI true (z7 v))=N at *;simp only[cnI] at hix c4;generalize z7 v=V at *;generalize z7 y=Y at *;simp only[stA,rsA,avA,avL,hix,mcn] at c1 c2 c3;simp only[ixA,List.map_nil] at c1 c2 c3 c4;simp(maxSteps:=9^9)(disch:=try exact dS)only[go_sem,wG,stA,rsA,rqA,qC,avN,avB,iT,ixA,hix,mcn,qG,h2,h3,h4,h5,c1,c2,c3,c4];first | exact (qRm t' r' hK rfl rfl) | exact⟨rfl,(qRm t' r' hK rfl rfl)⟩ | exact⟨rfl,rfl,(qRm t' r' hK rfl rfl)⟩ | exact⟨rfl,rfl,rfl,(qRm t' r' hK rfl rfl)⟩
 obtain⟨t,e,q1,c1⟩:=zWn (g:=g4) (s:=s) (h:=h) (a:=a) ⟨hv.1,⟨hv.2,ht⟩,hb,.inl hf,hc,hd⟩;obtain⟨t',r',q2,c2⟩:=zMl (g:=g5) (s:=s) (c:=t) (e:=e);have hK:(∀ h' a',fmP a'→qC (.po h a)=qC (.po h' a')→(t',r')=asR s h' a') ∧ ∀ h' d',qC (.po h a)=qC (.px h' d')→(t',r')=asR s h' (ixV s d'):=by
  refine⟨fun h' a' f' g=>?_,fun h' d' g=>absurd g (zG7 hf)⟩;obtain⟨rfl,rfl⟩:=zM6 hf f' g;rw[q2,asR,←q1]
 clear q1 q2 hc;simp only[stA,rsA] at c1 c2;cases a
 case idx=>exact hf.elim
 case apr=>exact hf.elim
 case reg s0 s1 d=>
  obtain⟨rfl,_,rfl⟩:=hf;simp only[avA,avL,List.map_nil] at c1;simp(maxSteps:=9^9)(disch:=try exact dS)only[go_sem,wG,stA,rsA,rqA,qC,avN,avB,iT,mcn,qG,h4,h5,c1,c2];first | exact (qRm t' r' hK rfl rfl) | exact⟨rfl,(qRm t' r' hK rfl rfl)⟩ | exact⟨rfl,rfl,(qRm t' r' hK rfl rfl)⟩ | exact⟨rfl,rfl,rfl,(qRm t' r' hK rfl rfl)⟩
 all_goals
  simp only[avA,avL,List.map_nil] at c1;simp(maxSteps:=9^9)(disch:=try exact dS)only[go_sem,wG,stA,rsA,rqA,qC,avN,avB,iT,mcn,qG,h4,h5,c1,c2];first | exact (qRm t' r' hK rfl rfl) | exact⟨rfl,(qRm t' r' hK rfl rfl)⟩ | exact⟨rfl,rfl,(qRm t' r' hK rfl rfl)⟩ | exact⟨rfl,rfl,rfl,(qRm t' r' hK rfl rfl)⟩
def dfS (s:St):St := { s with a := { s.a with ix:=[ctI 0] } }
def icS (s:St):St := { s with a := { s.a with mc:=s.a.mc+1,ix:=[ctI (s.a.mc+1)] } }
def qIx:ECt where
 α:=St×Rq
 β:=St×Rs
 aS:=fun (s,q)=>[.t (stA s),.t (rqA q)]
 pre:=fun (s,q)=>q=qC .df∧s.a.ix=[]
 r:=fun (t,r)=> .tup [.t (stA t),.t (rsA r)]
 R:=fun (s,q) (t,r)=>t=dfS s∧r=⟨0,[],[],[]⟩
theorem jE1 {g:EF qIx}{s:St}{q:Rq}(hp:q=qC .df∧s.a.ix=[]) : ∃ (t:St) (r:Rs),(t=dfS s∧r=⟨0,[],[],[]⟩)∧qIx.fs g [.t (stA s),.t (rqA q)] []=some (.tup [.t (stA t),.t (rsA r)],[]):=by
 obtain⟨y,h1,h2⟩:=qIx.eq g (s,q) hp;exact⟨y.1,y.2,h1,h2⟩
theorem jLa {s:St}{q:Rq}(t:St)(r:Rs)(hR:t=dfS s∧r=⟨0,[],[],[]⟩)(hV:vv = .tup [.t (stA t),.t (rsA r)])(hO:oo=[]):qIx.K (s,q) vv oo:=⟨(t,r),hR,hV,hO⟩
theorem qU6 {g1}(h1:LkE tab 211 qIp g1){g2}(h2:LkE tab 119 xM g2)(h4:tab.look 212=some (zF3 213).fs)(h5:tab.look 214=some zF4.fs)(s:St)(q:Rq)(hp:q=qC .df∧s.a.ix=[]) :
  qCb.1.wp tab gl (qE 0 [.t (stA s),.t (rqA q)]) (qE 0 []) (zA [(4,(some (30,true))),(5,(some (4,true)))] 0 (qIx.K (s,q))):=by
 obtain⟨rfl,hix⟩:=hp;obtain⟨x,e,⟨rfl,rfl⟩,e1⟩:=jD5 (g:=g1) (n:=1) (k:=2) (t:=48) (z:=8) (au:=[]) (po:=[]) ⟨rfl,rfl,rfl,rfl,rfl,rfl⟩;have e4 := @jC4 213 (ctI 0);have e5:=jC5;have hK : ∀ vv,vv = .tup [.t (stA (dfS s)),.t (rsA ⟨0,[],[],[]⟩)]→qIx.K (s,qC .df) vv []:=fun vv h=>jLa (dfS s) ⟨0,[],[],[]⟩ ⟨rfl,rfl⟩ h rfl
 have hz:qWv 8 [ixA (ctI 0)]=true:=jRs (l:=[ctI 0]);simp only[dfS,stA,rsA,iT,mcn] at hK;simp only[List.map_nil] at e1;simp only[ixA] at e1 e4 hz hK;generalize ctI 0=X at *;simp(maxSteps:=9^9)(disch:=try exact dS)only[go_sem,qCb,stA,rqA,qC,azA,iT,hix,mcn,qG,h1,e1,h4,e4,h5,e5,hz];repeat refine aiG ?_
 exact hK _ rfl
def qIy:ECt where
 α:=St×Rq
 β:=St×Rs
 aS:=fun (s,q)=>[.t (stA s),.t (rqA q)]
 pre:=fun (s,q)=>q=qC .ic∧s.wl=[]∧(0≤s.a.mc∧s.a.mc≤1000)∧s.a.ix=[ctI s.a.mc]
 r:=fun (t,r)=> .tup [.t (stA t),.t (rsA r)]
 R:=fun (s,q) (t,r)=>t=icS s∧r=⟨0,[],[],[]⟩
theorem jE3 {g:EF qIy}{s:St}{q:Rq}(hp:q=qC .ic∧s.wl=[]∧(0≤s.a.mc∧s.a.mc≤1000)∧s.a.ix=[ctI s.a.mc]) : ∃ (t:St) (r:Rs),(t=icS s∧r=⟨0,[],[],[]⟩)∧qIy.fs g [.t (stA s),.t (rqA q)] []=some (.tup [.t (stA t),.t (rsA r)],[]):=by
 obtain⟨y,h1,h2⟩:=qIy.eq g (s,q) hp;exact⟨y.1,y.2,h1,h2⟩
theorem jLb {s:St}{q:Rq}(t:St)(r:Rs)(hR:t=icS s∧r=⟨0,[],[],[]⟩)(hV:vv = .tup [.t (stA t),.t (rsA r)])(hO:oo=[]):qIy.K (s,q) vv oo:=⟨(t,r),hR,hV,hO⟩
theorem qRy {g1}(h1:LkE tab 136 qDr g1){g2}(h2:LkE tab 119 xM g2){g4}(h4:LkE tab 222 qJd g4){g7}(h7:LkE tab 225 qIo g7)(h10:tab.look 214=some zF4.fs)(s:St)(q:Rq)(hp:q=qC .ic∧s.wl=[]∧(0≤s.a.mc∧s.a.mc≤1000)∧s.a.ix=[ctI s.a.mc]) :
  qA5.1.wp tab gl (qE 0 [.t (stA s),.t (rqA q)]) (qE 0 []) (zA [(4,(some (30,true))),(5,(some (4,true)))] 0 (qIy.K (s,q))):=by
 obtain⟨rfl,hwl,hm,hix⟩:=hp;obtain⟨i,e,q1,e1⟩:=zAw (g:=g1) (s:=s) (h:=257) ⟨by rw[hix];simp,by rw[hix];simp[ctI,cnI],by unfold tmI;omega⟩;obtain⟨rfl,rfl⟩:i=0∧e=0:=by
  have hx:ixP s.a.ix 257 0=0:=by rw[hix];simp[ixP,ctI,cnI]
  rw[qRf,hx] at q1;exact⟨congrArg (·.1) q1,congrArg (·.2) q1⟩
 clear q1;have e4:=zWy (g:=g4) (l:=[]) (v:=1) rfl;obtain⟨y,k,e,⟨rfl,rfl,rfl⟩,e7⟩:=jD4 (g:=g7) (x:=ctI s.a.mc) (m:=s.a.mc) ⟨hm,rfl⟩;have e10 := @jC6 (ctI s.a.mc);have hK : ∀ vv,vv = .tup [.t (stA (icS s)),.t (rsA ⟨0,[],[],[]⟩)]→qIy.K (s,qC .ic) vv []:=fun vv h=>jLb (icS s) ⟨0,[],[],[]⟩ ⟨rfl,rfl⟩ h rfl
 simp only[icS,stA,rsA,iT,hwl,mcn] at hK;have hn:(ctI s.a.mc).n=1:=rfl;generalize ctI (s.a.mc+1)=Y at *;generalize ctI s.a.mc=X at *;generalize s.a.mc+1=m1 at *;simp only[stA,hix,hwl,mcn] at e1 e4;simp only[ixA,hn] at e1 e7 e10 hK;simp(maxSteps:=9^9)(disch:=try exact dS)only[go_sem,qA5,stA,rqA,qC,azA,iT,ixA,hix,hwl,hn,mcn,qG,h1,e1,h4,e4,h7,e7,h10,e10];repeat refine aiG ?_
 exact hK _ rfl
def yF (s:St):Cm→St×Rs
 | .up=>(qP8 s,⟨0,[],[],[]⟩)
 | .ev i d=>(evS s i d,⟨0,[],[[],jQ d],[]⟩)
 | .op k=>((qSj s k).1,⟨0,[768+frS s.ses 0],[qYr s 16],[]⟩)
 | .po h a=>asR s h a
 | .px h d=>asR s h (ixV s d)
 | .pd h=>(s,⟨0,[],[(qBm s h).2.1.dg],[]⟩)
 | .pr h po au da=>qKb s h po au da
 | .un h ss _=>if ckE s h ss=0 then (zCz s ss,⟨0,[],[(xV s h).1.s.da],[]⟩) else (s,⟨ckE s h ss,[],[],[]⟩)
 | .df=>(dfS s,⟨0,[],[],[]⟩)
 | .ic=>(icS s,⟨0,[],[],[]⟩)
 | _=>default
def CmP (s:St)(lo:Int):Cm→Prop
 | .up=>s.a.Ok∧s.cn 1000000∧s.on=false∧s.off=false
 | .ev i d=>EvP s∧lo=4∧(0≤i∧i≤15)∧d.length≤100
 | .op k=>OpP s∧2≤k∧k≤3
 | .po h a=>((RV s.bk∧0≤s.u)∧s.ses.length=3)∧tmI h∧(qHs s h).2.2=true∧fmP a∧ckP s (qHs s h).2.1 a∧(qHs s h).2.1.dg.length=32
 | .px h d=>((RV s.bk∧0≤s.u)∧s.ses.length=3)∧tmI h∧pxP s h d
 | .pd h=>s.ses.length=3∧tmI h∧(qBm s h).2.2=true∧(qBm s h).2.1.kd≠1
 | .pr h po au da=>PrP s h po au da
 | .un h ss v=>CkP s (qC (.un h ss v))∧(ckE s h ss=0→(qBm s ss).2.1.kd=2)∧s.En∧tmI h∧(xV s h).2=0
 | .df=>CkP s (qC .df)∧s.En∧s.a.ix=[]
 | .ic=>CkP s (qC .ic)∧s.En∧s.wl=[]∧(0≤s.a.mc∧s.a.mc≤1000)∧s.a.ix=[ctI s.a.mc]
 | _=>False
theorem jFz {s:St}{lo:Int}{c d:Cm}(hc:CmP s lo c)(hd:CmP s lo d)(e:qC c=qC d):c=d:=by
 cases c<;>cases d<;>simp only[CmP] at hc hd
 case po.po h a h' a'=>
  obtain⟨rfl,rfl⟩:=zM6 hc.2.2.2.1 hd.2.2.2.1 e;rfl
 case po.px=>exact absurd e (zG7 hc.2.2.2.1)
 case px.po=>exact absurd e.symm (zG7 hd.2.2.2.1)
 all_goals (simp[qC] at e)
 all_goals first | rfl | (subst e;rfl) | (obtain⟨rfl,rfl⟩:=e;rfl) | (obtain⟨rfl,rfl,rfl⟩:=e;rfl) | (obtain⟨rfl,rfl,rfl,rfl⟩:=e;rfl)
theorem qXf {s:St}{lo:Int}{c:Cm}(hc:CmP s lo c){t:St}{r:Rs}(h:(t,r)=yF s c) : ∀ d,CmP s lo d→qC c=qC d→(t,r)=yF s d:=by
 intro d hd e;rw[←jFz hc hd e];exact h
def qLz:ECt where
 α:=St×Int×Rq
 β:=St×Rs
 aS:=fun (s,lo,q)=>[.t (stA s),.t (.int .i64 lo),.t (rqA q)]
 pre:=fun (s,lo,q) => ∃ c,q=qC c∧CmP s lo c∧(c = .up∨(∃ i d,c = .ev i d)∨(∃ k,c = .op k)∨(∃ h a,c = .po h a)∨(∃ h d,c = .px h d) ∨ ∃ h,c = .pd h)
 r:=fun (t,r)=> .tup [.t (stA t),.t (rsA r)]
 R:=fun (s,lo,q) (t,r) => ∀ d,CmP s lo d→q=qC d→(t,r)=yF s d
theorem jE5 {g:EF qLz}{s:St}{lo:Int}{q:Rq}(hp : ∃ c,q=qC c∧CmP s lo c∧(c = .up∨(∃ i d,c = .ev i d)∨(∃ k,c = .op k)∨(∃ h a,c = .po h a)∨(∃ h d,c = .px h d) ∨ ∃ h,c = .pd h)) : ∃ (t:St) (r:Rs),(∀ d,CmP s lo d→q=qC d→(t,r)=yF s d)∧qLz.fs g [.t (stA s),.t (.int .i64 lo),.t (rqA q)] []=some (.tup [.t (stA t),.t (rsA r)],[]):=by
 obtain⟨y,h1,h2⟩:=qLz.eq g (s,lo,q) hp;exact⟨y.1,y.2,h1,h2⟩
theorem qCw {s:St}{lo:Int}{q:Rq}(t:St)(r:Rs)(hR : ∀ d,CmP s lo d→q=qC d→(t,r)=yF s d)(hV:vv = .tup [.t (stA t),.t (rsA r)])(hO:oo=[]):qLz.K (s,lo,q) vv oo:=⟨(t,r),hR,hV,hO⟩
theorem qV6 {g1}(h1:LkE tab 137 qTn g1){g2}(h2:LkE tab 138 qGv g2){g3}(h3:LkE tab 139 zK4 g3){g4}(h4:LkE tab 140 qL0 g4){g6}(h6:LkE tab 142 qLy g6){g7}(h7:LkE tab 143 qLv g7){g8}(h8:LkE tab 144 qYc g8){g9}(h9:LkE tab 119 xM g9){g11}(h11:LkE tab 146 qFe g11)(s:St)(lo:Int)(q:Rq)(hp : ∃ c,q=qC c∧CmP s lo c∧(c = .up∨(∃ i d,c = .ev i d)∨(∃ k,c = .op k)∨(∃ h a,c = .po h a)∨(∃ h d,c = .px h d) ∨ ∃ h,c = .pd h)) :
  yG.1.wp tab gl (qE 0 [.t (stA s),.t (.int .i64 lo),.t (rqA q)]) (qE 0 []) (zA [(6,(some (30,true))),(7,(some (4,true)))] 0 (qLz.K (s,lo,q))):=by
 obtain⟨c,rfl,hc,hk⟩:=hp;have hS:=fun t r => @qXf s lo c hc t r
 rcases hk with rfl | ⟨i,d,rfl⟩ | ⟨k,rfl⟩ | ⟨h,a,rfl⟩ | ⟨h,d,rfl⟩ | ⟨h,rfl⟩
 ·obtain⟨ok,cn,on,off⟩:=hc;obtain⟨y,e,⟨q1,q2⟩,e1⟩:=jHa (g:=g1) (s:=s) (m:=0) ⟨ok,cn⟩;have hs:jB6 s 0=(qP8 s,0):=by simp[jB6,on,off]
  rw[hs] at q1 q2;subst q1 q2;obtain⟨t,r,q3,e2⟩:=zMl (g:=g2) (s:=s) (c:=qP8 s) (e:=0);rw[if_pos rfl] at q3;have hK:=hS t r q3;clear hS q3 hs;simp only at e1;generalize qP8 s=y at *;simp only[stA,rsA] at e1 e2;simp(maxSteps:=9^9)(disch:=try exact dS)only[go_sem,yG,stA,rsA,rqA,qC,iT,mcn,h1,h2,e1,e2];first | exact (qCw t r hK rfl rfl) | exact⟨rfl,(qCw t r hK rfl rfl)⟩ | exact⟨rfl,rfl,(qCw t r hK rfl rfl)⟩ | exact⟨rfl,rfl,rfl,(qCw t r hK rfl rfl)⟩
 ·obtain⟨t,r,q,e1⟩:=jE6 (g:=g4) (s:=s) (lo:=lo) (q:=qC (.ev i d)) ⟨hc.1,hc.2.1,i,d,rfl,hc.2.2⟩;obtain⟨rfl,rfl⟩:=q i d rfl;have hK:=hS _ _ rfl;simp only[yF] at hK;clear hS q;generalize evS s i d=y at *;simp only[stA,rsA,rqA,qC,iT,mcn,qG] at e1;simp(maxSteps:=9^9)(disch:=try exact dS)only[go_sem,yG,stA,rsA,rqA,qC,iT,mcn,qG,h4,e1];first | exact (qCw _ _ hK rfl rfl) | exact⟨rfl,(qCw _ _ hK rfl rfl)⟩ | exact⟨rfl,rfl,(qCw _ _ hK rfl rfl)⟩ | exact⟨rfl,rfl,rfl,(qCw _ _ hK rfl rfl)⟩
 ·obtain⟨t,r,q,e1⟩:=jE4 (g:=g6) (s:=s) (q:=qC (.op k)) ⟨hc.1,k,rfl,hc.2⟩;obtain⟨rfl,rfl⟩:=q k rfl;have hK:=hS _ _ rfl;simp only[yF] at hK;clear hS q;generalize (qSj s k).1=y at *;simp only[stA,rsA,rqA,qC,iT,mcn,qG] at e1;simp(maxSteps:=9^9)(disch:=try exact dS)only[go_sem,yG,stA,rsA,rqA,qC,iT,mcn,qG,h6,e1];first | exact (qCw _ _ hK rfl rfl) | exact⟨rfl,(qCw _ _ hK rfl rfl)⟩ | exact⟨rfl,rfl,(qCw _ _ hK rfl rfl)⟩ | exact⟨rfl,rfl,rfl,(qCw _ _ hK rfl rfl)⟩
 ·obtain⟨t,r,q,e1⟩:=zV2 (g:=g7) (s:=s) (q:=qC (.po h a)) ⟨hc.1,.inl ⟨h,a,rfl,hc.2⟩⟩;have hK:=hS t r (q.1 h a hc.2.2.2.1 rfl);clear hS q;simp only[stA,rsA,rqA,qC,iT,mcn] at e1;simp(maxSteps:=9^9)(disch:=try exact dS)only[go_sem,yG,stA,rsA,rqA,qC,iT,mcn,h7,e1];first | exact (qCw t r hK rfl rfl) | exact⟨rfl,(qCw t r hK rfl rfl)⟩ | exact⟨rfl,rfl,(qCw t r hK rfl rfl)⟩ | exact⟨rfl,rfl,rfl,(qCw t r hK rfl rfl)⟩
 ·obtain⟨t,r,q,e1⟩:=zV2 (g:=g7) (s:=s) (q:=qC (.px h d)) ⟨hc.1,.inr ⟨h,d,rfl,hc.2⟩⟩;have hK:=hS t r (q.2 h d rfl);clear hS q hc;simp only[stA,rsA,rqA,qC,iT,mcn,qG] at e1;simp(maxSteps:=9^9)(disch:=try exact dS)only[go_sem,yG,stA,rsA,rqA,qC,iT,mcn,qG,h7,e1];first | exact (qCw t r hK rfl rfl) | exact⟨rfl,(qCw t r hK rfl rfl)⟩ | exact⟨rfl,rfl,(qCw t r hK rfl rfl)⟩ | exact⟨rfl,rfl,rfl,(qCw t r hK rfl rfl)⟩
 ·obtain⟨x,ex,q,e1⟩:=zHb (g:=g11) (s:=s) (h:=h) ⟨hc.1,hc.2.1⟩;rw[if_pos hc.2.2.1] at q;cases q;have hk:=hc.2.2.2;have hK:=hS s ⟨0,[],[(qBm s h).2.1.dg],[]⟩ rfl;clear hS hc;generalize (qBm s h).2.1=x at *;simp only[stA,jP] at e1;simp(maxSteps:=9^9)(disch:=try exact dS)only[go_sem,yG,stA,rsA,rqA,qC,iT,mcn,qG,h11,e1,hk];first | exact (qCw s ⟨0,[],[x.dg],[]⟩ hK rfl rfl) | exact⟨rfl,(qCw s ⟨0,[],[x.dg],[]⟩ hK rfl rfl)⟩ | exact⟨rfl,rfl,(qCw s ⟨0,[],[x.dg],[]⟩ hK rfl rfl)⟩ | exact⟨rfl,rfl,rfl,(qCw s ⟨0,[],[x.dg],[]⟩ hK rfl rfl)⟩
def plC (c:Cm):Prop:=c = .up∨(∃ i d,c = .ev i d)∨(∃ k,c = .op k)∨(∃ h a,c = .po h a)∨(∃ h d,c = .px h d) ∨ ∃ h,c = .pd h
def alP (s:St)(c:Cm):Prop:=plC c∨(s.En∧((∃ h po au da,c = .pr h po au da∧0≤h∧h≤2)∨(∃ h ss v,c = .un h ss v∧tmI h∧(xV s h).2=0)∨c = .df∨(c = .ic∧s.a.ix=[ctI s.a.mc])))
def qLu:ECt where
 α:=St×Rq
 β:=Bool
 aS:=fun (s,q)=>[.t (stA s),.t (rqA q)]
 pre:=fun (s,q) => ∃ c,q=qC c∧alP s c
 r:=fun b=> .t (.bool b)
 R:=fun (s,q) b=>b=true
theorem jE0 {g:EF qLu}{s:St}{q:Rq}(hp : ∃ c,q=qC c∧alP s c) : ∃ (b:Bool),(b=true)∧qLu.fs g [.t (stA s),.t (rqA q)] []=some (.t (.bool b),[]):=qLu.eq g (s,q) hp
theorem qFy {s:St}{q:Rq}(b:Bool)(hR:b=true)(hV:vv = .t (.bool b))(hO:oo=[]):qLu.K (s,q) vv oo:=⟨b,hR,hV,hO⟩
theorem qRx {g1}(h1:LkE tab 134 qGr g1){g2}(h2:LkE tab 135 qFc g2){g3}(h3:LkE tab 136 qDr g3)(s:St)(q:Rq)(hp : ∃ c,q=qC c∧alP s c) :
  jU.1.wp tab gl (qE 0 [.t (stA s),.t (rqA q)]) (qE 0 []) (zA [(4,none)] 0 (qLu.K (s,q))):=by
 obtain⟨c,rfl,hc⟩:=hp;rcases hc with hk | ⟨he,⟨h,po,au,da,rfl,h0,h2'⟩ | ⟨h,ss,v,rfl,ht,ho⟩ | rfl | ⟨rfl,hix⟩⟩
 ·rcases hk with rfl | ⟨i,d,rfl⟩ | ⟨k,rfl⟩ | ⟨h,a,rfl⟩ | ⟨h,d,rfl⟩ | ⟨h,rfl⟩;all_goals
   simp(maxSteps:=9^9)(disch:=try exact dS)only[go_sem,jU,stA,rqA,qC,iT,mcn,qG];refine qJ 1 ?_;simp(maxSteps:=9^9)(disch:=try exact dS)only[go_sem,qF,stA,rqA,qC,iT,mcn,qG];first | exact (qFy true rfl rfl rfl) | exact⟨rfl,(qFy true rfl rfl rfl)⟩ | exact⟨rfl,rfl,(qFy true rfl rfl rfl)⟩ | exact⟨rfl,rfl,rfl,(qFy true rfl rfl rfl)⟩
 ·obtain⟨x,e,q,e1⟩:=zAu (g:=g1) (s:=s) (h:=h) ⟨he,oM⟩;rw[qF9,if_pos oM] at q;cases q;simp only[stA] at e1;simp(maxSteps:=9^9)(disch:=try exact dS)only[go_sem,jU,stA,rqA,qC,azA,iT,mcn,qG];refine qJ 2 ?_;simp(maxSteps:=9^9)(disch:=try exact dS)only[go_sem,qF,stA,rqA,qC,azA,iT,mcn,qG,h1,e1,h2'];first | exact (qFy true rfl rfl rfl) | exact⟨rfl,(qFy true rfl rfl rfl)⟩ | exact⟨rfl,rfl,(qFy true rfl rfl rfl)⟩ | exact⟨rfl,rfl,rfl,(qFy true rfl rfl rfl)⟩
 ·obtain⟨x,e,q,e1⟩:=zAu (g:=g1) (s:=s) (h:=h) ⟨he,ht⟩;rw[zLu he ho] at q;cases q;obtain⟨y,ey,q2,e2⟩:=zGm (g:=g2) (s:=s) (h:=h) ⟨he.obs.1,ht⟩;have k2:ey=0:=by rw[←ho,←q2]
  subst k2;clear q2;generalize zG0 _ _=nm at *;simp only[stA,qBl] at e1 e2;simp(maxSteps:=9^9)(disch:=try exact dS)only[go_sem,jU,stA,rqA,qC,azA,iT,mcn,qG];refine qJ 2 ?_;simp(maxSteps:=9^9)(disch:=try exact dS)only[go_sem,qF,stA,rqA,qC,azA,iT,mcn,qG,h1,h2,e1,e2];first | exact (qFy true rfl rfl rfl) | exact⟨rfl,(qFy true rfl rfl rfl)⟩ | exact⟨rfl,rfl,(qFy true rfl rfl rfl)⟩ | exact⟨rfl,rfl,rfl,(qFy true rfl rfl rfl)⟩
 ·obtain⟨x,e,q,e1⟩:=zAu (g:=g1) (s:=s) (h:=1) ⟨he,by unfold tmI;omega⟩;rw[qF9,if_pos oM] at q;cases q;simp only[stA] at e1;simp(maxSteps:=9^9)(disch:=try exact dS)only[go_sem,jU,stA,rqA,qC,azA,iT,mcn,qG];refine qJ 2 ?_;simp(maxSteps:=9^9)(disch:=try exact dS)only[go_sem,qF,stA,rqA,qC,azA,iT,mcn,qG,h1,e1];first | exact (qFy true rfl rfl rfl) | exact⟨rfl,(qFy true rfl rfl rfl)⟩ | exact⟨rfl,rfl,(qFy true rfl rfl rfl)⟩ | exact⟨rfl,rfl,rfl,(qFy true rfl rfl rfl)⟩
 ·obtain⟨x,e,q,e1⟩:=zAu (g:=g1) (s:=s) (h:=1) ⟨he,by unfold tmI;omega⟩;rw[qF9,if_pos oM] at q;cases q;have hx:ixP s.a.ix 257 0=0:=by rw[hix];simp[ixP,ctI,cnI]
  have h0:qRf s 257=(0,0):=by rw[qRf,hx];rfl
  obtain⟨x2,ex2,q2,e2⟩:=zAu (g:=g1) (s:=s) (h:=257) ⟨he,by unfold tmI;omega⟩;rw[qF9,if_neg oM,h0,if_pos rfl] at q2;cases q2;obtain⟨i,ei,q3,e3⟩:=zAw (g:=g3) (s:=s) (h:=257) ⟨by rw[hix];simp,by rw[hix];simp[ctI,cnI],by unfold tmI;omega⟩;rw[h0] at q3;cases q3;generalize inF _=N at *;generalize hnF _=M at *;simp only[stA] at e1 e2 e3;simp(maxSteps:=9^9)(disch:=try exact dS)only[go_sem,jU,stA,rqA,qC,azA,iT,mcn,qG];refine qJ 3 ?_;simp(maxSteps:=9^9)(disch:=try exact dS)only[go_sem,qF,stA,rqA,qC,azA,iT,mcn,qG,h1,e1,e2,h3,e3];first | exact (qFy true rfl rfl rfl) | exact⟨rfl,(qFy true rfl rfl rfl)⟩ | exact⟨rfl,rfl,(qFy true rfl rfl rfl)⟩ | exact⟨rfl,rfl,rfl,(qFy true rfl rfl rfl)⟩
def qLw:ECt where
 α:=St×Rq
 β:=St×Rs
 aS:=fun (s,q)=>[.t (stA s),.t (rqA q)]
 pre:=fun (s,q) => ∃ lo c,q=qC c∧CmP s lo c∧((∃ h po au da,c = .pr h po au da)∨(∃ h ss v,c = .un h ss v)∨c = .df∨c = .ic)
 r:=fun (t,r)=> .tup [.t (stA t),.t (rsA r)]
 R:=fun (s,q) (t,r)=>(∀ c,c = .df∨c = .ic→q=qC c→(t,r)=yF s c)∧(∀ h po au da,q=qC (.pr h po au da)→(t,r)=qKb s h po au da) ∧ ∀ h ss v,q=qC (.un h ss v)→t=s∧r=⟨0,[],[(xV s h).1.s.da],[]⟩
theorem zGv {g:EF qLw}{s:St}{q:Rq}(hp : ∃ lo c,q=qC c∧CmP s lo c∧((∃ h po au da,c = .pr h po au da)∨(∃ h ss v,c = .un h ss v)∨c = .df∨c = .ic)) : ∃ (t:St) (r:Rs),((∀ c,c = .df∨c = .ic→q=qC c→(t,r)=yF s c)∧(∀ h po au da,q=qC (.pr h po au da)→(t,r)=qKb s h po au da) ∧ ∀ h ss v,q=qC (.un h ss v)→t=s∧r=⟨0,[],[(xV s h).1.s.da],[]⟩)∧qLw.fs g [.t (stA s),.t (rqA q)] []=some (.tup [.t (stA t),.t (rsA r)],[]):=by
 obtain⟨y,h1,h2⟩:=qLw.eq g (s,q) hp;exact⟨y.1,y.2,h1,h2⟩
theorem qKa {s:St}{q:Rq}(t:St)(r:Rs)(hR:(∀ c,c = .df∨c = .ic→q=qC c→(t,r)=yF s c)∧(∀ h po au da,q=qC (.pr h po au da)→(t,r)=qKb s h po au da) ∧ ∀ h ss v,q=qC (.un h ss v)→t=s∧r=⟨0,[],[(xV s h).1.s.da],[]⟩)(hV:vv = .tup [.t (stA t),.t (rsA r)])(hO:oo=[]):qLw.K (s,q) vv oo:=⟨(t,r),hR,hV,hO⟩
theorem qM8 {g1}(h1:LkE tab 149 qL4 g1){g4}(h4:LkE tab 152 qL5 g4){g7}(h7:LkE tab 119 xM g7){g8}(h8:LkE tab 134 qGr g8){g10}(h10:LkE tab 138 qGv g10){g11}(h11:LkE tab 156 qIx g11){g14}(h14:LkE tab 159 qIy g14)(s:St)(q:Rq)(hp : ∃ lo c,q=qC c∧CmP s lo c∧((∃ h po au da,c = .pr h po au da)∨(∃ h ss v,c = .un h ss v)∨c = .df∨c = .ic)) :
  jR.1.wp tab gl (qE 0 [.t (stA s),.t (rqA q)]) (qE 0 []) (zA [(4,(some (30,true))),(5,(some (4,true)))] 0 (qLw.K (s,q))):=by
 obtain⟨lo,c,rfl,hc,⟨h,po,au,da,rfl⟩ | ⟨h,ss,v,rfl⟩ | rfl | rfl⟩:=hp
 ·obtain⟨t,r,q,e1⟩:=jFi (g:=g1) (s:=s) (q:=qC (.pr h po au da)) ⟨h,po,au,da,rfl,hc⟩;have hK:(∀ c,c = .df∨c = .ic→qC (.pr h po au da)=qC c→(t,r)=yF s c)∧(∀ h' po' au' da',qC (.pr h po au da)=qC (.pr h' po' au' da')→(t,r)=qKb s h' po' au' da') ∧ ∀ h' ss v,qC (.pr h po au da)=qC (.un h' ss v)→t=s∧r=⟨0,[],[(xV s h').1.s.da],[]⟩:=⟨fun c hc' g=>by rcases hc' with rfl | rfl<;>simp[qC] at g,q,fun _ _ _ g=>by simp[qC] at g⟩;clear q;simp only[stA,rsA,rqA,qC,azA,iT,mcn,qG] at e1;simp(maxSteps:=9^9)(disch:=try exact dS)only[go_sem,jR,stA,rsA,rqA,qC,azA,iT,mcn,qG,h1,e1];first | exact (qKa t r hK rfl rfl) | exact⟨rfl,(qKa t r hK rfl rfl)⟩ | exact⟨rfl,rfl,(qKa t r hK rfl rfl)⟩ | exact⟨rfl,rfl,rfl,(qKa t r hK rfl rfl)⟩
 ·obtain⟨t,r,⟨rfl,q⟩,e1⟩:=jFk (g:=g4) (s:=s) (q:=qC (.un h ss v)) ⟨hc.2.2.1,h,ss,v,rfl,hc.2.2.2⟩;have hr:=q h ss v rfl;subst hr;have hK:(∀ c,c = .df∨c = .ic→qC (.un h ss v)=qC c→(t,(⟨0,[],[(xV t h).1.s.da],[]⟩:Rs))=yF t c)∧(∀ h' po' au' da',qC (.un h ss v)=qC (.pr h' po' au' da')→(t,(⟨0,[],[(xV t h).1.s.da],[]⟩:Rs))=qKb t h' po' au' da') ∧ ∀ h' ss' v',qC (.un h ss v)=qC (.un h' ss' v')→t=t∧(⟨0,[],[(xV t h).1.s.da],[]⟩:Rs)=⟨0,[],[(xV t h').1.s.da],[]⟩:=⟨fun c hc' g=>by rcases hc' with rfl | rfl<;>simp[qC] at g,fun _ _ _ _ g=>by simp[qC] at g,fun _ _ _ g=>⟨rfl,by rw[(vC g).1]⟩⟩;clear q hc;generalize (xV t h).1.s.da=da at *;simp only[stA,rsA,rqA,qC,azA,iT,mcn,qG] at e1;simp(maxSteps:=9^9)(disch:=try exact dS)only[go_sem,jR,stA,rsA,rqA,qC,azA,iT,mcn,qG,h4,e1];first | exact (qKa t ⟨0,[],[da],[]⟩ hK rfl rfl) | exact⟨rfl,(qKa t ⟨0,[],[da],[]⟩ hK rfl rfl)⟩ | exact⟨rfl,rfl,(qKa t ⟨0,[],[da],[]⟩ hK rfl rfl)⟩ | exact⟨rfl,rfl,rfl,(qKa t ⟨0,[],[da],[]⟩ hK rfl rfl)⟩
 ·obtain⟨t,r,⟨ht,rfl⟩,e1⟩:=jE1 (g:=g11) (s:=s) (q:=qC .df) ⟨rfl,hc.2.2⟩;have hK:(∀ c,c = .df∨c = .ic→qC .df=qC c→(t,(⟨0,[],[],[]⟩:Rs))=yF s c)∧(∀ h' po' au' da',qC .df=qC (.pr h' po' au' da')→(t,(⟨0,[],[],[]⟩:Rs))=qKb s h' po' au' da') ∧ ∀ h' ss' v',qC .df=qC (.un h' ss' v')→t=s∧(⟨0,[],[],[]⟩:Rs)=⟨0,[],[(xV s h').1.s.da],[]⟩:=⟨fun c hc' g=>by
   rcases hc' with rfl | rfl
   ·rw[ht];rfl
   ·simp[qC] at g,fun _ _ _ _ g=>by simp[qC] at g,fun _ _ _ g=>by simp[qC] at g⟩
  clear hc ht;simp only[stA,rsA,rqA,qC,azA,iT,mcn,qG] at e1;simp(maxSteps:=9^9)(disch:=try exact dS)only[go_sem,jR,stA,rsA,rqA,qC,azA,iT,mcn,qG,h11,e1];first | exact (qKa t ⟨0,[],[],[]⟩ hK rfl rfl) | exact⟨rfl,(qKa t ⟨0,[],[],[]⟩ hK rfl rfl)⟩ | exact⟨rfl,rfl,(qKa t ⟨0,[],[],[]⟩ hK rfl rfl)⟩ | exact⟨rfl,rfl,rfl,(qKa t ⟨0,[],[],[]⟩ hK rfl rfl)⟩
 ·obtain⟨t,r,⟨ht,rfl⟩,e1⟩:=jE3 (g:=g14) (s:=s) (q:=qC .ic) ⟨rfl,hc.2.2⟩;have hK:(∀ c,c = .df∨c = .ic→qC .ic=qC c→(t,(⟨0,[],[],[]⟩:Rs))=yF s c)∧(∀ h' po' au' da',qC .ic=qC (.pr h' po' au' da')→(t,(⟨0,[],[],[]⟩:Rs))=qKb s h' po' au' da') ∧ ∀ h' ss' v',qC .ic=qC (.un h' ss' v')→t=s∧(⟨0,[],[],[]⟩:Rs)=⟨0,[],[(xV s h').1.s.da],[]⟩:=⟨fun c hc' g=>by
   rcases hc' with rfl | rfl
   ·simp[qC] at g
   ·rw[ht];rfl,fun _ _ _ _ g=>by simp[qC] at g,fun _ _ _ g=>by simp[qC] at g⟩
  clear hc ht;simp only[stA,rsA,rqA,qC,azA,iT,mcn,qG] at e1;simp(maxSteps:=9^9)(disch:=try exact dS)only[go_sem,jR,stA,rsA,rqA,qC,azA,iT,mcn,qG,h14,e1];first | exact (qKa t ⟨0,[],[],[]⟩ hK rfl rfl) | exact⟨rfl,(qKa t ⟨0,[],[],[]⟩ hK rfl rfl)⟩ | exact⟨rfl,rfl,(qKa t ⟨0,[],[],[]⟩ hK rfl rfl)⟩ | exact⟨rfl,rfl,rfl,(qKa t ⟨0,[],[],[]⟩ hK rfl rfl)⟩
structure ExP (s:St) (lo:Int) (c:Cm):Prop where
 cm:CmP s lo c
 al:alP s c
 lc:0≤lo∧lo≤4
 on:c = .up∨s.on=true
 au:plC c∨(lo=0∧CkP s (qC c)∧((∃ h po au da,c = .pr h po au da)∨(∃ h ss v,c = .un h ss v∧(s.ses.length=3∧tmI ss∧ss≠0)∧(qBm s ss).2.2=true)∨c = .df∨c = .ic))
def qLx:ECt where
 α:=St×Int×Rq
 β:=St×Rs
 aS:=fun (s,lo,q)=>[.t (stA s),.t (.int .i64 lo),.t (rqA q)]
 pre:=fun (s,lo,q) => ∃ c,q=qC c∧ExP s lo c∧(qC c).W
 r:=fun (t,r)=> .tup [.t (stA t),.t (rsA r)]
 R:=fun (s,lo,q) (t,r) => ∀ c,CmP s lo c→q=qC c→(t,r)=yF s c
theorem jE2 {g:EF qLx}{s:St}{lo:Int}{q:Rq}(hp : ∃ c,q=qC c∧ExP s lo c∧(qC c).W) : ∃ (t:St) (r:Rs),(∀ c,CmP s lo c→q=qC c→(t,r)=yF s c)∧qLx.fs g [.t (stA s),.t (.int .i64 lo),.t (rqA q)] []=some (.tup [.t (stA t),.t (rsA r)],[]):=by
 obtain⟨y,h1,h2⟩:=qLx.eq g (s,lo,q) hp;exact⟨y.1,y.2,h1,h2⟩
theorem qCj {s:St}{lo:Int}{q:Rq}(t:St)(r:Rs)(hR : ∀ c,CmP s lo c→q=qC c→(t,r)=yF s c)(hV:vv = .tup [.t (stA t),.t (rsA r)])(hO:oo=[]):qLx.K (s,lo,q) vv oo:=⟨(t,r),hR,hV,hO⟩
theorem qRw {g1}(h1:LkE tab 118 qLb g1){g2}(h2:LkE tab 119 xM g2){g3}(h3:LkE tab 120 qLu g3){g4}(h4:LkE tab 121 qLz g4){g5}(h5:LkE tab 122 qLo g5){g6}(h6:LkE tab 123 qLw g6){g7}(h7:LkE tab 124 qLq g7)(s:St)(lo:Int)(q:Rq)(hp : ∃ c,q=qC c∧ExP s lo c∧(qC c).W) :
  jA.1.wp tab gl (qE 0 [.t (stA s),.t (.int .i64 lo),.t (rqA q)]) (qE 0 []) (zA [(6,(some (30,true))),(7,(some (4,true)))] 0 (qLx.K (s,lo,q))):=by
 obtain⟨c,rfl,⟨hc,ha,hlo,hon,hk⟩,hw⟩:=hp;obtain⟨e,rfl,e1⟩:=jCx (g:=g1) hw;obtain⟨b,rfl,e3⟩:=jE0 (g:=g3) (s:=s) (q:=qC c) ⟨c,rfl,ha⟩;clear hw ha;rcases hk with hk | ⟨rfl,hck,hk⟩
 ·obtain⟨t,r,hK,e4⟩:=jE5 (g:=g4) (s:=s) (lo:=lo) (q:=qC c) ⟨c,rfl,hc,hk⟩;clear hc;rcases hk with rfl | ⟨i,d,rfl⟩ | ⟨k,rfl⟩ | ⟨h,a,rfl⟩ | ⟨h,d,rfl⟩ | ⟨h,rfl⟩
  ·simp only[stA,rsA,rqA,qC,iT,mcn,qG] at e1 e3 e4;simp(maxSteps:=9^9)(disch:=try exact dS)only[go_sem,jA,stA,rsA,rqA,qC,iT,mcn,qG,h1,h3,h4,e1,e3,e4];first | exact (qCj t r hK rfl rfl) | exact⟨rfl,(qCj t r hK rfl rfl)⟩ | exact⟨rfl,rfl,(qCj t r hK rfl rfl)⟩ | exact⟨rfl,rfl,rfl,(qCj t r hK rfl rfl)⟩
  all_goals
   have on:s.on=true:=hon.resolve_left (by nofun);simp only[stA,rsA,rqA,qC,iT,mcn,qG,on] at e1 e3 e4;simp(maxSteps:=9^9)(disch:=try exact dS)only[go_sem,jA,stA,rsA,rqA,qC,iT,mcn,qG,on,h1,h3,h4,e1,e3,e4];first | exact (qCj t r hK rfl rfl) | exact⟨rfl,(qCj t r hK rfl rfl)⟩ | exact⟨rfl,rfl,(qCj t r hK rfl rfl)⟩ | exact⟨rfl,rfl,rfl,(qCj t r hK rfl rfl)⟩
 rcases hk with⟨h,po,au,da,rfl⟩ | ⟨h,ss,v,rfl,hs,hb⟩ | rfl | rfl
 ·have on:s.on=true:=hon.resolve_left (by nofun);obtain⟨t5,e5,⟨rfl,q5,-⟩,c5⟩:=zGs (g:=g5) (s:=s) (lo:=0) (q:=qC (.pr h po au da)) ⟨hck,rfl⟩;obtain rfl:=q5 (by show (9:Int)≠13;decide);obtain⟨t,r,⟨-,q6,-⟩,c6⟩:=zGv (g:=g6) (s:=t5) (q:=qC (.pr h po au da)) ⟨0,_,rfl,hc,.inl ⟨h,po,au,da,rfl⟩⟩;have q6':=q6 h po au da rfl;obtain⟨t7,l7,⟨rfl,q7,-⟩,c7⟩:=zGt (g:=g7) (s:=t) (q:=qC (.pr h po au da)) (.pr h po au da);obtain rfl:=q7 (by show (9:Int)≠13;decide);have hf : ¬ frO t5.obs 0 = -1:=hc.1.2;have hK : ∀ d,CmP t5 0 d→qC (.pr h po au da)=qC d→(t7,r)=yF t5 d:=qXf hc q6';clear q5 q6 q7 hck hc;rw[qKb,if_neg hf] at q6';simp only[Prod.mk.injEq] at q6';obtain⟨-,rfl⟩:=q6';generalize zPh _ _=en at *;generalize zG0 _ _=nm at *;generalize frO t5.obs 0=f at *;simp only[stA,rsA,rqA,qC,azA,iT,mcn,qG,on] at e1 e3 c5 c6 c7;simp(maxSteps:=9^9)(disch:=try exact dS)only[go_sem,jA,stA,rsA,rqA,qC,azA,iT,mcn,qG,on,h1,h3,h5,h6,h7,e1,e3,c5,c6,c7];first | exact (qCj t7 ⟨0,[512+f],[en,nm],[]⟩ hK rfl rfl) | exact⟨rfl,(qCj t7 ⟨0,[512+f],[en,nm],[]⟩ hK rfl rfl)⟩ | exact⟨rfl,rfl,(qCj t7 ⟨0,[512+f],[en,nm],[]⟩ hK rfl rfl)⟩ | exact⟨rfl,rfl,rfl,(qCj t7 ⟨0,[512+f],[en,nm],[]⟩ hK rfl rfl)⟩
 ·have on:s.on=true:=hon.resolve_left (by nofun);obtain⟨t5,e5,⟨rfl,-,q5⟩,c5⟩:=zGs (g:=g5) (s:=s) (lo:=0) (q:=qC (.un h ss v)) ⟨hck,rfl⟩;have q5':=q5 h ss v rfl;by_cases c0:ckE t5 h ss=0
  ·rw[c0] at q5';subst q5';obtain⟨t,r,⟨-,-,q6⟩,c6⟩:=zGv (g:=g6) (s:=t5) (q:=qC (.un h ss v)) ⟨0,_,rfl,hc,.inr (.inl ⟨h,ss,v,rfl⟩)⟩;obtain⟨rfl,rfl⟩:=q6 h ss v rfl;obtain⟨t7,l7,⟨rfl,-,q7⟩,c7⟩:=zGt (g:=g7) (s:=t) (q:=qC (.un h ss v)) (.un h ss v hs hb (hc.2.1 c0));obtain rfl:=q7 h ss v rfl;have hK : ∀ d,CmP t 0 d→qC (.un h ss v)=qC d→(zCz t ss,(⟨0,[],[(xV t h).1.s.da],[]⟩:Rs))=yF t d:=qXf hc (by simp only[yF];rw[if_pos c0]);clear q5 q6 q7 hck hc;generalize zCz t ss=y at *;generalize (xV t h).1.s.da=da at *;simp only[stA,rsA,rqA,qC,azA,iT,mcn,qG,on] at e1 e3 c5 c6 c7;simp(maxSteps:=9^9)(disch:=try exact dS)only[go_sem,jA,stA,rsA,rqA,qC,azA,iT,mcn,qG,on,h1,h3,h5,h6,h7,e1,e3,c5,c6,c7];first | exact (qCj y ⟨0,[],[da],[]⟩ hK rfl rfl) | exact⟨rfl,(qCj y ⟨0,[],[da],[]⟩ hK rfl rfl)⟩ | exact⟨rfl,rfl,(qCj y ⟨0,[],[da],[]⟩ hK rfl rfl)⟩ | exact⟨rfl,rfl,rfl,(qCj y ⟨0,[],[da],[]⟩ hK rfl rfl)⟩
  ·obtain⟨t2,r2,⟨rfl,rfl⟩,c2⟩:=zV3 (g:=g2) (s:=t5) (e:=e5);have hK : ∀ d,CmP t2 0 d→qC (.un h ss v)=qC d→(t2,(⟨e5,[],[],[]⟩:Rs))=yF t2 d:=qXf hc (by simp only[yF];rw[if_neg c0,q5']);rw[←q5'] at c0;clear q5 q5' hck hc;simp only[stA,rsA,rqA,qC,azA,iT,mcn,qG,on] at e1 e3 c5 c2;simp(maxSteps:=9^9)(disch:=try exact dS)only[go_sem,jA,stA,rsA,rqA,qC,azA,iT,mcn,qG,on,h1,h2,h3,h5,e1,e3,c5,c2,c0];exact qCj t2 ⟨e5,[],[],[]⟩ hK (by simp only[stA,rsA,on,List.map_nil]) rfl
 ·have on:s.on=true:=hon.resolve_left (by nofun);obtain⟨t5,e5,⟨rfl,q5,-⟩,c5⟩:=zGs (g:=g5) (s:=s) (lo:=0) (q:=qC .df) ⟨hck,rfl⟩;obtain rfl:=q5 (by show (21:Int)≠13;decide);obtain⟨t,r,⟨q6,-⟩,c6⟩:=zGv (g:=g6) (s:=t5) (q:=qC .df) ⟨0,_,rfl,hc,.inr (.inr (.inl rfl))⟩;have q6':=q6 .df (.inl rfl) rfl;obtain⟨t7,l7,⟨rfl,q7,-⟩,c7⟩:=zGt (g:=g7) (s:=t) (q:=qC .df) .df;obtain rfl:=q7 (by show (21:Int)≠13;decide);have hK : ∀ d,CmP t5 0 d→qC .df=qC d→(t7,r)=yF t5 d:=qXf hc q6';have hr:r=⟨0,[],[],[]⟩:=congrArg Prod.snd q6';subst hr;clear q5 q6 q6' q7 hck hc;simp only[stA,rsA,rqA,qC,azA,iT,mcn,qG,on] at e1 e3 c5 c6 c7;simp(maxSteps:=9^9)(disch:=try exact dS)only[go_sem,jA,stA,rsA,rqA,qC,azA,iT,mcn,qG,on,h1,h3,h5,h6,h7,e1,e3,c5,c6,c7];first | exact (qCj t7 ⟨0,[],[],[]⟩ hK rfl rfl) | exact⟨rfl,(qCj t7 ⟨0,[],[],[]⟩ hK rfl rfl)⟩ | exact⟨rfl,rfl,(qCj t7 ⟨0,[],[],[]⟩ hK rfl rfl)⟩ | exact⟨rfl,rfl,rfl,(qCj t7 ⟨0,[],[],[]⟩ hK rfl rfl)⟩
 ·have on:s.on=true:=hon.resolve_left (by nofun);obtain⟨t5,e5,⟨rfl,q5,-⟩,c5⟩:=zGs (g:=g5) (s:=s) (lo:=0) (q:=qC .ic) ⟨hck,rfl⟩;obtain rfl:=q5 (by show (25:Int)≠13;decide);obtain⟨t,r,⟨q6,-⟩,c6⟩:=zGv (g:=g6) (s:=t5) (q:=qC .ic) ⟨0,_,rfl,hc,.inr (.inr (.inr rfl))⟩;have q6':=q6 .ic (.inr rfl) rfl;obtain⟨t7,l7,⟨rfl,q7,-⟩,c7⟩:=zGt (g:=g7) (s:=t) (q:=qC .ic) .ic;obtain rfl:=q7 (by show (25:Int)≠13;decide);have hK : ∀ d,CmP t5 0 d→qC .ic=qC d→(t7,r)=yF t5 d:=qXf hc q6';have hr:r=⟨0,[],[],[]⟩:=congrArg Prod.snd q6';subst hr;clear q5 q6 q6' q7 hck hc;simp only[stA,rsA,rqA,qC,azA,iT,mcn,qG,on] at e1 e3 c5 c6 c7;simp(maxSteps:=9^9)(disch:=try exact dS)only[go_sem,jA,stA,rsA,rqA,qC,azA,iT,mcn,qG,on,h1,h3,h5,h6,h7,e1,e3,c5,c6,c7];first | exact (qCj t7 ⟨0,[],[],[]⟩ hK rfl rfl) | exact⟨rfl,(qCj t7 ⟨0,[],[],[]⟩ hK rfl rfl)⟩ | exact⟨rfl,rfl,(qCj t7 ⟨0,[],[],[]⟩ hK rfl rfl)⟩ | exact⟨rfl,rfl,rfl,(qCj t7 ⟨0,[],[],[]⟩ hK rfl rfl)⟩
def qL1:ECt where
 α:=St×Int×List UInt8
 β:=St×List UInt8
 aS:=fun (s,lo,b)=>[.t (stA s),.t (.int .i64 lo),.t (.sl (b.map qA))]
 pre:=fun (s,lo,b) => ∃ c,ExP s lo c∧(qC c).W∧b=rqB (qC c)∧(yF s c).2.W
 r:=fun (t,o)=> .tup [.t (stA t),.t (.sl (o.map qA))]
 R:=fun (s,lo,b) (t,o) => ∀ c,CmP s lo c→(qC c).W→b=rqB (qC c)→t=(yF s c).1∧o=rsB (yF s c).2
theorem jE7 {g:EF qL1}{s:St}{lo:Int}{b:List UInt8}(hp : ∃ c,ExP s lo c∧(qC c).W∧b=rqB (qC c)∧(yF s c).2.W) : ∃ (t:St) (o:List UInt8),(∀ c,CmP s lo c→(qC c).W→b=rqB (qC c)→t=(yF s c).1∧o=rsB (yF s c).2)∧qL1.fs g [.t (stA s),.t (.int .i64 lo),.t (.sl (b.map qA))] []=some (.tup [.t (stA t),.t (.sl (o.map qA))],[]):=by
 obtain⟨y,h1,h2⟩:=qL1.eq g (s,lo,b) hp;exact⟨y.1,y.2,h1,h2⟩
theorem zR5 {s:St}{lo:Int}{b:List UInt8}(t:St)(o:List UInt8)(hR : ∀ c,CmP s lo c→(qC c).W→b=rqB (qC c)→t=(yF s c).1∧o=rsB (yF s c).2)(hV:vv = .tup [.t (stA t),.t (.sl (o.map qA))])(hO:oo=[]):qL1.K (s,lo,b) vv oo:=⟨(t,o),hR,hV,hO⟩
theorem zCd {g1}(h1:LkE tab 96 qIg g1){g2}(h2:LkE tab 97 qIh g2){g3}(h3:LkE tab 98 qLx g3)(s:St)(lo:Int)(b:List UInt8)(hp : ∃ c,ExP s lo c∧(qC c).W∧b=rqB (qC c)∧(yF s c).2.W) :
  qGc.1.wp tab gl (qE 0 [.t (stA s),.t (.int .i64 lo),.t (.sl (b.map qA))]) (qE 0 []) (zA [(6,(some (30,true))),(7,none)] 0 (qL1.K (s,lo,b))):=by
 obtain⟨c,hx,hw,rfl,hr⟩:=hp;obtain⟨q,e,⟨hq,rfl⟩,e1⟩:=jCy (g:=g1) ⟨qC c,hw,rfl⟩;obtain rfl:q=qC c:=by rw[hq,zG8 hw]
 obtain⟨t,r,q3,e3⟩:=jE2 (g:=g3) (s:=s) (lo:=lo) (q:=qC c) ⟨c,rfl,hx,hw⟩;have q3':=q3 c hx.cm rfl;obtain⟨o,ho,e2⟩:=jCz (g:=g2) (r:=r) (by have:=congrArg Prod.snd q3';simp only at this;rw[this];exact hr);have hK : ∀ d,CmP s lo d→(qC d).W→rqB (qC c)=rqB (qC d)→t=(yF s d).1∧o=rsB (yF s d).2:=by
  intro d hd hdw e;have e':=jAc hw hdw e;have:=q3 d hd e';rw[←this];exact⟨rfl,ho⟩
 clear q3 q3' ho hq hr hx hw;generalize rqB (qC c)=b at *;generalize qC c=q at *;simp only[stA,rsA,rqA] at e1 e2 e3;simp(maxSteps:=9^9)(disch:=try exact dS)only[go_sem,qGc,stA,rsA,rqA,h1,h2,h3,e1,e2,e3];first | exact (zR5 t o hK rfl rfl) | exact⟨rfl,(zR5 t o hK rfl rfl)⟩ | exact⟨rfl,rfl,(zR5 t o hK rfl rfl)⟩ | exact⟨rfl,rfl,rfl,(zR5 t o hK rfl rfl)⟩
theorem jWv {b:List UInt8}(h:b.length<1000000000):zX1.fs [.t (.sl (b.map qA))] []=some (.tup [.t (.agg [.sl ((dcT b).1.map wY),.int .i64 (dcT b).2.1]),.t (.int .i64 (dcT b).2.2)],[]):=by
 rw[←(zQq b).1];exact zX1.eq b h
end Go.Eng
end
