/- A part of an abstract machine, its walks, their tie. -/
import Derived.Test.YtkffggdjdmimgaaGreatDoorA28
import Derived.Test.YtkffggdjdmimgaaGreatDoorA22
import Derived.Test.YtkffggdjdmimgaaGreatDoorA21
import Derived.Test.YtkffggdjdmimgaaGreatDoorA26
import Derived.Test.YtkffggdjdmimgaaGreatDoorA27
import Derived.Test.YtkffggdjdmimgaaGreatDoorA16
import Derived.Test.YtkffggdjdmimgaaGreatDoorA23
import Derived.Test.YtkffggdjdmimgaaGreatDoorA24
set_option linter.all false
section
set_option maxHeartbeats 64000000
set_option maxRecDepth 20000
namespace Go.Eng
open List
variable (tab:Tab) (gl:Gl)
variable {vv:V} {oo:List Ob}
def jV0 (k:List UInt8)(p:Pu)(au da:List UInt8):Prop:=k.length≤64∧(∃ po,p=⟨3,0,0,po,[]⟩∧po.length=32)∧au.length≤32∧da.length≤128
def qMb:ECt where
 α:=List UInt8×Pu×List UInt8×List UInt8
 β:=Pu×Sn×Int
 aS:=fun (k,p,au,da)=>[.t (.sl (k.map qA)),.t (puA p),.t (.sl (au.map qA)),.t (.sl (da.map qA))]
 pre:=fun (k,p,au,da)=>jV0 k p au da
 r:=fun (y,z,e)=> .tup [.t (puA y),.t (snA z),.t (.int .i64 e)]
 R:=fun (k,p,au,da) (y,z,e)=>e=0∧y=⟨3,0,0,p.po,zEg (qVb k) da⟩∧z=⟨au,qVb k,da⟩
theorem jQ5 {g:EF qMb}{k:List UInt8}{p:Pu}{au da:List UInt8}(hp:jV0 k p au da) : ∃ (y:Pu) (z:Sn) (e:Int),(e=0∧y=⟨3,0,0,p.po,zEg (qVb k) da⟩∧z=⟨au,qVb k,da⟩)∧qMb.fs g [.t (.sl (k.map qA)),.t (puA p),.t (.sl (au.map qA)),.t (.sl (da.map qA))] []=some (.tup [.t (puA y),.t (snA z),.t (.int .i64 e)],[]):=by
 obtain⟨y,h1,h2⟩:=qMb.eq g (k,p,au,da) hp;exact⟨y.1,y.2.1,y.2.2,h1,h2⟩
theorem jV1 {k:List UInt8}{p:Pu}{au da:List UInt8}(y:Pu)(z:Sn)(e:Int)(hR:e=0∧y=⟨3,0,0,p.po,zEg (qVb k) da⟩∧z=⟨au,qVb k,da⟩)(hV:vv = .tup [.t (puA y),.t (snA z),.t (.int .i64 e)])(hO:oo=[]):qMb.K (k,p,au,da) vv oo:=⟨(y,z,e),hR,hV,hO⟩
theorem zLh (h1:LkC tab 282 jC9){g2}(h2:LkE tab 211 qJl g2)(h3:LkC tab 96 qH2)(h4:LkC tab 283 zM1)(k:List UInt8)(p:Pu)(au da:List UInt8)(hp:jV0 k p au da) :
  qGb.1.wp tab gl (qE 0 [.t (.sl (k.map qA)),.t (puA p),.t (.sl (au.map qA)),.t (.sl (da.map qA))]) (qE 0 []) (qV [(8,(some (5,true))),(9,(some (3,true))),(10,none)] 0 (qMb.K (k,p,au,da))):=by
 obtain⟨hs,⟨po,rfl,hp⟩,ha,hd⟩:=hp;have hC:=zWs (g:=g2) (x:=⟨3,0,0,po,List.replicate 32 0⟩) (.inl ⟨rfl,rfl,rfl,hp,sM⟩);simp only[puA] at hC;have t32:List.take 32 (List.replicate 32 (0:UInt8))=List.replicate 32 0:=rfl;have hD:=jGl hs;have lS:(qVb k).length=32:=wG;have hU:=jP3 (a:=au) (s:=qVb k) (d:=da) ⟨oM,oM⟩;have lU:=qJy (s:=qVb k) (d:=da);have tU:List.take 32 (zEg (qVb k) da)=zEg (qVb k) da:=take_of_length_le oM;have hK : ∀ vv,vv = .tup [.t (puA ⟨3,0,0,po,zEg (qVb k) da⟩),.t (snA ⟨au,qVb k,da⟩),.t (.int .i64 0)]→qMb.K (k,⟨3,0,0,po,[]⟩,au,da) vv []:=fun vv h=>jV1 _ _ 0 ⟨rfl,rfl,rfl⟩ h rfl
 generalize zEg (qVb k) da=u at *;generalize qVb k=s at *;by_cases h0:0<da.length
 ·simp(maxSteps:=9^9)(disch:=try exact dS)only[go_sem,qGb,puA,h1,h2,hC,t32,hd,ha,h0,h3,hD,h4,hU,tU,lU,map_nil];first | exact (hK _ rfl) | exact⟨rfl,(hK _ rfl)⟩ | exact⟨rfl,rfl,(hK _ rfl)⟩ | exact⟨rfl,rfl,rfl,(hK _ rfl)⟩
 ·simp(maxSteps:=9^9)(disch:=try exact dS)only[go_sem,qGb,puA,h1,h2,hC,t32,hd,ha,h0,h3,hD,h4,hU,tU,lU,map_nil];first | exact (hK _ rfl) | exact⟨rfl,(hK _ rfl)⟩ | exact⟨rfl,rfl,(hK _ rfl)⟩ | exact⟨rfl,rfl,rfl,(hK _ rfl)⟩
def jSc:List UInt8:=[112,114,105,109,97,114,121]
def qQq (s:St)(h:Int)(po da:List UInt8):List UInt8:=drv (s.a.sd.getD h.toNat []) jSc (qZ 0 [[3,0,0],po,da]) 32
def qMw (s:St)(h:Int)(po au da:List UInt8):Obj:=⟨⟨3,0,0,po,zEg (qVb (qQq s h po da)) da⟩,⟨au,qVb (qQq s h po da),da⟩,h⟩
def qNj (s:St)(h:Int)(po au da:List UInt8):St×Rs:=
 let x:=qMw s h po au da
 if frO s.obs 0 = -1 then (s,⟨25,[],[],[]⟩) else ((qQn s x).1,⟨0,[512+frO s.obs 0],[zW2 x.p.po x.p.un,zNt x.p.po x.p.un],[]⟩)
theorem jHz {h h':Int}{po po' au au' da da':List UInt8}(e:qC (.pr h po au da)=qC (.pr h' po' au' da')):h=h'∧po=po'∧au=au'∧da=da':=by
 simp only[qC,Rq.mk.injEq,List.cons.injEq,and_true,true_and] at e;exact⟨e.1,e.2⟩
def PrP (s:St)(h:Int)(po au da:List UInt8):Prop:=(s.obs.length=3 ∧ ¬ frO s.obs 0 = -1)∧(s.a.sd.length=3 ∧ ∀ x∈s.a.sd,x.length=32)∧(0≤h∧h≤2)∧po.length=32∧au.length≤32∧da.length≤60
def qPi:ECt where
 α:=St×Rq
 β:=St×Rs
 aS:=fun (s,q)=>[.t (stA s),.t (rqA q)]
 pre:=fun (s,q) => ∃ h po au da,q=qC (.pr h po au da)∧PrP s h po au da
 r:=fun (t,r)=> .tup [.t (stA t),.t (rsA r)]
 R:=fun (s,q) (t,r) => ∀ h po au da,q=qC (.pr h po au da)→(t,r)=qNj s h po au da
theorem jNu {g:EF qPi}{s:St}{q:Rq}(hp : ∃ h po au da,q=qC (.pr h po au da)∧PrP s h po au da) : ∃ (t:St) (r:Rs),(∀ h po au da,q=qC (.pr h po au da)→(t,r)=qNj s h po au da)∧qPi.fs g [.t (stA s),.t (rqA q)] []=some (.tup [.t (stA t),.t (rsA r)],[]):=by
 obtain⟨y,h1,h2⟩:=qPi.eq g (s,q) hp;exact⟨y.1,y.2,h1,h2⟩
theorem jUd {s:St}{q:Rq}(t:St)(r:Rs)(hR : ∀ h po au da,q=qC (.pr h po au da)→(t,r)=qNj s h po au da)(hV:vv = .tup [.t (stA t),.t (rsA r)])(hO:oo=[]):qPi.K (s,q) vv oo:=⟨(t,r),hR,hV,hO⟩
theorem qV3 {g1}(h1:LkE tab 228 qJf g1){g3}(h3:LkE tab 229 qLx g3){g4}(h4:LkE tab 230 qHi g4)(h5:LkC tab 155 qEk)(h6:LkC tab 96 qH2){g7}(h7:LkE tab 231 qMb g7){g8}(h8:LkE tab 232 qPg g8){g9}(h9:LkE tab 233 qB4 g9){g10}(h10:LkE tab 216 qB5 g10)(s:St)(q:Rq)(hp : ∃ h po au da,q=qC (.pr h po au da)∧PrP s h po au da) :
  qCp.1.wp tab gl (qE 0 [.t (stA s),.t (rqA q)]) (qE 0 []) (qV [(4,(some (30,true))),(5,(some (4,true)))] 0 (qPi.K (s,q))):=by
 obtain⟨h,po,au,da,rfl,⟨hl,hf⟩,⟨hs3,hs⟩,hh,lp,la,ld⟩:=hp;obtain⟨n,rfl⟩:=Int.eq_ofNat_of_zero_le hh.1;obtain⟨sd,hg,hm,_⟩:=qX (l:=s.a.sd) (k:=n) oM;have lsd:=hs sd hm;have hsd:s.a.sd.getD n []=sd:=by rw[getD_eq_getElem?_getD,hg];rfl
 have e1:qJf.fs g1 [.t (rqA (qC (.pr n po au da)))] []=some (.t (.int .i64 n),[]):=jEa (by simp[qC]);have e3:qLx.fs g3 [.t (rqA (qC (.pr n po au da)))] []=some (.t (puA ⟨3,0,0,po,[]⟩),[]):=jNv trivial;have e4:qHi.fs g4 [.t (rqA (qC (.pr n po au da))),.t (.int .i64 2)] []=some (.t (.sl (da.map qA)),[]):=zT9 oM;have e5:qHi.fs g4 [.t (rqA (qC (.pr n po au da))),.t (.int .i64 1)] []=some (.t (.sl (au.map qA)),[]):=zT9 oM;have e6:=qRu (t:=0) (fs:=[[3,0,0],po,da]) ⟨oM,by simp[qZ,qAy];omega⟩;have lf:(qZ 0 [[3,0,0],po,da]).length≤1000:=by simp[qZ,qAy];omega
 have hsec:qQq s n po da=drv sd jSc (qZ 0 [[3,0,0],po,da]) 32:=by rw[qQq,Int.toNat_natCast,hsd]
 have tf:List.take (qZ 0 [[3,0,0],po,da]).length (qZ 0 [[3,0,0],po,da])=qZ 0 [[3,0,0],po,da]:=take_length;have e7:=qXt (k:=sd) (l:=jSc) (c:=qZ 0 [[3,0,0],po,da]) (n:=32) ⟨oM,by decide,oM,oM,oM⟩;rw[←hsec] at e7;have lsec:(qQq s n po da).length=32:=wG;obtain⟨y,z,e,⟨q1,q2,q3⟩,e8⟩:=jQ5 (g:=g7) (k:=qQq s n po da) (p:=⟨3,0,0,po,[]⟩) (au:=au) (da:=da) ⟨oM,⟨po,rfl,lp⟩,la,oM⟩;subst q1 q2 q3;obtain⟨t,k,e,q9,e9⟩:=jNt (g:=g8) (s:=s) (x:=qMw s n po au da) hl;have hF:qNj s n po au da=if frO s.obs 0 = -1 then (s,⟨25,[],[],[]⟩) else ((qQn s (qMw s n po au da)).1,⟨0,[512+frO s.obs 0],[zW2 po (zEg (qVb (qQq s n po da)) da),zNt po (zEg (qVb (qQq s n po da)) da)],[]⟩):=rfl
 have lu:=qJy (s:=qVb (qQq s n po da)) (d:=da);simp only[qMw] at e9 q9 hF;generalize zEg (qVb (qQq s n po da)) da=u at *;generalize qVb (qQq s n po da)=mk at *;generalize qQq s n po da=sec at *;generalize qZ 0 [[3,0,0],po,da]=fr at *;obtain⟨E,q10,e10⟩:=zOt (g:=g9) (x:=⟨3,0,0,po,u⟩) (.inl ⟨rfl,rfl,rfl,lp,lu⟩);rw[jMa] at q10;have e11:=zOu (g:=g10) (x:=⟨3,0,0,po,u⟩) (.inl ⟨rfl,rfl,rfl,lp,lu⟩);rw[jD9] at e11;have le:=qXv (p:=po) (u:=u) ⟨lp,lu⟩;rw[q10,le] at e10;clear q10;simp only[puA] at e10 e11;have te:List.take 71 (zW2 po u)=zW2 po u:=take_of_length_le oM;have hK : ∀ t r,(t,r)=qNj s n po au da → ∀ h' po' au' da',qC (.pr n po au da)=qC (.pr h' po' au' da')→(t,r)=qNj s h' po' au' da':=by
  intro t r h h' po' au' da' g;obtain⟨rfl,rfl,rfl,rfl⟩:=jHz g;exact h
 have zz:((0:Nat):Int)=0:=rfl;have z32':((32:Nat):Int)=32:=rfl;have k3:T.int .u8 (IntKind.u8.wrap 3)=qA 3:=rfl;have k0:T.int .u8 (IntKind.u8.wrap 0)=qA 0:=rfl;simp only[stA,qC9,rqA,puA,snA,qC,azA,iT,mcn,qI,zz,z32',jSc] at e1 e3 e4 e5 e6 e7 e8 e9;rw[if_neg hf] at hF;rw[qQn,if_neg hf] at q9 hF;simp only[Prod.mk.injEq] at q9;obtain⟨rfl,rfl,rfl⟩:=q9;simp(maxSteps:=9^9)(disch:=try exact dS)only[go_sem,qCp,stA,qC9,rqA,puA,snA,qC,azA,iT,mcn,qI,hs3,hg,oms,h1,h3,h4,h5,h6,h7,h8,h9,h10,e1,e3,e4,e5,e6,e7,e8,e9,e10,e11,k3,k0,tf,te];repeat refine aiG ?_
 exact jUd _ _ (hK _ _ hF.symm) rfl rfl
def qBb:ECt where
 α:=St×Int
 β:=St×Rs
 aS:=fun (s,e)=>[.t (stA s),.t (.int .i64 e)]
 pre:=fun (s,e)=>True
 r:=fun (t,r)=> .tup [.t (stA t),.t (rsA r)]
 R:=fun (s,e) (t,r)=>t=s∧r=⟨e,[],[],[]⟩
theorem jD5 {g:EF qBb}{s:St}{e:Int} : ∃ (t:St) (r:Rs),(t=s∧r=⟨e,[],[],[]⟩)∧qBb.fs g [.t (stA s),.t (.int .i64 e)] []=some (.tup [.t (stA t),.t (rsA r)],[]):=by
 obtain⟨y,h1,h2⟩:=qBb.eq g (s,e) trivial;exact⟨y.1,y.2,h1,h2⟩
theorem zZh {s:St}{e:Int}(t:St)(r:Rs)(hR:t=s∧r=⟨e,[],[],[]⟩)(hV:vv = .tup [.t (stA t),.t (rsA r)])(hO:oo=[]):qBb.K (s,e) vv oo:=⟨(t,r),hR,hV,hO⟩
theorem zEs  (s:St)(e:Int) :
  qGw.1.wp tab gl (qE 0 [.t (stA s),.t (.int .i64 e)]) (qE 0 []) (qV [(4,(some (30,true))),(5,(some (4,true)))] 0 (qBb.K (s,e))):=by
 simp(disch:=omega)only[go_sem,qGw,stA];first | exact (zZh s ⟨e,[],[],[]⟩ ⟨rfl,rfl⟩ rfl rfl) | exact⟨rfl,(zZh s ⟨e,[],[],[]⟩ ⟨rfl,rfl⟩ rfl rfl)⟩ | exact⟨rfl,rfl,(zZh s ⟨e,[],[],[]⟩ ⟨rfl,rfl⟩ rfl rfl)⟩ | exact⟨rfl,rfl,rfl,(zZh s ⟨e,[],[],[]⟩ ⟨rfl,rfl⟩ rfl rfl)⟩
def qJe:ECt where
 α:=St×St×Int
 β:=St×Rs
 aS:=fun (s,c,e)=>[.t (stA s),.t (stA c),.t (.int .i64 e)]
 pre:=fun (s,c,e)=>True
 r:=fun (t,r)=> .tup [.t (stA t),.t (rsA r)]
 R:=fun (s,c,e) (t,r)=>(t,r)=if e=0 then (c,⟨0,[],[],[]⟩) else (s,⟨e,[],[],[]⟩)
theorem zNo {g:EF qJe}{s c:St}{e:Int} : ∃ (t:St) (r:Rs),((t,r)=if e=0 then (c,⟨0,[],[],[]⟩) else (s,⟨e,[],[],[]⟩))∧qJe.fs g [.t (stA s),.t (stA c),.t (.int .i64 e)] []=some (.tup [.t (stA t),.t (rsA r)],[]):=by
 obtain⟨y,h1,h2⟩:=qJe.eq g (s,c,e) trivial;exact⟨y.1,y.2,h1,h2⟩
theorem zG6 {s c:St}{e:Int}(t:St)(r:Rs)(hR:(t,r)=if e=0 then (c,⟨0,[],[],[]⟩) else (s,⟨e,[],[],[]⟩))(hV:vv = .tup [.t (stA t),.t (rsA r)])(hO:oo=[]):qJe.K (s,c,e) vv oo:=⟨(t,r),hR,hV,hO⟩
theorem zEr {g1}(h1:LkE tab 146 qBb g1)(s c:St)(e:Int) :
  qC6.1.wp tab gl (qE 0 [.t (stA s),.t (stA c),.t (.int .i64 e)]) (qE 0 []) (qV [(6,(some (30,true))),(7,(some (4,true)))] 0 (qJe.K (s,c,e))):=by
 obtain⟨t,r,⟨rfl,rfl⟩,c1⟩:=jD5 (g:=g1) (s:=s) (e:=e);simp only[stA,rsA,map_nil] at c1;by_cases c0:e=0
 ·subst c0;simp(disch:=omega)only[go_sem,qC6,stA];first | exact (zG6 c ⟨0,[],[],[]⟩ rfl rfl rfl) | exact⟨rfl,(zG6 c ⟨0,[],[],[]⟩ rfl rfl rfl)⟩ | exact⟨rfl,rfl,(zG6 c ⟨0,[],[],[]⟩ rfl rfl rfl)⟩ | exact⟨rfl,rfl,rfl,(zG6 c ⟨0,[],[],[]⟩ rfl rfl rfl)⟩
 ·simp(disch:=omega)only[go_sem,qC6,stA,h1,c1,c0];first | exact (zG6 _ ⟨e,[],[],[]⟩ (by rw[if_neg c0]) rfl rfl) | exact⟨rfl,(zG6 _ ⟨e,[],[],[]⟩ (by rw[if_neg c0]) rfl rfl)⟩ | exact⟨rfl,rfl,(zG6 _ ⟨e,[],[],[]⟩ (by rw[if_neg c0]) rfl rfl)⟩ | exact⟨rfl,rfl,rfl,(zG6 _ ⟨e,[],[],[]⟩ (by rw[if_neg c0]) rfl rfl)⟩
theorem zYp : ∀ {l:List Ses} {k:Nat},frS l k = -1∨((k:Int)≤frS l k∧frS l k<k+l.length)
 | [],k=> .inl rfl
 | x::r,k=>by
  unfold frS;have ih := @zYp r (k+1);simp only[length_cons];split<;>omega
def OpP (s:St):Prop:=(s.a.en.length=32∧(0≤s.dr∧s.dr≤1000000))∧s.ses.length=3 ∧ ¬ frS s.ses 0 = -1
theorem jBo {s:St}{k:Int}(h:OpP s)(hk:k≠0):qDa (qWt s k).1 (768+frS s.ses 0)=(frS s.ses 0,nwS s k,true):=by
 have hr := @zYp s.ses 0;have hl:=h.2.1;have hf:0≤frS s.ses 0∧frS s.ses 0≤2:=by have:=h.2.2;omega
 rw[qWt,if_neg h.2.2];have hs:(768+frS s.ses 0-768)=frS s.ses 0:=oM;have hn:(frS s.ses 0).toNat<s.ses.length:=oM;have hg:(s.ses.set (frS s.ses 0).toNat (nwS s k)).getD (frS s.ses 0).toNat qDk=nwS s k:=by
  rw[getD_eq_getElem?_getD,getElem?_set_self hn];rfl
 have hp:jEy { s with dr:=s.dr+1,ses:=s.ses.set (frS s.ses 0).toNat (nwS s k) } (768+frS s.ses 0)=frS s.ses 0:=by
  unfold jEy;rw[if_neg oM,hs,hg,if_neg (by simpa [nwS] using hk)]
 rw[qDa,hp,if_neg h.2.2,hs,hg]
def qPc:ECt where
 α:=St×Rq
 β:=St×Rs
 aS:=fun (s,q)=>[.t (stA s),.t (rqA q)]
 pre:=fun (s,q)=>OpP s ∧ ∃ k,q=qC (.op k)∧2≤k∧k≤3
 r:=fun (t,r)=> .tup [.t (stA t),.t (rsA r)]
 R:=fun (s,q) (t,r) => ∀ k,q=qC (.op k)→t=(qWt s k).1∧r=⟨0,[768+frS s.ses 0],[qVc s 16],[]⟩
theorem jNi {g:EF qPc}{s:St}{q:Rq}(hp:OpP s ∧ ∃ k,q=qC (.op k)∧2≤k∧k≤3) : ∃ (t:St) (r:Rs),(∀ k,q=qC (.op k)→t=(qWt s k).1∧r=⟨0,[768+frS s.ses 0],[qVc s 16],[]⟩)∧qPc.fs g [.t (stA s),.t (rqA q)] []=some (.tup [.t (stA t),.t (rsA r)],[]):=by
 obtain⟨y,h1,h2⟩:=qPc.eq g (s,q) hp;exact⟨y.1,y.2,h1,h2⟩
theorem zZi {s:St}{q:Rq}(t:St)(r:Rs)(hR : ∀ k,q=qC (.op k)→t=(qWt s k).1∧r=⟨0,[768+frS s.ses 0],[qVc s 16],[]⟩)(hV:vv = .tup [.t (stA t),.t (rsA r)])(hO:oo=[]):qPc.K (s,q) vv oo:=⟨(t,r),hR,hV,hO⟩
theorem zEt {g1}(h1:LkE tab 208 qPt g1){g3}(h3:LkE tab 176 qHj g3)(s:St)(q:Rq)(hp:OpP s ∧ ∃ k,q=qC (.op k)∧2≤k∧k≤3) :
  qGx.1.wp tab gl (qE 0 [.t (stA s),.t (rqA q)]) (qE 0 []) (qV [(4,(some (30,true))),(5,(some (4,true)))] 0 (qPc.K (s,q))):=by
 obtain⟨ho,k,rfl,k2,k3⟩:=hp;obtain⟨t,h,e,q1,c1⟩:=jO5 (g:=g1) (s:=s) (k:=k) ⟨ho.1,ho.2.1,oM,k3⟩;have hr := @zYp s.ses 0;have hl:=ho.2.1;have hn:=ho.2.2;have q2:t=(qWt s k).1∧h=768+frS s.ses 0∧e=0:=by
  rw[qWt,if_neg hn] at q1;simp only[Prod.mk.injEq] at q1;rw[qWt,if_neg hn];exact q1
 obtain⟨q2,rfl,rfl⟩:=q2;have lt:t.ses.length=3:=by rw[q2,qWt,if_neg hn];simp[hl]
 obtain⟨x,ex,q3,c3⟩:=zOg (g:=g3) (s:=t) (h:=768+frS s.ses 0) ⟨lt,oM⟩;have hq:qDa t (768+frS s.ses 0)=(frS s.ses 0,nwS s k,true):=by rw[q2];exact jBo ho oM
 rw[hq,if_pos rfl] at q3;cases q3;have hK : ∀ k',qC (.op k)=qC (.op k')→t=(qWt s k').1∧(⟨0,[768+frS s.ses 0],[qVc s 16],[]⟩:Rs)=⟨0,[768+frS s.ses 0],[qVc s 16],[]⟩:=by
  intro k' g;simp only[qC,Rq.mk.injEq,List.cons.injEq,and_true,true_and] at g;exact⟨by rw[←g];exact q2,rfl⟩
 clear q1 q2 hq;simp only[stA,yD,nwS] at c1 c3;simp(maxSteps:=9^9)(disch:=try exact dS)only[go_sem,qGx,stA,rqA,qC,iT,mcn,h1,h3,c1,c3];first | exact (zZi t ⟨0,[768+frS s.ses 0],[qVc s 16],[]⟩ hK rfl rfl) | exact⟨rfl,(zZi t ⟨0,[768+frS s.ses 0],[qVc s 16],[]⟩ hK rfl rfl)⟩ | exact⟨rfl,rfl,(zZi t ⟨0,[768+frS s.ses 0],[qVc s 16],[]⟩ hK rfl rfl)⟩ | exact⟨rfl,rfl,rfl,(zZi t ⟨0,[768+frS s.ses 0],[qVc s 16],[]⟩ hK rfl rfl)⟩
def evS (s:St)(i:Int)(d:List UInt8):St := { s with bk:=evB s.bk i.toNat d,u:=s.u+1 }
def EvP (s:St):Prop:=ShA 2 s.bk∧(0≤s.u∧s.u≤1000000)
theorem ShA.on_t {bk:List zB}(h:ShA 2 bk):onB bk 0=false∧onB bk 1=true:=by
 obtain⟨b0,b1,rfl,h0,h1,-,-⟩:=h;constructor
 ·show decide (List.length b0=16)=_;rw[h0];decide
 ·show decide (List.length b1=16)=_;rw[h1];decide
theorem jQp {bk:List zB}{u b i:Int}(h:RM bk):zM2.fs [.t (.agg [.sl (bk.map vS),.int .i64 u]),.t (.int .i64 b),.t (.int .i64 i)] []=some (jJq bk b i,jJp bk b i):=zM2.eq (bk,u,b,i) h
def qPe:ECt where
 α:=St×Int×Rq
 β:=St×Rs
 aS:=fun (s,lo,q)=>[.t (stA s),.t (.int .i64 lo),.t (rqA q)]
 pre:=fun (s,lo,q)=>EvP s∧lo=4 ∧ ∃ i d,q=qC (.ev i d)∧(0≤i∧i≤15)∧d.length≤100
 r:=fun (t,r)=> .tup [.t (stA t),.t (rsA r)]
 R:=fun (s,lo,q) (t,r) => ∀ i d,q=qC (.ev i d)→t=evS s i d∧r=⟨0,[],[[],zT d],[]⟩
theorem jNk {g:EF qPe}{s:St}{lo:Int}{q:Rq}(hp:EvP s∧lo=4 ∧ ∃ i d,q=qC (.ev i d)∧(0≤i∧i≤15)∧d.length≤100) : ∃ (t:St) (r:Rs),(∀ i d,q=qC (.ev i d)→t=evS s i d∧r=⟨0,[],[[],zT d],[]⟩)∧qPe.fs g [.t (stA s),.t (.int .i64 lo),.t (rqA q)] []=some (.tup [.t (stA t),.t (rsA r)],[]):=by
 obtain⟨y,h1,h2⟩:=qPe.eq g (s,lo,q) hp;exact⟨y.1,y.2,h1,h2⟩
theorem zZj {s:St}{lo:Int}{q:Rq}(t:St)(r:Rs)(hR : ∀ i d,q=qC (.ev i d)→t=evS s i d∧r=⟨0,[],[[],zT d],[]⟩)(hV:vv = .tup [.t (stA t),.t (rsA r)])(hO:oo=[]):qPe.K (s,lo,q) vv oo:=⟨(t,r),hR,hV,hO⟩
theorem qUg (h1:LkC tab 201 zM2)(h4:LkC tab 153 qBa)(h5:LkC tab 203 zJu)(s:St)(lo:Int)(q:Rq)(hp:EvP s∧lo=4 ∧ ∃ i d,q=qC (.ev i d)∧(0≤i∧i≤15)∧d.length≤100) :
  qBs.1.wp tab gl (qE 0 [.t (stA s),.t (.int .i64 lo),.t (rqA q)]) (qE 0 []) (qV [(6,(some (30,true))),(7,(some (4,true)))] 0 (qPe.K (s,lo,q))):=by
 obtain⟨⟨hb,hu⟩,rfl,i,d,rfl,hi,hd⟩:=hp;obtain⟨o0,o1⟩:=hb.on_t;have e0:=jQp (u:=s.u) (b:=0) (i:=0) hb.rv.rm;have e1:=jQp (u:=s.u) (b:=1) (i:=0) hb.rv.rm;have b0 : ¬ zXk 0 0:=by decide
 have b1 : ¬ zXk 1 0:=by decide
 rw[jJq,jJp,if_neg b0,if_neg b0,show (0:Int).toNat=0 from rfl,o0,if_neg (by decide),if_neg (by decide)] at e0;rw[jJq,jJp,if_neg b1,if_neg b1,show (1:Int).toNat=1 from rfl,o1,if_pos rfl,if_pos rfl] at e1;have e2:=qP (bs:=d) oM;have e3:=jDm (u:=s.u) (i:=i) (data:=d) hb.rv oM oM oM;have hK : ∀ i' d',qC (.ev i d)=qC (.ev i' d')→evS s i d=evS s i' d'∧(⟨0,[],[[],zT d],[]⟩:Rs)=⟨0,[],[[],zT d'],[]⟩:=by
  intro i' d' g;simp only[qC,Rq.mk.injEq,List.cons.injEq,and_true,true_and] at g;rw[g.1,g.2];exact⟨rfl,rfl⟩
 have lS:(zT d).length=32:=qH;have tS:List.take 32 (zT d)=zT d:=jH;have hT:evS s i d = { s with bk:=evB s.bk i.toNat d,u:=s.u+1 }:=rfl;rw[hT] at hK;clear hT;generalize evB s.bk i.toNat d=nb at *;generalize zT d=S at *;generalize zJa s.bk 1 (Int.toNat 0)=w at *;simp(maxSteps:=9^9)(disch:=try exact dS)only[go_sem,qBs,stA,rqA,qC,iT,mcn,qI];refine qB 2 (fun k=>[(1,.t (.int .i64 4)),(3,.ref 4096 0 0),(5,.ref 4112 0 0),(6,.ref 4128 0 0),(7,.ref 4144 0 0),(8,.ref 8240 0 0),(10,.ref 16384 0 0),(77,.t (.int .i64 (k:Nat)))])
  (fun k=>match k with
   | 0=>[(16384,.live 4 [.agg [.t (.int .i64 0),.nil,.nil,.nil]] true true),(8240,.live 2 [.t (.agg [.sl (s.bk.map vS),.int .i64 s.u])] true true),(4144,.live 4 [.agg [.t (.int .i64 0),.nil,.nil,.nil]] true true),(4128,.live 30 [.agg [.nil,.nil,.nil,.t (.int .i64 0),.t (.int .i64 0),.t (.int .i64 0),.t (.int .i64 0),.t (.bool false),.nil,.t (.int .i64 0),.t (.int .i64 0),.nil,.t (.int .i64 0),.t (.int .i64 0),.t (.int .i64 0),.t (.int .i64 0),.t (.int .i64 0),.t (.int .i64 0),.nil,.t (.bool false),.t (.bool false),.nil,.t (.int .i64 0),.t (.int .i64 0),.t (.bool false),.t (.int .i64 0),.nil,.nil,.nil,.nil]] true true),(4112,.live 5 [.t (.agg [.int .i64 7,.sl [],.sl [],.sl [.int .i64 i],.sl [.sl (d.map qA)]])] true true),(4096,.live 30 [.t (stA s)] true true)]
   | 1=>[(9000,.live 1 [.nil] true false),(16384,.live 4 [.agg [.t (.int .i64 0),.nil,.sl 9000 0 1,.nil]] true true),(8240,.live 2 [.t (.agg [.sl (s.bk.map vS),.int .i64 s.u])] true true),(4144,.live 4 [.agg [.t (.int .i64 0),.nil,.nil,.nil]] true true),(4128,.live 30 [.agg [.nil,.nil,.nil,.t (.int .i64 0),.t (.int .i64 0),.t (.int .i64 0),.t (.int .i64 0),.t (.bool false),.nil,.t (.int .i64 0),.t (.int .i64 0),.nil,.t (.int .i64 0),.t (.int .i64 0),.t (.int .i64 0),.t (.int .i64 0),.t (.int .i64 0),.t (.int .i64 0),.nil,.t (.bool false),.t (.bool false),.nil,.t (.int .i64 0),.t (.int .i64 0),.t (.bool false),.t (.int .i64 0),.nil,.nil,.nil,.nil]] true true),(4112,.live 5 [.t (.agg [.int .i64 7,.sl [],.sl [],.sl [.int .i64 i],.sl [.sl (d.map qA)]])] true true),(4096,.live 30 [.t (stA s)] true true)]
   | _=>[(9000,.live 1 [.nil,.sl 9001 0 32] true false),(9001,.live 1 ((S.map qA).map V.t) true false),(16384,.live 4 [.agg [.t (.int .i64 0),.nil,.sl 9000 0 2,.nil]] true true),(8240,.live 2 [.t (.agg [.sl (s.bk.map vS),.int .i64 s.u])] true true),(4144,.live 4 [.agg [.t (.int .i64 0),.nil,.nil,.nil]] true true),(4128,.live 30 [.agg [.nil,.nil,.nil,.t (.int .i64 0),.t (.int .i64 0),.t (.int .i64 0),.t (.int .i64 0),.t (.bool false),.nil,.t (.int .i64 0),.t (.int .i64 0),.nil,.t (.int .i64 0),.t (.int .i64 0),.t (.int .i64 0),.t (.int .i64 0),.t (.int .i64 0),.t (.int .i64 0),.nil,.t (.bool false),.t (.bool false),.nil,.t (.int .i64 0),.t (.int .i64 0),.t (.bool false),.t (.int .i64 0),.nil,.nil,.nil,.nil]] true true),(4112,.live 5 [.t (.agg [.int .i64 7,.sl [],.sl [],.sl [.int .i64 i],.sl [.sl (d.map qA)]])] true true),(4096,.live 30 [.t (stA s)] true true)])
  (qJ.rd id ?_ ?_ rfl) (fun k hk=>?_)
 ·simp(maxSteps:=9^9)(disch:=try exact dS)only[go_sem,id]
 ·simp(maxSteps:=9^9)(disch:=try exact dS)only[go_sem,id,stA]
 obtain rfl | rfl | rfl:k=0∨k=1∨k=2:=oM
 ·simp(maxSteps:=9^9)(disch:=try exact dS)only[go_sem,h1,h4,e0,stA];repeat refine aiG ?_
  refine qJ.rd (fun j=>if j=9000 then 90176 else j) ?_ ?_ rfl;all_goals simp(maxSteps:=9^9)(disch:=try exact dS)only[go_sem,id,stA]
 ·simp(maxSteps:=9^9)(disch:=try exact dS)only[go_sem,h1,h4,e1,e2,lS,tS,stA];repeat refine aiG ?_
  refine qJ.rd (fun j=>if j=9000 then 90176 else if j=9001 then 86096 else j) ?_ ?_ rfl;all_goals simp(maxSteps:=9^9)(disch:=try exact dS)only[go_sem,id,stA]
 ·simp(maxSteps:=9^9)(disch:=try exact dS)only[go_sem,h1,h4,h5,e1,e2,e3,lS,tS,stA];first | exact (zZj { s with bk:=nb,u:=s.u+1 } ⟨0,[],[[],S],[]⟩ hK rfl rfl) | exact⟨rfl,(zZj { s with bk:=nb,u:=s.u+1 } ⟨0,[],[[],S],[]⟩ hK rfl rfl)⟩ | exact⟨rfl,rfl,(zZj { s with bk:=nb,u:=s.u+1 } ⟨0,[],[[],S],[]⟩ hK rfl rfl)⟩ | exact⟨rfl,rfl,rfl,(zZj { s with bk:=nb,u:=s.u+1 } ⟨0,[],[[],S],[]⟩ hK rfl rfl)⟩
def ixV (s:St)(d:List UInt8):Av:= .idx 257 2 d (inF (s.a.ix.getD 0 default))
def pxP (s:St)(h:Int)(d:List UInt8):Prop:=(qF5 s h).2.2=true∧(∃ v y,ctN s v∧y≠0∧d=z7 y)∧(qF5 s h).2.1.kd=2∧(qF5 s h).2.1.dg.length=32
def asR (s:St)(h:Int)(a:Av):St×Rs:=if (asF s h a).2=0 then ((asF s h a).1,⟨0,[],[],[]⟩) else (s,⟨(asF s h a).2,[],[],[]⟩)
def qO9:ECt where
 α:=St×Rq
 β:=St×Rs
 aS:=fun (s,q)=>[.t (stA s),.t (rqA q)]
 pre:=fun (s,q)=>((RV s.bk∧0≤s.u)∧s.ses.length=3)∧((∃ h a,q=qC (.po h a)∧tmI h∧(qF5 s h).2.2=true∧fmP a∧ckP s (qF5 s h).2.1 a∧(qF5 s h).2.1.dg.length=32) ∨ ∃ h d,q=qC (.px h d)∧tmI h∧pxP s h d)
 r:=fun (t,r)=> .tup [.t (stA t),.t (rsA r)]
 R:=fun (s,q) (t,r)=>(∀ h a,fmP a→q=qC (.po h a)→(t,r)=asR s h a) ∧ ∀ h d,q=qC (.px h d)→(t,r)=asR s h (ixV s d)
theorem jD4 {g:EF qO9}{s:St}{q:Rq}(hp:((RV s.bk∧0≤s.u)∧s.ses.length=3)∧((∃ h a,q=qC (.po h a)∧tmI h∧(qF5 s h).2.2=true∧fmP a∧ckP s (qF5 s h).2.1 a∧(qF5 s h).2.1.dg.length=32) ∨ ∃ h d,q=qC (.px h d)∧tmI h∧pxP s h d)) : ∃ (t:St) (r:Rs),((∀ h a,fmP a→q=qC (.po h a)→(t,r)=asR s h a) ∧ ∀ h d,q=qC (.px h d)→(t,r)=asR s h (ixV s d))∧qO9.fs g [.t (stA s),.t (rqA q)] []=some (.tup [.t (stA t),.t (rsA r)],[]):=by
 obtain⟨y,h1,h2⟩:=qO9.eq g (s,q) hp;exact⟨y.1,y.2,h1,h2⟩
theorem qVp {s:St}{q:Rq}(t:St)(r:Rs)(hR:(∀ h a,fmP a→q=qC (.po h a)→(t,r)=asR s h a) ∧ ∀ h d,q=qC (.px h d)→(t,r)=asR s h (ixV s d))(hV:vv = .tup [.t (stA t),.t (rsA r)])(hO:oo=[]):qO9.K (s,q) vv oo:=⟨(t,r),hR,hV,hO⟩
theorem zN3 {h h':Int}{a:Av}{d:List UInt8}(f:fmP a) : ¬ qC (.po h a)=qC (.px h' d):=by
 intro e;cases a<;>simp only[fmP] at f<;>simp[qC,avN,avB] at e
theorem zUp {h h':Int}{a a':Av}(f:fmP a)(f':fmP a')(e:qC (.po h a)=qC (.po h' a')):h=h'∧a=a':=by
 cases a<;>cases a'<;>simp only[fmP] at f f'<;>simp[qC,avN,avB] at e;all_goals first | exact⟨e,rfl⟩ | (obtain⟨rfl,rfl⟩:=e;exact⟨rfl,rfl⟩) | (exact f.elim) | (exact f'.elim) | (obtain⟨rfl,rfl,rfl⟩:=e;exact⟨rfl,rfl⟩) | (obtain⟨⟨rfl,rfl,rfl⟩,rfl⟩:=e;exact⟨rfl,rfl⟩) | (exfalso;revert e;simp)
theorem qZd {g2}(h2:LkE tab 166 qFs g2){g3}(h3:LkE tab 209 qJb g3){g4}(h4:LkE tab 210 qPp g4){g5}(h5:LkE tab 168 qJe g5)(s:St)(q:Rq)(hp:((RV s.bk∧0≤s.u)∧s.ses.length=3)∧((∃ h a,q=qC (.po h a)∧tmI h∧(qF5 s h).2.2=true∧fmP a∧ckP s (qF5 s h).2.1 a∧(qF5 s h).2.1.dg.length=32) ∨ ∃ h d,q=qC (.px h d)∧tmI h∧pxP s h d)) :
  kR.1.wp tab gl (qE 0 [.t (stA s),.t (rqA q)]) (qE 0 []) (qV [(4,(some (30,true))),(5,(some (4,true)))] 0 (qO9.K (s,q))):=by
 obtain⟨hv,hq⟩:=hp;rcases hq with⟨h,a,rfl,ht,hb,hf,hc,hd⟩ | ⟨h,d,rfl,ht,hb,⟨v,y,hv',hy,rfl⟩,hk2,hd⟩
 rotate_left
 ·have hx0:s.a.ix.getD 0 default=cnI true (z7 v):=by rw[hv'.1];rfl
  obtain⟨t,e,q1,c1⟩:=jEt (g:=g4) (s:=s) (h:=h) (a:= .idx 257 2 (z7 y) (inF (cnI true (z7 v)))) ⟨hv.1,⟨hv.2,ht⟩,hb,.inr ⟨_,_,rfl,rfl,qM9⟩,⟨.inl hk2,hk2,v,y,hv',hy,rfl,rfl,rfl,rfl⟩,hd⟩;obtain⟨t',r',q2,c2⟩:=zNo (g:=g5) (s:=s) (c:=t) (e:=e);obtain⟨i,ei,q3,c3⟩:=zGm (g:=g2) (s:=s) (h:=257) ⟨by rw[hv'.1];simp,by rw[hv'.1];simp[cnI],by unfold tmI;omega⟩;obtain⟨rfl,rfl⟩:i=0∧ei=0:=by
   have hx:ixP s.a.ix 257 0=0:=by rw[hv'.1];simp[ixP,cnI]
   rw[qXu,hx] at q3;exact⟨congrArg (·.1) q3,congrArg (·.2) q3⟩
  have c4:=zTp (g:=g3) (x:=cnI true (z7 v)) (by simp[cnI]);have hK:(∀ h' a',fmP a'→qC (.px h (z7 y))=qC (.po h' a')→(t',r')=asR s h' a') ∧ ∀ h' d',qC (.px h (z7 y))=qC (.px h' d')→(t',r')=asR s h' (ixV s d'):=by
   refine⟨fun h' a' f' e'=>absurd e'.symm (zN3 f'),fun h' d' e'=>?_⟩;simp[qC] at e';obtain⟨rfl,rfl⟩:=e';rw[q2,asR,ixV,hx0,←q1]
  clear q1 q2 q3 hx0 hb hk2 hd;have ln:=qM9 (x:=cnI true (z7 v));have l8:(z7 y).length=8:=rfl;obtain⟨hix,hv0,hrl⟩:=hv';generalize inF (cnI true (z7 v))=N at *;simp only[cnI] at hix c4;generalize z7 v=V at *;generalize z7 y=Y at *;simp only[stA,rsA,avA,avL,hix,mcn] at c1 c2 c3;simp only[ixA,map_nil] at c1 c2 c3 c4;simp(maxSteps:=9^9)(disch:=try exact dS)only[go_sem,kR,stA,rsA,rqA,qC,avN,avB,iT,ixA,hix,mcn,qI,h2,h3,h4,h5,c1,c2,c3,c4];first | exact (qVp t' r' hK rfl rfl) | exact⟨rfl,(qVp t' r' hK rfl rfl)⟩ | exact⟨rfl,rfl,(qVp t' r' hK rfl rfl)⟩ | exact⟨rfl,rfl,rfl,(qVp t' r' hK rfl rfl)⟩
 obtain⟨t,e,q1,c1⟩:=jEt (g:=g4) (s:=s) (h:=h) (a:=a) ⟨hv.1,⟨hv.2,ht⟩,hb,.inl hf,hc,hd⟩;obtain⟨t',r',q2,c2⟩:=zNo (g:=g5) (s:=s) (c:=t) (e:=e);have hK:(∀ h' a',fmP a'→qC (.po h a)=qC (.po h' a')→(t',r')=asR s h' a') ∧ ∀ h' d',qC (.po h a)=qC (.px h' d')→(t',r')=asR s h' (ixV s d'):=by
  refine⟨fun h' a' f' g=>?_,fun h' d' g=>absurd g (zN3 hf)⟩;obtain⟨rfl,rfl⟩:=zUp hf f' g;rw[q2,asR,←q1]
 clear q1 q2 hc;simp only[stA,rsA] at c1 c2;cases a
 case idx=>exact hf.elim
 case apr=>exact hf.elim
 case reg s0 s1 d=>
  obtain⟨rfl,_,rfl⟩:=hf;simp only[avA,avL,map_nil] at c1;simp(maxSteps:=9^9)(disch:=try exact dS)only[go_sem,kR,stA,rsA,rqA,qC,avN,avB,iT,mcn,qI,h4,h5,c1,c2];first | exact (qVp t' r' hK rfl rfl) | exact⟨rfl,(qVp t' r' hK rfl rfl)⟩ | exact⟨rfl,rfl,(qVp t' r' hK rfl rfl)⟩ | exact⟨rfl,rfl,rfl,(qVp t' r' hK rfl rfl)⟩
 all_goals
  simp only[avA,avL,map_nil] at c1;simp(maxSteps:=9^9)(disch:=try exact dS)only[go_sem,kR,stA,rsA,rqA,qC,avN,avB,iT,mcn,qI,h4,h5,c1,c2];first | exact (qVp t' r' hK rfl rfl) | exact⟨rfl,(qVp t' r' hK rfl rfl)⟩ | exact⟨rfl,rfl,(qVp t' r' hK rfl rfl)⟩ | exact⟨rfl,rfl,rfl,(qVp t' r' hK rfl rfl)⟩
def dfS (s:St):St := { s with a := { s.a with ix:=[ctI 0] } }
def icS (s:St):St := { s with a := { s.a with mc:=s.a.mc+1,ix:=[ctI (s.a.mc+1)] } }
def qLv:ECt where
 α:=St×Rq
 β:=St×Rs
 aS:=fun (s,q)=>[.t (stA s),.t (rqA q)]
 pre:=fun (s,q)=>q=qC .df∧s.a.ix=[]
 r:=fun (t,r)=> .tup [.t (stA t),.t (rsA r)]
 R:=fun (s,q) (t,r)=>t=dfS s∧r=⟨0,[],[],[]⟩
theorem jNf {g:EF qLv}{s:St}{q:Rq}(hp:q=qC .df∧s.a.ix=[]) : ∃ (t:St) (r:Rs),(t=dfS s∧r=⟨0,[],[],[]⟩)∧qLv.fs g [.t (stA s),.t (rqA q)] []=some (.tup [.t (stA t),.t (rsA r)],[]):=by
 obtain⟨y,h1,h2⟩:=qLv.eq g (s,q) hp;exact⟨y.1,y.2,h1,h2⟩
theorem jT7 {s:St}{q:Rq}(t:St)(r:Rs)(hR:t=dfS s∧r=⟨0,[],[],[]⟩)(hV:vv = .tup [.t (stA t),.t (rsA r)])(hO:oo=[]):qLv.K (s,q) vv oo:=⟨(t,r),hR,hV,hO⟩
theorem qZe {g1}(h1:LkE tab 242 qLo g1)(h4:tab.look 243=some (zMq 244).fs)(h5:tab.look 245=some zMr.fs)(s:St)(q:Rq)(hp:q=qC .df∧s.a.ix=[]) :
  qDw.1.wp tab gl (qE 0 [.t (stA s),.t (rqA q)]) (qE 0 []) (qV [(4,(some (30,true))),(5,(some (4,true)))] 0 (qLv.K (s,q))):=by
 obtain⟨rfl,hix⟩:=hp;obtain⟨x,e,⟨rfl,rfl⟩,e1⟩:=jMi (g:=g1) (n:=1) (k:=2) (t:=48) (z:=8) (au:=[]) (po:=[]) ⟨rfl,rfl,rfl,rfl,rfl,rfl⟩;have e4 := @jLm 244 (ctI 0);have e5:=jLn;have hK : ∀ vv,vv = .tup [.t (stA (dfS s)),.t (rsA ⟨0,[],[],[]⟩)]→qLv.K (s,qC .df) vv []:=fun vv h=>jT7 (dfS s) ⟨0,[],[],[]⟩ ⟨rfl,rfl⟩ h rfl
 have hz:zBn 8 [ixA (ctI 0)]=true:=yCa (l:=[ctI 0]);simp only[dfS,stA,rsA,iT,mcn] at hK;simp only[map_nil] at e1;simp only[ixA] at e1 e4 hz hK;generalize ctI 0=X at *;simp(maxSteps:=9^9)(disch:=try exact dS)only[go_sem,qDw,stA,rqA,qC,azA,iT,hix,mcn,qI,h1,e1,h4,e4,h5,e5,hz];repeat refine aiG ?_
 exact hK _ rfl
def qLw:ECt where
 α:=St×Rq
 β:=St×Rs
 aS:=fun (s,q)=>[.t (stA s),.t (rqA q)]
 pre:=fun (s,q)=>q=qC .ic∧s.wl=[]∧(0≤s.a.mc∧s.a.mc≤1000)∧s.a.ix=[ctI s.a.mc]
 r:=fun (t,r)=> .tup [.t (stA t),.t (rsA r)]
 R:=fun (s,q) (t,r)=>t=icS s∧r=⟨0,[],[],[]⟩
theorem jNh {g:EF qLw}{s:St}{q:Rq}(hp:q=qC .ic∧s.wl=[]∧(0≤s.a.mc∧s.a.mc≤1000)∧s.a.ix=[ctI s.a.mc]) : ∃ (t:St) (r:Rs),(t=icS s∧r=⟨0,[],[],[]⟩)∧qLw.fs g [.t (stA s),.t (rqA q)] []=some (.tup [.t (stA t),.t (rsA r)],[]):=by
 obtain⟨y,h1,h2⟩:=qLw.eq g (s,q) hp;exact⟨y.1,y.2,h1,h2⟩
theorem jT8 {s:St}{q:Rq}(t:St)(r:Rs)(hR:t=icS s∧r=⟨0,[],[],[]⟩)(hV:vv = .tup [.t (stA t),.t (rsA r)])(hO:oo=[]):qLw.K (s,q) vv oo:=⟨(t,r),hR,hV,hO⟩
theorem qV2 {g1}(h1:LkE tab 166 qFs g1){g4}(h4:LkE tab 253 qMd g4){g7}(h7:LkE tab 256 qLn g7)(h10:tab.look 245=some zMr.fs)(s:St)(q:Rq)(hp:q=qC .ic∧s.wl=[]∧(0≤s.a.mc∧s.a.mc≤1000)∧s.a.ix=[ctI s.a.mc]) :
  qCo.1.wp tab gl (qE 0 [.t (stA s),.t (rqA q)]) (qE 0 []) (qV [(4,(some (30,true))),(5,(some (4,true)))] 0 (qLw.K (s,q))):=by
 obtain⟨rfl,hwl,hm,hix⟩:=hp;obtain⟨i,e,q1,e1⟩:=zGm (g:=g1) (s:=s) (h:=257) ⟨by rw[hix];simp,by rw[hix];simp[ctI,cnI],by unfold tmI;omega⟩;obtain⟨rfl,rfl⟩:i=0∧e=0:=by
  have hx:ixP s.a.ix 257 0=0:=by rw[hix];simp[ixP,ctI,cnI]
  rw[qXu,hx] at q1;exact⟨congrArg (·.1) q1,congrArg (·.2) q1⟩
 clear q1;have e4:=jFa (g:=g4) (l:=[]) (v:=1) rfl;obtain⟨y,k,e,⟨rfl,rfl,rfl⟩,e7⟩:=jMh (g:=g7) (x:=ctI s.a.mc) (m:=s.a.mc) ⟨hm,rfl⟩;have e10 := @jLo (ctI s.a.mc);have hK : ∀ vv,vv = .tup [.t (stA (icS s)),.t (rsA ⟨0,[],[],[]⟩)]→qLw.K (s,qC .ic) vv []:=fun vv h=>jT8 (icS s) ⟨0,[],[],[]⟩ ⟨rfl,rfl⟩ h rfl
 simp only[icS,stA,rsA,iT,hwl,mcn] at hK;have hn:(ctI s.a.mc).n=1:=rfl;generalize ctI (s.a.mc+1)=Y at *;generalize ctI s.a.mc=X at *;generalize s.a.mc+1=m1 at *;simp only[stA,hix,hwl,mcn] at e1 e4;simp only[ixA,hn] at e1 e7 e10 hK;simp(maxSteps:=9^9)(disch:=try exact dS)only[go_sem,qCo,stA,rqA,qC,azA,iT,ixA,hix,hwl,hn,mcn,qI,h1,e1,h4,e4,h7,e7,h10,e10];repeat refine aiG ?_
 exact hK _ rfl
def qVj (n_ref6_join:Nat):AC:=
 (.seq
 (.seq
 (rG 24576 [mv 26 8,mv 27 2,oO 28 .len [.tmp 27],bT 29 .lss 26 28])
 (.cond (.tmp 29)
 .skip
 (.exit 0)))
 (.seq
 (.block 1
 (.seq
 (.seq
 (rG 32768 [mv 32 1,bN 33 .rem 32 2,bN 34 .eql 33 0])
 (.cond (.tmp 34)
 (rG 36864 [mv 35 8,mv 36 1,bN 37 .quo 36 2,mv 38 7,mv 39 2,mv 40 8,oO 41 (.iaddr 1) [.tmp 39,.tmp 40],oO 42 (.load 1 false) [.tmp 41],cL 43 n_ref6_join true [.tmp 35,.tmp 37,.tmp 38,.tmp 42],mv 7 43])
 (rG 40960 [mv 44 8,mv 45 1,bN 46 .quo 45 2,mv 47 2,mv 48 8,oO 49 (.iaddr 1) [.tmp 47,.tmp 48],oO 50 (.load 1 false) [.tmp 49],mv 51 7,cL 52 n_ref6_join true [.tmp 44,.tmp 46,.tmp 50,.tmp 51],mv 7 52])))
 (rG 45056 [mv 53 1,bN 54 .quo 53 2,mv 1 54])))
 (rG 28672 [mv 30 8,bN 31 .add 30 1,mv 8 31])))
def qTd (n_ref5_Public:Nat):AC:=
 (.seq
 (.seq
 (rG 20480 [mv 11 7,mv 12 1,oO 13 (.conv .u64) [.tmp 12],oO 14 (.bin .shl) [.cst (.t (.int .i64 1)),.tmp 13],bT 15 .lss 11 14])
 (.cond (.tmp 15)
 .skip
 (.exit 0)))
 (.seq
 (.block 1
 (rG 28672 [mv 18 5,mv 19 6,mv 20 7,cL 21 n_ref5_Public true [.tmp 19,.tmp 20],oO 22 (.bslice 1 1 .nil [0]) [.tmp 21],oO 23 (.append 1 24) [.tmp 18,.tmp 22],mv 5 23]))
 (rG 24576 [mv 16 7,bN 17 .add 16 1,mv 7 17])))
def qW9:AC:=
 (.seq
 (.seq
 (rG 28672 [mv 44 11,mv 45 10,oO 46 .len [.tmp 45],bT 47 .lss 44 46])
 (.cond (.tmp 47)
 .skip
 (.exit 0)))
 (.seq
 (.block 1
 (rG 36864 [mv 50 9,mv 51 10,mv 52 11,oO 53 (.iaddr 1) [.tmp 51,.tmp 52],oO 54 (.load 1 false) [.tmp 53],oO 55 (.append 1 1) [.tmp 50,.tmp 54],mv 9 55]))
 (rG 32768 [mv 48 11,bN 49 .add 48 1,mv 11 49])))
theorem zBu {a:UInt8}:qKb .shr (qA a) (.int .u64 4)=some (qA (a >>> 4)):=by
 change (if (4:Int)<0 then none else some (T.int .u8 ((a.toNat:Int).fdiv (2^min (4:Int).toNat 8))))=_;rw[if_neg (by decide)];unfold qA;rw[UInt8.toNat_shiftRight,Nat.shiftRight_eq_div_pow];congr 2;rw[Int.fdiv_eq_ediv_of_nonneg _ (by decide)];rfl
theorem zKz {a:UInt8}:(a >>> 4).toNat≤15:=by
 have:=a.toNat_lt;rw[UInt8.toNat_shiftRight];simp[Nat.shiftRight_eq_div_pow];omega
theorem zCq {a:UInt8}:(a &&& 15).toNat≤15:=by
 rw[UInt8.toNat_and];exact Nat.and_le_right
def xo (i:Nat):Nat:=if i%2=0 then i+1 else i-1
def qMs (t:Nat)(fs:List (List UInt8)):List UInt8:=(vW t fs).take 16
theorem qBf {t:Nat}{fs:List (List UInt8)}:(qMs t fs).length=16:=by simp[qMs,vW,qH]
theorem qMt {t:Nat}{fs:List (List UInt8)}:List.take 16 (vW t fs)=qMs t fs:=rfl
theorem xY {t:Nat}{fs:List (List UInt8)}:(vW t fs).length=32:=qH
def yB4:List UInt8:=[99,104,97,105,110]
def jJh (seed:List UInt8)(leaf c:Nat):List UInt8:=drv seed yB4 [UInt8.ofNat leaf,UInt8.ofNat c] 16
def zGg:Ct where
 α:=List UInt8×Nat×Nat
 aS x:=[.t (.sl (x.1.map qA)),.t (.int .i64 x.2.1),.t (.int .i64 x.2.2)]
 ins _:=[]
 pre x:=x.1.length≤64
 r x:= .t (.sl ((jJh x.1 x.2.1 x.2.2).map qA))
 outs _:=[]
 inj:=by
  rintro⟨a,b,c⟩ ⟨d,e,f⟩ h _;simp only[List.cons.injEq,V.t.injEq,T.sl.injEq,T.int.injEq,true_and,and_true,zN,Int.natCast_inj] at h;obtain⟨rfl,rfl,rfl⟩:=h;exact⟨rfl,rfl⟩
theorem jE2 {s:List UInt8}{l c:Nat}(h:s.length≤64):zGg.fs [.t (.sl (s.map qA)),.t (.int .i64 l),.t (.int .i64 c)] []=some (.t (.sl ((jJh s l c).map qA)),[]):=zGg.eq (s,l,c) h
theorem zIn (h1:LkC tab 60 qH2)(s:List UInt8)(l c:Nat)(h:s.length≤64) :
  qIr.1.wp tab gl (qE 0 [.t (.sl (s.map qA)),.t (.int .i64 l),.t (.int .i64 c)]) (qE 0 []) (qV [(6,none)] 0 (fun r o=>r = .t (.sl ((jJh s l c).map qA))∧o=[])):=by
 have hD:qH2.fs [.t (.sl (s.map qA)),.t (qKe [99,104,97,105,110]),.t (.sl [qA (UInt8.ofNat l),qA (UInt8.ofNat c)]),.t (.int .i64 16)] []=some (.t (.sl ((jJh s l c).map qA)),[]):=qXt (l:=yB4) (c:=[UInt8.ofNat l,UInt8.ofNat c]) (n:=16) ⟨h,by decide,sM,oM,oM⟩;simp(disch:=omega)only[go_sem,qIr,h1,hD]
theorem jTp {t:Nat}{fs:List (List UInt8)}(h : ∀ x∈fs,x.length≤1000)(hl:fs.length≤10):(qZ t fs).length<1000000000:=by
 have h1:=qTt (t:=t) h;omega
theorem zNi {t:Nat}{fs:List (List UInt8)}(ht:t<256)(h : ∀ x∈fs,x.length≤1000)(hl:fs.length≤10):jL.fs [.t (.int .i64 t),.t (.sl (fs.map bsT))] []=some (.sl 0 0 32,[.live 1 (((vW t fs).map qA).map V.t) true false]):=jL.eq (t,fs) ⟨ht,jTp h hl⟩
theorem qYz {s:List UInt8}{l c:Nat}:(jJh s l c).length=16:=wG
def dgS (s:List Int×Int)(b:UInt8):List Int×Int:=(s.1++[((b >>> 4).toNat:Int),((b &&& 15).toNat:Int)],s.2+(30-((b >>> 4).toNat:Int)-((b &&& 15).toNat:Int)))
def dgW (w:List UInt8):List Int×Int:=w.foldl dgS ([],0)
def dgX (s:List Int×Int):List Int:=s.1++[s.2/256,s.2/16%16,s.2%16]
def dgF (m:List UInt8):List Int:=dgX (dgW (qMs 4 [m]))
structure DgP (n:Nat) (s:List Int×Int):Prop where
 l:s.1.length=2*n
 d : ∀ x∈s.1,0≤x∧x≤15
 n0:0≤s.2
 n1:s.2≤30*n
theorem zNa {w:List UInt8}{k:Nat}{x:UInt8}(h:w[k]?=some x):dgW (w.take (k+1))=dgS (dgW (w.take k)) x:=by
 unfold dgW;rw[take_add_one,h,foldl_append];rfl
theorem jTh {n:Nat}{s:List Int×Int}{b:UInt8}(h:DgP n s):DgP (n+1) (dgS s b):=by
 have b1 := @zKz b;have b2 := @zCq b;obtain⟨hl,hd,h0,h1⟩:=h;refine⟨by simp[dgS,hl];omega,?_,by simp only[dgS];omega,by simp only[dgS];omega⟩;intro x hx;simp only[dgS,mem_append,mem_cons,not_mem_nil,or_false] at hx;rcases hx with hx | rfl | rfl
 ·exact hd x hx
 ·omega
 ·omega
theorem zM9 : ∀ {w:List UInt8} {n:Nat} {s:List Int×Int},DgP n s→DgP (n+w.length) (w.foldl dgS s)
 | [],n,s,h=>h
 | b::w,n,s,h=>by
  have:=zM9 (w:=w) (jTh (b:=b) h);rw[show n+1+w.length=n+(b::w).length by simp;omega] at this;exact this
theorem zSg {w:List UInt8}:DgP w.length (dgW w):=by
 have:=zM9 (w:=w) (n:=0) (s:=([],0)) ⟨rfl,sM,Int.le_refl _,sM⟩;rw[Nat.zero_add] at this;exact this
theorem jTi {s:List Int×Int}(h:DgP 16 s):(dgX s).length=35 ∧ ∀ x∈dgX s,0≤x∧x≤15:=by
 obtain⟨hl,hd,h0,h1⟩:=h;refine⟨by simp[dgX,hl],?_⟩;intro x hx;simp only[dgX,mem_append,mem_cons,not_mem_nil,or_false] at hx;rcases hx with hx | rfl | rfl | rfl
 ·exact hd x hx
 all_goals omega
theorem jGj (m:List UInt8):(dgF m).length=35 ∧ ∀ x∈dgF m,0≤x∧x≤15:=by
 have:=zSg (w:=qMs 4 [m]);rw[qBf] at this;exact jTi this
def qC0:ECt where
 α:=List UInt8
 β:=List Int
 aS:=fun m=>[.t (.sl (m.map qA))]
 pre:=fun m=>m.length≤1000
 r:=fun r'=> .t (.sl (r'.map iT))
 R:=fun m r'=>r'=dgF m
theorem zWt {g:EF qC0}{m:List UInt8}(hp:m.length≤1000):qC0.fs g [.t (.sl (m.map qA))] []=some (.t (.sl ((dgF m).map iT)),[]):=fnQ qC0 m hp
theorem jRs {m:List UInt8}(hV:vv = .t (.sl ((dgF m).map iT)))(hO:oo=[]):qC0.K m vv oo:=⟨_,rfl,hV,hO⟩
theorem jDd {m:List UInt8}(h:m.length≤1000):jL.fs [.t (.int .i64 4),.t (.sl [.sl (m.map qA)])] []=some (.sl 0 0 32,[.live 1 (((vW 4 [m]).map qA).map V.t) true false]):=by
 have hH:=zNi (t:=4) (fs:=[m]) oM soM sM;simp only[mcn,qI] at hH;exact hH
theorem zA1 (h1:LkC tab 29 jL)(m:List UInt8)(hp:m.length≤1000) :
  qG2.1.wp tab gl (qE 0 [.t (.sl (m.map qA))]) (qE 0 []) (qV [(2,none)] 0 (qC0.K m)):=by
 have hH:=jDd hp;have lH:=xY (t:=4) (fs:=[m]);have tH:=qMt (t:=4) (fs:=[m]);have lW:=qBf (t:=4) (fs:=[m]);have hF:dgF m=dgX (dgW (qMs 4 [m])):=rfl;have hK : ∀ vv,vv = .t (.sl ((dgX (dgW (qMs 4 [m]))).map iT))→qC0.K m vv []:=fun vv h=>jRs (by rw[h,hF]) rfl
 generalize qMs 4 [m]=w at *;have lt:List.take 16 (List.map qA (vW 4 [m]))=w.map qA:=by rw[←map_take,tH]
 generalize vW 4 [m]=y at *;clear hF hp;simp(disch:=omega)only[go_sem,qG2,h1,hH,lH,tH];refine qB 16 (fun k=>[(3,.t (.sl (w.map qA))),(4,.sl 9000 0 (dgW (w.take k)).1.length),(5,.t (.int .i64 (dgW (w.take k)).2)),(6,.t (.int .i64 k))]) (fun k=>[(9000,.live 1 (((dgW (w.take k)).1.map iT).map V.t) true false)]) ?_ (fun k hk=>?_)
 ·refine qJ.cv (hv:=[(9000,.live 1 [] true false)]) (ho:=[]) [8224] id ?_ rfl;simp(disch:=omega)only[go_sem,id,lH];all_goals exact⟨by rw[tH];first | exact⟨rfl,rfl,rfl⟩ | exact⟨rfl,rfl⟩,rfl⟩
 ·by_cases hlt:k<16
  ·obtain⟨x,hg,_,_⟩:=qX (l:=w) (k:=k) oM;have hx:w.getD k 0=x:=by rw[getD_eq_getElem?_getD,hg];rfl
   have hf:=zNa hg;have hP:=zSg (w:=w.take k);rw[length_take,Nat.min_eq_left oM] at hP;generalize dgW (w.take k)=s at *;obtain⟨d,n⟩:=s;obtain⟨hl,hd,h0,h1'⟩:=hP;simp only at hl hd h0 h1';have b1 := @zKz x;have b2 := @zCq x;simp only[dgS] at hf;simp(disch:=omega)only[go_sem,hlt,lW,hl,hx,zBu,zF2];generalize (x >>> 4).toNat=u at *;generalize (x &&& 15).toNat=v at *;repeat refine aiG ?_
   refine qJ.rd (fun j=>if j=9000 then 32992 else j) ?_ ?_ rfl;all_goals simp(disch:=omega)only[go_sem,id,hf,hl]
   all_goals first | omega | rfl | simp[iT] | skip
  ·have e:k=16:=oM;subst e;rw[take_of_length_le oM];have hP:=zSg (w:=w);rw[lW] at hP;generalize dgW w=s at *;obtain⟨d,n⟩:=s;obtain⟨hl,hd,h0,h1'⟩:=hP;simp only at hl hd h0 h1';have q1:n.tdiv 256=n/256:=Int.tdiv_eq_ediv_of_nonneg h0;have q2:n.tdiv 16=n/16:=Int.tdiv_eq_ediv_of_nonneg h0;have q3:(n/16).tmod 16=n/16%16:=Int.tmod_eq_emod_of_nonneg oM;have q4:n.tmod 16=n%16:=Int.tmod_eq_emod_of_nonneg h0;simp(disch:=omega)only[go_sem,lW,hl,q1,q2,q3,q4];refine hK _ ?_;simp only[dgX,iT,map_append,mcn,append_assoc,cons_append,nil_append];rw[take_of_length_le (by simp[hl])]
def adI (a b:Int):Int:=IntKind.i64.wrap ((BitVec.ofInt 64 a &&& BitVec.ofInt 64 b).toNat:Int)
theorem yCj {a b:Int}:qNf .and .i64 a .i64 b=some (.int .i64 (adI a b)):=rfl
theorem yC4 : ∀ n:Fin 481,adI ((n.val:Int)/16) 15=(n.val:Int)/16%16∧adI (n.val:Int) 15=(n.val:Int)%16:=by decide +kernel
theorem jTk {n:Int}:qNf .shr .i64 n .u64 8=some (.int .i64 (n/256)):=by
 change (if (8:Int)<0 then none else some (T.int .i64 (n.fdiv (2^min (8:Int).toNat 64))))=_;rw[if_neg (by decide),Int.fdiv_eq_ediv_of_nonneg _ (by decide)];rfl
theorem jTj {n:Int}:qNf .shr .i64 n .u64 4=some (.int .i64 (n/16)):=by
 change (if (4:Int)<0 then none else some (T.int .i64 (n.fdiv (2^min (4:Int).toNat 64))))=_;rw[if_neg (by decide),Int.fdiv_eq_ediv_of_nonneg _ (by decide)];rfl
def dgJ (n u v:Int):Nat→Int
 | 0=>n
 | 1=>n+(15-u)
 | _=>n+(15-u)+(15-v)
theorem qV4 (h1:LkC tab 123 jL)(m:List UInt8)(hp:m.length≤1000) :
  qCq.1.wp tab gl (qE 0 [.t (.sl (m.map qA))]) (qE 0 []) (qV [(2,none)] 0 (qC0.K m)):=by
 have hH:=jDd hp;have lH:=xY (t:=4) (fs:=[m]);have tH:=qMt (t:=4) (fs:=[m]);have lW:=qBf (t:=4) (fs:=[m]);have hF:dgF m=dgX (dgW (qMs 4 [m])):=rfl;have hK : ∀ vv,vv = .t (.sl ((dgX (dgW (qMs 4 [m]))).map iT))→qC0.K m vv []:=fun vv h=>jRs (by rw[h,hF]) rfl
 generalize qMs 4 [m]=w at *;have lt:List.take 16 (List.map qA (vW 4 [m]))=w.map qA:=by rw[←map_take,tH]
 generalize vW 4 [m]=y at *;clear hF hp;simp(disch:=omega)only[go_sem,qCq,h1,hH,lH,tH];refine qB 16 (fun k=>[(3,.sl 9000 0 (dgW (w.take k)).1.length),(4,.t (.int .i64 (dgW (w.take k)).2)),(12,.t (.sl (w.map qA))),(13,.t (.int .i64 16)),(14,.t (.int .i64 k))]) (fun k=>[(9000,.live 1 (((dgW (w.take k)).1.map iT).map V.t) true false)]) ?_ (fun k hk=>?_)
 ·refine qJ.cv (hv:=[(9000,.live 1 [] true false)]) (ho:=[]) [16416] id ?_ rfl;simp(disch:=omega)only[go_sem,id,lH];all_goals exact⟨by rw[tH];first | exact⟨rfl,rfl,rfl⟩ | exact⟨rfl,rfl⟩,rfl⟩
 ·by_cases hlt:k<16
  ·obtain⟨x,hg,_,_⟩:=qX (l:=w) (k:=k) oM;have hx:w.getD k 0=x:=by rw[getD_eq_getElem?_getD,hg];rfl
   have hf:=zNa hg;have hP:=zSg (w:=w.take k);rw[length_take,Nat.min_eq_left oM] at hP;generalize dgW (w.take k)=s at *;obtain⟨d,n⟩:=s;obtain⟨hl,hd,h0,h1'⟩:=hP;simp only at hl hd h0 h1';have b1 := @zKz x;have b2 := @zCq x;simp only[dgS] at hf;simp(disch:=omega)only[go_sem,hlt,lW,hl,hx,zBu,zF2];generalize (x >>> 4).toNat=u at *;generalize (x &&& 15).toNat=v at *;refine qB 2 (fun j=>[(3,.sl 9000 0 (2*k+j)),(4,.t (.int .i64 (dgJ n u v j))),(12,.t (.sl (w.map qA))),(13,.t (.int .i64 16)),(14,.t (.int .i64 k)),(24,.t (.agg [.int .i64 u,.int .i64 v])),(25,.t (.int .i64 (j:Nat)))]) (fun j=>[(9000,.live 1 (((d++[(u:Int),(v:Int)].take j).map iT).map V.t) true false)]) ?_ (fun j hj=>?_)
   ·refine qJ.rd id ?_ ?_ rfl;all_goals simp(disch:=omega)only[go_sem,id,take_zero,append_nil]
    all_goals rfl
   ·have hs0:dgJ n u v 0=n:=rfl;have hs1:dgJ n u v 1=n+(15-u):=rfl;have hs2:dgJ n u v 2=n+(15-u)+(15-v):=rfl;have hs3:n+(30-(u:Int)-(v:Int))=n+(15-u)+(15-v):=oM;rcases (by omega:j=0∨j=1∨j=2) with rfl | rfl | rfl
    ·simp(disch:=omega)only[go_sem,hl,mcn,take_zero,append_nil,hs0];repeat refine aiG ?_
     refine qJ.rd (fun j=>if j=9000 then 41008 else j) ?_ ?_ rfl
     ·simp(disch:=omega)only[go_sem,id,hs1]
     ·simp(disch:=omega)only[go_sem,id,iT];simp[iT]
    ·simp(disch:=omega)only[go_sem,hl,mcn,hs1];repeat refine aiG ?_
     refine qJ.rd (fun j=>if j=9000 then 41008 else j) ?_ ?_ rfl
     ·simp(disch:=omega)only[go_sem,id,hs2]
     ·simp(disch:=omega)only[go_sem,id,iT];simp[iT]
    ·simp(disch:=omega)only[go_sem,hl,hs2];repeat refine aiG ?_
     refine qJ.rd id ?_ ?_ rfl;all_goals simp(disch:=omega)only[go_sem,id,hf,hs3]
     all_goals first | rfl | (simp[hl];done) | (simp[hl];omega)
  ·have e:k=16:=oM;subst e;rw[take_of_length_le oM];have hP:=zSg (w:=w);rw[lW] at hP;generalize dgW w=s at *;obtain⟨d,n⟩:=s;obtain⟨hl,hd,h0,h1'⟩:=hP;simp only at hl hd h0 h1';obtain⟨q3,q4⟩:=yC4 ⟨n.toNat,oM⟩;simp only[show ((n.toNat:Nat):Int)=n by omega] at q3 q4;simp(disch:=omega)only[go_sem,lW,hl,↓jTk,↓jTj,↓yCj,q3,q4];refine hK _ ?_;simp only[dgX,iT,map_append,mcn,append_assoc,cons_append,nil_append];rw[take_of_length_le (by simp[hl])]
def stF (l c a:Int)(x:List UInt8):Nat→List UInt8
 | 0=>x
 | p+1=>qMs 1 [[u8I l,u8I c,u8I (a+(p:Nat))],stF l c a x p]
theorem qId {l c a:Int}{x:List UInt8}(h:x.length=16) : ∀ {n:Nat},(stF l c a x n).length=16
 | 0=>h
 | n+1=>qBf
theorem jE1 {a b c:UInt8}{x:List UInt8}(h:x.length=16):jL.fs [.t (.int .i64 1),.t (.sl [.sl [qA a,qA b,qA c],.sl (x.map qA)])] []=some (.sl 0 0 32,[.live 1 (((vW 1 [[a,b,c],x]).map qA).map V.t) true false]):=by
 have hH:=zNi (t:=1) (fs:=[[a,b,c],x]) oM (by intro x hx;simp only[mem_cons,not_mem_nil,or_false] at hx;rcases hx with rfl | rfl;simp;omega) sM;simp only[mcn,qI] at hH;exact hH
def qJn:ECt where
 α:=Int×Int×Int×Int×List UInt8
 β:=List UInt8
 aS:=fun (l,c,a,b,x)=>[.t (.int .i64 l),.t (.int .i64 c),.t (.int .i64 a),.t (.int .i64 b),.t (.sl (x.map qA))]
 pre:=fun (l,c,a,b,x)=>x.length=16∧0≤a∧b≤15
 r:=fun r'=> .t (.sl (r'.map qA))
 R:=fun (l,c,a,b,x) r'=>r'=stF l c a x (b-a).toNat
theorem zWv {g:EF qJn}{l c a b:Int}{x:List UInt8}(hp:x.length=16∧0≤a∧b≤15):qJn.fs g [.t (.int .i64 l),.t (.int .i64 c),.t (.int .i64 a),.t (.int .i64 b),.t (.sl (x.map qA))] []=some (.t (.sl ((stF l c a x (b-a).toNat).map qA)),[]):=fnQ qJn (l,c,a,b,x) hp
theorem jWu {l c a b:Int}{x:List UInt8}(hV:vv = .t (.sl ((stF l c a x (b-a).toNat).map qA)))(hO:oo=[]):qJn.K (l,c,a,b,x) vv oo:=⟨_,rfl,hV,hO⟩
theorem zE4 (h1:LkC tab 29 jL)(l c a b:Int)(x:List UInt8)(hp:x.length=16∧0≤a∧b≤15) :
  qIs.1.wp tab gl (qE 0 [.t (.int .i64 l),.t (.int .i64 c),.t (.int .i64 a),.t (.int .i64 b),.t (.sl (x.map qA))]) (qE 0 []) (qV [(10,none)] 0 (qJn.K (l,c,a,b,x))):=by
 obtain⟨hx,ha,hb⟩:=hp;simp(disch:=omega)only[go_sem,qIs];refine qB (b-a).toNat (fun k=>[(0,.t (.int .i64 l)),(1,.t (.int .i64 c)),(3,.t (.int .i64 b)),(4,.t (.sl ((stF l c a x k).map qA))),(11,.t (.int .i64 (a+(k:Nat))))]) (fun _=>[]) ?_ (fun k hk=>?_)
 ·refine qJ.rd id ?_ ?_ rfl;all_goals simp(disch:=omega)only[go_sem,id,stF]
  all_goals simp
 ·by_cases hlt:k<(b-a).toNat
  ·have hz:=qId (l:=l) (c:=c) (a:=a) hx (n:=k);have e:=jE1 (a:=u8I l) (b:=u8I c) (c:=u8I (a+(k:Nat))) hz;obtain⟨z2,hz2⟩ : ∃ z2,stF l c a x (k+1)=z2:=⟨_,rfl⟩;have hN:List.take 16 (vW 1 [[u8I l,u8I c,u8I (a+(k:Nat))],stF l c a x k])=z2:=hz2;have lH:=xY (t:=1) (fs:=[[u8I l,u8I c,u8I (a+(k:Nat))],stF l c a x k]);have c1:a+(k:Nat)<b:=oM;generalize stF l c a x k=z at *;generalize vW 1 [[u8I l,u8I c,u8I (a+(k:Nat))],z]=y at *;have hk':a+(k:Nat)+1=a+((k+1:Nat):Int):=oM;simp(disch:=omega)only[go_sem,c1,h1,e,lH,u8w];repeat refine aiG ?_
   refine qJ.cv (hv:=[]) [20624] id ?_ rfl;simp(disch:=omega)only[go_sem,id,hN,hz2,hk'];all_goals rfl
  ·have e:k=(b-a).toNat:=oM;have c1 : ¬ a+(k:Nat)<b:=oM;simp(disch:=omega)only[go_sem,c1];exact jWu (by rw[←e]) rfl
def qJm:ECt where
 α:=Int×Int×Int×List UInt8
 β:=List UInt8
 aS:=fun (l,c,p,x)=>[.t (.int .i64 l),.t (.int .i64 c),.t (.int .i64 p),.t (.sl (x.map qA))]
 pre:=fun (l,c,p,x)=>x.length=16
 r:=fun r'=> .t (.sl (r'.map qA))
 R:=fun (l,c,p,x) r'=>r'=qMs 1 [[u8I l,u8I c,u8I p],x]
theorem jRv {g:EF qJm}{l c p:Int}{x:List UInt8}(hp:x.length=16):qJm.fs g [.t (.int .i64 l),.t (.int .i64 c),.t (.int .i64 p),.t (.sl (x.map qA))] []=some (.t (.sl ((qMs 1 [[u8I l,u8I c,u8I p],x]).map qA)),[]):=fnQ qJm (l,c,p,x) hp
theorem jWp {l c p:Int}{x:List UInt8}(hV:vv = .t (.sl ((qMs 1 [[u8I l,u8I c,u8I p],x]).map qA)))(hO:oo=[]):qJm.K (l,c,p,x) vv oo:=⟨_,rfl,hV,hO⟩
theorem zAm (h1:LkC tab 123 jL)(l c p:Int)(x:List UInt8)(hp:x.length=16) :
  qE4.1.wp tab gl (qE 0 [.t (.int .i64 l),.t (.int .i64 c),.t (.int .i64 p),.t (.sl (x.map qA))]) (qE 0 []) (qV [(8,none)] 0 (qJm.K (l,c,p,x))):=by
 have e:=jE1 (a:=u8I l) (b:=u8I c) (c:=u8I p) hp;have lH:=xY (t:=1) (fs:=[[u8I l,u8I c,u8I p],x]);have tH:=qMt (t:=1) (fs:=[[u8I l,u8I c,u8I p],x]);have hK : ∀ vv,vv = .t (.sl ((qMs 1 [[u8I l,u8I c,u8I p],x]).map qA))→qJm.K (l,c,p,x) vv []:=fun vv h=>jWp h rfl
 generalize qMs 1 [[u8I l,u8I c,u8I p],x]=z at *;generalize vW 1 [[u8I l,u8I c,u8I p],x]=y at *;simp(disch:=omega)only[go_sem,qE4,h1,e,lH,u8w,tH];first | exact (hK _ rfl) | exact⟨rfl,(hK _ rfl)⟩ | exact⟨rfl,rfl,(hK _ rfl)⟩ | exact⟨rfl,rfl,rfl,(hK _ rfl)⟩
def qC1:ECt where
 α:=Int×List UInt8
 β:=List UInt8
 aS:=fun (l,e)=>[.t (.int .i64 l),.t (.sl (e.map qA))]
 pre:=fun (l,e)=>e.length≤1000
 r:=fun r'=> .t (.sl (r'.map qA))
 R:=fun (l,e) r'=>r'=qMs 2 [[u8I l],e]
theorem zWw {g:EF qC1}{l:Int}{e:List UInt8}(hp:e.length≤1000):qC1.fs g [.t (.int .i64 l),.t (.sl (e.map qA))] []=some (.t (.sl ((qMs 2 [[u8I l],e]).map qA)),[]):=fnQ qC1 (l,e) hp
theorem jR8 {l:Int}{e:List UInt8}(hV:vv = .t (.sl ((qMs 2 [[u8I l],e]).map qA)))(hO:oo=[]):qC1.K (l,e) vv oo:=⟨_,rfl,hV,hO⟩
theorem jE8 {a:UInt8}{x:List UInt8}(h:x.length≤1000):jL.fs [.t (.int .i64 2),.t (.sl [.sl [qA a],.sl (x.map qA)])] []=some (.sl 0 0 32,[.live 1 (((vW 2 [[a],x]).map qA).map V.t) true false]):=by
 have hH:=zNi (t:=2) (fs:=[[a],x]) oM (by intro x hx;simp only[mem_cons,not_mem_nil,or_false] at hx;rcases hx with rfl | rfl;simp;omega) sM;simp only[mcn,qI] at hH;exact hH
theorem zE5 (h1:LkC tab 29 jL)(l:Int)(e:List UInt8)(hp:e.length≤1000) :
  qIt.1.wp tab gl (qE 0 [.t (.int .i64 l),.t (.sl (e.map qA))]) (qE 0 []) (qV [(4,none)] 0 (qC1.K (l,e))):=by
 have h:=jE8 (a:=u8I l) hp;have lH:=xY (t:=2) (fs:=[[u8I l],e]);have tH:=qMt (t:=2) (fs:=[[u8I l],e]);have hK : ∀ vv,vv = .t (.sl ((qMs 2 [[u8I l],e]).map qA))→qC1.K (l,e) vv []:=fun vv h=>jR8 h rfl
 generalize qMs 2 [[u8I l],e]=z at *;generalize vW 2 [[u8I l],e]=y at *;simp(disch:=omega)only[go_sem,qIt,h1,h,lH,u8w,tH];first | exact (hK _ rfl) | exact⟨rfl,(hK _ rfl)⟩ | exact⟨rfl,rfl,(hK _ rfl)⟩ | exact⟨rfl,rfl,rfl,(hK _ rfl)⟩
theorem qZi (h1:LkC tab 123 jL)(l:Int)(e:List UInt8)(hp:e.length≤1000) :
  qDz.1.wp tab gl (qE 0 [.t (.int .i64 l),.t (.sl (e.map qA))]) (qE 0 []) (qV [(4,none)] 0 (qC1.K (l,e))):=by
 have h:=jE8 (a:=u8I l) hp;have lH:=xY (t:=2) (fs:=[[u8I l],e]);have tH:=qMt (t:=2) (fs:=[[u8I l],e]);have hK : ∀ vv,vv = .t (.sl ((qMs 2 [[u8I l],e]).map qA))→qC1.K (l,e) vv []:=fun vv h=>jR8 h rfl
 generalize qMs 2 [[u8I l],e]=z at *;generalize vW 2 [[u8I l],e]=y at *;simp(disch:=omega)only[go_sem,qDz,h1,h,lH,u8w,tH];first | exact (hK _ rfl) | exact⟨rfl,(hK _ rfl)⟩ | exact⟨rfl,rfl,(hK _ rfl)⟩ | exact⟨rfl,rfl,rfl,(hK _ rfl)⟩
def rcX (d:List Int)(sg:List UInt8)(c:Nat):List UInt8:=stF 0 c (d.getD c 0) ((sg.drop (16*c)).take 16) (15-d.getD c 0).toNat
def rcE (d:List Int)(sg:List UInt8):Nat→List UInt8
 | 0=>[]
 | c+1=>rcE d sg c++rcX d sg c
def rcF (m sg:List UInt8):List UInt8:=qMs 2 [[0],rcE (dgF m) sg 35]
theorem qT2 {d:List Int}{sg:List UInt8}{c:Nat}(h:sg.length=560)(hc:c<35):(rcX d sg c).length=16:=qId soM
theorem qNc {d:List Int}{sg:List UInt8}(h:sg.length=560) : ∀ {c:Nat},c≤35→(rcE d sg c).length=16*c
 | 0,_=>rfl
 | c+1,hc=>by rw[rcE,length_append,qNc h oM,qT2 h oM];omega
def qD4:ECt where
 α:=Int×List UInt8×List UInt8
 β:=List UInt8×Bool
 aS:=fun (l,m,sg)=>[.t (.int .i64 l),.t (.sl (m.map qA)),.t (.sl (sg.map qA))]
 pre:=fun (l,m,sg)=>l=0∧m.length≤1000∧sg.length=560
 r:=fun (r,ok)=> .tup [.t (.sl (r.map qA)),.t (.bool ok)]
 R:=fun (l,m,sg) (r,ok)=>r=rcF m sg∧ok=true
theorem jFo {g:EF qD4}{l:Int}{m sg:List UInt8}(hp:l=0∧m.length≤1000∧sg.length=560) : ∃ (r:List UInt8) (ok:Bool),(r=rcF m sg∧ok=true)∧qD4.fs g [.t (.int .i64 l),.t (.sl (m.map qA)),.t (.sl (sg.map qA))] []=some (.tup [.t (.sl (r.map qA)),.t (.bool ok)],[]):=by
 obtain⟨y,h1,h2⟩:=qD4.eq g (l,m,sg) hp;exact⟨y.1,y.2,h1,h2⟩
theorem jR1 {l:Int}{m sg:List UInt8}(r:List UInt8)(ok:Bool)(hR:r=rcF m sg∧ok=true)(hV:vv = .tup [.t (.sl (r.map qA)),.t (.bool ok)])(hO:oo=[]):qD4.K (l,m,sg) vv oo:=⟨(r,ok),hR,hV,hO⟩
theorem qZr {g1}(h1:LkE tab 57 qC0 g1){g2}(h2:LkE tab 58 qJn g2){g3}(h3:LkE tab 69 qC1 g3)(l:Int)(m sg:List UInt8)(hp:l=0∧m.length≤1000∧sg.length=560) :
  qFb.1.wp tab gl (qE 0 [.t (.int .i64 l),.t (.sl (m.map qA)),.t (.sl (sg.map qA))]) (qE 0 []) (qV [(6,none),(7,none)] 0 (qD4.K (l,m,sg))):=by
 obtain⟨rfl,hm,hs⟩:=hp;have e0 := @zWt g1 m hm;obtain⟨ld,hd⟩:=jGj m;have hF:rcF m sg=qMs 2 [[u8I 0],rcE (dgF m) sg 35]:=rfl;have hK : ∀ vv,vv = .tup [.t (.sl ((qMs 2 [[u8I 0],rcE (dgF m) sg 35]).map qA)),.t (.bool true)]→qD4.K (0,m,sg) vv []:=fun vv h=>jR1 _ true ⟨hF.symm,rfl⟩ h rfl
 clear hF;generalize dgF m=d at *;simp(disch:=omega)only[go_sem,qFb,hs,h1,e0];refine qB 35 (fun c=>[(0,.t (.int .i64 0)),(2,.t (.sl (sg.map qA))),(8,.t (.sl (d.map iT))),(9,.sl 9000 0 (rcE d sg c).length),(10,.t (.int .i64 (c:Nat)))]) (fun c=>[(9000,.live 1 (((rcE d sg c).map qA).map V.t) true false)]) ?_ (fun c hc=>?_)
 ·refine qJ.cv0 (hv:=[(9000,.live 1 [] true false)]) (ho:=[]) id ?_ ?_ rfl rfl;all_goals simp(disch:=omega)only[go_sem,id]
  all_goals rfl
 ·have lr:=qNc (d:=d) hs hc;by_cases hlt:c<35
  ·obtain⟨v,hg,hm',_⟩:=qX (l:=d) (k:=c) oM;have hv:=hd v hm';have hgd:d.getD c 0=v:=by rw[getD_eq_getElem?_getD,hg];rfl
   have hX:rcX d sg c=stF 0 c v ((sg.drop (16*c)).take 16) (15-v).toNat:=by rw[rcX,hgd]
   have lX:=qT2 (d:=d) hs hlt;obtain⟨x,hx⟩ : ∃ x,(sg.drop (16*c)).take 16=x:=⟨_,rfl⟩;have lx:x.length=16:=by rw[←hx];simp;omega
   have e2:=zWv (g:=g2) (l:=0) (c:=c) (a:=v) (b:=15) (x:=x) ⟨lx,oM,oM⟩;rw[hx] at hX;rw[←hX] at e2;have hE:rcE d sg (c+1)=rcE d sg c++rcX d sg c:=rfl;clear hX;generalize rcX d sg c=y at *;generalize rcE d sg c=r at *;simp(disch:=omega)only[go_sem,hlt,h2,e2,lr,lX,hg,ld,oms,iT,hs,hx];repeat refine aiG ?_
   refine qJ.rd (fun j=>if j=9000 then 37104 else j) ?_ ?_ rfl;all_goals simp(disch:=omega)only[go_sem,id,lr,lX,hE,length_append]
   all_goals rfl
  ·obtain rfl:c=35:=oM;have e:=zWw (g:=g3) (l:=0) (e:=rcE d sg 35) oM;generalize qMs 2 [[u8I 0],rcE d sg 35]=z at *;generalize rcE d sg 35=r at *;have t:List.take 560 r=r:=take_of_length_le oM;simp(disch:=omega)only[go_sem,lr,h3,e,t];exact hK _ rfl
def bSg (sg:List UInt8):Ob:= .live 1 [.t (.sl (sg.map qA))] true true
def bDg (d:List Int):Ob:= .live 1 [.t (.sl (d.map iT))] true true
theorem zRt {a b:List UInt8}(h:bSg a=bSg b):a=b:=by
 simp only[bSg,Ob.live.injEq,List.cons.injEq,V.t.injEq,T.sl.injEq,zN,true_and,and_true] at h;exact h
theorem zPl {a b:List Int}(h:a.map iT=b.map iT):a=b:=by
 have:=congrArg (List.map (fun t=>match t with | T.int _ n=>n | _=>0)) h;simpa [map_map,Function.comp_def,iT] using this
theorem zRs {a b:List Int}(h:bDg a=bDg b):a=b:=by
 simp only[bDg,Ob.live.injEq,List.cons.injEq,V.t.injEq,T.sl.injEq,true_and,and_true] at h;exact zPl h
def zGd:Ct where
 α:=Nat×List UInt8
 aS x:=[.t (.int .i64 x.1),.ref 0 0 0]
 ins x:=[bSg x.2]
 pre x:=x.1<35∧x.2.length=560
 r x:= .t (.sl (((x.2.drop (16*x.1)).take 16).map qA))
 outs x:=[bSg x.2]
 inj:=by
  rintro⟨a,b⟩ ⟨c,d⟩ h h2;simp only[List.cons.injEq,V.t.injEq,T.int.injEq,Int.natCast_inj,true_and,and_true] at h h2;obtain rfl:=h;obtain rfl:=zRt h2;exact⟨rfl,rfl⟩
def zGe:Ct where
 α:=Nat×List Int
 aS x:=[.t (.int .i64 x.1),.ref 0 0 0]
 ins x:=[bDg x.2]
 pre x:=x.1<35∧x.2.length=35
 r x:= .t (.int .i64 (x.2.getD x.1 0))
 outs x:=[bDg x.2]
 inj:=by
  rintro⟨a,b⟩ ⟨c,d⟩ h h2;simp only[List.cons.injEq,V.t.injEq,T.int.injEq,Int.natCast_inj,true_and,and_true] at h h2;obtain rfl:=h;obtain rfl:=zRs h2;exact⟨rfl,rfl⟩
def zGf:Ct where
 α:=Nat
 aS x:=[.t (.int .i64 x)]
 ins _:=[]
 pre _:=True
 r _:= .t (.int .i64 15)
 outs _:=[]
 inj:=fun _ _ _ _=>⟨rfl,rfl⟩
theorem jOx {c:Nat}{sg:List UInt8}(h:c<35∧sg.length=560):zGd.fs [.t (.int .i64 c),.ref 0 0 0] [.live 1 [.t (.sl (sg.map qA))] true true]=some (.t (.sl (((sg.drop (16*c)).take 16).map qA)),[.live 1 [.t (.sl (sg.map qA))] true true]):=zGd.eq (c,sg) h
theorem jOy {c:Nat}{d:List Int}(h:c<35∧d.length=35):zGe.fs [.t (.int .i64 c),.ref 0 0 0] [.live 1 [.t (.sl (d.map iT))] true true]=some (.t (.int .i64 (d.getD c 0)),[.live 1 [.t (.sl (d.map iT))] true true]):=zGe.eq (c,d) h
theorem jEs {c:Nat}:zGf.fs [.t (.int .i64 c)] []=some (.t (.int .i64 15),[]):=zGf.eq c trivial
theorem qQ3 (c:Nat)(sg:List UInt8)(h:c<35∧sg.length=560):qAg.1.wp tab gl (qE 0 [.t (.int .i64 c),.ref 0 0 0]) (qE 0 [bSg sg]) (qV [(3,none)] 1 (fun r o=>r = .t (.sl (((sg.drop (16*c)).take 16).map qA))∧o=[bSg sg])):=by
 obtain⟨hc,hs⟩:=h;simp(disch:=omega)only[go_sem,qAg,bSg,hs];rw[show (c+1)*16-c*16=16 by omega,Nat.mul_comm c 16]
theorem qQ4 (c:Nat)(d:List Int)(h:c<35∧d.length=35):qAh.1.wp tab gl (qE 0 [.t (.int .i64 c),.ref 0 0 0]) (qE 0 [bDg d]) (qV [(3,none)] 1 (fun r o=>r = .t (.int .i64 (d.getD c 0))∧o=[bDg d])):=by
 obtain⟨hc,hd⟩:=h;obtain⟨v,hg,_,_⟩:=qX (l:=d) (k:=c) oM;have hgd:d.getD c 0=v:=by rw[getD_eq_getElem?_getD,hg];rfl
 simp(disch:=omega)only[go_sem,qAh,bDg,hd,hg,oms,iT,hgd]
theorem qQ5 (c:Nat):qAi.1.wp tab gl (qE 0 [.t (.int .i64 c)]) (qE 0 []) (qV [(2,none)] 0 (fun r o=>r = .t (.int .i64 15)∧o=[])):=by
 simp(disch:=omega)only[go_sem,qAi]
def zM3 (n1 n2 n3:Nat):Ct where
 α:=List UInt8×List Int
 aS _:=[.t (.int .i64 0),.fn n1 [.ref 0 0 0],.fn n2 [.ref 1 0 0],.fn n3 []]
 ins x:=[bSg x.1,bDg x.2]
 pre x:=x.1.length=560∧x.2.length=35 ∧ ∀ v∈x.2,0≤v∧v≤15
 r x:= .t (.sl ((rcE x.2 x.1 35).map qA))
 outs x:=[bSg x.1,bDg x.2]
 inj:=by
  rintro⟨a,b⟩ ⟨c,d⟩ h h2;simp only[List.cons.injEq,and_true] at h2;obtain⟨h3,h4⟩:=h2;obtain rfl:=zRt h3;obtain rfl:=zRs h4;exact⟨rfl,rfl⟩
theorem jRb {n1 n2 n3:Nat}{sg:List UInt8}{d:List Int}(h:sg.length=560∧d.length=35 ∧ ∀ v∈d,0≤v∧v≤15):(zM3 n1 n2 n3).fs [.t (.int .i64 0),.fn n1 [.ref 0 0 0],.fn n2 [.ref 1 0 0],.fn n3 []] [.live 1 [.t (.sl (sg.map qA))] true true,.live 1 [.t (.sl (d.map iT))] true true]=some (.t (.sl ((rcE d sg 35).map qA)),[.live 1 [.t (.sl (sg.map qA))] true true,.live 1 [.t (.sl (d.map iT))] true true]):=(zM3 n1 n2 n3).eq (sg,d) h
theorem zBc (m1 m2 m3:Nat){g:EF qJm}(hn:tab.look 333=some (qJm.fs g))(k1:tab.look m1=some zGd.fs)(k2:tab.look m2=some zGe.fs)(k3:tab.look m3=some zGf.fs)(sg:List UInt8)(d:List Int)(h:sg.length=560∧d.length=35 ∧ ∀ v∈d,0≤v∧v≤15) :
  qE5.1.wp tab gl (qE 0 [.t (.int .i64 0),.fn m1 [.ref 0 0 0],.fn m2 [.ref 1 0 0],.fn m3 []]) (qE 0 [bSg sg,bDg d]) (qV [(8,none)] 2 (fun r o=>r = .t (.sl ((rcE d sg 35).map qA))∧o=[bSg sg,bDg d])):=by
 obtain⟨hs,ld,hd⟩:=h;simp(disch:=omega)only[go_sem,qE5,bSg,bDg];refine qB 35 (fun c=>[(0,.t (.int .i64 0)),(1,.fn m1 [.ref 0 0 0]),(2,.fn m2 [.ref 1 0 0]),(3,.fn m3 []),(9,.sl 9000 0 (rcE d sg c).length),(13,.t (.int .i64 (c:Nat)))]) (fun c=>[(9000,.live 1 (((rcE d sg c).map qA).map V.t) true false),(0,.live 1 [.t (.sl (sg.map qA))] true true),(1,.live 1 [.t (.sl (d.map iT))] true true)]) ?_ (fun c hc=>?_)
 ·refine qJ.cv0 (hv:=[(9000,.live 1 [] true false)]) (ho:=[(0,.live 1 [.t (.sl (sg.map qA))] true true),(1,.live 1 [.t (.sl (d.map iT))] true true)]) id ?_ ?_ rfl rfl;all_goals simp(disch:=omega)only[go_sem,id]
  all_goals rfl
 ·have lr:=qNc (d:=d) hs hc;by_cases hlt:c<35
  ·obtain⟨v,hg,hm',_⟩:=qX (l:=d) (k:=c) oM;have hv:=hd v hm';have hgd:d.getD c 0=v:=by rw[getD_eq_getElem?_getD,hg];rfl
   have hX:rcX d sg c=stF 0 c v ((sg.drop (16*c)).take 16) (15-v).toNat:=by rw[rcX,hgd]
   have lX:=qT2 (d:=d) hs hlt;have f1:=jOx (c:=c) (sg:=sg) ⟨hlt,hs⟩;have f2:=jOy (c:=c) (d:=d) ⟨hlt,ld⟩;rw[hgd] at f2;obtain⟨x,hx⟩ : ∃ x,(sg.drop (16*c)).take 16=x:=⟨_,rfl⟩;have lx:x.length=16:=by rw[←hx];simp;omega
   rw[hx] at hX f1;have hE:rcE d sg (c+1)=rcE d sg c++rcX d sg c:=rfl;simp(disch:=omega)only[go_sem,hlt,k1,k2,f1,f2];refine qB (15-v).toNat (fun p=>[(0,.t (.int .i64 0)),(1,.fn m1 [.ref 0 0 0]),(2,.fn m2 [.ref 1 0 0]),(3,.fn m3 []),(9,.sl 9000 0 (rcE d sg c).length),(10,.t (.int .i64 (c:Nat))),(11,.t (.sl ((stF 0 c v x p).map qA))),(12,.t (.int .i64 (v+(p:Nat)))),(13,.t (.int .i64 (c:Nat)))]) (fun _=>[(9000,.live 1 (((rcE d sg c).map qA).map V.t) true false),(0,.live 1 [.t (.sl (sg.map qA))] true true),(1,.live 1 [.t (.sl (d.map iT))] true true)]) ?_ (fun p hp=>?_)
   ·refine qJ.rd id ?_ ?_ rfl;all_goals simp(disch:=omega)only[go_sem,id,stF]
    all_goals simp
   ·by_cases hp':p<(15-v).toNat
    ·have e:=jRv (g:=g) (l:=0) (c:=c) (p:=v+(p:Nat)) (x:=stF 0 c v x p) (qId lx);have hN:stF 0 c v x (p+1)=qMs 1 [[u8I 0,u8I c,u8I (v+(p:Nat))],stF 0 c v x p]:=rfl;have c1:v+(p:Nat)<15:=oM;have hk':v+(p:Nat)+1=v+((p+1:Nat):Int):=oM;rw[←hN] at e;generalize stF 0 c v x p=z at *;have f3 := @jEs c;simp(disch:=omega)only[go_sem,k3,f3,c1,hn,e];repeat refine aiG ?_
     refine qJ.rd id ?_ ?_ rfl;all_goals simp(disch:=omega)only[go_sem,id,hk']
    ·have e:p=(15-v).toNat:=oM;subst e;have c1 : ¬ v+((15-v).toNat:Nat)<15:=oM;rw[←hX];have f3 := @jEs c;generalize rcX d sg c=y at *;simp(disch:=omega)only[go_sem,k3,f3,c1,lX,lr];repeat refine aiG ?_
     refine qJ.rd (fun j=>if j=9000 then 45088 else j) ?_ ?_ rfl;all_goals simp(disch:=omega)only[go_sem,id,hE,lr,lX,length_append]
     all_goals rfl
  ·obtain rfl:c=35:=oM;simp(disch:=omega)only[go_sem]
end Go.Eng
end
