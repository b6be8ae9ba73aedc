/- A part of an abstract machine, its walks, their tie. -/
import Derived.Test.YtpolalhffkhimaaGreatDoorE25
import Derived.Test.YtpolalhffkhimaaGreatDoorE16
import Derived.Test.YtpolalhffkhimaaGreatDoorE24
import Derived.Test.YtpolalhffkhimaaGreatDoorE21
import Derived.Conc.MuLone
import Derived.Lib.BytesEntry
import Derived.Laws.Externs
import Derived.Test.YtpolalhffkhimaaGreatDoorE9
set_option linter.all false
section
set_option maxHeartbeats 64000000
set_option maxRecDepth 20000
namespace Go.Eng
variable (tab:Tab) (gl:Gl)
variable {vv:V} {oo:List Ob}
def sOb (x:Ses):Ob:= .live 8 [.t (jP x)] true true
theorem zEf {x y:Ses}(h:sOb x=sOb y):x=y:=by
 simp only[sOb,Ob.live.injEq,List.cons.injEq,V.t.injEq,zHh,true_and,and_true] at h;exact h
def zAn:Ct where
 α:=List UInt8×Ses
 aS x:=[.t (.sl (x.1.map qA)),.ref 0 0 0]
 ins x:=[sOb x.2]
 pre _:=True
 r x:= .t (.bool (decide (x.1=x.2.dg)))
 outs x:=[sOb x.2]
 inj:=by
  rintro⟨a,b⟩ ⟨c,d⟩ h h2;simp only[List.cons.injEq,V.t.injEq,T.sl.injEq,and_true,jC] at h h2;obtain rfl:=h;obtain rfl:=zEf h2;exact⟨rfl,rfl⟩
theorem zVf {b:List UInt8}{x:Ses}:zAn.fs [.t (.sl (b.map qA)),.ref 0 0 0] [.live 8 [.t (jP x)] true true]=some (.t (.bool (decide (b=x.dg))),[.live 8 [.t (jP x)] true true]):=zAn.eq (b,x) trivial
theorem qQt (b:List UInt8)(x:Ses):qAj.1.wp tab gl (qE 0 [.t (.sl (b.map qA)),.ref 0 0 0]) (qE 0 [sOb x]) (zA [(3,none)] 1 (fun r o=>r = .t (.bool (decide (b=x.dg)))∧o=[sOb x])):=by
 simp(maxSteps:=9^9)(disch:=try exact dS)only[go_sem,qAj,sOb,jP]
def fdL (d:List UInt8):List (List UInt8)→Nat→Int
 | [],_ => -1
 | x::r,k=>if x=d then (k:Int) else fdL d r (k+1)
def zF6 (n:Nat):Ct where
 α:=List (List UInt8)×Ses
 aS x:=[.t (.sl (x.1.map bsT)),.fn n [.ref 0 0 0]]
 ins x:=[sOb x.2]
 pre x:=x.1.length≤1000
 r x:= .t (.int .i64 (fdL x.2.dg x.1 0))
 outs x:=[sOb x.2]
 inj:=by
  rintro⟨a,b⟩ ⟨c,d⟩ h h2;simp only[List.cons.injEq,V.t.injEq,T.sl.injEq,and_true,qBs] at h h2;obtain rfl:=h;obtain rfl:=zEf h2;exact⟨rfl,rfl⟩
theorem jEk {n:Nat}{l:List (List UInt8)}{x:Ses}(h:l.length≤1000):(zF6 n).fs [.t (.sl (l.map bsT)),.fn n [.ref 0 0 0]] [.live 8 [.t (jP x)] true true]=some (.t (.int .i64 (fdL x.dg l 0)),[.live 8 [.t (jP x)] true true]):=(zF6 n).eq (l,x) h
theorem qKl (n:Nat)(hn:tab.look n=some zAn.fs)(l:List (List UInt8))(x:Ses)(h:l.length≤1000):jG.1.wp tab gl (qE 0 [.t (.sl (l.map bsT)),.fn n [.ref 0 0 0]]) (qE 0 [sOb x]) (zA [(4,none)] 1 (fun r o=>r = .t (.int .i64 (fdL x.dg l 0))∧o=[sOb x])):=by
 simp(maxSteps:=9^9)(disch:=try exact dS)only[go_sem,jG,sOb];refine vK (σ:=Nat) (fun k=>k≤l.length∧fdL x.dg (l.drop k) k=fdL x.dg l 0) (fun k=>l.length-k) (fun k=>[(0,.t (.sl (l.map bsT))),(1,.fn n [.ref 0 0 0]),(7,.t (.int .i64 l.length)),(8,.t (.int .i64 k))]) (fun _=>[(0,.live 8 [.t (jP x)] true true)]) 0 ⟨oM,rfl⟩ (qK.rd id ?_ ?_ rfl) ?_
 ·simp(maxSteps:=9^9)(disch:=try exact dS)only[go_sem,id]
 ·simp(maxSteps:=9^9)(disch:=try exact dS)only[go_sem,id]
 rintro k ⟨hk,hF⟩;by_cases hlt:k<l.length
 ·obtain⟨b,hg,hm,hd⟩:=zF hlt;rw[hd,fdL] at hF;by_cases c:b=x.dg
  ·rw[if_pos c] at hF;have e := @zVf b x;rw[show decide (b=x.dg)=true by simpa using c] at e;simp only[jP] at e;simp(maxSteps:=9^9)(disch:=try exact dS)only[go_sem,jP,hlt,hg,oms,hn,e];exact hF
  ·rw[if_neg c] at hF;have e := @zVf b x;rw[show decide (b=x.dg)=false by simpa using c] at e;simp only[jP] at e;simp(maxSteps:=9^9)(disch:=try exact dS)only[go_sem,jP,hlt,hg,oms,hn,e];refine qTy.of (k+1) ⟨oM,hF⟩ oM (qK.rd id ?_ ?_ rfl);all_goals simp(maxSteps:=9^9)(disch:=try exact dS)only[go_sem,id,jP]
 ·rw[show l.drop k=[] from List.drop_eq_nil_of_le oM,fdL] at hF;have e:k=l.length:=oM;subst e;simp(maxSteps:=9^9)(disch:=try exact dS)only[go_sem,hlt];exact hF
def zF2 (n:Nat):Ct where
 α:=List (List UInt8)×Ses
 aS x:=[.t (.sl (x.1.map bsT)),.fn n [.ref 0 0 0]]
 ins x:=[sOb x.2]
 pre x:=x.1.length≤1000
 r x:= .t (.bool (decide (0≤fdL x.2.dg x.1 0)))
 outs x:=[sOb x.2]
 inj:=by
  rintro⟨a,b⟩ ⟨c,d⟩ h h2;simp only[List.cons.injEq,V.t.injEq,T.sl.injEq,and_true,qBs] at h h2;obtain rfl:=h;obtain rfl:=zEf h2;exact⟨rfl,rfl⟩
theorem jC3 {n:Nat}{l:List (List UInt8)}{x:Ses}(h:l.length≤1000):(zF2 n).fs [.t (.sl (l.map bsT)),.fn n [.ref 0 0 0]] [.live 8 [.t (jP x)] true true]=some (.t (.bool (decide (0≤fdL x.dg l 0))),[.live 8 [.t (jP x)] true true]):=(zF2 n).eq (l,x) h
theorem qHg (n:Nat)(h1:tab.look 302=some (zF6 n).fs)(l:List (List UInt8))(x:Ses)(h:l.length≤1000):zJ.1.wp tab gl (qE 0 [.t (.sl (l.map bsT)),.fn n [.ref 0 0 0]]) (qE 0 [sOb x]) (zA [(4,none)] 1 (fun r o=>r = .t (.bool (decide (0≤fdL x.dg l 0)))∧o=[sOb x])):=by
 have e := @jEk n l x h;simp only[jP] at e;by_cases c:0≤fdL x.dg l 0
 ·simp(maxSteps:=9^9)(disch:=try exact dS)only[go_sem,zJ,sOb,jP,h1,e,c]
 ·simp(maxSteps:=9^9)(disch:=try exact dS)only[go_sem,zJ,sOb,jP,h1,e,c]
def ctI (v:Int):Ix:=cnI (decide (v≠0)) (beI 8 v 8)
theorem jKb:ctI 0=cnI false (List.replicate 8 0):=by rfl
def anI (a b:Int):Int:=IntKind.i64.wrap ((BitVec.ofInt 64 a &&& BitVec.ofInt 64 b).toNat:Int)
theorem jR7 {a b:Int}:qNk .and .i64 a .i64 b=some (.int .i64 (anI a b)):=rfl
def qLj:ECt where
 α:=Int×Int
 β:=Bool
 aS:=fun (k,z)=>[.t (.int .i64 k),.t (.int .i64 z)]
 pre:=fun (k,z)=>k=2∧z=8
 r:=fun r'=> .t (.bool r')
 R:=fun (k,z) r'=>r'=true
theorem jD6 {g:EF qLj}{k z:Int}(hp:k=2∧z=8):qLj.fs g [.t (.int .i64 k),.t (.int .i64 z)] []=some (.t (.bool (true)),[]):=fnQ qLj (k,z) hp
theorem zRf {k z:Int}(hV:vv = .t (.bool (true)))(hO:oo=[]):qLj.K (k,z) vv oo:=⟨_,rfl,hV,hO⟩
theorem qZf  (k z:Int)(hp:k=2∧z=8) :
  qEs.1.wp tab gl (qE 0 [.t (.int .i64 k),.t (.int .i64 z)]) (qE 0 []) (zA [(4,none)] 0 (qLj.K (k,z))):=by
 obtain⟨rfl,rfl⟩:=hp;simp(maxSteps:=9^9)(disch:=try exact dS)only[go_sem,qEs];first | exact (zRf rfl rfl) | exact⟨rfl,(zRf rfl rfl)⟩ | exact⟨rfl,rfl,(zRf rfl rfl)⟩ | exact⟨rfl,rfl,rfl,(zRf rfl rfl)⟩
def qIp:ECt where
 α:=Int×Int×Int×Int×List UInt8×List UInt8
 β:=Ix×Int
 aS:=fun (n,k,t,z,au,po)=>[.t (.int .i64 n),.t (.int .i64 k),.t (.int .i64 t),.t (.int .i64 z),.t (.sl (au.map qA)),.t (.sl (po.map qA))]
 pre:=fun (n,k,t,z,au,po)=>n=1∧k=2∧t=48∧z=8∧au=[]∧po=[]
 r:=fun (x,e)=> .tup [.t (ixA x),.t (.int .i64 e)]
 R:=fun (n,k,t,z,au,po) (x,e)=>x=ctI 0∧e=0
theorem jD5 {g:EF qIp}{n k t z:Int}{au po:List UInt8}(hp:n=1∧k=2∧t=48∧z=8∧au=[]∧po=[]) : ∃ (x:Ix) (e:Int),(x=ctI 0∧e=0)∧qIp.fs g [.t (.int .i64 n),.t (.int .i64 k),.t (.int .i64 t),.t (.int .i64 z),.t (.sl (au.map qA)),.t (.sl (po.map qA))] []=some (.tup [.t (ixA x),.t (.int .i64 e)],[]):=by
 obtain⟨y,h1,h2⟩:=qIp.eq g (n,k,t,z,au,po) hp;exact⟨y.1,y.2,h1,h2⟩
theorem jKv {n k t z:Int}{au po:List UInt8}(x:Ix)(e:Int)(hR:x=ctI 0∧e=0)(hV:vv = .tup [.t (ixA x),.t (.int .i64 e)])(hO:oo=[]):qIp.K (n,k,t,z,au,po) vv oo:=⟨(x,e),hR,hV,hO⟩
theorem zEw {g1}(h1:LkE tab 261 qLj g1)(n k t z:Int)(au po:List UInt8)(hp:n=1∧k=2∧t=48∧z=8∧au=[]∧po=[]) :
  qHy.1.wp tab gl (qE 0 [.t (.int .i64 n),.t (.int .i64 k),.t (.int .i64 t),.t (.int .i64 z),.t (.sl (au.map qA)),.t (.sl (po.map qA))]) (qE 0 []) (zA [(12,(some (8,true))),(13,none)] 0 (qIp.K (n,k,t,z,au,po))):=by
 obtain⟨rfl,rfl,rfl,rfl,rfl,rfl⟩:=hp;have e1:=jD6 (g:=g1) (k:=2) (z:=8) ⟨rfl,rfl⟩;have hK : ∀ vv,vv = .tup [.t (ixA (ctI 0)),.t (.int .i64 0)]→qIp.K (1,2,48,8,[],[]) vv []:=fun vv h=>jKv (ctI 0) 0 ⟨rfl,rfl⟩ h rfl
 simp only[jKb,cnI,ixA,List.map_nil] at hK;have a1:anI 48 21=16:=by decide
 have a2:anI 48 42=32:=by decide
 have a3:anI 48 12=0:=by decide
 simp(maxSteps:=9^9)(disch:=try exact dS)only[go_sem,qHy,h1,e1,List.map_nil,↓jR7,a1,a2,a3];repeat refine aiG ?_
 exact hK _ rfl
def qLk:ECt where
 α:=Ix×List UInt8
 β:=Ix
 aS:=fun (x,d)=>[.t (ixA x),.t (.sl (d.map qA))]
 pre:=fun (x,d)=>d.length=8
 r:=fun r'=> .t (ixA r')
 R:=fun (x,d) r'=>r' = { x with wr:=true,da:=d }
theorem jD7 {g:EF qLk}{x:Ix}{d:List UInt8}(hp:d.length=8):qLk.fs g [.t (ixA x),.t (.sl (d.map qA))] []=some (.t (ixA ({ x with wr:=true,da:=d })),[]):=fnQ qLk (x,d) hp
theorem zRg {x:Ix}{d:List UInt8}(hV:vv = .t (ixA ({ x with wr:=true,da:=d })))(hO:oo=[]):qLk.K (x,d) vv oo:=⟨_,rfl,hV,hO⟩
theorem qU2  (x:Ix)(d:List UInt8)(hp:d.length=8) :
  qB9.1.wp tab gl (qE 0 [.t (ixA x),.t (.sl (d.map qA))]) (qE 0 []) (zA [(4,(some (8,true)))] 0 (qLk.K (x,d))):=by
 simp(maxSteps:=9^9)(disch:=try exact dS)only[go_sem,qB9,ixA];first | exact (zRg rfl rfl) | exact⟨rfl,(zRg rfl rfl)⟩ | exact⟨rfl,rfl,(zRg rfl rfl)⟩ | exact⟨rfl,rfl,rfl,(zRg rfl rfl)⟩
def qIo:ECt where
 α:=Ix×Int
 β:=Ix×Int×Int
 aS:=fun (x,m)=>[.t (ixA x),.t (.int .i64 m)]
 pre:=fun (x,m)=>(0≤m∧m≤1000)∧x=ctI m
 r:=fun (y,k,e)=> .tup [.t (ixA y),.t (.int .i64 k),.t (.int .i64 e)]
 R:=fun (x,m) (y,k,e)=>y=ctI (m+1)∧k=m+1∧e=0
theorem jD4 {g:EF qIo}{x:Ix}{m:Int}(hp:(0≤m∧m≤1000)∧x=ctI m) : ∃ (y:Ix) (k e:Int),(y=ctI (m+1)∧k=m+1∧e=0)∧qIo.fs g [.t (ixA x),.t (.int .i64 m)] []=some (.tup [.t (ixA y),.t (.int .i64 k),.t (.int .i64 e)],[]):=by
 obtain⟨y,h1,h2⟩:=qIo.eq g (x,m) hp;exact⟨y.1,y.2.1,y.2.2,h1,h2⟩
theorem jKu {x:Ix}{m:Int}(y:Ix)(k e:Int)(hR:y=ctI (m+1)∧k=m+1∧e=0)(hV:vv = .tup [.t (ixA y),.t (.int .i64 k),.t (.int .i64 e)])(hO:oo=[]):qIo.K (x,m) vv oo:=⟨(y,k,e),hR,hV,hO⟩
theorem qQf (h1:LkC tab 82 qFa)(h2:LkC tab 109 qE9)(h3:LkC tab 63 yY){g4}(h4:LkE tab 269 qLk g4)(x:Ix)(m:Int)(hp:(0≤m∧m≤1000)∧x=ctI m) :
  wS.1.wp tab gl (qE 0 [.t (ixA x),.t (.int .i64 m)]) (qE 0 []) (zA [(4,(some (8,true))),(5,none),(6,none)] 0 (qIo.K (x,m))):=by
 obtain⟨hm,rfl⟩:=hp;have hK : ∀ vv,vv = .tup [.t (ixA (ctI (m+1))),.t (.int .i64 (m+1)),.t (.int .i64 0)]→qIo.K (ctI m,m) vv []:=fun vv h=>jKu (ctI (m+1)) (m+1) 0 ⟨rfl,rfl,rfl⟩ h rfl
 have hc:ctI (m+1) = { ctI m with wr:=true,da:=beI 8 (m+1) 8 }:=by
  unfold ctI cnI;rw[decide_eq_true (show m+1≠0 by omega)]
 have u:=zB8 (b:=[]) (n:=m+1) sM;simp only[List.map_nil,List.nil_append,List.length_nil] at u;have l8:(beI 8 (m+1) 8).length=8:=qR;have t8:List.take 8 (beI 8 (m+1) 8)=beI 8 (m+1) 8:=List.take_of_length_le oM;have e4:=jD7 (g:=g4) (x:=ctI m) (d:=beI 8 (m+1) 8) l8;rw[←hc] at e4;clear hc;have hx:ctI m=⟨1,2,48,8,[],[],decide (m≠0),beI 8 m 8⟩:=rfl;have lb:(beI 8 m 8).length=8:=qR;have e1:=qJr (b:=beI 8 m 8) oM;have o:qD2 ((beI 8 m 8),0,0):=⟨sM,by show (beI 8 m 8).length<1000000000;omega⟩;have e2:=vU (s:=(beI 8 m 8,0,0)) (k:=8) ⟨o,oM,oM⟩;have hr : ∃ p,qQ (beI 8 m 8,0,0) 8=(m,(beI 8 m 8,p,0)):=by
  have A:At (beI 8 m 8) 0 (beI 8 m 8++[]):=⟨[],rfl,sM⟩;obtain⟨p,h,_⟩ : ∃ p,qQ (beI 8 m 8,0,0) 8=(m,(beI 8 m 8,p,0))∧At (beI 8 m 8) p []:=⟨_,At.uint A (.inl ⟨rfl,oM⟩)⟩;exact⟨p,h⟩
 obtain⟨p,hr⟩:=hr;rw[hr,show ((8:Nat):Int)=8 from rfl] at e2;generalize ctI (m+1)=y at *;have cz:((0:Nat):Int)=0:=rfl;have w1 : ¬ (1099511627776≤m):=oM;have mx:(if m+1>m then m+1 else m)=m+1:=if_pos oM;simp only[rdO,cz] at e1 e2;rcases Decidable.em (m=0) with rfl | hm0
 ·have hx0:ctI 0=⟨1,2,48,8,[],[],false,beI 8 0 8⟩:=rfl;clear hx;simp only[hx0,ixA,List.map_nil] at e4;generalize beI 8 0 8=B at *;have c1:(0:Int)+1=1:=rfl;simp only[c1] at hK u t8 l8 e4 mx;simp(maxSteps:=9^9)(disch:=try exact dS)only[go_sem,wS,hx0,ixA,u,t8,l8,h3,h4,e4];repeat refine aiG ?_
  exact hK _ rfl
 ·simp only[decide_eq_true hm0] at hx;simp only[hx,ixA,List.map_nil] at e4;generalize beI 8 m 8=B at *;simp(maxSteps:=9^9)(disch:=try exact dS)only[go_sem,wS,hx,ixA,h1,e1,h2,e2,w1,u,t8,l8,h3,h4,e4,mx];repeat refine aiG ?_
  exact hK _ rfl
end Go.Eng
end
section
set_option maxRecDepth 20000
set_option maxHeartbeats 64000000
namespace Go.Eng
variable (tab:Tab) (gl:Gl)
variable {vv:V} {oo:List Ob}
open Go.MuLone
theorem jGi {F:Nat→Prop}{w:World}{x:UInt8}{v:Value}(h0:Rep F w (.sl [qA x]) v) : ∃ blk off cap,v = .slice (some ⟨blk,off,none⟩) 1 cap∧w.cell? ⟨blk,off,none⟩=some (.int .u8 x.toNat):=by
 generalize hes:[qA x]=es at h0;have hlen:es.length=1:=by rw[←hes];rfl
 cases h0 with
 | nil=>simp at hlen
 | sl _ ad cap sz news ha hc hn h1 hF hw hz h=>
  have hne:es≠[]:=by intro e;rw[e] at hlen;simp at hlen
  have hsp:=ha hne;have hsz:sz=1:=by
   have hm:qA x∈es:=by rw[←hes];exact .head _
   exact (hz _ hm).symm
  subst hsz;obtain⟨blk,off,sp⟩:=ad;simp only at hsp;subst hsp;refine⟨blk,off,cap,by rw[hlen],?_⟩;have hi2:0<news.length:=oM;have hu:news[0]?=some news[0]:=List.getElem?_eq_getElem hi2;have hr:Rep F w (qA x) news[0]:=h 0 (qA x) 0 (qA x) _ (by rw[←hes];rfl) rfl (by rw[Nat.mul_one,Nat.add_zero];exact hu);have hc:=hw 0 _ hu;have e:(⟨blk,off,none⟩:Addr).add 0=⟨blk,off,none⟩:=by unfold Addr.add;split<;>simp_all
  rw[e] at hc;rw[hc];generalize news[0]=u at *;cases hr;rfl
theorem zNr {P:Program}{w:World}{blk off cap:Nat}{x:UInt8}(h:w.cell? ⟨blk,off,none⟩=some (.int .u8 x.toNat)):(Extern.Bytes.bytesOf (.slice (some ⟨blk,off,none⟩) 1 cap)).run P w = .ok ⟨#[x]⟩ w:=by
 have:=Lib.run_loadBytesX (P:=P) (w:=w) [(x.toNat:Int)] ⟨blk,off,none⟩ .empty (fun j y hy=>by
  cases j with
  | zero=>
   simp only[List.getElem?_cons_zero,Option.some.injEq] at hy;have e:(⟨blk,off,none⟩:Addr).add 0=⟨blk,off,none⟩:=by unfold Addr.add;split<;>simp_all
   rw[e,h,hy]
  | succ j=>simp at hy)
 have hb:Lib.bytesOf [(x.toNat:Int)]=[x]:=by
  unfold Lib.bytesOf;simp
 rw[hb] at this;exact this
def zAm:Ct where
 α:=UInt8×UInt8
 aS x:=[.t (.sl ([x.1].map qA)),.t (.sl ([x.2].map qA))]
 ins _:=[]
 pre _:=True
 r x:= .t (.int .i64 (Lib.compareBytes [x.1] [x.2]))
 outs _:=[]
 inj:=by
  rintro⟨a,b⟩ ⟨c,d⟩ h _;simp only[List.cons.injEq,V.t.injEq,T.sl.injEq,and_true,jC] at h;obtain⟨rfl,rfl⟩:=h;exact⟨rfl,rfl⟩
theorem jCo {x y:UInt8}:zAm.fs [.t (.sl [qA x]),.t (.sl [qA y])] []=some (.t (.int .i64 (Lib.compareBytes [x] [y])),[]):=zAm.eq (x,y) trivial
theorem jFl {P:Program}{G:Nat→Option (List T)}{f:FuncId}{fn:Func}(hf:P.funcs[f]?=some fn)(hname:(fn.name == "runtime.NumGoroutine")=false)(hb:fn.body.isNone=true)(hn:Extern.findNext fn=none)
  (he:Extern.find fn=some Extern.BytealgCompare.compare):FOk P G f zAm.fs:=by
 intro aS ins r outs hs;have key : ∃ (x y:UInt8),aS=[.t (.sl [qA x]),.t (.sl [qA y])]∧ins=[]∧r = .t (.int .i64 (Lib.compareBytes [x] [y]))∧outs=[]:=by
  unfold Ct.fs at hs;split at hs
  ·rename_i hx;cases hs;have h1:=hx.choose_spec;generalize hx.choose=y at h1 ⊢;obtain⟨⟨rfl,rfl⟩,h3⟩:=h1;exact⟨y.1,y.2,rfl,rfl,rfl,rfl⟩
  ·cases hs
 obtain⟨x,y,rfl,rfl,rfl,rfl⟩:=key;intro w β F vals env fits hargs;have hβ : ∀ k,β k=none:=fun k=>fits.dom k (Nat.zero_le _)
 have hvals : ∃ (b1 o1 c1 b2 o2 c2:Nat),vals = #[.slice (some ⟨b1,o1,none⟩) 1 c1,.slice (some ⟨b2,o2,none⟩) 1 c2]∧w.cell? ⟨b1,o1,none⟩=some (.int .u8 x.toNat)∧w.cell? ⟨b2,o2,none⟩=some (.int .u8 y.toNat):=by
  obtain⟨l⟩:=vals;cases hargs with
  | cons h1 h2=>
   cases h2 with
   | cons h2 h3=>
    cases h3;cases h1 with
    | t h1=>
     cases h2 with
     | t h2=>
      obtain⟨b1,o1,c1,rfl,g1⟩:=jGi h1;obtain⟨b2,o2,c2,rfl,g2⟩:=jGi h2;exact⟨b1,o1,c1,b2,o2,c2,rfl,g1,g2⟩
 obtain⟨b1,o1,c1,b2,o2,c2,rfl,g1,g2⟩:=hvals;have hrun:(Extern.BytealgCompare.compare #[.slice (some ⟨b1,o1,none⟩) 1 c1,.slice (some ⟨b2,o2,none⟩) 1 c2]).run P w = .ok (.int .i64 (Lib.compareBytes [x] [y])) w:=by
  change Sem.run P (do pure (goInt (Extern.BytealgCompare.cmp (←Extern.Bytes.bytesOf (.slice (some ⟨b1,o1,none⟩) 1 c1)) (←Extern.Bytes.bytesOf (.slice (some ⟨b2,o2,none⟩) 1 c2))))) w=_;simp only[Sem.run_bind,Sem.run_pure,zNr g1,zNr g2,Result.andThen];rw[Lib.cmp_eq];rfl
 refine .inr ⟨.int .i64 (Lib.compareBytes [x] [y]),w,?_,.int .i64 (Lib.compareBytes [x] [y]),β,F,rfl,?_⟩
 ·rw[run_callFunc_extern hf hname hb hn he,hrun];rfl
 ·exact⟨⟨fun k o hk=>(by simp at hk),fun k _=>hβ k,fun i j bi bj b h1=>(by rw[hβ] at h1;cases h1),fun k bi b h1=>(by rw[hβ] at h1;cases h1)⟩,.t (.int _ _),fun _ _=>rfl,fun k bi b _ h1=>(by rw[hβ] at h1;cases h1),fun _ _=>Iff.rfl,env.Fw,rfl,rfl,rfl,Nat.le_refl _,fun _ _ _=>rfl⟩
def qK9:ECt where
 α:=List UInt8×List UInt8
 β:=Int
 aS:=fun (a,b)=>[.t (.sl (a.map qA)),.t (.sl (b.map qA))]
 pre:=fun (a,b)=>a.length=1∧b.length=1
 r:=fun r'=> .t (.int .i64 r')
 R:=fun (a,b) r'=>r'=Lib.compareBytes a b
theorem jCl {g:EF qK9}{a b:List UInt8}(hp:a.length=1∧b.length=1):qK9.fs g [.t (.sl (a.map qA)),.t (.sl (b.map qA))] []=some (.t (.int .i64 (Lib.compareBytes a b)),[]):=fnQ qK9 (a,b) hp
theorem zP1 {a b:List UInt8}(hV:vv = .t (.int .i64 (Lib.compareBytes a b)))(hO:oo=[]):qK9.K (a,b) vv oo:=⟨_,rfl,hV,hO⟩
theorem qUu (h1:LkC tab 322 zAm)(a b:List UInt8)(hp:a.length=1∧b.length=1) :
  qB2.1.wp tab gl (qE 0 [.t (.sl (a.map qA)),.t (.sl (b.map qA))]) (qE 0 []) (zA [(4,none)] 0 (qK9.K (a,b))):=by
 obtain⟨ha,hb⟩:=hp
 match a,b,ha,hb with
 | [x],[y],_,_=>
  have e := @jCo x y;simp(maxSteps:=9^9)(disch:=try exact dS)only[go_sem,qB2,h1,mcn,e];first | exact (zP1 rfl rfl) | exact⟨rfl,(zP1 rfl rfl)⟩ | exact⟨rfl,rfl,(zP1 rfl rfl)⟩ | exact⟨rfl,rfl,rfl,(zP1 rfl rfl)⟩
def z7 (x:UInt8):List UInt8:=[0,0,0,0,0,0,0,x]
def qLa:ECt where
 α:=List UInt8×UInt8
 β:=List UInt8
 aS:=fun (a,c)=>[.t (.sl (a.map qA)),.t (qA c)]
 pre:=fun (a,c)=>c=0 ∧ ∃ x,x≠0∧a=z7 x
 r:=fun r'=> .t (.sl (r'.map qA))
 R:=fun (a,c) r'=>r'=a.drop 7
theorem jCm {g:EF qLa}{a:List UInt8}{c:UInt8}(hp:c=0 ∧ ∃ x,x≠0∧a=z7 x):qLa.fs g [.t (.sl (a.map qA)),.t (qA c)] []=some (.t (.sl ((a.drop 7).map qA)),[]):=fnQ qLa (a,c) hp
theorem zP2 {a:List UInt8}{c:UInt8}(hV:vv = .t (.sl ((a.drop 7).map qA)))(hO:oo=[]):qLa.K (a,c) vv oo:=⟨_,rfl,hV,hO⟩
theorem qKi  (a:List UInt8)(c:UInt8)(hp:c=0 ∧ ∃ x,x≠0∧a=z7 x) :
  kA.1.wp tab gl (qE 0 [.t (.sl (a.map qA)),.t (qA c)]) (qE 0 []) (zA [(4,none)] 0 (qLa.K (a,c))):=by
 obtain⟨rfl,x,hx,rfl⟩:=hp;simp(maxSteps:=9^9)(disch:=try exact dS)only[go_sem,kA];refine vK (σ:=Nat) (fun k=>k≤7) (fun k=>7-k) (fun k=>[(0,.t (.sl (((z7 x).drop k).map qA))),(1,.t (qA 0))]) (fun _=>[]) 0 oM (qK.rd id ?_ ?_ rfl) ?_
 ·simp(maxSteps:=9^9)(disch:=try exact dS)only[go_sem,id]
 ·simp(maxSteps:=9^9)(disch:=try exact dS)only[go_sem,id]
 intro k hk;have bx:(x==0)=false:=by simpa using hx
 rcases (by omega:k=7∨k<7) with rfl | h7
 ·have e:(z7 x).drop 7=[x]:=rfl;simp(maxSteps:=9^9)(disch:=try exact dS)only[go_sem,e,mcn,hx];first | exact (zP2 rfl rfl) | exact⟨rfl,(zP2 rfl rfl)⟩ | exact⟨rfl,rfl,(zP2 rfl rfl)⟩ | exact⟨rfl,rfl,rfl,(zP2 rfl rfl)⟩
 ·obtain⟨t,ht⟩ : ∃ t,(z7 x).drop k=0::t:=by
   rcases (by omega:k=0∨k=1∨k=2∨k=3∨k=4∨k=5∨k=6) with rfl | rfl | rfl | rfl | rfl | rfl | rfl<;>exact⟨_,rfl⟩
  have hd:(z7 x).drop (k+1)=t:=by rw[←List.drop_drop,ht];rfl
  simp(maxSteps:=9^9)(disch:=try exact dS)only[go_sem,ht,List.map_cons];refine qTy.of (k+1) oM oM (qK.rd id ?_ ?_ rfl);all_goals simp(maxSteps:=9^9)(disch:=try exact dS)only[go_sem,id,hd]
def zF1:Ct where
 α:=List UInt8
 aS a:=[.t (.sl (a.map qA)),.t (qKg [0])]
 ins _:=[]
 pre a := ∃ x,x≠0∧a=z7 x
 r a:= .t (.sl ((a.drop 7).map qA))
 outs _:=[]
 inj:=by
  rintro a b h _;simp only[List.cons.injEq,V.t.injEq,T.sl.injEq,and_true,jC] at h;obtain rfl:=h;exact⟨rfl,rfl⟩
theorem zVc {x:UInt8}(h:x≠0):zF1.fs [.t (.sl ((z7 x).map qA)),.t (qKg [0])] []=some (.t (.sl [qA x]),[]):=zF1.eq (z7 x) ⟨x,h,rfl⟩
theorem qR3 {g1}(h1:LkE tab 318 qLa g1)(a:List UInt8)(h : ∃ x,x≠0∧a=z7 x):qA0.1.wp tab gl (qE 0 [.t (.sl (a.map qA)),.t (qKg [0])]) (qE 0 []) (zA [(4,none)] 0 (fun r o=>r = .t (.sl ((a.drop 7).map qA))∧o=[])):=by
 obtain⟨x,hx,rfl⟩:=h;have e:=jCm (g:=g1) (a:=z7 x) (c:=0) ⟨rfl,x,hx,rfl⟩;have l:(z7 x).length=8:=rfl;generalize z7 x=a at *;have s0:qDx [.t (qKg [0]),.t (.int .i64 0)] = .ret (.t (qA 0),[]):=qUn (i:=0) (by decide);simp(maxSteps:=9^9)(disch:=try exact dS)only[go_sem,qA0,l,h1,e,↓s0]
def qI0:ECt where
 α:=Int×List UInt8×List UInt8
 β:=Bool
 aS:=fun (op,a,b)=>[.t (.int .i64 op),.t (.sl (a.map qA)),.t (.sl (b.map qA))]
 pre:=fun (op,a,b)=>op=2∧(∃ x,x≠0∧a=z7 x) ∧ ∃ y,y≠0∧b=z7 y
 r:=fun r'=> .t (.bool r')
 R:=fun (op,a,b) r'=>r'=decide (a.getD 7 0<b.getD 7 0)
theorem jFu {g:EF qI0}{op:Int}{a b:List UInt8}(hp:op=2∧(∃ x,x≠0∧a=z7 x) ∧ ∃ y,y≠0∧b=z7 y):qI0.fs g [.t (.int .i64 op),.t (.sl (a.map qA)),.t (.sl (b.map qA))] []=some (.t (.bool (decide (a.getD 7 0<b.getD 7 0))),[]):=fnQ qI0 (op,a,b) hp
theorem jLh {op:Int}{a b:List UInt8}(hV:vv = .t (.bool (decide (a.getD 7 0<b.getD 7 0))))(hO:oo=[]):qI0.K (op,a,b) vv oo:=⟨_,rfl,hV,hO⟩
theorem qR0 (h1:LkC tab 313 zF1){g2}(h2:LkE tab 314 qK9 g2)(op:Int)(a b:List UInt8)(hp:op=2∧(∃ x,x≠0∧a=z7 x) ∧ ∃ y,y≠0∧b=z7 y) :
  qA7.1.wp tab gl (qE 0 [.t (.int .i64 op),.t (.sl (a.map qA)),.t (.sl (b.map qA))]) (qE 0 []) (zA [(6,none)] 0 (qI0.K (op,a,b))):=by
 obtain⟨rfl,⟨x,hx,rfl⟩,y,hy,rfl⟩:=hp;have e1:=zVc hx;have e2:=zVc hy;have e3:=jCl (g:=g2) (a:=[x]) (b:=[y]) ⟨rfl,rfl⟩;have hd:((z7 x).getD 7 0<(z7 y).getD 7 0)=(x<y):=rfl;have hK : ∀ vv,vv = .t (.bool (decide (x<y)))→qI0.K (2,z7 x,z7 y) vv []:=fun vv h=>jLh h rfl
 clear hd;generalize z7 x=A at *;generalize z7 y=B at *;have hc:(Lib.compareBytes [x] [y]<0)↔x<y:=by
  unfold Lib.compareBytes Lib.compareBytes;constructor
  ·intro h;split at h
   ·assumption
   ·split at h<;>omega
  ·intro h;rw[if_pos h];decide
 generalize Lib.compareBytes [x] [y]=c at *;simp only[mcn] at e3;simp(maxSteps:=9^9)(disch:=try exact dS)only[go_sem,qA7,h1,e1,e2,h2,e3,hc];exact hK _ rfl
end Go.Eng
end
section
set_option maxRecDepth 20000
namespace Go.Eng
open Go.MuLone
variable {cx:Cx} {β:Nat→Option BI} {F:Nat→Prop} {a:Act} {w:World} {fm:Nat→Option V} {hm:Nat→Option Ob}
def jIq (t nb z:Nat)(Q:qFp):qFp:=fun e fs hs=>Q e fs hs∨(jE fs t=some .nil∧jE hs nb=none∧Q e ((t,.sl nb 0 0)::fs) ((nb,.live z [] true false)::hs))
theorem zJf {P:Program}{G:Gl}{tab:Tab}{f:FuncId}{fn:Func}{c:Code}{ac:AC}{hints:List (Nat×List Nat)}{rs:List (Nat×Option (Nat×Bool))}(fz:List Nat)(t0 nb z0:Nat)(hf:P.funcs[f]?=some fn)(hb:fn.body=some c)(hann:ann P fn.ntmps hints c=some ac)(hmx:P.follows .mixedOrders=true)
  (ht:qAu P G tab) (hrs:qKc P fn.results.toList=some rs) {aS:List V} {ins:List Ob} {r:V} {outs:List Ob} (hn:aS.length≤fn.ntmps) (hi:ins.length≤100)
  (h:ac.wp tab G (qE 0 aS) (qE 0 ins) (jIq t0 nb z0 (kN fz rs ins.length (fun r' outs'=>r'=r∧outs'=outs)))):zFp P G f aS ins r outs:=by
 intro w β F vals env fits hargs;have hd0 : ∀ k bi,β k=some bi→k<100:=by
  intro k bi h;rcases Nat.lt_or_ge k ins.length with h1 | h1
  ·omega
  ·rw[fits.dom k h1] at h;cases h
 let cx:Cx := { P,w0:=w,F0:=F,inb:=fun b => ∃ k bi,β k=some bi∧bi.blk=some b,nt:=fn.ntmps,gl:=G,β0:=β,d0:=hd0 }
 have hlen:aS.length=vals.size:=by simpa using hargs.length
 have lookAs : ∀ t v,jE (qE 0 aS) t=some v→aS[t]?=some v:=by
  intro t v h;simpa [kT] using h
 have lookIns : ∀ t v,jE (qE 0 ins) t=some v→ins[t]?=some v:=by
  intro t v h;simpa [kT] using h
 have R0:Rel cx β F (jE (qE 0 aS)) (jE (qE 0 ins)) { tmps:=vals++Array.replicate (fn.ntmps-vals.size) undef,defers:=[] } w:=by
  refine⟨by simp[cx];omega,rfl,fun t v hv=>?_,fun id o ho=>?_,fun id hn=>?_,fun i j bi bj b oi oj h1 h2 h3 h4 _ _ _ _=>fits.inj i j bi bj b h1 h2 h3 h4,rfl,rfl,rfl,Nat.le_refl _,fun _ _ _=>rfl,fun id z es full bi b h1 h2 h3=> .inr ⟨?_,id,bi,h2,h3⟩,fun b hb=>?_,fun b hb=>?_,env.Fw,fun _ _=>Iff.rfl,fun id bi b h1 h2=>(fits.blt id bi b h1 h2).1,fun g cs hg=>?_,fun _ _ h=>h,env.gs⟩
  ·obtain⟨x,h1,h2⟩:=hargs.get' t v (lookAs t v hv);refine⟨x,?_,h2⟩;have hlt:t<vals.size:=by
    have:=(List.getElem?_eq_some_iff.1 (lookAs t v hv)).1;omega
   rw[Array.getElem?_append_left hlt];simpa using h1
  ·obtain⟨bi,h1,h2,_⟩:=fits.ok id o (lookIns id o ho);exact⟨bi,h1,h2⟩
  ·refine fits.dom id ?_;rcases Nat.lt_or_ge id ins.length with h1 | h1
   ·rw[kT] at hn;simp[h1] at hn
   ·exact h1
  ·have:=(List.getElem?_eq_some_iff.1 (lookIns id _ h1)).1;omega
  ·obtain⟨k,bi,h1,h2⟩:=hb;exact (fits.blt k bi b h1 h2).2
  ·obtain⟨k,bi,h1,h2⟩:=hb;exact (fits.blt k bi b h1 h2).1
  ·exact (env.gl g cs hg).mono (fun _ _ h=>by cases h) (fun _ h=>h) (fun _ _=>rfl)
 refine calls_of_wp hf hb (AC.sound (cx:=cx) ht hmx hann h R0 (fun e fs hs βR FR0 a w' hq R0'=>?_));have key : ∃ (fs2:Fs) (hs2:Hs) (βR2:Nat→Option BI),kN fz rs ins.length (fun r' outs'=>r'=r∧outs'=outs) e fs2 hs2∧Rel cx βR2 FR0 (jE fs2) (jE hs2) a w':=by
  rcases hq with hq | ⟨h1,h2,hq⟩
  ·exact⟨fs,hs,βR,hq,R0'⟩
  ·obtain⟨R1,_⟩:=R0'.virt h2 (full:=false) z0;rw[←qFx] at R1;refine⟨_,_,_,hq,{ R1 with fr:=fun t v hv=>?_ }⟩;unfold jE at hv;split at hv
   ·rename_i ht;subst ht;cases hv;obtain⟨x,hx,hr⟩:=R1.fr _ _ h1;cases hr;exact⟨_,hx,.slv nb z0 0 zB⟩
   ·exact R1.fr t v hv
 clear hq R0';obtain⟨fs,hs,βR,hq,R0'⟩:=key;have fin:((qW5 fz).wp hs (fun fw _=>((rsQ fs rs).bind fun vs=>zWk ins.length vs).wp (qXg hs fw) (fun p _=>p.1=r∧p.2=outs)))→a.defers=[] ∧ ∃ v,(results fn a.tmps).run P w' = .ok v w' ∧ ∃ x β' F',Ending.returned v = .returned x∧qNl w β F ins r outs x β' F' w':=by
  rintro⟨fw,lf,hfz,hq⟩;obtain⟨FR,R,_⟩:=Rel.freezeAll hfz R0' (fun id _=> .inl rfl);rw[←qFx] at R;rw[Q.wp_bind] at hq;obtain⟨vs,l0,hvs,⟨r',outs'⟩,l,hrun,e1,e2⟩:=hq;obtain⟨xs,hxs,hall⟩:=qOe (cx:=cx) R hrs hvs;refine⟨R.dfr,_,qM4 hxs,?_⟩;simp only at e1 e2;subst e1 e2;unfold zWk at hrun;obtain⟨us,l1,l2,hp,hrun,_⟩:=qV hrun;obtain⟨q,l3,l4,hqq,hrun,_⟩:=qV hrun;obtain⟨hsub,hrun⟩:=qL hrun;obtain⟨e,_⟩:=qD hrun;simp only[Prod.mk.injEq] at e;obtain⟨rfl,rfl⟩:=e;obtain⟨ids,obs⟩:=q;simp only at hsub ⊢;obtain⟨t,htt⟩:=qMv (s:=0) (m:=ins.length) (n:=40+ins.length) (rest:=qMx us) (by simpa [List.range_eq_range'] using hqq);obtain⟨hnd,hlo,hG,hin,_,_⟩:=qN1 hqq sM rfl (by intro k id o h;simp at h) sM;have hidk : ∀ k,k<ins.length→ids[k]?=some k:=by
   intro k hk;rw[htt,List.getElem?_append_left (by simpa using hk)];simp[hk]
  have hlive : ∀ (k id:Nat),ids[k]?=some id → ∃ z es full,jE (qXg hs fw) id=some (.live z es true full):=by
   intro k id hk;have hkl:k<obs.length:=by rw[←hlo];exact (List.getElem?_eq_some_iff.1 hk).1
   obtain⟨z,es,es',full,_,g1,_⟩:=hG k id obs[k] hk (by simp[hkl]);exact⟨z,es,full,g1⟩
  have hβk : ∀ k bi,β k=some bi→βR k=some bi:=R.ext0;have hklt : ∀ k bi,β k=some bi→k<ins.length:=by
   intro k bi h;rcases Nat.lt_or_ge k ins.length with h1 | h1
   ·exact h1
   ·rw[fits.dom k h1] at h;cases h
  have hus:xT (qS βR FR w') us xs:=by
   obtain⟨g1,g2⟩:=qJq hp;refine qS1 (by rw[g1];exact hall.length.symm) (fun i c u hc hu=>?_);have hi:i<vs.length:=by rw[←g1];exact (List.getElem?_eq_some_iff.1 hc).1
   obtain⟨li,m1⟩:=g2 i vs[i] c (by simp[hi]) hc;obtain⟨y,h1,h2⟩:=hall.get' i vs[i] (by simp[hi]);rw[hu] at h1;cases h1;exact qEf R m1 h2
  have hren:xT (qS (qF0 ids βR) FR w') (qFr (fun r=>ids.idxOf r) us) xs:=by
   refine qS1 (by rw[zG];simpa using hus.length.symm) (fun i c u hc hu=>?_);rw[zG,List.getElem?_map,Option.map_eq_some_iff] at hc;obtain⟨c0,hc0,rfl⟩:=hc;obtain⟨y,h1,h2⟩:=hus.get' i c0 hc0;rw[hu] at h1;cases h1;refine qTv h2 (fun r hr=>?_);have:=List.all_eq_true.1 hsub r (wV (List.mem_of_getElem? hc0) hr);simpa using this
  have hfits:zPp (qF0 ids βR) FR w' (obs.map (Ob.ren fun r=>ids.idxOf r)):=by
   refine⟨fun k o ho=>?_,fun k hk=>?_,fun i j bi bj b h1 h2 h3 h4=>?_,fun k bi b h1 h2=>?_⟩
   ·rw[List.getElem?_map,Option.map_eq_some_iff] at ho;obtain⟨o',ho',rfl⟩:=ho;have hkl:k<ids.length:=by rw[hlo];exact (List.getElem?_eq_some_iff.1 ho').1
    obtain⟨z,es,es',full,lr,g1,g2,g3⟩:=hG k ids[k] o' (by simp[hkl]) ho';obtain⟨bi,hb,hok⟩:=R.hp _ _ g1;refine⟨bi,by simp[qF0,hkl,hb],?_,?_⟩
    ·rw[g2];have l1:=qM2 g3;have l2:(qFr (fun r=>ids.idxOf r) es').length=es'.length:=by rw[zG];simp
     have hii : ∀ r∈qMx es',r∈ids:=fun r hr=>hin o' (List.mem_of_getElem? ho') z es' true full g2 r (zGq r hr)
     unfold qFo at hok ⊢;obtain⟨k1,k2,k3⟩:=hok;refine⟨k1,fun h=>by rw[l2,l1];exact k2 h,?_⟩;cases hb:bi.blk with
     | none=>
      simp only[hb] at k3 ⊢;refine⟨?_,k3.2⟩;rw[k3.1] at l1;exact List.eq_nil_of_length_eq_zero (by rw[l2,l1];rfl)
     | some b=>
      simp only[hb] at k3 ⊢;obtain⟨c,e,fz,m1,m2,m3,m4,m5,m6,m7⟩:=k3;exact⟨c,e,fz,m1,m2,m3,by rw[l2,l1];exact m4,m5,zA5 (qP4 R g3 m6).2 hii,m7⟩
    ·rw[g2];exact⟨z,_,full,rfl⟩
   ·rw[List.length_map,←hlo] at hk;simp[qF0,List.getElem?_eq_none hk]
   ·unfold qF0 at h1 h2;rw[Option.bind_eq_some_iff] at h1 h2;obtain⟨x,hx,h1⟩:=h1;obtain⟨y,hy,h2⟩:=h2;obtain⟨z1,e1,f1,m1⟩:=hlive i x hx;obtain⟨z2,e2,f2,m2⟩:=hlive j y hy;have:=R.inj x y bi bj b _ _ h1 h2 h3 h4 m1 m2 sM sM;subst this;have hi:i<ids.length:=(List.getElem?_eq_some_iff.1 hx).1;have hj:j<ids.length:=(List.getElem?_eq_some_iff.1 hy).1;exact qAp hnd hi hj (by rw[List.getElem?_eq_getElem hi] at hx;rw[List.getElem?_eq_getElem hj] at hy;rw[Option.some.inj hx,Option.some.inj hy])
   ·unfold qF0 at h1;rw[Option.bind_eq_some_iff] at h1;obtain⟨x,hx,h1⟩:=h1;obtain⟨z1,e1,f1,m1⟩:=hlive k x hx;exact⟨R.blt x bi b h1 h2,R.notF m1 h1 h2⟩
  refine⟨_,qF0 ids βR,FR,rfl,hfits,qUd hren,fun k hk=>?_,fun k bi b hk h1 h2=>?_,fun b hb=>R.F0 b hb,R.Fw,R.os,R.tape,R.output,R.size,fun b hb hk=>R.ext b hb (fun ⟨k,bi,h1,h2⟩=>hk k bi h1 h2)⟩
  ·obtain⟨bi,h1,_⟩:=fits.ok k ins[k] (by simp[hk]);simp[qF0,hidk k hk,hβk k bi h1,h1]
  ·unfold qF0 at h1;rw[Option.bind_eq_some_iff] at h1;obtain⟨id,hid,h1⟩:=h1;obtain⟨z,es,full,hl⟩:=hlive k id hid;rcases R.old id z es full bi b hl h1 h2 with h | ⟨_,k0,bi0,g1,g2⟩
   ·exact h
   ·exfalso;have hk0:=hklt k0 bi0 g1;obtain⟨z0,es0,full0,hl0⟩:=hlive k0 k0 (hidk k0 hk0);have e:=R.inj id k0 bi bi0 b _ _ h1 (hβk k0 bi0 g1) h2 g2 hl hl0 sM sM;subst e;have hi1:k<ids.length:=(List.getElem?_eq_some_iff.1 hid).1;have hi2:id<ids.length:=(List.getElem?_eq_some_iff.1 (hidk id hk0)).1;have:=qAp hnd hi1 hi2 (by
     have a1:=hid;have a2:=hidk id hk0;rw[List.getElem?_eq_getElem hi1] at a1;rw[List.getElem?_eq_getElem hi2] at a2;rw[Option.some.inj a1,Option.some.inj a2])
    omega
 cases e with
 | normal=>exact fin hq
 | ret=>exact fin hq
 | exit id=>exact hq.elim
theorem jT4 {P:Program}{G:Gl}{tab:Tab}{f:FuncId}{fn:Func}{c:Code}{ac:AC}{hints:List (Nat×List Nat)}{rs:List (Nat×Option (Nat×Bool))}(t0 nb z0:Nat)(hf:P.funcs[f]?=some fn)(hname:(fn.name == "runtime.NumGoroutine")=false)(hb:fn.body=some c)(hann:ann P fn.ntmps hints c=some ac)(hmx:P.follows .mixedOrders=true)
  (ht:qAu P G tab) (hrs:qKc P fn.results.toList=some rs) (ct:Ct) (hn : ∀ x,(ct.aS x).length≤fn.ntmps) (hi : ∀ x,(ct.ins x).length≤100)
  (h : ∀ x,ct.pre x→ac.wp tab G (qE 0 (ct.aS x)) (qE 0 (ct.ins x)) (jIq t0 nb z0 (kN [] rs (ct.ins x).length (fun r' o'=>r'=ct.r x∧o'=ct.outs x)))):FOk P G f ct.fs:=
 ct.ok (fun args w=>run_callFunc_enter hf hname hb args w) (fun x hx=>zJf [] t0 nb z0 hf hb hann hmx ht hrs (hn x) (hi x) (h x hx))
end Go.Eng
end
section
set_option maxHeartbeats 64000000
set_option maxRecDepth 20000
namespace Go.Eng
variable (tab:Tab) (gl:Gl)
variable {vv:V} {oo:List Ob}
def orS (f g:FnS):FnS:=fun a i=>match f a i with
 | some y=>some y
 | none=>g a i
theorem jFp {P:Program}{G:Nat→Option (List T)}{n:FuncId}{f g:FnS}(h1:FOk P G n f)(h2:FOk P G n g):FOk P G n (orS f g):=by
 intro a i r o hs;unfold orS at hs;cases h:f a i with
 | some y=>rw[h] at hs;cases hs;exact h1 a i r o h
 | none=>rw[h] at hs;exact h2 a i r o hs
theorem qAu.hd {P:Program}{G:Nat→Option (List T)}{n:FuncId}{f:FnS}{t:Tab}(h:qAu P G ((n,f)::t)):FOk P G n f:=h n f (if_pos rfl)
structure FsB where
 fs:FnS
def qMm:ECt where
 α:=List Int×Int
 β:=Int
 aS:=fun (l,v)=>[.t (.sl (l.map iT)),.t (.int .i64 v)]
 pre:=fun (l,v)=>l=[]
 r:=fun r'=> .t (.int .i64 r')
 R:=fun (l,v) r'=>r' = -1
theorem jI0 {g:EF qMm}{l:List Int}{v:Int}(hp:l=[]):qMm.fs g [.t (.sl (l.map iT)),.t (.int .i64 v)] []=some (.t (.int .i64 (-1)),[]):=fnQ qMm (l,v) hp
theorem zUu {l:List Int}{v:Int}(hV:vv = .t (.int .i64 (-1)))(hO:oo=[]):qMm.K (l,v) vv oo:=⟨_,rfl,hV,hO⟩
theorem qFn  (l:List Int)(v:Int)(hp:l=[]) :
  vB.1.wp tab gl (qE 0 [.t (.sl (l.map iT)),.t (.int .i64 v)]) (qE 0 []) (zA [(4,none)] 0 (qMm.K (l,v))):=by
 subst hp;simp(maxSteps:=9^9)(disch:=try exact dS)only[go_sem,vB,List.map_nil];refine vK (σ:=Unit) (fun _=>True) (fun _=>0) (fun _=>[(0,.t (.sl [])),(1,.t (.int .i64 v)),(7,.t (.int .i64 0)),(8,.t (.int .i64 0))]) (fun _=>[]) () trivial (qK.rd id ?_ ?_ rfl) ?_
 ·simp(maxSteps:=9^9)(disch:=try exact dS)only[go_sem,id]
 ·simp(maxSteps:=9^9)(disch:=try exact dS)only[go_sem,id]
 rintro⟨⟩ -;simp(maxSteps:=9^9)(disch:=try exact dS)only[go_sem];first | exact (zUu rfl rfl) | exact⟨rfl,(zUu rfl rfl)⟩ | exact⟨rfl,rfl,(zUu rfl rfl)⟩ | exact⟨rfl,rfl,rfl,(zUu rfl rfl)⟩
def qJd:ECt where
 α:=List Int×Int
 β:=Bool
 aS:=fun (l,v)=>[.t (.sl (l.map iT)),.t (.int .i64 v)]
 pre:=fun (l,v)=>l=[]
 r:=fun r'=> .t (.bool r')
 R:=fun (l,v) r'=>r'=false
theorem zWy {g:EF qJd}{l:List Int}{v:Int}(hp:l=[]):qJd.fs g [.t (.sl (l.map iT)),.t (.int .i64 v)] []=some (.t (.bool (false)),[]):=fnQ qJd (l,v) hp
theorem zUt {l:List Int}{v:Int}(hV:vv = .t (.bool (false)))(hO:oo=[]):qJd.K (l,v) vv oo:=⟨_,rfl,hV,hO⟩
theorem qC2 {g1}(h1:LkE tab 267 qMm g1)(l:List Int)(v:Int)(hp:l=[]) :
  yJ.1.wp tab gl (qE 0 [.t (.sl (l.map iT)),.t (.int .i64 v)]) (qE 0 []) (zA [(4,none)] 0 (qJd.K (l,v))):=by
 subst hp;have e:=jI0 (g:=g1) (l:=[]) (v:=v) rfl;rw[List.map_nil] at e;simp(maxSteps:=9^9)(disch:=try exact dS)only[go_sem,yJ,List.map_nil,h1,e];first | exact (zUt rfl rfl) | exact⟨rfl,(zUt rfl rfl)⟩ | exact⟨rfl,rfl,(zUt rfl rfl)⟩ | exact⟨rfl,rfl,rfl,(zUt rfl rfl)⟩
def iOb (x:Ix):Ob:= .live 8 [.t (ixA x)] true true
theorem zL6 {x y:Ix}(h:iOb x=iOb y):x=y:=by
 simp only[iOb,Ob.live.injEq,List.cons.injEq,V.t.injEq,zMa,true_and,and_true] at h;exact h
def zF7 (n:Nat):Ct where
 α:=Ix
 aS _:=[.t (.sl []),.fn n [.ref 0 0 0]]
 ins x:=[iOb x]
 pre _:=True
 r _:= .t (.int .i64 (-1))
 outs x:=[iOb x]
 inj:=by
  rintro a b _ h;simp only[List.cons.injEq,and_true] at h;obtain rfl:=zL6 h;exact⟨rfl,rfl⟩
theorem jEl {n:Nat}{x:Ix}:(zF7 n).fs [.t (.sl []),.fn n [.ref 0 0 0]] [.live 8 [.t (ixA x)] true true]=some (.t (.int .i64 (-1)),[.live 8 [.t (ixA x)] true true]):=(zF7 n).eq x trivial
theorem qKm (n:Nat)(x:Ix):zR.1.wp tab gl (qE 0 [.t (.sl []),.fn n [.ref 0 0 0]]) (qE 0 [iOb x]) (zA [(4,none)] 1 (fun r o=>r = .t (.int .i64 (-1))∧o=[iOb x])):=by
 simp(maxSteps:=9^9)(disch:=try exact dS)only[go_sem,zR,iOb];refine vK (σ:=Unit) (fun _=>True) (fun _=>0) (fun _=>[(0,.t (.sl [])),(1,.fn n [.ref 0 0 0]),(7,.t (.int .i64 0)),(8,.t (.int .i64 0))]) (fun _=>[(0,.live 8 [.t (ixA x)] true true)]) () trivial (qK.rd id ?_ ?_ rfl) ?_
 ·simp(maxSteps:=9^9)(disch:=try exact dS)only[go_sem,id]
 ·simp(maxSteps:=9^9)(disch:=try exact dS)only[go_sem,id]
 rintro⟨⟩ -;simp(maxSteps:=9^9)(disch:=try exact dS)only[go_sem]
def zF3 (n:Nat):Ct where
 α:=Ix
 aS _:=[.t (.sl []),.fn n [.ref 0 0 0]]
 ins x:=[iOb x]
 pre _:=True
 r _:= .t (.bool false)
 outs x:=[iOb x]
 inj:=by
  rintro a b _ h;simp only[List.cons.injEq,and_true] at h;obtain rfl:=zL6 h;exact⟨rfl,rfl⟩
theorem jC4 {n:Nat}{x:Ix}:(zF3 n).fs [.t (.sl []),.fn n [.ref 0 0 0]] [.live 8 [.t (ixA x)] true true]=some (.t (.bool false),[.live 8 [.t (ixA x)] true true]):=(zF3 n).eq x trivial
theorem qHh (n:Nat)(h1:tab.look 262=some (zF7 n).fs)(x:Ix):zM.1.wp tab gl (qE 0 [.t (.sl []),.fn n [.ref 0 0 0]]) (qE 0 [iOb x]) (zA [(4,none)] 1 (fun r o=>r = .t (.bool false)∧o=[iOb x])):=by
 have e := @jEl n x;simp only[ixA] at e;simp(maxSteps:=9^9)(disch:=try exact dS)only[go_sem,zM,iOb,ixA,h1,e]
def qNq:Ct where
 α:=Unit
 aS _:=[.t (.sl [])]
 ins _:=[]
 pre _:=True
 r _:= .sl 0 0 0
 outs _:=[.live 8 [] true false]
 inj:=fun _ _ _ _=>⟨rfl,rfl⟩
def qTg:Ct where
 α:=Ix
 aS x:=[.t (.sl [ixA x])]
 ins _:=[]
 pre _:=True
 r _:= .sl 0 0 1
 outs x:=[.live 8 [.t (ixA x)] true false]
 inj:=by
  intro a b h _;simp only[List.cons.injEq,V.t.injEq,T.sl.injEq,and_true,zMa] at h;subst h;exact⟨rfl,rfl⟩
noncomputable def zF4:FsB:=⟨orS qNq.fs qTg.fs⟩
theorem jC5:zF4.fs [.t (.sl [])] []=some (.sl 0 0 0,[.live 8 [] true false]):=by
 have e:=qNq.eq () trivial;show orS qNq.fs qTg.fs _ _=_;unfold orS;rw[show qNq.fs [.t (.sl [])] []=some (.sl 0 0 0,[.live 8 [] true false]) from e]
theorem jC6 {x:Ix}:zF4.fs [.t (.sl [ixA x])] []=some (.sl 0 0 1,[.live 8 [.t (ixA x)] true false]):=by
 have e:qTg.fs [.t (.sl [ixA x])] []=some (.sl 0 0 1,[.live 8 [.t (ixA x)] true false]):=qTg.eq x trivial;have e0:qNq.fs [.t (.sl [ixA x])] []=none:=by
  unfold Ct.fs;rw[dif_neg];rintro⟨_,h,_⟩;have:=h.1;simp[qNq] at this
 show orS qNq.fs qTg.fs _ _=_;unfold orS;rw[e0];exact e
theorem qQu:qT.1.wp tab gl (qE 0 [.t (.sl [])]) (qE 0 []) (jIq 2 200 8 (kN [] [(2,none)] 0 (fun r o=>r = .sl 0 0 0∧o=[.live 8 [] true false]))):=by
 simp(maxSteps:=9^9)(disch:=try exact dS)only[go_sem,qT,List.map_nil,jIq]
theorem qQv (x:Ix):qT.1.wp tab gl (qE 0 [.t (.sl [ixA x])]) (qE 0 []) (kN [] [(2,none)] 0 (fun r o=>r = .sl 0 0 1∧o=[.live 8 [.t (ixA x)] true false])):=by
 have hz:=jRs (l:=[x]);simp only[mcn] at hz;simp(maxSteps:=9^9)(disch:=try exact dS)only[go_sem,qT,List.map_cons,hz];exact⟨rfl,trivial⟩
def ctN (s:St)(v:UInt8):Prop:=s.a.ix=[cnI true (z7 v)]∧v≠0∧s.rl=[]
def qI3:ECt where
 α:=St×Av
 β:=Int
 aS:=fun (s,a)=>[.t (stA s),.t (avA a)]
 pre:=fun (s,a) => ∃ v y,ctN s v∧y≠0∧a = .idx 257 2 (z7 y) (inF (cnI true (z7 v)))
 r:=fun e=> .t (.int .i64 e)
 R:=fun (s,a) e => ∀ v y nm,ctN s v→a = .idx 257 2 (z7 y) nm→e=if v<y then 0 else 16
 inj:=by rintro⟨s,a⟩ ⟨s',a'⟩ e _;simp only[xU,qJ7,qSf] at e;obtain⟨rfl,rfl⟩:=e;rfl
theorem jGo {g:EF qI3}{s:St}{a:Av}(hp : ∃ v y,ctN s v∧y≠0∧a = .idx 257 2 (z7 y) (inF (cnI true (z7 v)))) : ∃ (e:Int),(∀ v y nm,ctN s v→a = .idx 257 2 (z7 y) nm→e=if v<y then 0 else 16)∧qI3.fs g [.t (stA s),.t (avA a)] []=some (.t (.int .i64 e),[]):=qI3.eq g (s,a) hp
theorem jLx {s:St}{a:Av}(e:Int)(hR : ∀ v y nm,ctN s v→a = .idx 257 2 (z7 y) nm→e=if v<y then 0 else 16)(hV:vv = .t (.int .i64 e))(hO:oo=[]):qI3.K (s,a) vv oo:=⟨e,hR,hV,hO⟩
theorem zW6 {x y:UInt8}(h:z7 x=z7 y):x=y:=by simpa [z7] using h
theorem zX0 {s:St}{v w:UInt8}(h:ctN s v)(g:ctN s w):v=w:=by
 have:=h.1.symm.trans g.1;simp only[cnI,List.cons.injEq,Ix.mk.injEq,true_and,and_true] at this;exact zW6 this
theorem qKj {g1}(h1:LkE tab 178 qGs g1){g2}(h2:LkE tab 222 qJd g2){g3}(h3:LkE tab 301 qI0 g3)(s:St)(a:Av)(hp : ∃ v y,ctN s v∧y≠0∧a = .idx 257 2 (z7 y) (inF (cnI true (z7 v)))) :
  kE.1.wp tab gl (qE 0 [.t (stA s),.t (avA a)]) (qE 0 []) (zA [(4,none)] 0 (qI3.K (s,a))):=by
 obtain⟨v,y,hv,hy,rfl⟩:=hp;have hK : ∀ e:Int,e=(if v<y then 0 else 16) → ∀ vv,vv = .t (.int .i64 e)→qI3.K (s,.idx 257 2 (z7 y) (inF (cnI true (z7 v)))) vv []:=by
  intro e he vv h;refine jLx e (fun v' y' nm h1 h2=>?_) h rfl;obtain rfl:=zX0 hv h1;simp only[Av.idx.injEq,true_and] at h2;obtain rfl:=zW6 h2.1;exact he
 have e1:=zL9 (g:=g1) (x:=cnI true (z7 v)) (by simp[cnI]);have e2:=zWy (g:=g2) (l:=[]) (v:=1) rfl;have e3:=jFu (g:=g3) (op:=2) (a:=z7 v) (b:=z7 y) ⟨rfl,⟨v,hv.2.1,rfl⟩,y,hy,rfl⟩;have hd:((z7 v).getD 7 0<(z7 y).getD 7 0)=(v<y):=rfl;simp only[hd] at e3;have ln:=qC4 (x:=cnI true (z7 v));generalize inF (cnI true (z7 v))=N at *;obtain⟨hix,hv0,hrl⟩:=hv;simp only[cnI] at hix e1;generalize z7 v=V at *;generalize z7 y=Y at *;simp only[ixA,List.map_nil] at e1 e2;simp(maxSteps:=9^9)(disch:=try exact dS)only[go_sem,kE,stA,avA,avL,hix,hrl,mcn];refine vK (σ:=Unit) (fun _=>True) (fun _=>0) (fun _=>[(2,.ref 4096 0 0),(3,.ref 4112 0 0),(9,.t (.sl [ixA ⟨1,2,48,8,[],[],true,V⟩])),(10,.t (.int .i64 1)),(11,.t (.int .i64 0))]) (fun _=>[(4096,.live 30 [.t (stA s)] true true),(4112,.live 10 [.t (avA (.idx 257 2 Y N))] true true)]) () trivial (qK.rd id ?_ ?_ rfl) ?_
 ·simp(maxSteps:=9^9)(disch:=try exact dS)only[go_sem,id]
 ·simp(maxSteps:=9^9)(disch:=try exact dS)only[go_sem,id,stA,avA,avL,hix,hrl,mcn]
 rintro⟨⟩ -;by_cases c:v<y
 ·rw[decide_eq_true c] at e3;simp(maxSteps:=9^9)(disch:=try exact dS)only[go_sem,stA,avA,avL,ixA,hix,hrl,mcn,h1,e1,h2,e2,h3,e3];repeat refine aiG ?_
  exact hK 0 (by rw[if_pos c]) _ rfl
 ·rw[decide_eq_false c] at e3;simp(maxSteps:=9^9)(disch:=try exact dS)only[go_sem,stA,avA,avL,ixA,hix,hrl,mcn,h1,e1,h2,e2,h3,e3];repeat refine aiG ?_
  exact hK 16 (by rw[if_neg c]) _ rfl
def zPb (a b:Int):Int:=IntKind.i64.wrap ((BitVec.ofInt 64 a &&& BitVec.ofInt 64 b).toNat:Int)
theorem jJt {a b:Int}:qNk .and .i64 a .i64 b=some (.int .i64 (zPb a b)):=rfl
theorem zLc {d:List UInt8} : ∀ {l:List (List UInt8)} {k:Nat},(0≤fdL d l k)=(d∈l)
 | [],k=>by simp[fdL]
 | x::r,k=>by
  rw[fdL];split
  ·rename_i h;subst h;simp
  ·rename_i h;rw[zLc (l:=r)];simp only[List.mem_cons,eq_iff_iff];exact⟨.inr,fun g=>g.resolve_left (fun e=>h e.symm)⟩
def zQn:Ct where
 α:=Bool×Bool×Int
 aS x:=[.t (.bool x.1),.ref 0 0 0,.ref 1 0 0]
 ins x:=[.live 1 [.t (.bool x.2.1)] true true,.live 1 [.t (.int .i64 x.2.2)] true true]
 pre _:=True
 r _:= .tup []
 outs x:=[.live 1 [.t (.bool x.2.1)] true true,.live 1 [.t (.int .i64 (if x.2.1=true∧x.1=false then 16 else x.2.2))] true true]
 inj:=by
  rintro⟨a,b,c⟩ ⟨d,e,f⟩ h h2;simp only[List.cons.injEq,V.t.injEq,T.bool.injEq,T.int.injEq,Ob.live.injEq,true_and,and_true] at h h2;obtain rfl:=h;obtain⟨rfl,rfl⟩:=h2;exact⟨rfl,rfl⟩
theorem zIq {a b:Bool}{c:Int}:zQn.fs [.t (.bool a),.ref 0 0 0,.ref 1 0 0] [.live 1 [.t (.bool b)] true true,.live 1 [.t (.int .i64 c)] true true]=some (.tup [],[.live 1 [.t (.bool b)] true true,.live 1 [.t (.int .i64 (if b=true∧a=false then 16 else c))] true true]):=zQn.eq (a,b,c) trivial
theorem qQs (a b:Bool)(c:Int):qAi.1.wp tab gl (qE 0 [.t (.bool a),.ref 0 0 0,.ref 1 0 0]) (qE 0 [.live 1 [.t (.bool b)] true true,.live 1 [.t (.int .i64 c)] true true]) (zA [] 2 (fun r o=>r = .tup []∧o=[.live 1 [.t (.bool b)] true true,.live 1 [.t (.int .i64 (if b=true∧a=false then 16 else c))] true true])):=by
 cases a<;>cases b;all_goals simp(maxSteps:=9^9)(disch:=try exact dS)only[go_sem,qAi]
def qB0 (s:St)(x:Ses):Av→Ses×Av×Int
 | .reg s0 s1 _=>(if x.kd=2 then { x with up:=s.u } else x,.reg s0 s1 (rgD s.bk s0 s1),0)
 | .loc n=>({ x with lo:=zPb x.lo n },.loc n,0)
 | .cmd n=>({ x with cm:=n },.cmd n,0)
 | .aut=>({ x with av:=true },.aut,0)
 | .alt bs=>(x,.alt bs,if x.kd=2 ∧ ¬ x.dg∈bs then 16 else 0)
 | .idx n o od nm=>(x,.idx n o od nm,if x.kd=2 ∧ ¬ (s.a.ix.getD 0 default).da.getD 7 0<od.getD 7 0 then 16 else 0)
 | a=>(x,a,0)
def ckP (s:St)(x:Ses)(a:Av):Prop:=(x.kd=2∨x.kd=3)∧match a with
 | .reg _ _ _=>jJi s.bk a∧(x.up = -1∨x.up=s.u)
 | .loc _=>True
 | .cmd n=>x.cm=0∨x.cm=n
 | .aut=>True
 | .alt bs=>bs.length≤8
 | .idx n o od nm=>x.kd=2 ∧ ∃ v y,ctN s v∧y≠0∧n=257∧o=2∧od=z7 y∧nm=inF (cnI true (z7 v))
 | _=>False
def qMa:ECt where
 α:=St×Ses×Av
 β:=Ses×Av×Int
 aS:=fun (s,x,a)=>[.t (stA s),.t (jP x),.t (avA a)]
 pre:=fun (s,x,a)=>(RV s.bk∧0≤s.u)∧ckP s x a
 r:=fun (y,b,e)=> .tup [.t (jP y),.t (avA b),.t (.int .i64 e)]
 R:=fun (s,x,a) (y,b,e)=>(y,b,e)=qB0 s x a
 inj:=by rintro⟨s,x,a⟩ ⟨s',x',a'⟩ e _;simp only[xU,qJ7,qSf] at e;obtain⟨rfl,rfl,rfl⟩:=e;rfl
theorem jGp {g:EF qMa}{s:St}{x:Ses}{a:Av}(hp:(RV s.bk∧0≤s.u)∧ckP s x a) : ∃ (y:Ses) (b:Av) (e:Int),((y,b,e)=qB0 s x a)∧qMa.fs g [.t (stA s),.t (jP x),.t (avA a)] []=some (.tup [.t (jP y),.t (avA b),.t (.int .i64 e)],[]):=by
 obtain⟨y,h1,h2⟩:=qMa.eq g (s,x,a) hp;exact⟨y.1,y.2.1,y.2.2,h1,h2⟩
theorem yS {s:St}{x:Ses}{a:Av}(y:Ses)(b:Av)(e:Int)(hR:(y,b,e)=qB0 s x a)(hV:vv = .tup [.t (jP y),.t (avA b),.t (.int .i64 e)])(hO:oo=[]):qMa.K (s,x,a) vv oo:=⟨(y,b,e),hR,hV,hO⟩
theorem qVc (h1:LkC tab 272 zQn){g2}(h2:LkE tab 273 qMc g2){g3}(h3:LkE tab 274 qI3 g3)(h5:LkC tab 277 zAn)(h6:tab.look 276=some (zF2 277).fs)(s:St)(x:Ses)(a:Av)(hp:(RV s.bk∧0≤s.u)∧ckP s x a) :
  zZ.1.wp tab gl (qE 0 [.t (stA s),.t (jP x),.t (avA a)]) (qE 0 []) (zA [(6,(some (8,true))),(7,(some (10,true))),(8,none)] 0 (qMa.K (s,x,a))):=by
 obtain⟨hv,hk,hc⟩:=hp;cases a with
 | reg s0 s1 d=>
  obtain⟨hq,hu⟩:=hc;obtain⟨y,b,e,⟨q1,q2,q3⟩,e1⟩:=jGr (g:=g2) (s:=s) (x:=x) (a:= .reg s0 s1 d) ⟨hv,hq,hu,hk⟩;obtain⟨m,hm,_⟩:=hq;cases hm;have q3:=q3 s1 rfl;subst q1 q3;have hF:qB0 s x (.reg 0 s1 [])=(y,.reg 0 s1 (rgD s.bk 0 s1),0):=by rw[qB0,q2]
  clear q2;generalize rgD s.bk 0 s1=d at *;simp only[stA,jP,avA,avL,List.map_nil] at e1;simp(maxSteps:=9^9)(disch:=try exact dS)only[go_sem,zZ,stA,jP,avA,avL,h2,e1,List.map_nil];first | exact (yS y (.reg 0 s1 d) 0 hF.symm rfl rfl) | exact⟨rfl,(yS y (.reg 0 s1 d) 0 hF.symm rfl rfl)⟩ | exact⟨rfl,rfl,(yS y (.reg 0 s1 d) 0 hF.symm rfl rfl)⟩ | exact⟨rfl,rfl,rfl,(yS y (.reg 0 s1 d) 0 hF.symm rfl rfl)⟩
 | loc n=>
  simp(maxSteps:=9^9)(disch:=try exact dS)only[go_sem,zZ,stA,jP,avA,avL,jJt,List.map_nil];first | exact (yS { x with lo:=zPb x.lo n } (.loc n) 0 rfl rfl rfl) | exact⟨rfl,(yS { x with lo:=zPb x.lo n } (.loc n) 0 rfl rfl rfl)⟩ | exact⟨rfl,rfl,(yS { x with lo:=zPb x.lo n } (.loc n) 0 rfl rfl rfl)⟩ | exact⟨rfl,rfl,rfl,(yS { x with lo:=zPb x.lo n } (.loc n) 0 rfl rfl rfl)⟩
 | aut=>
  simp(maxSteps:=9^9)(disch:=try exact dS)only[go_sem,zZ,stA,jP,avA,avL,List.map_nil];first | exact (yS { x with av:=true } .aut 0 rfl rfl rfl) | exact⟨rfl,(yS { x with av:=true } .aut 0 rfl rfl rfl)⟩ | exact⟨rfl,rfl,(yS { x with av:=true } .aut 0 rfl rfl rfl)⟩ | exact⟨rfl,rfl,rfl,(yS { x with av:=true } .aut 0 rfl rfl rfl)⟩
 | cmd n=>
  obtain⟨kd,no,dg,up,lo,cm,dl,av⟩:=x;simp only at hk hc;have r1 := @zIq true true 0;have r2 := @zIq true false 0;rw[if_neg (by decide)] at r1 r2;by_cases c0:cm=0
  ·subst c0;rcases hk with rfl | rfl;all_goals simp(maxSteps:=9^9)(disch:=try exact dS)only[go_sem,zZ,stA,jP,avA,avL,h1,r1,r2,List.map_nil]
   ·first | exact (yS ⟨2,no,dg,up,lo,n,dl,av⟩ (.cmd n) 0 rfl rfl rfl) | exact⟨rfl,(yS ⟨2,no,dg,up,lo,n,dl,av⟩ (.cmd n) 0 rfl rfl rfl)⟩ | exact⟨rfl,rfl,(yS ⟨2,no,dg,up,lo,n,dl,av⟩ (.cmd n) 0 rfl rfl rfl)⟩ | exact⟨rfl,rfl,rfl,(yS ⟨2,no,dg,up,lo,n,dl,av⟩ (.cmd n) 0 rfl rfl rfl)⟩
   ·first | exact (yS ⟨3,no,dg,up,lo,n,dl,av⟩ (.cmd n) 0 rfl rfl rfl) | exact⟨rfl,(yS ⟨3,no,dg,up,lo,n,dl,av⟩ (.cmd n) 0 rfl rfl rfl)⟩ | exact⟨rfl,rfl,(yS ⟨3,no,dg,up,lo,n,dl,av⟩ (.cmd n) 0 rfl rfl rfl)⟩ | exact⟨rfl,rfl,rfl,(yS ⟨3,no,dg,up,lo,n,dl,av⟩ (.cmd n) 0 rfl rfl rfl)⟩
  ·obtain rfl:cm=n:=hc.resolve_left c0;have c1:(cm==0)=false:=by simpa using c0
   rcases hk with rfl | rfl;all_goals simp(maxSteps:=9^9)(disch:=try exact dS)only[go_sem,zZ,stA,jP,avA,avL,h1,r1,r2,c0,c1,beq_self_eq_true,List.map_nil]
   ·first | exact (yS ⟨2,no,dg,up,lo,cm,dl,av⟩ (.cmd cm) 0 rfl rfl rfl) | exact⟨rfl,(yS ⟨2,no,dg,up,lo,cm,dl,av⟩ (.cmd cm) 0 rfl rfl rfl)⟩ | exact⟨rfl,rfl,(yS ⟨2,no,dg,up,lo,cm,dl,av⟩ (.cmd cm) 0 rfl rfl rfl)⟩ | exact⟨rfl,rfl,rfl,(yS ⟨2,no,dg,up,lo,cm,dl,av⟩ (.cmd cm) 0 rfl rfl rfl)⟩
   ·first | exact (yS ⟨3,no,dg,up,lo,cm,dl,av⟩ (.cmd cm) 0 rfl rfl rfl) | exact⟨rfl,(yS ⟨3,no,dg,up,lo,cm,dl,av⟩ (.cmd cm) 0 rfl rfl rfl)⟩ | exact⟨rfl,rfl,(yS ⟨3,no,dg,up,lo,cm,dl,av⟩ (.cmd cm) 0 rfl rfl rfl)⟩ | exact⟨rfl,rfl,rfl,(yS ⟨3,no,dg,up,lo,cm,dl,av⟩ (.cmd cm) 0 rfl rfl rfl)⟩
 | alt bs=>
  obtain⟨kd,no,dg,up,lo,cm,dl,av⟩:=x;simp only at hk hc;have e1 := @jC3 277 bs ⟨kd,no,dg,up,lo,cm,dl,av⟩ oM;simp only[zLc] at e1;by_cases cm':dg∈bs
  ·have r1 := @zIq true true 0;have r2 := @zIq true false 0;rw[if_neg (by decide)] at r1 r2;simp only[cm',decide_true,jP] at e1;rcases hk with rfl | rfl;all_goals simp(maxSteps:=9^9)(disch:=try exact dS)only[go_sem,zZ,stA,jP,avA,avL,h1,h6,r1,r2,e1,List.map_nil]
   ·first | exact (yS ⟨2,no,dg,up,lo,cm,dl,av⟩ (.alt bs) 0 (by rw[qB0,if_neg (by simp[cm'])]) rfl rfl) | exact⟨rfl,(yS ⟨2,no,dg,up,lo,cm,dl,av⟩ (.alt bs) 0 (by rw[qB0,if_neg (by simp[cm'])]) rfl rfl)⟩ | exact⟨rfl,rfl,(yS ⟨2,no,dg,up,lo,cm,dl,av⟩ (.alt bs) 0 (by rw[qB0,if_neg (by simp[cm'])]) rfl rfl)⟩ | exact⟨rfl,rfl,rfl,(yS ⟨2,no,dg,up,lo,cm,dl,av⟩ (.alt bs) 0 (by rw[qB0,if_neg (by simp[cm'])]) rfl rfl)⟩
   ·first | exact (yS ⟨3,no,dg,up,lo,cm,dl,av⟩ (.alt bs) 0 (by rw[qB0,if_neg sM]) rfl rfl) | exact⟨rfl,(yS ⟨3,no,dg,up,lo,cm,dl,av⟩ (.alt bs) 0 (by rw[qB0,if_neg sM]) rfl rfl)⟩ | exact⟨rfl,rfl,(yS ⟨3,no,dg,up,lo,cm,dl,av⟩ (.alt bs) 0 (by rw[qB0,if_neg sM]) rfl rfl)⟩ | exact⟨rfl,rfl,rfl,(yS ⟨3,no,dg,up,lo,cm,dl,av⟩ (.alt bs) 0 (by rw[qB0,if_neg sM]) rfl rfl)⟩
  ·have r1 := @zIq false true 0;have r2 := @zIq false false 0;rw[if_pos (by decide)] at r1;rw[if_neg (by decide)] at r2;simp only[cm',decide_false,jP] at e1;rcases hk with rfl | rfl;all_goals simp(maxSteps:=9^9)(disch:=try exact dS)only[go_sem,zZ,stA,jP,avA,avL,h1,h6,r1,r2,e1,List.map_nil]
   ·first | exact (yS ⟨2,no,dg,up,lo,cm,dl,av⟩ (.alt bs) 16 (by rw[qB0,if_pos ⟨rfl,cm'⟩]) rfl rfl) | exact⟨rfl,(yS ⟨2,no,dg,up,lo,cm,dl,av⟩ (.alt bs) 16 (by rw[qB0,if_pos ⟨rfl,cm'⟩]) rfl rfl)⟩ | exact⟨rfl,rfl,(yS ⟨2,no,dg,up,lo,cm,dl,av⟩ (.alt bs) 16 (by rw[qB0,if_pos ⟨rfl,cm'⟩]) rfl rfl)⟩ | exact⟨rfl,rfl,rfl,(yS ⟨2,no,dg,up,lo,cm,dl,av⟩ (.alt bs) 16 (by rw[qB0,if_pos ⟨rfl,cm'⟩]) rfl rfl)⟩
   ·first | exact (yS ⟨3,no,dg,up,lo,cm,dl,av⟩ (.alt bs) 0 (by rw[qB0,if_neg sM]) rfl rfl) | exact⟨rfl,(yS ⟨3,no,dg,up,lo,cm,dl,av⟩ (.alt bs) 0 (by rw[qB0,if_neg sM]) rfl rfl)⟩ | exact⟨rfl,rfl,(yS ⟨3,no,dg,up,lo,cm,dl,av⟩ (.alt bs) 0 (by rw[qB0,if_neg sM]) rfl rfl)⟩ | exact⟨rfl,rfl,rfl,(yS ⟨3,no,dg,up,lo,cm,dl,av⟩ (.alt bs) 0 (by rw[qB0,if_neg sM]) rfl rfl)⟩
 | idx n o od nm=>
  obtain⟨kd,no,dg,up,lo,cm,dl,av⟩:=x;obtain⟨h2,v,y,hv',hy,rfl,rfl,rfl,rfl⟩:=hc;simp only at h2;subst h2;obtain⟨e,q,e1⟩:=jGo (g:=g3) (s:=s) (a:= .idx 257 2 (z7 y) (inF (cnI true (z7 v)))) ⟨v,y,hv',hy,rfl⟩;have q:=q v y _ hv' rfl;have hF:qB0 s ⟨2,no,dg,up,lo,cm,dl,av⟩ (.idx 257 2 (z7 y) (inF (cnI true (z7 v))))=(⟨2,no,dg,up,lo,cm,dl,av⟩,.idx 257 2 (z7 y) (inF (cnI true (z7 v))),e):=by
   rw[qB0,q,hv'.1];have hg:(List.getD [cnI true (z7 v)] 0 default).da.getD 7 0=v:=rfl;have hy7:(z7 y).getD 7 0=y:=rfl;rw[hg,hy7];by_cases c:v<y
   ·rw[if_pos c,if_neg (fun h=>h.2 c)]
   ·rw[if_neg c,if_pos ⟨rfl,c⟩]
  clear q hv';generalize inF (cnI true (z7 v))=N at *;generalize z7 y=Y at *;simp only[stA,avA,avL,List.map_nil] at e1;simp(maxSteps:=9^9)(disch:=try exact dS)only[go_sem,zZ,stA,jP,avA,avL,h3,e1,List.map_nil];first | exact (yS ⟨2,no,dg,up,lo,cm,dl,av⟩ (.idx 257 2 Y N) e hF.symm rfl rfl) | exact⟨rfl,(yS ⟨2,no,dg,up,lo,cm,dl,av⟩ (.idx 257 2 Y N) e hF.symm rfl rfl)⟩ | exact⟨rfl,rfl,(yS ⟨2,no,dg,up,lo,cm,dl,av⟩ (.idx 257 2 Y N) e hF.symm rfl rfl)⟩ | exact⟨rfl,rfl,rfl,(yS ⟨2,no,dg,up,lo,cm,dl,av⟩ (.idx 257 2 Y N) e hF.symm rfl rfl)⟩
 | apr _ _=>exact hc.elim
def asF (s:St)(h:Int)(a:Av):St×Int:=
 let x:=(qHs s h).2.1
 if (qB0 s x a).2.2=0 then (exS s (qHs s h).1 (qB0 s x a).1 (qB0 s x a).2.1,0) else (default,(qB0 s x a).2.2)
def fmP:Av→Prop
 | .reg s0 s1 d=>s0=0∧(0≤s1∧s1≤65535)∧d=[]
 | .apr _ _=>False
 | .idx .. => False
 | a=>a.Ok
def fmQ (a:Av):Prop:=fmP a ∨ ∃ od nm,a = .idx 257 2 od nm∧od.length=8∧nm.length=32
theorem zWo {s:St}{x:Ses}{a:Av}(h:fmQ a):(qB0 s x a).2.1.Ok∧(qB0 s x a).1.dg=x.dg:=by
 rcases h with h | ⟨od,nm,rfl,h1,h2⟩
 rotate_left
 ·exact⟨⟨oM,oM,h2⟩,rfl⟩
 cases a with
 | reg s0 s1 d=>
  obtain⟨rfl,h1,_⟩:=h;refine⟨⟨oM,h1,qXc⟩,?_⟩;simp only[qB0];split<;>rfl
 | loc n=>exact⟨h,rfl⟩
 | cmd n=>exact⟨h,rfl⟩
 | aut=>exact⟨h,rfl⟩
 | alt bs=>exact⟨h,rfl⟩
 | idx _ _ _ _=>exact h.elim
 | apr _ _=>exact h.elim
def qL9:ECt where
 α:=St×Int×Av
 β:=St×Int
 aS:=fun (s,h,a)=>[.t (stA s),.t (.int .i64 h),.t (avA a)]
 pre:=fun (s,h,a)=>(RV s.bk∧0≤s.u)∧(s.ses.length=3∧tmI h)∧(qHs s h).2.2=true∧fmQ a∧ckP s (qHs s h).2.1 a∧(qHs s h).2.1.dg.length=32
 r:=fun (t,e)=> .tup [.t (stA t),.t (.int .i64 e)]
 R:=fun (s,h,a) (t,e)=>(t,e)=asF s h a
 inj:=by rintro⟨s,h,a⟩ ⟨s',h',a'⟩ e _;simp only[xU,qJ7,qSf] at e;obtain⟨rfl,rfl,rfl⟩:=e;rfl
theorem zWn {g:EF qL9}{s:St}{h:Int}{a:Av}(hp:(RV s.bk∧0≤s.u)∧(s.ses.length=3∧tmI h)∧(qHs s h).2.2=true∧fmQ a∧ckP s (qHs s h).2.1 a∧(qHs s h).2.1.dg.length=32) : ∃ (t:St) (e:Int),((t,e)=asF s h a)∧qL9.fs g [.t (stA s),.t (.int .i64 h),.t (avA a)] []=some (.tup [.t (stA t),.t (.int .i64 e)],[]):=by
 obtain⟨y,h1,h2⟩:=qL9.eq g (s,h,a) hp;exact⟨y.1,y.2,h1,h2⟩
theorem kU {s:St}{h:Int}{a:Av}(t:St)(e:Int)(hR:(t,e)=asF s h a)(hV:vv = .tup [.t (stA t),.t (.int .i64 e)])(hO:oo=[]):qL9.K (s,h,a) vv oo:=⟨(t,e),hR,hV,hO⟩
theorem jFx {s:St}{h k:Int}{x:Ses}(e:(k,x,true)=qHs s h):k=h-768∧0≤k∧k≤2∧x=s.ses.getD k.toNat qBw∧(x.kd=2∨x.kd=3):=by
 unfold qHs at e;simp only[Prod.mk.injEq] at e;obtain⟨e1,e2,e3⟩:=e;have e3:=e3.symm;simp only[Bool.and_eq_true,Bool.or_eq_true,decide_eq_true_eq] at e3;have e4:(k,x,true)=qBm s h:=by rw[e1,e2];exact Prod.ext rfl (Prod.ext rfl e3.1.symm)
 obtain⟨q1,q2,q3,q4⟩:=zWp e4;exact⟨q1,q2,q3,q4,by rw[e2];exact e3.2⟩
theorem qR1 {g1}(h1:LkE tab 181 qMe g1)(h2:LkC tab 237 qTi){g3}(h3:LkE tab 210 qI1 g3){g4}(h4:LkE tab 238 qMa g4){g5}(h5:LkE tab 184 qI4 g5)(s:St)(h:Int)(a:Av)(hp:(RV s.bk∧0≤s.u)∧(s.ses.length=3∧tmI h)∧(qHs s h).2.2=true∧fmQ a∧ckP s (qHs s h).2.1 a∧(qHs s h).2.1.dg.length=32) :
  zT.1.wp tab gl (qE 0 [.t (stA s),.t (.int .i64 h),.t (avA a)]) (qE 0 []) (zA [(6,(some (30,true))),(7,none)] 0 (qL9.K (s,h,a))):=by
 obtain⟨hv,hl,hb,hf,hc,hd⟩:=hp;obtain⟨k,x,b,e,e1⟩:=jGu (g:=g1) (s:=s) (h:=h) hl;have hx:(qHs s h).2.1=x:=by rw[←e]
 have hb':b=true:=by rw[←e] at hb;exact hb
 subst hb';obtain⟨k1,k2,k3,k4,k5⟩:=jFx e;rw[hx] at hc hd;obtain⟨y,c,er,hR,e4⟩:=jGp (g:=g4) (s:=s) (x:=x) (a:=a) ⟨hv,hc⟩;have ok:=zWo (s:=s) (x:=x) hf;rw[←hR] at ok;have e5:=jGs (g:=g5) (s:=s) (k:=k) (x:=y) (a:=c) ⟨hl.1,⟨k2,k3⟩,by rw[ok.2];exact hd,ok.1⟩;have hK : ∀ t e',(t,e')=(if er=0 then (exS s k y c,0) else (default,er))→(t,e')=asF s h a:=by
  intro t e' h';have h1:(qHs s h).1=k:=by rw[←e]
  rw[h'];simp only[asF,hx,h1,←hR]
 clear ok hb hx;have st:=zM4;rcases hf with hf | ⟨od,nm,rfl,h8,h32⟩
 rotate_left
 ·have pk:=qT8 (g:=g3) (a:= .idx 257 2 od nm) ⟨oM,oM,h32⟩;simp only[qB0,Prod.mk.injEq] at hR;obtain⟨_,rfl,hr⟩:=hR;clear hc hr;simp only[stA,jP,avA,avL,List.map_nil] at e1 e4 e5 pk;by_cases c0:er=0
  ·subst c0;simp(maxSteps:=9^9)(disch:=try exact dS)only[go_sem,zT,stA,jP,avA,avL,h1,h2,h3,h4,h5,e1,e4,e5,pk,st,List.map_nil];first | exact (kU (exS s k y (.idx 257 2 od nm)) 0 (hK _ _ rfl) rfl rfl) | exact⟨rfl,(kU (exS s k y (.idx 257 2 od nm)) 0 (hK _ _ rfl) rfl rfl)⟩ | exact⟨rfl,rfl,(kU (exS s k y (.idx 257 2 od nm)) 0 (hK _ _ rfl) rfl rfl)⟩ | exact⟨rfl,rfl,rfl,(kU (exS s k y (.idx 257 2 od nm)) 0 (hK _ _ rfl) rfl rfl)⟩
  ·simp(maxSteps:=9^9)(disch:=try exact dS)only[go_sem,zT,stA,jP,avA,avL,h1,h2,h3,h4,h5,e1,e4,e5,pk,st,c0,List.map_nil];first | exact (kU default er (hK _ _ (by rw[if_neg c0])) rfl rfl) | exact⟨rfl,(kU default er (hK _ _ (by rw[if_neg c0])) rfl rfl)⟩ | exact⟨rfl,rfl,(kU default er (hK _ _ (by rw[if_neg c0])) rfl rfl)⟩ | exact⟨rfl,rfl,rfl,(kU default er (hK _ _ (by rw[if_neg c0])) rfl rfl)⟩
 cases a
 case reg s0 s1 d=>
  obtain⟨rfl,hs1,rfl⟩:=hf;have pk:=qT8 (g:=g3) (a:= .reg 0 s1 z32) ⟨oM,hs1,qBh⟩;have tz:List.take 32 z32=z32:=rfl;simp only[qB0,Prod.mk.injEq] at hR;obtain⟨_,rfl,rfl⟩:=hR;generalize rgD s.bk 0 s1=d at *;simp only[stA,jP,avA,avL,List.map_nil] at e1 e4 e5 pk;simp(maxSteps:=9^9)(disch:=try exact dS)only[go_sem,zT,stA,jP,avA,avL,h1,h2,h3,h4,h5,e1,e4,e5,pk,st,tz,qBh,List.map_nil];first | exact (kU (exS s k y (.reg 0 s1 d)) 0 (hK _ _ rfl) rfl rfl) | exact⟨rfl,(kU (exS s k y (.reg 0 s1 d)) 0 (hK _ _ rfl) rfl rfl)⟩ | exact⟨rfl,rfl,(kU (exS s k y (.reg 0 s1 d)) 0 (hK _ _ rfl) rfl rfl)⟩ | exact⟨rfl,rfl,rfl,(kU (exS s k y (.reg 0 s1 d)) 0 (hK _ _ rfl) rfl rfl)⟩
 case idx=>exact hf.elim
 case apr=>exact hf.elim
 case alt bs=>
  have pk:=qT8 (g:=g3) (a:= .alt bs) hf;simp only[qB0,Prod.mk.injEq] at hR;obtain⟨_,rfl,hr⟩:=hR;clear hc;simp only[stA,jP,avA,avL,List.map_nil] at e1 e4 e5 pk;by_cases c0:er=0
  ·subst c0;simp(maxSteps:=9^9)(disch:=try exact dS)only[go_sem,zT,stA,jP,avA,avL,h1,h2,h3,h4,h5,e1,e4,e5,pk,st,List.map_nil];first | exact (kU (exS s k y (.alt bs)) 0 (hK _ _ rfl) rfl rfl) | exact⟨rfl,(kU (exS s k y (.alt bs)) 0 (hK _ _ rfl) rfl rfl)⟩ | exact⟨rfl,rfl,(kU (exS s k y (.alt bs)) 0 (hK _ _ rfl) rfl rfl)⟩ | exact⟨rfl,rfl,rfl,(kU (exS s k y (.alt bs)) 0 (hK _ _ rfl) rfl rfl)⟩
  ·simp(maxSteps:=9^9)(disch:=try exact dS)only[go_sem,zT,stA,jP,avA,avL,h1,h2,h3,h4,h5,e1,e4,e5,pk,st,c0,List.map_nil];first | exact (kU default er (hK _ _ (by rw[if_neg c0])) rfl rfl) | exact⟨rfl,(kU default er (hK _ _ (by rw[if_neg c0])) rfl rfl)⟩ | exact⟨rfl,rfl,(kU default er (hK _ _ (by rw[if_neg c0])) rfl rfl)⟩ | exact⟨rfl,rfl,rfl,(kU default er (hK _ _ (by rw[if_neg c0])) rfl rfl)⟩
 case aut=>
  have pk:=qT8 (g:=g3) (a:= .aut) hf;simp only[qB0,Prod.mk.injEq] at hR;obtain⟨_,rfl,rfl⟩:=hR;simp only[stA,jP,avA,avL,List.map_nil] at e1 e4 e5 pk;simp(maxSteps:=9^9)(disch:=try exact dS)only[go_sem,zT,stA,jP,avA,avL,h1,h2,h3,h4,h5,e1,e4,e5,pk,st,List.map_nil];first | exact (kU (exS s k y .aut) 0 (hK _ _ rfl) rfl rfl) | exact⟨rfl,(kU (exS s k y .aut) 0 (hK _ _ rfl) rfl rfl)⟩ | exact⟨rfl,rfl,(kU (exS s k y .aut) 0 (hK _ _ rfl) rfl rfl)⟩ | exact⟨rfl,rfl,rfl,(kU (exS s k y .aut) 0 (hK _ _ rfl) rfl rfl)⟩
 case loc n=>
  have pk:=qT8 (g:=g3) (a:= .loc n) hf;simp only[qB0,Prod.mk.injEq] at hR;obtain⟨_,rfl,rfl⟩:=hR;simp only[stA,jP,avA,avL,List.map_nil] at e1 e4 e5 pk;simp(maxSteps:=9^9)(disch:=try exact dS)only[go_sem,zT,stA,jP,avA,avL,h1,h2,h3,h4,h5,e1,e4,e5,pk,st,List.map_nil];first | exact (kU (exS s k y (.loc n)) 0 (hK _ _ rfl) rfl rfl) | exact⟨rfl,(kU (exS s k y (.loc n)) 0 (hK _ _ rfl) rfl rfl)⟩ | exact⟨rfl,rfl,(kU (exS s k y (.loc n)) 0 (hK _ _ rfl) rfl rfl)⟩ | exact⟨rfl,rfl,rfl,(kU (exS s k y (.loc n)) 0 (hK _ _ rfl) rfl rfl)⟩
 case cmd n=>
  have pk:=qT8 (g:=g3) (a:= .cmd n) hf;simp only[qB0,Prod.mk.injEq] at hR;obtain⟨_,rfl,rfl⟩:=hR;clear hc;simp only[stA,jP,avA,avL,List.map_nil] at e1 e4 e5 pk;simp(maxSteps:=9^9)(disch:=try exact dS)only[go_sem,zT,stA,jP,avA,avL,h1,h2,h3,h4,h5,e1,e4,e5,pk,st,List.map_nil];first | exact (kU (exS s k y (.cmd n)) 0 (hK _ _ rfl) rfl rfl) | exact⟨rfl,(kU (exS s k y (.cmd n)) 0 (hK _ _ rfl) rfl rfl)⟩ | exact⟨rfl,rfl,(kU (exS s k y (.cmd n)) 0 (hK _ _ rfl) rfl rfl)⟩ | exact⟨rfl,rfl,rfl,(kU (exS s k y (.cmd n)) 0 (hK _ _ rfl) rfl rfl)⟩
inductive Cm where
 | up
 | ev (i:Int) (d:List UInt8)
 | op (k:Int)
 | po (h:Int) (a:Av)
 | px (h:Int) (d:List UInt8)
 | pd (h:Int)
 | pr (h:Int) (po au da:List UInt8)
 | un (h s:Int) (v:List UInt8)
 | df
 | ic
 | ap (h:Int) (k r g:List UInt8)
 deriving Inhabited
def avN (h:Int):Av→List Int
 | .reg s0 s1 _=>[h,1,s0,s1,0,0]
 | .loc n=>[h,2,0,0,n,0]
 | .cmd n=>[h,3,0,0,n,0]
 | .idx _ o _ _=>[h,4,0,0,257,o]
 | .aut=>[h,7,0,0,0,0]
 | .alt _=>[h,8,0,0,0,0]
 | .apr _ _=>[h,9,0,0,0,0]
def avB:Av→List (List UInt8)
 | .reg _ _ d=>[d]
 | .idx _ _ od _=>[od]
 | .alt bs=>bs
 | _=>[]
def qC:Cm→Rq
 | .up=>⟨1,[],[],[0],[]⟩
 | .ev i d=>⟨7,[],[],[i],[d]⟩
 | .op k=>⟨16,[],[],[k],[]⟩
 | .po h a=>⟨17,[],[],avN h a,avB a⟩
 | .px h d=>⟨17,[],[],[h,4,0,0,257,2],[d]⟩
 | .pd h=>⟨20,[],[],[h],[]⟩
 | .pr h p au da=>⟨9,[h],[⟨0,[],[]⟩],[3,0,0],[p,au,da]⟩
 | .un h s v=>⟨13,[h],[⟨s,[],v⟩],[],[]⟩
 | .df=>⟨21,[1],[⟨0,[],[]⟩],[1,2,48,8],[[],[]]⟩
 | .ic=>⟨25,[1,257],[⟨0,[],[]⟩],[],[]⟩
 | .ap h k r g=>⟨19,[],[],[h],[k,r,g]⟩
def Cm.Ok:Cm→Prop
 | .up=>True
 | .ev i d=>(0≤i∧i≤15)∧d.length≤100
 | .op k=>2≤k∧k≤3
 | .po h a=>tmI h∧match a with
  | .reg s0 s1 d=>s0=0∧(0≤s1∧s1≤65535)∧d=[]
  | .loc n=>1≤n∧n≤31
  | .cmd n=>n=13
  | .idx _ o od nm=>o=2∧od.length=8∧nm=[]
  | .aut=>True
  | .alt bs=>(2≤bs.length∧bs.length≤3) ∧ ∀ b∈bs,b.length=32
  | .apr _ _=>False
 | .px h d=>tmI h∧d.length=8
 | .pd h=>tmI h
 | .pr h p au da=>(0≤h∧h≤2)∧p.length=32∧au.length≤32∧da.length≤60
 | .un h s v=>(0≤h∧h≤65535)∧(0≤s∧s≤65535)∧v.length≤32
 | .df=>True
 | .ic=>True
 | .ap h k r g=>tmI h∧k.length≤200∧r.length≤60∧g.length≤1000
end Go.Eng
end
