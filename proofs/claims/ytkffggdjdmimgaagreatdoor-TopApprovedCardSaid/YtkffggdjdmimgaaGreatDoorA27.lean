/- A part of an abstract machine, its walks, their tie. -/
import Derived.Test.YtkffggdjdmimgaaGreatDoorA25
import Derived.Test.YtkffggdjdmimgaaGreatDoorA26
import Derived.Test.YtkffggdjdmimgaaGreatDoorA16
import Derived.Test.YtkffggdjdmimgaaGreatDoorA22
import Derived.Conc.MuLone
import Derived.Lib.BytesEntry
import Derived.Laws.Externs
import Derived.Test.YtkffggdjdmimgaaGreatDoorA9
import Derived.Test.YtkffggdjdmimgaaGreatDoorA23
set_option linter.all false
section
set_option maxHeartbeats 64000000
set_option maxRecDepth 20000
namespace Go.Eng
open List
variable (tab:Tab) (gl:Gl)
variable {vv:V} {oo:List Ob}
def ctI (v:Int):Ix:=cnI (decide (v≠0)) (beI 8 v 8)
theorem jTb:ctI 0=cnI false (List.replicate 8 0):=by rfl
def anI (a b:Int):Int:=IntKind.i64.wrap ((BitVec.ofInt 64 a &&& BitVec.ofInt 64 b).toNat:Int)
theorem yCq {a b:Int}:qNf .and .i64 a .i64 b=some (.int .i64 (anI a b)):=rfl
def qOw:ECt where
 α:=Int×Int
 β:=Bool
 aS:=fun (k,z)=>[.t (.int .i64 k),.t (.int .i64 z)]
 pre:=fun (k,z)=>k=2∧z=8
 r:=fun r'=> .t (.bool r')
 R:=fun (k,z) r'=>r'=true
theorem jMj {g:EF qOw}{k z:Int}(hp:k=2∧z=8):qOw.fs g [.t (.int .i64 k),.t (.int .i64 z)] []=some (.t (.bool (true)),[]):=fnQ qOw (k,z) hp
theorem zYu {k z:Int}(hV:vv = .t (.bool (true)))(hO:oo=[]):qOw.K (k,z) vv oo:=⟨_,rfl,hV,hO⟩
theorem zEq  (k z:Int)(hp:k=2∧z=8) :
  qGu.1.wp tab gl (qE 0 [.t (.int .i64 k),.t (.int .i64 z)]) (qE 0 []) (qV [(4,none)] 0 (qOw.K (k,z))):=by
 obtain⟨rfl,rfl⟩:=hp;simp(disch:=omega)only[go_sem,qGu];first | exact (zYu rfl rfl) | exact⟨rfl,(zYu rfl rfl)⟩ | exact⟨rfl,rfl,(zYu rfl rfl)⟩ | exact⟨rfl,rfl,rfl,(zYu rfl rfl)⟩
def qLo:ECt where
 α:=Int×Int×Int×Int×List UInt8×List UInt8
 β:=Ix×Int
 aS:=fun (n,k,t,z,au,po)=>[.t (.int .i64 n),.t (.int .i64 k),.t (.int .i64 t),.t (.int .i64 z),.t (.sl (au.map qA)),.t (.sl (po.map qA))]
 pre:=fun (n,k,t,z,au,po)=>n=1∧k=2∧t=48∧z=8∧au=[]∧po=[]
 r:=fun (x,e)=> .tup [.t (ixA x),.t (.int .i64 e)]
 R:=fun (n,k,t,z,au,po) (x,e)=>x=ctI 0∧e=0
theorem jMi {g:EF qLo}{n k t z:Int}{au po:List UInt8}(hp:n=1∧k=2∧t=48∧z=8∧au=[]∧po=[]) : ∃ (x:Ix) (e:Int),(x=ctI 0∧e=0)∧qLo.fs g [.t (.int .i64 n),.t (.int .i64 k),.t (.int .i64 t),.t (.int .i64 z),.t (.sl (au.map qA)),.t (.sl (po.map qA))] []=some (.tup [.t (ixA x),.t (.int .i64 e)],[]):=by
 obtain⟨y,h1,h2⟩:=qLo.eq g (n,k,t,z,au,po) hp;exact⟨y.1,y.2,h1,h2⟩
theorem jTt {n k t z:Int}{au po:List UInt8}(x:Ix)(e:Int)(hR:x=ctI 0∧e=0)(hV:vv = .tup [.t (ixA x),.t (.int .i64 e)])(hO:oo=[]):qLo.K (n,k,t,z,au,po) vv oo:=⟨(x,e),hR,hV,hO⟩
theorem zLb {g1}(h1:LkE tab 292 qOw g1)(n k t z:Int)(au po:List UInt8)(hp:n=1∧k=2∧t=48∧z=8∧au=[]∧po=[]) :
  qKl.1.wp tab gl (qE 0 [.t (.int .i64 n),.t (.int .i64 k),.t (.int .i64 t),.t (.int .i64 z),.t (.sl (au.map qA)),.t (.sl (po.map qA))]) (qE 0 []) (qV [(12,(some (8,true))),(13,none)] 0 (qLo.K (n,k,t,z,au,po))):=by
 obtain⟨rfl,rfl,rfl,rfl,rfl,rfl⟩:=hp;have e1:=jMj (g:=g1) (k:=2) (z:=8) ⟨rfl,rfl⟩;have hK : ∀ vv,vv = .tup [.t (ixA (ctI 0)),.t (.int .i64 0)]→qLo.K (1,2,48,8,[],[]) vv []:=fun vv h=>jTt (ctI 0) 0 ⟨rfl,rfl⟩ h rfl
 simp only[jTb,cnI,ixA,map_nil] at hK;have a1:anI 48 21=16:=by decide
 have a2:anI 48 42=32:=by decide
 have a3:anI 48 12=0:=by decide
 simp(disch:=omega)only[go_sem,qKl,h1,e1,map_nil,↓yCq,a1,a2,a3];repeat refine aiG ?_
 exact hK _ rfl
def qOx:ECt where
 α:=Ix×List UInt8
 β:=Ix
 aS:=fun (x,d)=>[.t (ixA x),.t (.sl (d.map qA))]
 pre:=fun (x,d)=>d.length=8
 r:=fun r'=> .t (ixA r')
 R:=fun (x,d) r'=>r' = { x with wr:=true,da:=d }
theorem jMk {g:EF qOx}{x:Ix}{d:List UInt8}(hp:d.length=8):qOx.fs g [.t (ixA x),.t (.sl (d.map qA))] []=some (.t (ixA ({ x with wr:=true,da:=d })),[]):=fnQ qOx (x,d) hp
theorem zYv {x:Ix}{d:List UInt8}(hV:vv = .t (ixA ({ x with wr:=true,da:=d })))(hO:oo=[]):qOx.K (x,d) vv oo:=⟨_,rfl,hV,hO⟩
theorem qZa  (x:Ix)(d:List UInt8)(hp:d.length=8) :
  qDu.1.wp tab gl (qE 0 [.t (ixA x),.t (.sl (d.map qA))]) (qE 0 []) (qV [(4,(some (8,true)))] 0 (qOx.K (x,d))):=by
 simp(disch:=omega)only[go_sem,qDu,ixA];first | exact (zYv rfl rfl) | exact⟨rfl,(zYv rfl rfl)⟩ | exact⟨rfl,rfl,(zYv rfl rfl)⟩ | exact⟨rfl,rfl,rfl,(zYv rfl rfl)⟩
def qLn:ECt where
 α:=Ix×Int
 β:=Ix×Int×Int
 aS:=fun (x,m)=>[.t (ixA x),.t (.int .i64 m)]
 pre:=fun (x,m)=>(0≤m∧m≤1000)∧x=ctI m
 r:=fun (y,k,e)=> .tup [.t (ixA y),.t (.int .i64 k),.t (.int .i64 e)]
 R:=fun (x,m) (y,k,e)=>y=ctI (m+1)∧k=m+1∧e=0
theorem jMh {g:EF qLn}{x:Ix}{m:Int}(hp:(0≤m∧m≤1000)∧x=ctI m) : ∃ (y:Ix) (k e:Int),(y=ctI (m+1)∧k=m+1∧e=0)∧qLn.fs g [.t (ixA x),.t (.int .i64 m)] []=some (.tup [.t (ixA y),.t (.int .i64 k),.t (.int .i64 e)],[]):=by
 obtain⟨y,h1,h2⟩:=qLn.eq g (x,m) hp;exact⟨y.1,y.2.1,y.2.2,h1,h2⟩
theorem jTs {x:Ix}{m:Int}(y:Ix)(k e:Int)(hR:y=ctI (m+1)∧k=m+1∧e=0)(hV:vv = .tup [.t (ixA y),.t (.int .i64 k),.t (.int .i64 e)])(hO:oo=[]):qLn.K (x,m) vv oo:=⟨(y,k,e),hR,hV,hO⟩
theorem qUd (h1:LkC tab 129 qFr)(h2:LkC tab 141 qFp)(h3:LkC tab 98 vB){g4}(h4:LkE tab 300 qOx g4)(x:Ix)(m:Int)(hp:(0≤m∧m≤1000)∧x=ctI m) :
  xD.1.wp tab gl (qE 0 [.t (ixA x),.t (.int .i64 m)]) (qE 0 []) (qV [(4,(some (8,true))),(5,none),(6,none)] 0 (qLn.K (x,m))):=by
 obtain⟨hm,rfl⟩:=hp;have hK : ∀ vv,vv = .tup [.t (ixA (ctI (m+1))),.t (.int .i64 (m+1)),.t (.int .i64 0)]→qLn.K (ctI m,m) vv []:=fun vv h=>jTs (ctI (m+1)) (m+1) 0 ⟨rfl,rfl,rfl⟩ h rfl
 have hc:ctI (m+1) = { ctI m with wr:=true,da:=beI 8 (m+1) 8 }:=by
  unfold ctI cnI;rw[decide_eq_true (show m+1≠0 by omega)]
 have u:=qVt (b:=[]) (n:=m+1) sM;simp only[map_nil,nil_append,length_nil] at u;have l8:(beI 8 (m+1) 8).length=8:=qU;have t8:List.take 8 (beI 8 (m+1) 8)=beI 8 (m+1) 8:=take_of_length_le oM;have e4:=jMk (g:=g4) (x:=ctI m) (d:=beI 8 (m+1) 8) l8;rw[←hc] at e4;clear hc;have hx:ctI m=⟨1,2,48,8,[],[],decide (m≠0),beI 8 m 8⟩:=rfl;have lb:(beI 8 m 8).length=8:=qU;have e1:=qJu (b:=beI 8 m 8) oM;have o:qEo ((beI 8 m 8),0,0):=⟨sM,by show (beI 8 m 8).length<1000000000;omega⟩;have e2:=wU (s:=(beI 8 m 8,0,0)) (k:=8) ⟨o,oM,oM⟩;have hr : ∃ p,qQ (beI 8 m 8,0,0) 8=(m,(beI 8 m 8,p,0)):=by
  have A:At (beI 8 m 8) 0 (beI 8 m 8++[]):=⟨[],rfl,sM⟩;obtain⟨p,h,_⟩ : ∃ p,qQ (beI 8 m 8,0,0) 8=(m,(beI 8 m 8,p,0))∧At (beI 8 m 8) p []:=⟨_,At.uint A (.inl ⟨rfl,oM⟩)⟩;exact⟨p,h⟩
 obtain⟨p,hr⟩:=hr;rw[hr,show ((8:Nat):Int)=8 from rfl] at e2;generalize ctI (m+1)=y at *;have cz:((0:Nat):Int)=0:=rfl;have w1 : ¬ (1099511627776≤m):=oM;have mx:(if m+1>m then m+1 else m)=m+1:=if_pos oM;simp only[rdO,cz] at e1 e2;rcases Decidable.em (m=0) with rfl | hm0
 ·have hx0:ctI 0=⟨1,2,48,8,[],[],false,beI 8 0 8⟩:=rfl;clear hx;simp only[hx0,ixA,map_nil] at e4;generalize beI 8 0 8=B at *;have c1:(0:Int)+1=1:=rfl;simp only[c1] at hK u t8 l8 e4 mx;simp(disch:=omega)only[go_sem,xD,hx0,ixA,u,t8,l8,h3,h4,e4];repeat refine aiG ?_
  exact hK _ rfl
 ·simp only[decide_eq_true hm0] at hx;simp only[hx,ixA,map_nil] at e4;generalize beI 8 m 8=B at *;simp(disch:=omega)only[go_sem,xD,hx,ixA,h1,e1,h2,e2,w1,u,t8,l8,h3,h4,e4,mx];repeat refine aiG ?_
  exact hK _ rfl
end Go.Eng
end
section
set_option maxRecDepth 20000
set_option maxHeartbeats 64000000
namespace Go.Eng
open List
variable (tab:Tab) (gl:Gl)
variable {vv:V} {oo:List Ob}
open Go.MuLone
theorem jOq {F:Nat→Prop}{w:World}{x:UInt8}{v:Value}(h0:Rep F w (.sl [qA x]) v) : ∃ blk off cap,v = .slice (some ⟨blk,off,none⟩) 1 cap∧w.cell? ⟨blk,off,none⟩=some (.int .u8 x.toNat):=by
 generalize hes:[qA x]=es at h0;have hlen:es.length=1:=by rw[←hes];rfl
 cases h0 with
 | nil=>simp at hlen
 | sl _ ad cap sz news ha hc hn h1 hF hw hz h=>
  have hne:es≠[]:=by intro e;rw[e] at hlen;simp at hlen
  have hsp:=ha hne;have hsz:sz=1:=by
   have hm:qA x∈es:=by rw[←hes];exact .head _
   exact (hz _ hm).symm
  subst hsz;obtain⟨blk,off,sp⟩:=ad;simp only at hsp;subst hsp;refine⟨blk,off,cap,by rw[hlen],?_⟩;have hi2:0<news.length:=oM;have hu:news[0]?=some news[0]:=getElem?_eq_getElem hi2;have hr:Rep F w (qA x) news[0]:=h 0 (qA x) 0 (qA x) _ (by rw[←hes];rfl) rfl (by rw[Nat.mul_one,Nat.add_zero];exact hu);have hc:=hw 0 _ hu;have e:(⟨blk,off,none⟩:Addr).add 0=⟨blk,off,none⟩:=by unfold Addr.add;split<;>simp_all
  rw[e] at hc;rw[hc];generalize news[0]=u at *;cases hr;rfl
theorem zVf {P:Program}{w:World}{blk off cap:Nat}{x:UInt8}(h:w.cell? ⟨blk,off,none⟩=some (.int .u8 x.toNat)):(Extern.Bytes.bytesOf (.slice (some ⟨blk,off,none⟩) 1 cap)).run P w = .ok ⟨#[x]⟩ w:=by
 have:=Lib.run_loadBytesX (P:=P) (w:=w) [(x.toNat:Int)] ⟨blk,off,none⟩ .empty (fun j y hy=>by
  cases j with
  | zero=>
   simp only[getElem?_cons_zero,Option.some.injEq] at hy;have e:(⟨blk,off,none⟩:Addr).add 0=⟨blk,off,none⟩:=by unfold Addr.add;split<;>simp_all
   rw[e,h,hy]
  | succ j=>simp at hy)
 have hb:Lib.bytesOf [(x.toNat:Int)]=[x]:=by
  unfold Lib.bytesOf;simp
 rw[hb] at this;exact this
def zF8:Ct where
 α:=UInt8×UInt8
 aS x:=[.t (.sl ([x.1].map qA)),.t (.sl ([x.2].map qA))]
 ins _:=[]
 pre _:=True
 r x:= .t (.int .i64 (Lib.compareBytes [x.1] [x.2]))
 outs _:=[]
 inj:=by
  rintro⟨a,b⟩ ⟨c,d⟩ h _;simp only[List.cons.injEq,V.t.injEq,T.sl.injEq,and_true,zN] at h;obtain⟨rfl,rfl⟩:=h;exact⟨rfl,rfl⟩
theorem jK7 {x y:UInt8}:zF8.fs [.t (.sl [qA x]),.t (.sl [qA y])] []=some (.t (.int .i64 (Lib.compareBytes [x] [y])),[]):=zF8.eq (x,y) trivial
theorem jNx {P:Program}{G:Nat→Option (List T)}{f:FuncId}{fn:Func}(hf:P.funcs[f]?=some fn)(hname:(fn.name == "runtime.NumGoroutine")=false)(hb:fn.body.isNone=true)(hn:Extern.findNext fn=none)
  (he:Extern.find fn=some Extern.BytealgCompare.compare):FOk P G f zF8.fs:=by
 intro aS ins r outs hs;have key : ∃ (x y:UInt8),aS=[.t (.sl [qA x]),.t (.sl [qA y])]∧ins=[]∧r = .t (.int .i64 (Lib.compareBytes [x] [y]))∧outs=[]:=by
  unfold Ct.fs at hs;split at hs
  ·rename_i hx;cases hs;have h1:=hx.choose_spec;generalize hx.choose=y at h1 ⊢;obtain⟨⟨rfl,rfl⟩,h3⟩:=h1;exact⟨y.1,y.2,rfl,rfl,rfl,rfl⟩
  ·cases hs
 obtain⟨x,y,rfl,rfl,rfl,rfl⟩:=key;intro w β F vals env fits hargs;have hβ : ∀ k,β k=none:=fun k=>fits.dom k (Nat.zero_le _)
 have hvals : ∃ (b1 o1 c1 b2 o2 c2:Nat),vals = #[.slice (some ⟨b1,o1,none⟩) 1 c1,.slice (some ⟨b2,o2,none⟩) 1 c2]∧w.cell? ⟨b1,o1,none⟩=some (.int .u8 x.toNat)∧w.cell? ⟨b2,o2,none⟩=some (.int .u8 y.toNat):=by
  obtain⟨l⟩:=vals;cases hargs with
  | cons h1 h2=>
   cases h2 with
   | cons h2 h3=>
    cases h3;cases h1 with
    | t h1=>
     cases h2 with
     | t h2=>
      obtain⟨b1,o1,c1,rfl,g1⟩:=jOq h1;obtain⟨b2,o2,c2,rfl,g2⟩:=jOq h2;exact⟨b1,o1,c1,b2,o2,c2,rfl,g1,g2⟩
 obtain⟨b1,o1,c1,b2,o2,c2,rfl,g1,g2⟩:=hvals;have hrun:(Extern.BytealgCompare.compare #[.slice (some ⟨b1,o1,none⟩) 1 c1,.slice (some ⟨b2,o2,none⟩) 1 c2]).run P w = .ok (.int .i64 (Lib.compareBytes [x] [y])) w:=by
  change Sem.run P (do pure (goInt (Extern.BytealgCompare.cmp (←Extern.Bytes.bytesOf (.slice (some ⟨b1,o1,none⟩) 1 c1)) (←Extern.Bytes.bytesOf (.slice (some ⟨b2,o2,none⟩) 1 c2))))) w=_;simp only[Sem.run_bind,Sem.run_pure,zVf g1,zVf g2,Result.andThen];rw[Lib.cmp_eq];rfl
 refine .inr ⟨.int .i64 (Lib.compareBytes [x] [y]),w,?_,.int .i64 (Lib.compareBytes [x] [y]),β,F,rfl,?_⟩
 ·rw[run_callFunc_extern hf hname hb hn he,hrun];rfl
 ·exact⟨⟨fun k o hk=>(by simp at hk),fun k _=>hβ k,fun i j bi bj b h1=>(by rw[hβ] at h1;cases h1),fun k bi b h1=>(by rw[hβ] at h1;cases h1)⟩,.t (.int _ _),fun _ _=>rfl,fun k bi b _ h1=>(by rw[hβ] at h1;cases h1),fun _ _=>Iff.rfl,env.Fw,rfl,rfl,rfl,Nat.le_refl _,fun _ _ _=>rfl⟩
def qOl:ECt where
 α:=List UInt8×List UInt8
 β:=Int
 aS:=fun (a,b)=>[.t (.sl (a.map qA)),.t (.sl (b.map qA))]
 pre:=fun (a,b)=>a.length=1∧b.length=1
 r:=fun r'=> .t (.int .i64 r')
 R:=fun (a,b) r'=>r'=Lib.compareBytes a b
theorem jK4 {g:EF qOl}{a b:List UInt8}(hp:a.length=1∧b.length=1):qOl.fs g [.t (.sl (a.map qA)),.t (.sl (b.map qA))] []=some (.t (.int .i64 (Lib.compareBytes a b)),[]):=fnQ qOl (a,b) hp
theorem zXi {a b:List UInt8}(hV:vv = .t (.int .i64 (Lib.compareBytes a b)))(hO:oo=[]):qOl.K (a,b) vv oo:=⟨_,rfl,hV,hO⟩
theorem qY2 (h1:LkC tab 354 zF8)(a b:List UInt8)(hp:a.length=1∧b.length=1) :
  qDn.1.wp tab gl (qE 0 [.t (.sl (a.map qA)),.t (.sl (b.map qA))]) (qE 0 []) (qV [(4,none)] 0 (qOl.K (a,b))):=by
 obtain⟨ha,hb⟩:=hp
 match a,b,ha,hb with
 | [x],[y],_,_=>
  have e := @jK7 x y;simp(disch:=omega)only[go_sem,qDn,h1,mcn,e];first | exact (zXi rfl rfl) | exact⟨rfl,(zXi rfl rfl)⟩ | exact⟨rfl,rfl,(zXi rfl rfl)⟩ | exact⟨rfl,rfl,rfl,(zXi rfl rfl)⟩
def z7 (x:UInt8):List UInt8:=[0,0,0,0,0,0,0,x]
def qOm:ECt where
 α:=List UInt8×UInt8
 β:=List UInt8
 aS:=fun (a,c)=>[.t (.sl (a.map qA)),.t (qA c)]
 pre:=fun (a,c)=>c=0 ∧ ∃ x,x≠0∧a=z7 x
 r:=fun r'=> .t (.sl (r'.map qA))
 R:=fun (a,c) r'=>r'=a.drop 7
theorem jK5 {g:EF qOm}{a:List UInt8}{c:UInt8}(hp:c=0 ∧ ∃ x,x≠0∧a=z7 x):qOm.fs g [.t (.sl (a.map qA)),.t (qA c)] []=some (.t (.sl ((a.drop 7).map qA)),[]):=fnQ qOm (a,c) hp
theorem zXj {a:List UInt8}{c:UInt8}(hV:vv = .t (.sl ((a.drop 7).map qA)))(hO:oo=[]):qOm.K (a,c) vv oo:=⟨_,rfl,hV,hO⟩
theorem qNp  (a:List UInt8)(c:UInt8)(hp:c=0 ∧ ∃ x,x≠0∧a=z7 x) :
  xO.1.wp tab gl (qE 0 [.t (.sl (a.map qA)),.t (qA c)]) (qE 0 []) (qV [(4,none)] 0 (qOm.K (a,c))):=by
 obtain⟨rfl,x,hx,rfl⟩:=hp;simp(disch:=omega)only[go_sem,xO];refine yU (σ:=Nat) (fun k=>k≤7) (fun k=>7-k) (fun k=>[(0,.t (.sl (((z7 x).drop k).map qA))),(1,.t (qA 0))]) (fun _=>[]) 0 oM (qJ.rd id ?_ ?_ rfl) ?_
 ·simp(disch:=omega)only[go_sem,id]
 ·simp(disch:=omega)only[go_sem,id]
 intro k hk;have bx:(x==0)=false:=by simpa using hx
 rcases (by omega:k=7∨k<7) with rfl | h7
 ·have e:(z7 x).drop 7=[x]:=rfl;simp(disch:=omega)only[go_sem,e,mcn,hx];first | exact (zXj rfl rfl) | exact⟨rfl,(zXj rfl rfl)⟩ | exact⟨rfl,rfl,(zXj rfl rfl)⟩ | exact⟨rfl,rfl,rfl,(zXj rfl rfl)⟩
 ·obtain⟨t,ht⟩ : ∃ t,(z7 x).drop k=0::t:=by
   rcases (by omega:k=0∨k=1∨k=2∨k=3∨k=4∨k=5∨k=6) with rfl | rfl | rfl | rfl | rfl | rfl | rfl<;>exact⟨_,rfl⟩
  have hd:(z7 x).drop (k+1)=t:=by rw[←drop_drop,ht];rfl
  simp(disch:=omega)only[go_sem,ht,map_cons];refine qZz.of (k+1) oM oM (qJ.rd id ?_ ?_ rfl);all_goals simp(disch:=omega)only[go_sem,id,hd]
def zMo:Ct where
 α:=List UInt8
 aS a:=[.t (.sl (a.map qA)),.t (qKe [0])]
 ins _:=[]
 pre a := ∃ x,x≠0∧a=z7 x
 r a:= .t (.sl ((a.drop 7).map qA))
 outs _:=[]
 inj:=by
  rintro a b h _;simp only[List.cons.injEq,V.t.injEq,T.sl.injEq,and_true,zN] at h;obtain rfl:=h;exact⟨rfl,rfl⟩
theorem jC4 {x:UInt8}(h:x≠0):zMo.fs [.t (.sl ((z7 x).map qA)),.t (qKe [0])] []=some (.t (.sl [qA x]),[]):=zMo.eq (z7 x) ⟨x,h,rfl⟩
theorem qWb {g1}(h1:LkE tab 350 qOm g1)(a:List UInt8)(h : ∃ x,x≠0∧a=z7 x):qCj.1.wp tab gl (qE 0 [.t (.sl (a.map qA)),.t (qKe [0])]) (qE 0 []) (qV [(4,none)] 0 (fun r o=>r = .t (.sl ((a.drop 7).map qA))∧o=[])):=by
 obtain⟨x,hx,rfl⟩:=h;have e:=jK5 (g:=g1) (a:=z7 x) (c:=0) ⟨rfl,x,hx,rfl⟩;have l:(z7 x).length=8:=rfl;generalize z7 x=a at *;have s0:qF0 [.t (qKe [0]),.t (.int .i64 0)] = .ret (.t (qA 0),[]):=qYw (i:=0) (by decide);simp(disch:=omega)only[go_sem,qCj,l,h1,e,↓s0]
def qLy:ECt where
 α:=Int×List UInt8×List UInt8
 β:=Bool
 aS:=fun (op,a,b)=>[.t (.int .i64 op),.t (.sl (a.map qA)),.t (.sl (b.map qA))]
 pre:=fun (op,a,b)=>op=2∧(∃ x,x≠0∧a=z7 x) ∧ ∃ y,y≠0∧b=z7 y
 r:=fun r'=> .t (.bool r')
 R:=fun (op,a,b) r'=>r'=decide (a.getD 7 0<b.getD 7 0)
theorem jN5 {g:EF qLy}{op:Int}{a b:List UInt8}(hp:op=2∧(∃ x,x≠0∧a=z7 x) ∧ ∃ y,y≠0∧b=z7 y):qLy.fs g [.t (.int .i64 op),.t (.sl (a.map qA)),.t (.sl (b.map qA))] []=some (.t (.bool (decide (a.getD 7 0<b.getD 7 0))),[]):=fnQ qLy (op,a,b) hp
theorem jUf {op:Int}{a b:List UInt8}(hV:vv = .t (.bool (decide (a.getD 7 0<b.getD 7 0))))(hO:oo=[]):qLy.K (op,a,b) vv oo:=⟨_,rfl,hV,hO⟩
theorem qV5 (h1:LkC tab 345 zMo){g2}(h2:LkE tab 346 qOl g2)(op:Int)(a b:List UInt8)(hp:op=2∧(∃ x,x≠0∧a=z7 x) ∧ ∃ y,y≠0∧b=z7 y) :
  qCr.1.wp tab gl (qE 0 [.t (.int .i64 op),.t (.sl (a.map qA)),.t (.sl (b.map qA))]) (qE 0 []) (qV [(6,none)] 0 (qLy.K (op,a,b))):=by
 obtain⟨rfl,⟨x,hx,rfl⟩,y,hy,rfl⟩:=hp;have e1:=jC4 hx;have e2:=jC4 hy;have e3:=jK4 (g:=g2) (a:=[x]) (b:=[y]) ⟨rfl,rfl⟩;have hd:((z7 x).getD 7 0<(z7 y).getD 7 0)=(x<y):=rfl;have hK : ∀ vv,vv = .t (.bool (decide (x<y)))→qLy.K (2,z7 x,z7 y) vv []:=fun vv h=>jUf h rfl
 clear hd;generalize z7 x=A at *;generalize z7 y=B at *;have hc:(Lib.compareBytes [x] [y]<0)↔x<y:=by
  unfold Lib.compareBytes Lib.compareBytes;constructor
  ·intro h;split at h
   ·assumption
   ·split at h<;>omega
  ·intro h;rw[if_pos h];decide
 generalize Lib.compareBytes [x] [y]=c at *;simp only[mcn] at e3;simp(disch:=omega)only[go_sem,qCr,h1,e1,e2,h2,e3,hc];exact hK _ rfl
end Go.Eng
end
section
set_option maxRecDepth 20000
namespace Go.Eng
open List
open Go.MuLone
variable {cx:Cx} {β:Nat→Option BI} {F:Nat→Prop} {a:Act} {w:World} {fm:Nat→Option V} {hm:Nat→Option Ob}
def jQ4 (t nb z:Nat)(Q:qHw):qHw:=fun e fs hs=>Q e fs hs∨(jM fs t=some .nil∧jM hs nb=none∧Q e ((t,.sl nb 0 0)::fs) ((nb,.live z [] true false)::hs))
theorem zQm {P:Program}{G:Gl}{tab:Tab}{f:FuncId}{fn:Func}{c:Code}{ac:AC}{hints:List (Nat×List Nat)}{rs:List (Nat×Option (Nat×Bool))}(fz:List Nat)(t0 nb z0:Nat)(hf:P.funcs[f]?=some fn)(hb:fn.body=some c)(hann:ann P fn.ntmps hints c=some ac)(hmx:P.follows .mixedOrders=true)
  (ht:qCc P G tab) (hrs:qNk P fn.results.toList=some rs) {aS:List V} {ins:List Ob} {r:V} {outs:List Ob} (hn:aS.length≤fn.ntmps) (hi:ins.length≤100)
  (h:ac.wp tab G (qE 0 aS) (qE 0 ins) (jQ4 t0 nb z0 (kG fz rs ins.length (fun r' outs'=>r'=r∧outs'=outs)))):zMa P G f aS ins r outs:=by
 intro w β F vals env fits hargs;have hd0 : ∀ k bi,β k=some bi→k<100:=by
  intro k bi h;rcases Nat.lt_or_ge k ins.length with h1 | h1
  ·omega
  ·rw[fits.dom k h1] at h;cases h
 let cx:Cx := { P,w0:=w,F0:=F,inb:=fun b => ∃ k bi,β k=some bi∧bi.blk=some b,nt:=fn.ntmps,gl:=G,β0:=β,d0:=hd0 }
 have hlen:aS.length=vals.size:=by simpa using hargs.length
 have lookAs : ∀ t v,jM (qE 0 aS) t=some v→aS[t]?=some v:=by
  intro t v h;simpa [qAq] using h
 have lookIns : ∀ t v,jM (qE 0 ins) t=some v→ins[t]?=some v:=by
  intro t v h;simpa [qAq] using h
 have R0:Rel cx β F (jM (qE 0 aS)) (jM (qE 0 ins)) { tmps:=vals++Array.replicate (fn.ntmps-vals.size) undef,defers:=[] } w:=by
  refine⟨by simp[cx];omega,rfl,fun t v hv=>?_,fun id o ho=>?_,fun id hn=>?_,fun i j bi bj b oi oj h1 h2 h3 h4 _ _ _ _=>fits.inj i j bi bj b h1 h2 h3 h4,rfl,rfl,rfl,Nat.le_refl _,fun _ _ _=>rfl,fun id z es full bi b h1 h2 h3=> .inr ⟨?_,id,bi,h2,h3⟩,fun b hb=>?_,fun b hb=>?_,env.Fw,fun _ _=>Iff.rfl,fun id bi b h1 h2=>(fits.blt id bi b h1 h2).1,fun g cs hg=>?_,fun _ _ h=>h,env.gs⟩
  ·obtain⟨x,h1,h2⟩:=hargs.get' t v (lookAs t v hv);refine⟨x,?_,h2⟩;have hlt:t<vals.size:=by
    have:=(List.getElem?_eq_some_iff.1 (lookAs t v hv)).1;omega
   rw[Array.getElem?_append_left hlt];simpa using h1
  ·obtain⟨bi,h1,h2,_⟩:=fits.ok id o (lookIns id o ho);exact⟨bi,h1,h2⟩
  ·refine fits.dom id ?_;rcases Nat.lt_or_ge id ins.length with h1 | h1
   ·rw[qAq] at hn;simp[h1] at hn
   ·exact h1
  ·have:=(List.getElem?_eq_some_iff.1 (lookIns id _ h1)).1;omega
  ·obtain⟨k,bi,h1,h2⟩:=hb;exact (fits.blt k bi b h1 h2).2
  ·obtain⟨k,bi,h1,h2⟩:=hb;exact (fits.blt k bi b h1 h2).1
  ·exact (env.gl g cs hg).mono (fun _ _ h=>by cases h) (fun _ h=>h) (fun _ _=>rfl)
 refine calls_of_wp hf hb (AC.sound (cx:=cx) ht hmx hann h R0 (fun e fs hs βR FR0 a w' hq R0'=>?_));have key : ∃ (fs2:Fs) (hs2:Hs) (βR2:Nat→Option BI),kG fz rs ins.length (fun r' outs'=>r'=r∧outs'=outs) e fs2 hs2∧Rel cx βR2 FR0 (jM fs2) (jM hs2) a w':=by
  rcases hq with hq | ⟨h1,h2,hq⟩
  ·exact⟨fs,hs,βR,hq,R0'⟩
  ·obtain⟨R1,_⟩:=R0'.virt h2 (full:=false) z0;rw[←qH6] at R1;refine⟨_,_,_,hq,{ R1 with fr:=fun t v hv=>?_ }⟩;unfold jM at hv;split at hv
   ·rename_i ht;subst ht;cases hv;obtain⟨x,hx,hr⟩:=R1.fr _ _ h1;cases hr;exact⟨_,hx,.slv nb z0 0 zG⟩
   ·exact R1.fr t v hv
 clear hq R0';obtain⟨fs,hs,βR,hq,R0'⟩:=key;have fin:((zB4 fz).wp hs (fun fw _=>((rsQ fs rs).bind fun vs=>jEp ins.length vs).wp (zCg hs fw) (fun p _=>p.1=r∧p.2=outs)))→a.defers=[] ∧ ∃ v,(results fn a.tmps).run P w' = .ok v w' ∧ ∃ x β' F',Ending.returned v = .returned x∧qRh w β F ins r outs x β' F' w':=by
  rintro⟨fw,lf,hfz,hq⟩;obtain⟨FR,R,_⟩:=Rel.freezeAll hfz R0' (fun id _=> .inl rfl);rw[←qH6] at R;rw[Q.wp_bind] at hq;obtain⟨vs,l0,hvs,⟨r',outs'⟩,l,hrun,e1,e2⟩:=hq;obtain⟨xs,hxs,hall⟩:=qSa (cx:=cx) R hrs hvs;refine⟨R.dfr,_,qQw hxs,?_⟩;simp only at e1 e2;subst e1 e2;unfold jEp at hrun;obtain⟨us,l1,l2,hp,hrun,_⟩:=zC hrun;obtain⟨q,l3,l4,hqq,hrun,_⟩:=zC hrun;obtain⟨hsub,hrun⟩:=qS hrun;obtain⟨e,_⟩:=qF hrun;simp only[Prod.mk.injEq] at e;obtain⟨rfl,rfl⟩:=e;obtain⟨ids,obs⟩:=q;simp only at hsub ⊢;obtain⟨t,htt⟩:=qQk (s:=0) (m:=ins.length) (n:=40+ins.length) (rest:=qQm us) (by simpa [range_eq_range'] using hqq);obtain⟨hnd,hlo,hG,hin,_,_⟩:=qRw hqq sM rfl (by intro k id o h;simp at h) sM;have hidk : ∀ k,k<ins.length→ids[k]?=some k:=by
   intro k hk;rw[htt,getElem?_append_left (by simpa using hk)];simp[hk]
  have hlive : ∀ (k id:Nat),ids[k]?=some id → ∃ z es full,jM (zCg hs fw) id=some (.live z es true full):=by
   intro k id hk;have hkl:k<obs.length:=by rw[←hlo];exact (List.getElem?_eq_some_iff.1 hk).1
   obtain⟨z,es,es',full,_,g1,_⟩:=hG k id obs[k] hk (by simp[hkl]);exact⟨z,es,full,g1⟩
  have hβk : ∀ k bi,β k=some bi→βR k=some bi:=R.ext0;have hklt : ∀ k bi,β k=some bi→k<ins.length:=by
   intro k bi h;rcases Nat.lt_or_ge k ins.length with h1 | h1
   ·exact h1
   ·rw[fits.dom k h1] at h;cases h
  have hus:qBm (qW βR FR w') us xs:=by
   obtain⟨g1,g2⟩:=qMx hp;refine qXe (by rw[g1];exact hall.length.symm) (fun i c u hc hu=>?_);have hi:i<vs.length:=by rw[←g1];exact (List.getElem?_eq_some_iff.1 hc).1
   obtain⟨li,m1⟩:=g2 i vs[i] c (by simp[hi]) hc;obtain⟨y,h1,h2⟩:=hall.get' i vs[i] (by simp[hi]);rw[hu] at h1;cases h1;exact qGh R m1 h2
  have hren:qBm (qW (qH9 ids βR) FR w') (qHz (fun r=>ids.idxOf r) us) xs:=by
   refine qXe (by rw[zJ];simpa using hus.length.symm) (fun i c u hc hu=>?_);rw[zJ,getElem?_map,Option.map_eq_some_iff] at hc;obtain⟨c0,hc0,rfl⟩:=hc;obtain⟨y,h1,h2⟩:=hus.get' i c0 hc0;rw[hu] at h1;cases h1;refine qX3 h2 (fun r hr=>?_);have:=all_eq_true.1 hsub r (xK (mem_of_getElem? hc0) hr);simpa using this
  have hfits:zW6 (qH9 ids βR) FR w' (obs.map (Ob.ren fun r=>ids.idxOf r)):=by
   refine⟨fun k o ho=>?_,fun k hk=>?_,fun i j bi bj b h1 h2 h3 h4=>?_,fun k bi b h1 h2=>?_⟩
   ·rw[getElem?_map,Option.map_eq_some_iff] at ho;obtain⟨o',ho',rfl⟩:=ho;have hkl:k<ids.length:=by rw[hlo];exact (List.getElem?_eq_some_iff.1 ho').1
    obtain⟨z,es,es',full,lr,g1,g2,g3⟩:=hG k ids[k] o' (by simp[hkl]) ho';obtain⟨bi,hb,hok⟩:=R.hp _ _ g1;refine⟨bi,by simp[qH9,hkl,hb],?_,?_⟩
    ·rw[g2];have l1:=qQr g3;have l2:(qHz (fun r=>ids.idxOf r) es').length=es'.length:=by rw[zJ];simp
     have hii : ∀ r∈qQm es',r∈ids:=fun r hr=>hin o' (mem_of_getElem? ho') z es' true full g2 r (zNj r hr)
     unfold qHv at hok ⊢;obtain⟨k1,k2,k3⟩:=hok;refine⟨k1,fun h=>by rw[l2,l1];exact k2 h,?_⟩;cases hb:bi.blk with
     | none=>
      simp only[hb] at k3 ⊢;refine⟨?_,k3.2⟩;rw[k3.1] at l1;exact eq_nil_of_length_eq_zero (by rw[l2,l1];rfl)
     | some b=>
      simp only[hb] at k3 ⊢;obtain⟨c,e,fz,m1,m2,m3,m4,m5,m6,m7⟩:=k3;exact⟨c,e,fz,m1,m2,m3,by rw[l2,l1];exact m4,m5,zGx (qT3 R g3 m6).2 hii,m7⟩
    ·rw[g2];exact⟨z,_,full,rfl⟩
   ·rw[length_map,←hlo] at hk;simp[qH9,getElem?_eq_none hk]
   ·unfold qH9 at h1 h2;rw[Option.bind_eq_some_iff] at h1 h2;obtain⟨x,hx,h1⟩:=h1;obtain⟨y,hy,h2⟩:=h2;obtain⟨z1,e1,f1,m1⟩:=hlive i x hx;obtain⟨z2,e2,f2,m2⟩:=hlive j y hy;have:=R.inj x y bi bj b _ _ h1 h2 h3 h4 m1 m2 sM sM;subst this;have hi:i<ids.length:=(List.getElem?_eq_some_iff.1 hx).1;have hj:j<ids.length:=(List.getElem?_eq_some_iff.1 hy).1;exact qB9 hnd hi hj (by rw[getElem?_eq_getElem hi] at hx;rw[getElem?_eq_getElem hj] at hy;rw[Option.some.inj hx,Option.some.inj hy])
   ·unfold qH9 at h1;rw[Option.bind_eq_some_iff] at h1;obtain⟨x,hx,h1⟩:=h1;obtain⟨z1,e1,f1,m1⟩:=hlive k x hx;exact⟨R.blt x bi b h1 h2,R.notF m1 h1 h2⟩
  refine⟨_,qH9 ids βR,FR,rfl,hfits,qYj hren,fun k hk=>?_,fun k bi b hk h1 h2=>?_,fun b hb=>R.F0 b hb,R.Fw,R.os,R.tape,R.output,R.size,fun b hb hk=>R.ext b hb (fun ⟨k,bi,h1,h2⟩=>hk k bi h1 h2)⟩
  ·obtain⟨bi,h1,_⟩:=fits.ok k ins[k] (by simp[hk]);simp[qH9,hidk k hk,hβk k bi h1,h1]
  ·unfold qH9 at h1;rw[Option.bind_eq_some_iff] at h1;obtain⟨id,hid,h1⟩:=h1;obtain⟨z,es,full,hl⟩:=hlive k id hid;rcases R.old id z es full bi b hl h1 h2 with h | ⟨_,k0,bi0,g1,g2⟩
   ·exact h
   ·exfalso;have hk0:=hklt k0 bi0 g1;obtain⟨z0,es0,full0,hl0⟩:=hlive k0 k0 (hidk k0 hk0);have e:=R.inj id k0 bi bi0 b _ _ h1 (hβk k0 bi0 g1) h2 g2 hl hl0 sM sM;subst e;have hi1:k<ids.length:=(List.getElem?_eq_some_iff.1 hid).1;have hi2:id<ids.length:=(List.getElem?_eq_some_iff.1 (hidk id hk0)).1;have:=qB9 hnd hi1 hi2 (by
     have a1:=hid;have a2:=hidk id hk0;rw[getElem?_eq_getElem hi1] at a1;rw[getElem?_eq_getElem hi2] at a2;rw[Option.some.inj a1,Option.some.inj a2])
    omega
 cases e with
 | normal=>exact fin hq
 | ret=>exact fin hq
 | exit id=>exact hq.elim
theorem yEi {P:Program}{G:Gl}{tab:Tab}{f:FuncId}{fn:Func}{c:Code}{ac:AC}{hints:List (Nat×List Nat)}{rs:List (Nat×Option (Nat×Bool))}(t0 nb z0:Nat)(hf:P.funcs[f]?=some fn)(hname:(fn.name == "runtime.NumGoroutine")=false)(hb:fn.body=some c)(hann:ann P fn.ntmps hints c=some ac)(hmx:P.follows .mixedOrders=true)
  (ht:qCc P G tab) (hrs:qNk P fn.results.toList=some rs) (ct:Ct) (hn : ∀ x,(ct.aS x).length≤fn.ntmps) (hi : ∀ x,(ct.ins x).length≤100)
  (h : ∀ x,ct.pre x→ac.wp tab G (qE 0 (ct.aS x)) (qE 0 (ct.ins x)) (jQ4 t0 nb z0 (kG [] rs (ct.ins x).length (fun r' o'=>r'=ct.r x∧o'=ct.outs x)))):FOk P G f ct.fs:=
 ct.ok (fun args w=>run_callFunc_enter hf hname hb args w) (fun x hx=>zQm [] t0 nb z0 hf hb hann hmx ht hrs (hn x) (hi x) (h x hx))
end Go.Eng
end
section
set_option maxHeartbeats 64000000
set_option maxRecDepth 20000
namespace Go.Eng
open List
variable (tab:Tab) (gl:Gl)
variable {vv:V} {oo:List Ob}
def orS (f g:FnS):FnS:=fun a i=>match f a i with
 | some y=>some y
 | none=>g a i
theorem jEd {P:Program}{G:Nat→Option (List T)}{n:FuncId}{f g:FnS}(h1:FOk P G n f)(h2:FOk P G n g):FOk P G n (orS f g):=by
 intro a i r o hs;unfold orS at hs;cases h:f a i with
 | some y=>rw[h] at hs;cases hs;exact h1 a i r o h
 | none=>rw[h] at hs;exact h2 a i r o hs
theorem qCc.hd {P:Program}{G:Nat→Option (List T)}{n:FuncId}{f:FnS}{t:Tab}(h:qCc P G ((n,f)::t)):FOk P G n f:=h n f (if_pos rfl)
structure FsB where
 fs:FnS
def qP2:ECt where
 α:=List Int×Int
 β:=Int
 aS:=fun (l,v)=>[.t (.sl (l.map iT)),.t (.int .i64 v)]
 pre:=fun (l,v)=>l=[]
 r:=fun r'=> .t (.int .i64 r')
 R:=fun (l,v) r'=>r' = -1
theorem jRf {g:EF qP2}{l:List Int}{v:Int}(hp:l=[]):qP2.fs g [.t (.sl (l.map iT)),.t (.int .i64 v)] []=some (.t (.int .i64 (-1)),[]):=fnQ qP2 (l,v) hp
theorem jCk {l:List Int}{v:Int}(hV:vv = .t (.int .i64 (-1)))(hO:oo=[]):qP2.K (l,v) vv oo:=⟨_,rfl,hV,hO⟩
theorem qHu  (l:List Int)(v:Int)(hp:l=[]) :
  vZ.1.wp tab gl (qE 0 [.t (.sl (l.map iT)),.t (.int .i64 v)]) (qE 0 []) (qV [(4,none)] 0 (qP2.K (l,v))):=by
 subst hp;simp(disch:=omega)only[go_sem,vZ,map_nil];refine yU (σ:=Unit) (fun _=>True) (fun _=>0) (fun _=>[(0,.t (.sl [])),(1,.t (.int .i64 v)),(7,.t (.int .i64 0)),(8,.t (.int .i64 0))]) (fun _=>[]) () trivial (qJ.rd id ?_ ?_ rfl) ?_
 ·simp(disch:=omega)only[go_sem,id]
 ·simp(disch:=omega)only[go_sem,id]
 rintro⟨⟩ -;simp(disch:=omega)only[go_sem];first | exact (jCk rfl rfl) | exact⟨rfl,(jCk rfl rfl)⟩ | exact⟨rfl,rfl,(jCk rfl rfl)⟩ | exact⟨rfl,rfl,rfl,(jCk rfl rfl)⟩
def qMd:ECt where
 α:=List Int×Int
 β:=Bool
 aS:=fun (l,v)=>[.t (.sl (l.map iT)),.t (.int .i64 v)]
 pre:=fun (l,v)=>l=[]
 r:=fun r'=> .t (.bool r')
 R:=fun (l,v) r'=>r'=false
theorem jFa {g:EF qMd}{l:List Int}{v:Int}(hp:l=[]):qMd.fs g [.t (.sl (l.map iT)),.t (.int .i64 v)] []=some (.t (.bool (false)),[]):=fnQ qMd (l,v) hp
theorem jCj {l:List Int}{v:Int}(hV:vv = .t (.bool (false)))(hO:oo=[]):qMd.K (l,v) vv oo:=⟨_,rfl,hV,hO⟩
theorem qEs {g1}(h1:LkE tab 298 qP2 g1)(l:List Int)(v:Int)(hp:l=[]) :
  vA.1.wp tab gl (qE 0 [.t (.sl (l.map iT)),.t (.int .i64 v)]) (qE 0 []) (qV [(4,none)] 0 (qMd.K (l,v))):=by
 subst hp;have e:=jRf (g:=g1) (l:=[]) (v:=v) rfl;rw[map_nil] at e;simp(disch:=omega)only[go_sem,vA,map_nil,h1,e];first | exact (jCj rfl rfl) | exact⟨rfl,(jCj rfl rfl)⟩ | exact⟨rfl,rfl,(jCj rfl rfl)⟩ | exact⟨rfl,rfl,rfl,(jCj rfl rfl)⟩
def iOb (x:Ix):Ob:= .live 8 [.t (ixA x)] true true
theorem zTm {x y:Ix}(h:iOb x=iOb y):x=y:=by
 simp only[iOb,Ob.live.injEq,List.cons.injEq,V.t.injEq,zTq,true_and,and_true] at h;exact h
def zMv (n:Nat):Ct where
 α:=Ix
 aS _:=[.t (.sl []),.fn n [.ref 0 0 0]]
 ins x:=[iOb x]
 pre _:=True
 r _:= .t (.int .i64 (-1))
 outs x:=[iOb x]
 inj:=by
  rintro a b _ h;simp only[List.cons.injEq,and_true] at h;obtain rfl:=zTm h;exact⟨rfl,rfl⟩
theorem jMy {n:Nat}{x:Ix}:(zMv n).fs [.t (.sl []),.fn n [.ref 0 0 0]] [.live 8 [.t (ixA x)] true true]=some (.t (.int .i64 (-1)),[.live 8 [.t (ixA x)] true true]):=(zMv n).eq x trivial
theorem qNu (n:Nat)(x:Ix):zX.1.wp tab gl (qE 0 [.t (.sl []),.fn n [.ref 0 0 0]]) (qE 0 [iOb x]) (qV [(4,none)] 1 (fun r o=>r = .t (.int .i64 (-1))∧o=[iOb x])):=by
 simp(disch:=omega)only[go_sem,zX,iOb];refine yU (σ:=Unit) (fun _=>True) (fun _=>0) (fun _=>[(0,.t (.sl [])),(1,.fn n [.ref 0 0 0]),(7,.t (.int .i64 0)),(8,.t (.int .i64 0))]) (fun _=>[(0,.live 8 [.t (ixA x)] true true)]) () trivial (qJ.rd id ?_ ?_ rfl) ?_
 ·simp(disch:=omega)only[go_sem,id]
 ·simp(disch:=omega)only[go_sem,id]
 rintro⟨⟩ -;simp(disch:=omega)only[go_sem]
def zMq (n:Nat):Ct where
 α:=Ix
 aS _:=[.t (.sl []),.fn n [.ref 0 0 0]]
 ins x:=[iOb x]
 pre _:=True
 r _:= .t (.bool false)
 outs x:=[iOb x]
 inj:=by
  rintro a b _ h;simp only[List.cons.injEq,and_true] at h;obtain rfl:=zTm h;exact⟨rfl,rfl⟩
theorem jLm {n:Nat}{x:Ix}:(zMq n).fs [.t (.sl []),.fn n [.ref 0 0 0]] [.live 8 [.t (ixA x)] true true]=some (.t (.bool false),[.live 8 [.t (ixA x)] true true]):=(zMq n).eq x trivial
theorem qJ3 (n:Nat)(h1:tab.look 293=some (zMv n).fs)(x:Ix):zR.1.wp tab gl (qE 0 [.t (.sl []),.fn n [.ref 0 0 0]]) (qE 0 [iOb x]) (qV [(4,none)] 1 (fun r o=>r = .t (.bool false)∧o=[iOb x])):=by
 have e := @jMy n x;simp only[ixA] at e;simp(disch:=omega)only[go_sem,zR,iOb,ixA,h1,e]
def qRl:Ct where
 α:=Unit
 aS _:=[.t (.sl [])]
 ins _:=[]
 pre _:=True
 r _:= .sl 0 0 0
 outs _:=[.live 8 [] true false]
 inj:=fun _ _ _ _=>⟨rfl,rfl⟩
def qXr:Ct where
 α:=Ix
 aS x:=[.t (.sl [ixA x])]
 ins _:=[]
 pre _:=True
 r _:= .sl 0 0 1
 outs x:=[.live 8 [.t (ixA x)] true false]
 inj:=by
  intro a b h _;simp only[List.cons.injEq,V.t.injEq,T.sl.injEq,and_true,zTq] at h;subst h;exact⟨rfl,rfl⟩
noncomputable def zMr:FsB:=⟨orS qRl.fs qXr.fs⟩
theorem jLn:zMr.fs [.t (.sl [])] []=some (.sl 0 0 0,[.live 8 [] true false]):=by
 have e:=qRl.eq () trivial;show orS qRl.fs qXr.fs _ _=_;unfold orS;rw[show qRl.fs [.t (.sl [])] []=some (.sl 0 0 0,[.live 8 [] true false]) from e]
theorem jLo {x:Ix}:zMr.fs [.t (.sl [ixA x])] []=some (.sl 0 0 1,[.live 8 [.t (ixA x)] true false]):=by
 have e:qXr.fs [.t (.sl [ixA x])] []=some (.sl 0 0 1,[.live 8 [.t (ixA x)] true false]):=qXr.eq x trivial;have e0:qRl.fs [.t (.sl [ixA x])] []=none:=by
  unfold Ct.fs;rw[dif_neg];rintro⟨_,h,_⟩;have:=h.1;simp[qRl] at this
 show orS qRl.fs qXr.fs _ _=_;unfold orS;rw[e0];exact e
theorem qUy:zA.1.wp tab gl (qE 0 [.t (.sl [])]) (qE 0 []) (jQ4 2 200 8 (kG [] [(2,none)] 0 (fun r o=>r = .sl 0 0 0∧o=[.live 8 [] true false]))):=by
 simp(disch:=omega)only[go_sem,zA,map_nil,jQ4]
theorem qUz (x:Ix):zA.1.wp tab gl (qE 0 [.t (.sl [ixA x])]) (qE 0 []) (kG [] [(2,none)] 0 (fun r o=>r = .sl 0 0 1∧o=[.live 8 [.t (ixA x)] true false])):=by
 have hz:=yCa (l:=[x]);simp only[mcn] at hz;simp(disch:=omega)only[go_sem,zA,map_cons,hz];exact⟨rfl,trivial⟩
def ctN (s:St)(v:UInt8):Prop:=s.a.ix=[cnI true (z7 v)]∧v≠0∧s.rl=[]
def qL2:ECt where
 α:=St×Av
 β:=Int
 aS:=fun (s,a)=>[.t (stA s),.t (avA a)]
 pre:=fun (s,a) => ∃ v y,ctN s v∧y≠0∧a = .idx 257 2 (z7 y) (inF (cnI true (z7 v)))
 r:=fun e=> .t (.int .i64 e)
 R:=fun (s,a) e => ∀ v y nm,ctN s v→a = .idx 257 2 (z7 y) nm→e=if v<y then 0 else 16
 inj:=by rintro⟨s,a⟩ ⟨s',a'⟩ e _;simp only[qBk,qM7,qVl] at e;obtain⟨rfl,rfl⟩:=e;rfl
theorem jO1 {g:EF qL2}{s:St}{a:Av}(hp : ∃ v y,ctN s v∧y≠0∧a = .idx 257 2 (z7 y) (inF (cnI true (z7 v)))) : ∃ (e:Int),(∀ v y nm,ctN s v→a = .idx 257 2 (z7 y) nm→e=if v<y then 0 else 16)∧qL2.fs g [.t (stA s),.t (avA a)] []=some (.t (.int .i64 e),[]):=qL2.eq g (s,a) hp
theorem jUv {s:St}{a:Av}(e:Int)(hR : ∀ v y nm,ctN s v→a = .idx 257 2 (z7 y) nm→e=if v<y then 0 else 16)(hV:vv = .t (.int .i64 e))(hO:oo=[]):qL2.K (s,a) vv oo:=⟨e,hR,hV,hO⟩
theorem jFj {x y:UInt8}(h:z7 x=z7 y):x=y:=by simpa [z7] using h
theorem jGe {s:St}{v w:UInt8}(h:ctN s v)(g:ctN s w):v=w:=by
 have:=h.1.symm.trans g.1;simp only[cnI,List.cons.injEq,Ix.mk.injEq,true_and,and_true] at this;exact jFj this
theorem qNq {g1}(h1:LkE tab 209 qJb g1){g2}(h2:LkE tab 253 qMd g2){g3}(h3:LkE tab 331 qLy g3)(s:St)(a:Av)(hp : ∃ v y,ctN s v∧y≠0∧a = .idx 257 2 (z7 y) (inF (cnI true (z7 v)))) :
  xS.1.wp tab gl (qE 0 [.t (stA s),.t (avA a)]) (qE 0 []) (qV [(4,none)] 0 (qL2.K (s,a))):=by
 obtain⟨v,y,hv,hy,rfl⟩:=hp;have hK : ∀ e:Int,e=(if v<y then 0 else 16) → ∀ vv,vv = .t (.int .i64 e)→qL2.K (s,.idx 257 2 (z7 y) (inF (cnI true (z7 v)))) vv []:=by
  intro e he vv h;refine jUv e (fun v' y' nm h1 h2=>?_) h rfl;obtain rfl:=jGe hv h1;simp only[Av.idx.injEq,true_and] at h2;obtain rfl:=jFj h2.1;exact he
 have e1:=zTp (g:=g1) (x:=cnI true (z7 v)) (by simp[cnI]);have e2:=jFa (g:=g2) (l:=[]) (v:=1) rfl;have e3:=jN5 (g:=g3) (op:=2) (a:=z7 v) (b:=z7 y) ⟨rfl,⟨v,hv.2.1,rfl⟩,y,hy,rfl⟩;have hd:((z7 v).getD 7 0<(z7 y).getD 7 0)=(v<y):=rfl;simp only[hd] at e3;have ln:=qM9 (x:=cnI true (z7 v));generalize inF (cnI true (z7 v))=N at *;obtain⟨hix,hv0,hrl⟩:=hv;simp only[cnI] at hix e1;generalize z7 v=V at *;generalize z7 y=Y at *;simp only[ixA,map_nil] at e1 e2;simp(disch:=omega)only[go_sem,xS,stA,avA,avL,hix,hrl,mcn];refine yU (σ:=Unit) (fun _=>True) (fun _=>0) (fun _=>[(2,.ref 4096 0 0),(3,.ref 4112 0 0),(9,.t (.sl [ixA ⟨1,2,48,8,[],[],true,V⟩])),(10,.t (.int .i64 1)),(11,.t (.int .i64 0))]) (fun _=>[(4096,.live 30 [.t (stA s)] true true),(4112,.live 10 [.t (avA (.idx 257 2 Y N))] true true)]) () trivial (qJ.rd id ?_ ?_ rfl) ?_
 ·simp(disch:=omega)only[go_sem,id]
 ·simp(disch:=omega)only[go_sem,id,stA,avA,avL,hix,hrl,mcn]
 rintro⟨⟩ -;by_cases c:v<y
 ·rw[decide_eq_true c] at e3;simp(disch:=omega)only[go_sem,stA,avA,avL,ixA,hix,hrl,mcn,h1,e1,h2,e2,h3,e3];repeat refine aiG ?_
  exact hK 0 (by rw[if_pos c]) _ rfl
 ·rw[decide_eq_false c] at e3;simp(disch:=omega)only[go_sem,stA,avA,avL,ixA,hix,hrl,mcn,h1,e1,h2,e2,h3,e3];repeat refine aiG ?_
  exact hK 16 (by rw[if_neg c]) _ rfl
def zW0 (a b:Int):Int:=IntKind.i64.wrap ((BitVec.ofInt 64 a &&& BitVec.ofInt 64 b).toNat:Int)
theorem jSs {a b:Int}:qNf .and .i64 a .i64 b=some (.int .i64 (zW0 a b)):=rfl
theorem zSv {d:List UInt8} : ∀ {l:List (List UInt8)} {k:Nat},(0≤fdL d l k)=(d∈l)
 | [],k=>by simp[fdL]
 | x::r,k=>by
  rw[fdL];split
  ·rename_i h;subst h;simp
  ·rename_i h;rw[zSv (l:=r)];simp only[mem_cons,eq_iff_iff];exact⟨.inr,fun g=>g.resolve_left (fun e=>h e.symm)⟩
def zX4:Ct where
 α:=Bool×Bool×Int
 aS x:=[.t (.bool x.1),.ref 0 0 0,.ref 1 0 0]
 ins x:=[.live 1 [.t (.bool x.2.1)] true true,.live 1 [.t (.int .i64 x.2.2)] true true]
 pre _:=True
 r _:= .tup []
 outs x:=[.live 1 [.t (.bool x.2.1)] true true,.live 1 [.t (.int .i64 (if x.2.1=true∧x.1=false then 16 else x.2.2))] true true]
 inj:=by
  rintro⟨a,b,c⟩ ⟨d,e,f⟩ h h2;simp only[List.cons.injEq,V.t.injEq,T.bool.injEq,T.int.injEq,Ob.live.injEq,true_and,and_true] at h h2;obtain rfl:=h;obtain⟨rfl,rfl⟩:=h2;exact⟨rfl,rfl⟩
theorem zPx {a b:Bool}{c:Int}:zX4.fs [.t (.bool a),.ref 0 0 0,.ref 1 0 0] [.live 1 [.t (.bool b)] true true,.live 1 [.t (.int .i64 c)] true true]=some (.tup [],[.live 1 [.t (.bool b)] true true,.live 1 [.t (.int .i64 (if b=true∧a=false then 16 else c))] true true]):=zX4.eq (a,b,c) trivial
theorem qUw (a b:Bool)(c:Int):qBy.1.wp tab gl (qE 0 [.t (.bool a),.ref 0 0 0,.ref 1 0 0]) (qE 0 [.live 1 [.t (.bool b)] true true,.live 1 [.t (.int .i64 c)] true true]) (qV [] 2 (fun r o=>r = .tup []∧o=[.live 1 [.t (.bool b)] true true,.live 1 [.t (.int .i64 (if b=true∧a=false then 16 else c))] true true])):=by
 cases a<;>cases b;all_goals simp(disch:=omega)only[go_sem,qBy]
def qD8 (s:St)(x:Ses):Av→Ses×Av×Int
 | .reg s0 s1 _=>(if x.kd=2 then { x with up:=s.u } else x,.reg s0 s1 (rgD s.bk s0 s1),0)
 | .loc n=>({ x with lo:=zW0 x.lo n },.loc n,0)
 | .cmd n=>({ x with cm:=n },.cmd n,0)
 | .aut=>({ x with av:=true },.aut,0)
 | .alt bs=>(x,.alt bs,if x.kd=2 ∧ ¬ x.dg∈bs then 16 else 0)
 | .idx n o od nm=>(x,.idx n o od nm,if x.kd=2 ∧ ¬ (s.a.ix.getD 0 default).da.getD 7 0<od.getD 7 0 then 16 else 0)
 | a=>(x,a,0)
def ckP (s:St)(x:Ses)(a:Av):Prop:=(x.kd=2∨x.kd=3)∧match a with
 | .reg _ _ _=>jSe s.bk a∧(x.up = -1∨x.up=s.u)
 | .loc _=>True
 | .cmd n=>x.cm=0∨x.cm=n
 | .aut=>True
 | .alt bs=>bs.length≤8
 | .idx n o od nm=>x.kd=2 ∧ ∃ v y,ctN s v∧y≠0∧n=257∧o=2∧od=z7 y∧nm=inF (cnI true (z7 v))
 | _=>False
def qPq:ECt where
 α:=St×Ses×Av
 β:=Ses×Av×Int
 aS:=fun (s,x,a)=>[.t (stA s),.t (yD x),.t (avA a)]
 pre:=fun (s,x,a)=>(RV s.bk∧0≤s.u)∧ckP s x a
 r:=fun (y,b,e)=> .tup [.t (yD y),.t (avA b),.t (.int .i64 e)]
 R:=fun (s,x,a) (y,b,e)=>(y,b,e)=qD8 s x a
 inj:=by rintro⟨s,x,a⟩ ⟨s',x',a'⟩ e _;simp only[qBk,qM7,qVl] at e;obtain⟨rfl,rfl,rfl⟩:=e;rfl
theorem jO2 {g:EF qPq}{s:St}{x:Ses}{a:Av}(hp:(RV s.bk∧0≤s.u)∧ckP s x a) : ∃ (y:Ses) (b:Av) (e:Int),((y,b,e)=qD8 s x a)∧qPq.fs g [.t (stA s),.t (yD x),.t (avA a)] []=some (.tup [.t (yD y),.t (avA b),.t (.int .i64 e)],[]):=by
 obtain⟨y,h1,h2⟩:=qPq.eq g (s,x,a) hp;exact⟨y.1,y.2.1,y.2.2,h1,h2⟩
theorem vM {s:St}{x:Ses}{a:Av}(y:Ses)(b:Av)(e:Int)(hR:(y,b,e)=qD8 s x a)(hV:vv = .tup [.t (yD y),.t (avA b),.t (.int .i64 e)])(hO:oo=[]):qPq.K (s,x,a) vv oo:=⟨(y,b,e),hR,hV,hO⟩
theorem qZm (h1:LkC tab 302 zX4){g2}(h2:LkE tab 303 qPs g2){g3}(h3:LkE tab 304 qL2 g3)(h6:tab.look 306=some (zMp 307).fs)(s:St)(x:Ses)(a:Av)(hp:(RV s.bk∧0≤s.u)∧ckP s x a) :
  jI.1.wp tab gl (qE 0 [.t (stA s),.t (yD x),.t (avA a)]) (qE 0 []) (qV [(6,(some (8,true))),(7,(some (10,true))),(8,none)] 0 (qPq.K (s,x,a))):=by
 obtain⟨hv,hk,hc⟩:=hp;cases a with
 | reg s0 s1 d=>
  obtain⟨hq,hu⟩:=hc;obtain⟨y,b,e,⟨q1,q2,q3⟩,e1⟩:=jO4 (g:=g2) (s:=s) (x:=x) (a:= .reg s0 s1 d) ⟨hv,hq,hu,hk⟩;obtain⟨m,hm,_⟩:=hq;cases hm;have q3:=q3 s1 rfl;subst q1 q3;have hF:qD8 s x (.reg 0 s1 [])=(y,.reg 0 s1 (rgD s.bk 0 s1),0):=by rw[qD8,q2]
  clear q2;generalize rgD s.bk 0 s1=d at *;simp only[stA,yD,avA,avL,map_nil] at e1;simp(maxSteps:=9^9)(disch:=try exact dS)only[go_sem,jI,stA,yD,avA,avL,h2,e1,map_nil];first | exact (vM y (.reg 0 s1 d) 0 hF.symm rfl rfl) | exact⟨rfl,(vM y (.reg 0 s1 d) 0 hF.symm rfl rfl)⟩ | exact⟨rfl,rfl,(vM y (.reg 0 s1 d) 0 hF.symm rfl rfl)⟩ | exact⟨rfl,rfl,rfl,(vM y (.reg 0 s1 d) 0 hF.symm rfl rfl)⟩
 | loc n=>
  simp(maxSteps:=9^9)(disch:=try exact dS)only[go_sem,jI,stA,yD,avA,avL,jSs,map_nil];first | exact (vM { x with lo:=zW0 x.lo n } (.loc n) 0 rfl rfl rfl) | exact⟨rfl,(vM { x with lo:=zW0 x.lo n } (.loc n) 0 rfl rfl rfl)⟩ | exact⟨rfl,rfl,(vM { x with lo:=zW0 x.lo n } (.loc n) 0 rfl rfl rfl)⟩ | exact⟨rfl,rfl,rfl,(vM { x with lo:=zW0 x.lo n } (.loc n) 0 rfl rfl rfl)⟩
 | aut=>
  simp(maxSteps:=9^9)(disch:=try exact dS)only[go_sem,jI,stA,yD,avA,avL,map_nil];first | exact (vM { x with av:=true } .aut 0 rfl rfl rfl) | exact⟨rfl,(vM { x with av:=true } .aut 0 rfl rfl rfl)⟩ | exact⟨rfl,rfl,(vM { x with av:=true } .aut 0 rfl rfl rfl)⟩ | exact⟨rfl,rfl,rfl,(vM { x with av:=true } .aut 0 rfl rfl rfl)⟩
 | cmd n=>
  obtain⟨kd,no,dg,up,lo,cm,dl,av⟩:=x;simp only at hk hc;have r1 := @zPx true true 0;have r2 := @zPx true false 0;rw[if_neg (by decide)] at r1 r2;by_cases c0:cm=0
  ·subst c0;rcases hk with rfl | rfl;all_goals simp(maxSteps:=9^9)(disch:=try exact dS)only[go_sem,jI,stA,yD,avA,avL,h1,r1,r2,map_nil]
   ·first | exact (vM ⟨2,no,dg,up,lo,n,dl,av⟩ (.cmd n) 0 rfl rfl rfl) | exact⟨rfl,(vM ⟨2,no,dg,up,lo,n,dl,av⟩ (.cmd n) 0 rfl rfl rfl)⟩ | exact⟨rfl,rfl,(vM ⟨2,no,dg,up,lo,n,dl,av⟩ (.cmd n) 0 rfl rfl rfl)⟩ | exact⟨rfl,rfl,rfl,(vM ⟨2,no,dg,up,lo,n,dl,av⟩ (.cmd n) 0 rfl rfl rfl)⟩
   ·first | exact (vM ⟨3,no,dg,up,lo,n,dl,av⟩ (.cmd n) 0 rfl rfl rfl) | exact⟨rfl,(vM ⟨3,no,dg,up,lo,n,dl,av⟩ (.cmd n) 0 rfl rfl rfl)⟩ | exact⟨rfl,rfl,(vM ⟨3,no,dg,up,lo,n,dl,av⟩ (.cmd n) 0 rfl rfl rfl)⟩ | exact⟨rfl,rfl,rfl,(vM ⟨3,no,dg,up,lo,n,dl,av⟩ (.cmd n) 0 rfl rfl rfl)⟩
  ·obtain rfl:cm=n:=hc.resolve_left c0;have c1:(cm==0)=false:=by simpa using c0
   rcases hk with rfl | rfl;all_goals simp(maxSteps:=9^9)(disch:=try exact dS)only[go_sem,jI,stA,yD,avA,avL,h1,r1,r2,c0,c1,beq_self_eq_true,map_nil]
   ·first | exact (vM ⟨2,no,dg,up,lo,cm,dl,av⟩ (.cmd cm) 0 rfl rfl rfl) | exact⟨rfl,(vM ⟨2,no,dg,up,lo,cm,dl,av⟩ (.cmd cm) 0 rfl rfl rfl)⟩ | exact⟨rfl,rfl,(vM ⟨2,no,dg,up,lo,cm,dl,av⟩ (.cmd cm) 0 rfl rfl rfl)⟩ | exact⟨rfl,rfl,rfl,(vM ⟨2,no,dg,up,lo,cm,dl,av⟩ (.cmd cm) 0 rfl rfl rfl)⟩
   ·first | exact (vM ⟨3,no,dg,up,lo,cm,dl,av⟩ (.cmd cm) 0 rfl rfl rfl) | exact⟨rfl,(vM ⟨3,no,dg,up,lo,cm,dl,av⟩ (.cmd cm) 0 rfl rfl rfl)⟩ | exact⟨rfl,rfl,(vM ⟨3,no,dg,up,lo,cm,dl,av⟩ (.cmd cm) 0 rfl rfl rfl)⟩ | exact⟨rfl,rfl,rfl,(vM ⟨3,no,dg,up,lo,cm,dl,av⟩ (.cmd cm) 0 rfl rfl rfl)⟩
 | alt bs=>
  obtain⟨kd,no,dg,up,lo,cm,dl,av⟩:=x;simp only at hk hc;have e1 := @jLl 307 bs ⟨kd,no,dg,up,lo,cm,dl,av⟩ oM;simp only[zSv] at e1;by_cases cm':dg∈bs
  ·have r1 := @zPx true true 0;have r2 := @zPx true false 0;rw[if_neg (by decide)] at r1 r2;simp only[cm',decide_true,yD] at e1;rcases hk with rfl | rfl;all_goals simp(maxSteps:=9^9)(disch:=try exact dS)only[go_sem,jI,stA,yD,avA,avL,h1,h6,r1,r2,e1,map_nil]
   ·first | exact (vM ⟨2,no,dg,up,lo,cm,dl,av⟩ (.alt bs) 0 (by rw[qD8,if_neg (by simp[cm'])]) rfl rfl) | exact⟨rfl,(vM ⟨2,no,dg,up,lo,cm,dl,av⟩ (.alt bs) 0 (by rw[qD8,if_neg (by simp[cm'])]) rfl rfl)⟩ | exact⟨rfl,rfl,(vM ⟨2,no,dg,up,lo,cm,dl,av⟩ (.alt bs) 0 (by rw[qD8,if_neg (by simp[cm'])]) rfl rfl)⟩ | exact⟨rfl,rfl,rfl,(vM ⟨2,no,dg,up,lo,cm,dl,av⟩ (.alt bs) 0 (by rw[qD8,if_neg (by simp[cm'])]) rfl rfl)⟩
   ·first | exact (vM ⟨3,no,dg,up,lo,cm,dl,av⟩ (.alt bs) 0 (by rw[qD8,if_neg sM]) rfl rfl) | exact⟨rfl,(vM ⟨3,no,dg,up,lo,cm,dl,av⟩ (.alt bs) 0 (by rw[qD8,if_neg sM]) rfl rfl)⟩ | exact⟨rfl,rfl,(vM ⟨3,no,dg,up,lo,cm,dl,av⟩ (.alt bs) 0 (by rw[qD8,if_neg sM]) rfl rfl)⟩ | exact⟨rfl,rfl,rfl,(vM ⟨3,no,dg,up,lo,cm,dl,av⟩ (.alt bs) 0 (by rw[qD8,if_neg sM]) rfl rfl)⟩
  ·have r1 := @zPx false true 0;have r2 := @zPx false false 0;rw[if_pos (by decide)] at r1;rw[if_neg (by decide)] at r2;simp only[cm',decide_false,yD] at e1;rcases hk with rfl | rfl;all_goals simp(maxSteps:=9^9)(disch:=try exact dS)only[go_sem,jI,stA,yD,avA,avL,h1,h6,r1,r2,e1,map_nil]
   ·first | exact (vM ⟨2,no,dg,up,lo,cm,dl,av⟩ (.alt bs) 16 (by rw[qD8,if_pos ⟨rfl,cm'⟩]) rfl rfl) | exact⟨rfl,(vM ⟨2,no,dg,up,lo,cm,dl,av⟩ (.alt bs) 16 (by rw[qD8,if_pos ⟨rfl,cm'⟩]) rfl rfl)⟩ | exact⟨rfl,rfl,(vM ⟨2,no,dg,up,lo,cm,dl,av⟩ (.alt bs) 16 (by rw[qD8,if_pos ⟨rfl,cm'⟩]) rfl rfl)⟩ | exact⟨rfl,rfl,rfl,(vM ⟨2,no,dg,up,lo,cm,dl,av⟩ (.alt bs) 16 (by rw[qD8,if_pos ⟨rfl,cm'⟩]) rfl rfl)⟩
   ·first | exact (vM ⟨3,no,dg,up,lo,cm,dl,av⟩ (.alt bs) 0 (by rw[qD8,if_neg sM]) rfl rfl) | exact⟨rfl,(vM ⟨3,no,dg,up,lo,cm,dl,av⟩ (.alt bs) 0 (by rw[qD8,if_neg sM]) rfl rfl)⟩ | exact⟨rfl,rfl,(vM ⟨3,no,dg,up,lo,cm,dl,av⟩ (.alt bs) 0 (by rw[qD8,if_neg sM]) rfl rfl)⟩ | exact⟨rfl,rfl,rfl,(vM ⟨3,no,dg,up,lo,cm,dl,av⟩ (.alt bs) 0 (by rw[qD8,if_neg sM]) rfl rfl)⟩
 | idx n o od nm=>
  obtain⟨kd,no,dg,up,lo,cm,dl,av⟩:=x;obtain⟨h2,v,y,hv',hy,rfl,rfl,rfl,rfl⟩:=hc;simp only at h2;subst h2;obtain⟨e,q,e1⟩:=jO1 (g:=g3) (s:=s) (a:= .idx 257 2 (z7 y) (inF (cnI true (z7 v)))) ⟨v,y,hv',hy,rfl⟩;have q:=q v y _ hv' rfl;have hF:qD8 s ⟨2,no,dg,up,lo,cm,dl,av⟩ (.idx 257 2 (z7 y) (inF (cnI true (z7 v))))=(⟨2,no,dg,up,lo,cm,dl,av⟩,.idx 257 2 (z7 y) (inF (cnI true (z7 v))),e):=by
   rw[qD8,q,hv'.1];have hg:(List.getD [cnI true (z7 v)] 0 default).da.getD 7 0=v:=rfl;have hy7:(z7 y).getD 7 0=y:=rfl;rw[hg,hy7];by_cases c:v<y
   ·rw[if_pos c,if_neg (fun h=>h.2 c)]
   ·rw[if_neg c,if_pos ⟨rfl,c⟩]
  clear q hv';generalize inF (cnI true (z7 v))=N at *;generalize z7 y=Y at *;simp only[stA,avA,avL,map_nil] at e1;simp(maxSteps:=9^9)(disch:=try exact dS)only[go_sem,jI,stA,yD,avA,avL,h3,e1,map_nil];first | exact (vM ⟨2,no,dg,up,lo,cm,dl,av⟩ (.idx 257 2 Y N) e hF.symm rfl rfl) | exact⟨rfl,(vM ⟨2,no,dg,up,lo,cm,dl,av⟩ (.idx 257 2 Y N) e hF.symm rfl rfl)⟩ | exact⟨rfl,rfl,(vM ⟨2,no,dg,up,lo,cm,dl,av⟩ (.idx 257 2 Y N) e hF.symm rfl rfl)⟩ | exact⟨rfl,rfl,rfl,(vM ⟨2,no,dg,up,lo,cm,dl,av⟩ (.idx 257 2 Y N) e hF.symm rfl rfl)⟩
 | apr _ _=>exact hc.elim
def asF (s:St)(h:Int)(a:Av):St×Int:=
 let x:=(qF5 s h).2.1
 if (qD8 s x a).2.2=0 then (exS s (qF5 s h).1 (qD8 s x a).1 (qD8 s x a).2.1,0) else (default,(qD8 s x a).2.2)
def fmP:Av→Prop
 | .reg s0 s1 d=>s0=0∧(0≤s1∧s1≤65535)∧d=[]
 | .apr _ _=>False
 | .idx .. => False
 | a=>a.Ok
def fmQ (a:Av):Prop:=fmP a ∨ ∃ od nm,a = .idx 257 2 od nm∧od.length=8∧nm.length=32
theorem jEw {s:St}{x:Ses}{a:Av}(h:fmQ a):(qD8 s x a).2.1.Ok∧(qD8 s x a).1.dg=x.dg:=by
 rcases h with h | ⟨od,nm,rfl,h1,h2⟩
 rotate_left
 ·exact⟨⟨oM,oM,h2⟩,rfl⟩
 cases a with
 | reg s0 s1 d=>
  obtain⟨rfl,h1,_⟩:=h;refine⟨⟨oM,h1,zCb⟩,?_⟩;simp only[qD8];split<;>rfl
 | loc n=>exact⟨h,rfl⟩
 | cmd n=>exact⟨h,rfl⟩
 | aut=>exact⟨h,rfl⟩
 | alt bs=>exact⟨h,rfl⟩
 | idx _ _ _ _=>exact h.elim
 | apr _ _=>exact h.elim
def qPp:ECt where
 α:=St×Int×Av
 β:=St×Int
 aS:=fun (s,h,a)=>[.t (stA s),.t (.int .i64 h),.t (avA a)]
 pre:=fun (s,h,a)=>(RV s.bk∧0≤s.u)∧(s.ses.length=3∧tmI h)∧(qF5 s h).2.2=true∧fmQ a∧ckP s (qF5 s h).2.1 a∧(qF5 s h).2.1.dg.length=32
 r:=fun (t,e)=> .tup [.t (stA t),.t (.int .i64 e)]
 R:=fun (s,h,a) (t,e)=>(t,e)=asF s h a
 inj:=by rintro⟨s,h,a⟩ ⟨s',h',a'⟩ e _;simp only[qBk,qM7,qVl] at e;obtain⟨rfl,rfl,rfl⟩:=e;rfl
theorem jEt {g:EF qPp}{s:St}{h:Int}{a:Av}(hp:(RV s.bk∧0≤s.u)∧(s.ses.length=3∧tmI h)∧(qF5 s h).2.2=true∧fmQ a∧ckP s (qF5 s h).2.1 a∧(qF5 s h).2.1.dg.length=32) : ∃ (t:St) (e:Int),((t,e)=asF s h a)∧qPp.fs g [.t (stA s),.t (.int .i64 h),.t (avA a)] []=some (.tup [.t (stA t),.t (.int .i64 e)],[]):=by
 obtain⟨y,h1,h2⟩:=qPp.eq g (s,h,a) hp;exact⟨y.1,y.2,h1,h2⟩
theorem qAr {s:St}{h:Int}{a:Av}(t:St)(e:Int)(hR:(t,e)=asF s h a)(hV:vv = .tup [.t (stA t),.t (.int .i64 e)])(hO:oo=[]):qPp.K (s,h,a) vv oo:=⟨(t,e),hR,hV,hO⟩
theorem jEf {s:St}{h k:Int}{x:Ses}(e:(k,x,true)=qF5 s h):k=h-768∧0≤k∧k≤2∧x=s.ses.getD k.toNat qDk∧(x.kd=2∨x.kd=3):=by
 unfold qF5 at e;simp only[Prod.mk.injEq] at e;obtain⟨e1,e2,e3⟩:=e;have e3:=e3.symm;simp only[Bool.and_eq_true,Bool.or_eq_true,decide_eq_true_eq] at e3;have e4:(k,x,true)=qDa s h:=by rw[e1,e2];exact Prod.ext rfl (Prod.ext rfl e3.1.symm)
 obtain⟨q1,q2,q3,q4⟩:=jEx e4;exact⟨q1,q2,q3,q4,by rw[e2];exact e3.2⟩
theorem qV6 {g1}(h1:LkE tab 212 qL3 g1)(h2:LkC tab 268 qU7){g3}(h3:LkE tab 241 qLz g3){g4}(h4:LkE tab 269 qPq g4){g5}(h5:LkE tab 215 qJh g5)(s:St)(h:Int)(a:Av)(hp:(RV s.bk∧0≤s.u)∧(s.ses.length=3∧tmI h)∧(qF5 s h).2.2=true∧fmQ a∧ckP s (qF5 s h).2.1 a∧(qF5 s h).2.1.dg.length=32) :
  jB.1.wp tab gl (qE 0 [.t (stA s),.t (.int .i64 h),.t (avA a)]) (qE 0 []) (qV [(6,(some (30,true))),(7,none)] 0 (qPp.K (s,h,a))):=by
 obtain⟨hv,hl,hb,hf,hc,hd⟩:=hp;obtain⟨k,x,b,e,e1⟩:=jEv (g:=g1) (s:=s) (h:=h) hl;have hx:(qF5 s h).2.1=x:=by rw[←e]
 have hb':b=true:=by rw[←e] at hb;exact hb
 subst hb';obtain⟨k1,k2,k3,k4,k5⟩:=jEf e;rw[hx] at hc hd;obtain⟨y,c,er,hR,e4⟩:=jO2 (g:=g4) (s:=s) (x:=x) (a:=a) ⟨hv,hc⟩;have ok:=jEw (s:=s) (x:=x) hf;rw[←hR] at ok;have e5:=jEu (g:=g5) (s:=s) (k:=k) (x:=y) (a:=c) ⟨hl.1,⟨k2,k3⟩,by rw[ok.2];exact hd,ok.1⟩;have hK : ∀ t e',(t,e')=(if er=0 then (exS s k y c,0) else (default,er))→(t,e')=asF s h a:=by
  intro t e' h';have h1:(qF5 s h).1=k:=by rw[←e]
  rw[h'];simp only[asF,hx,h1,←hR]
 clear ok hb hx;have st:=zN2;rcases hf with hf | ⟨od,nm,rfl,h8,h32⟩
 rotate_left
 ·have pk:=qYd (g:=g3) (a:= .idx 257 2 od nm) ⟨oM,oM,h32⟩;simp only[qD8,Prod.mk.injEq] at hR;obtain⟨_,rfl,hr⟩:=hR;clear hc hr;simp only[stA,yD,avA,avL,map_nil] at e1 e4 e5 pk;by_cases c0:er=0
  ·subst c0;simp(maxSteps:=9^9)(disch:=try exact dS)only[go_sem,jB,stA,yD,avA,avL,h1,h2,h3,h4,h5,e1,e4,e5,pk,st,map_nil];first | exact (qAr (exS s k y (.idx 257 2 od nm)) 0 (hK _ _ rfl) rfl rfl) | exact⟨rfl,(qAr (exS s k y (.idx 257 2 od nm)) 0 (hK _ _ rfl) rfl rfl)⟩ | exact⟨rfl,rfl,(qAr (exS s k y (.idx 257 2 od nm)) 0 (hK _ _ rfl) rfl rfl)⟩ | exact⟨rfl,rfl,rfl,(qAr (exS s k y (.idx 257 2 od nm)) 0 (hK _ _ rfl) rfl rfl)⟩
  ·simp(maxSteps:=9^9)(disch:=try exact dS)only[go_sem,jB,stA,yD,avA,avL,h1,h2,h3,h4,h5,e1,e4,e5,pk,st,c0,map_nil];first | exact (qAr default er (hK _ _ (by rw[if_neg c0])) rfl rfl) | exact⟨rfl,(qAr default er (hK _ _ (by rw[if_neg c0])) rfl rfl)⟩ | exact⟨rfl,rfl,(qAr default er (hK _ _ (by rw[if_neg c0])) rfl rfl)⟩ | exact⟨rfl,rfl,rfl,(qAr default er (hK _ _ (by rw[if_neg c0])) rfl rfl)⟩
 cases a
 case reg s0 s1 d=>
  obtain⟨rfl,hs1,rfl⟩:=hf;have pk:=qYd (g:=g3) (a:= .reg 0 s1 z32) ⟨oM,hs1,qAd⟩;have tz:List.take 32 z32=z32:=rfl;simp only[qD8,Prod.mk.injEq] at hR;obtain⟨_,rfl,rfl⟩:=hR;generalize rgD s.bk 0 s1=d at *;simp only[stA,yD,avA,avL,map_nil] at e1 e4 e5 pk;simp(maxSteps:=9^9)(disch:=try exact dS)only[go_sem,jB,stA,yD,avA,avL,h1,h2,h3,h4,h5,e1,e4,e5,pk,st,tz,qAd,map_nil];first | exact (qAr (exS s k y (.reg 0 s1 d)) 0 (hK _ _ rfl) rfl rfl) | exact⟨rfl,(qAr (exS s k y (.reg 0 s1 d)) 0 (hK _ _ rfl) rfl rfl)⟩ | exact⟨rfl,rfl,(qAr (exS s k y (.reg 0 s1 d)) 0 (hK _ _ rfl) rfl rfl)⟩ | exact⟨rfl,rfl,rfl,(qAr (exS s k y (.reg 0 s1 d)) 0 (hK _ _ rfl) rfl rfl)⟩
 case idx=>exact hf.elim
 case apr=>exact hf.elim
 case alt bs=>
  have pk:=qYd (g:=g3) (a:= .alt bs) hf;simp only[qD8,Prod.mk.injEq] at hR;obtain⟨_,rfl,hr⟩:=hR;clear hc;simp only[stA,yD,avA,avL,map_nil] at e1 e4 e5 pk;by_cases c0:er=0
  ·subst c0;simp(maxSteps:=9^9)(disch:=try exact dS)only[go_sem,jB,stA,yD,avA,avL,h1,h2,h3,h4,h5,e1,e4,e5,pk,st,map_nil];first | exact (qAr (exS s k y (.alt bs)) 0 (hK _ _ rfl) rfl rfl) | exact⟨rfl,(qAr (exS s k y (.alt bs)) 0 (hK _ _ rfl) rfl rfl)⟩ | exact⟨rfl,rfl,(qAr (exS s k y (.alt bs)) 0 (hK _ _ rfl) rfl rfl)⟩ | exact⟨rfl,rfl,rfl,(qAr (exS s k y (.alt bs)) 0 (hK _ _ rfl) rfl rfl)⟩
  ·simp(maxSteps:=9^9)(disch:=try exact dS)only[go_sem,jB,stA,yD,avA,avL,h1,h2,h3,h4,h5,e1,e4,e5,pk,st,c0,map_nil];first | exact (qAr default er (hK _ _ (by rw[if_neg c0])) rfl rfl) | exact⟨rfl,(qAr default er (hK _ _ (by rw[if_neg c0])) rfl rfl)⟩ | exact⟨rfl,rfl,(qAr default er (hK _ _ (by rw[if_neg c0])) rfl rfl)⟩ | exact⟨rfl,rfl,rfl,(qAr default er (hK _ _ (by rw[if_neg c0])) rfl rfl)⟩
 case aut=>
  have pk:=qYd (g:=g3) (a:= .aut) hf;simp only[qD8,Prod.mk.injEq] at hR;obtain⟨_,rfl,rfl⟩:=hR;simp only[stA,yD,avA,avL,map_nil] at e1 e4 e5 pk;simp(maxSteps:=9^9)(disch:=try exact dS)only[go_sem,jB,stA,yD,avA,avL,h1,h2,h3,h4,h5,e1,e4,e5,pk,st,map_nil];first | exact (qAr (exS s k y .aut) 0 (hK _ _ rfl) rfl rfl) | exact⟨rfl,(qAr (exS s k y .aut) 0 (hK _ _ rfl) rfl rfl)⟩ | exact⟨rfl,rfl,(qAr (exS s k y .aut) 0 (hK _ _ rfl) rfl rfl)⟩ | exact⟨rfl,rfl,rfl,(qAr (exS s k y .aut) 0 (hK _ _ rfl) rfl rfl)⟩
 case loc n=>
  have pk:=qYd (g:=g3) (a:= .loc n) hf;simp only[qD8,Prod.mk.injEq] at hR;obtain⟨_,rfl,rfl⟩:=hR;simp only[stA,yD,avA,avL,map_nil] at e1 e4 e5 pk;simp(maxSteps:=9^9)(disch:=try exact dS)only[go_sem,jB,stA,yD,avA,avL,h1,h2,h3,h4,h5,e1,e4,e5,pk,st,map_nil];first | exact (qAr (exS s k y (.loc n)) 0 (hK _ _ rfl) rfl rfl) | exact⟨rfl,(qAr (exS s k y (.loc n)) 0 (hK _ _ rfl) rfl rfl)⟩ | exact⟨rfl,rfl,(qAr (exS s k y (.loc n)) 0 (hK _ _ rfl) rfl rfl)⟩ | exact⟨rfl,rfl,rfl,(qAr (exS s k y (.loc n)) 0 (hK _ _ rfl) rfl rfl)⟩
 case cmd n=>
  have pk:=qYd (g:=g3) (a:= .cmd n) hf;simp only[qD8,Prod.mk.injEq] at hR;obtain⟨_,rfl,rfl⟩:=hR;clear hc;simp only[stA,yD,avA,avL,map_nil] at e1 e4 e5 pk;simp(maxSteps:=9^9)(disch:=try exact dS)only[go_sem,jB,stA,yD,avA,avL,h1,h2,h3,h4,h5,e1,e4,e5,pk,st,map_nil];first | exact (qAr (exS s k y (.cmd n)) 0 (hK _ _ rfl) rfl rfl) | exact⟨rfl,(qAr (exS s k y (.cmd n)) 0 (hK _ _ rfl) rfl rfl)⟩ | exact⟨rfl,rfl,(qAr (exS s k y (.cmd n)) 0 (hK _ _ rfl) rfl rfl)⟩ | exact⟨rfl,rfl,rfl,(qAr (exS s k y (.cmd n)) 0 (hK _ _ rfl) rfl rfl)⟩
inductive Cm where
 | up
 | ev (i:Int) (d:List UInt8)
 | op (k:Int)
 | po (h:Int) (a:Av)
 | px (h:Int) (d:List UInt8)
 | pd (h:Int)
 | pr (h:Int) (po au da:List UInt8)
 | un (h s:Int) (v:List UInt8)
 | df
 | ic
 | ap (h:Int) (k r g:List UInt8)
 deriving Inhabited
def avN (h:Int):Av→List Int
 | .reg s0 s1 _=>[h,1,s0,s1,0,0]
 | .loc n=>[h,2,0,0,n,0]
 | .cmd n=>[h,3,0,0,n,0]
 | .idx _ o _ _=>[h,4,0,0,257,o]
 | .aut=>[h,7,0,0,0,0]
 | .alt _=>[h,8,0,0,0,0]
 | .apr _ _=>[h,9,0,0,0,0]
def avB:Av→List (List UInt8)
 | .reg _ _ d=>[d]
 | .idx _ _ od _=>[od]
 | .alt bs=>bs
 | _=>[]
def qC:Cm→Rq
 | .up=>⟨1,[],[],[0],[]⟩
 | .ev i d=>⟨7,[],[],[i],[d]⟩
 | .op k=>⟨16,[],[],[k],[]⟩
 | .po h a=>⟨17,[],[],avN h a,avB a⟩
 | .px h d=>⟨17,[],[],[h,4,0,0,257,2],[d]⟩
 | .pd h=>⟨20,[],[],[h],[]⟩
 | .pr h p au da=>⟨9,[h],[⟨0,[],[]⟩],[3,0,0],[p,au,da]⟩
 | .un h s v=>⟨13,[h],[⟨s,[],v⟩],[],[]⟩
 | .df=>⟨21,[1],[⟨0,[],[]⟩],[1,2,48,8],[[],[]]⟩
 | .ic=>⟨25,[1,257],[⟨0,[],[]⟩],[],[]⟩
 | .ap h k r g=>⟨19,[],[],[h],[k,r,g]⟩
def Cm.Ok:Cm→Prop
 | .up=>True
 | .ev i d=>(0≤i∧i≤15)∧d.length≤100
 | .op k=>2≤k∧k≤3
 | .po h a=>tmI h∧match a with
  | .reg s0 s1 d=>s0=0∧(0≤s1∧s1≤65535)∧d=[]
  | .loc n=>1≤n∧n≤31
  | .cmd n=>n=13
  | .idx _ o od nm=>o=2∧od.length=8∧nm=[]
  | .aut=>True
  | .alt bs=>(2≤bs.length∧bs.length≤3) ∧ ∀ b∈bs,b.length=32
  | .apr _ _=>False
 | .px h d=>tmI h∧d.length=8
 | .pd h=>tmI h
 | .pr h p au da=>(0≤h∧h≤2)∧p.length=32∧au.length≤32∧da.length≤60
 | .un h s v=>(0≤h∧h≤65535)∧(0≤s∧s≤65535)∧v.length≤32
 | .df=>True
 | .ic=>True
 | .ap h k r g=>tmI h∧k.length≤200∧r.length≤60∧g.length≤1000
end Go.Eng
end
