/- A part of an abstract machine, its walks, their tie. -/
import Derived.Test.YteglhhgmfnbalaaGreatDoorK25
import Derived.Lib.BytesEntry
import Derived.Laws.Externs
set_option linter.all false
section
set_option maxHeartbeats 64000000
set_option maxRecDepth 20000
namespace Go.Eng
open List
variable (tab:Tab)(gl:Gl)
variable {vv:V}{oo:List Ob}
def ctI (v:Int):Ix:=cnI (decide (v≠0)) (beI 8 v 8)
theorem jT4:ctI 0=cnI false (List.replicate 8 0):=by rfl
def anI (a b:Int):Int:=IntKind.i64.wrap ((BitVec.ofInt 64 a &&& BitVec.ofInt 64 b).toNat:Int)
theorem yD2 {a b:Int}:qLz .and .i64 a .i64 b=some (.int .i64 (anI a b)):=rfl
def qNt:ECt where
 α:=Int×Int
 β:=Bool
 aS:=λ(k,z)=>[.t (.int .i64 k),.t (.int .i64 z)]
 pre:=λ(k,z)=>k=2/\z=8
 r:=λr'=>.t (.bool r')
 R:=λ(k,z) r'=>r'=true
theorem jMj {g:EF qNt}{k z:Int}(hp:k=2/\z=8):qNt.fs g [.t (.int .i64 k),.t (.int .i64 z)] []=some (.t (.bool (true)),[]):=fnQ qNt (k,z) hp
theorem zXw {k z:Int}(hV:vv=.t (.bool (true)))(hO:oo=[]):qNt.K (k,z) vv oo:=⟨_,rfl,hV,hO⟩
theorem zC7  (k z:Int)(hp:k=2/\z=8) :
  qGe.1.wp tab gl (qD 0 [.t (.int .i64 k),.t (.int .i64 z)]) (qD 0 []) (qZ [(4,none)] 0 (qNt.K (k,z))):=by
 obtain⟨rfl,rfl⟩:=hp;simp(disch:=omega)only[go_sem,qGe];.repeat first|exact(zXw rfl rfl)|refine⟨rfl,?_⟩
def qJ9:ECt where
 α:=Int×Int×Int×Int×List UInt8×List UInt8
 β:=Ix×Int
 aS:=λ(n,k,t,z,au,po)=>[.t (.int .i64 n),.t (.int .i64 k),.t (.int .i64 t),.t (.int .i64 z),.t (.sl (au.map qA)),.t (.sl (po.map qA))]
 pre:=λ(n,k,t,z,au,po)=>n=1/\k=2/\t=48/\z=8/\au=[]/\po=[]
 r:=λ(x,e)=>.tup [.t (ixA x),.t (.int .i64 e)]
 R:=λ(n,k,t,z,au,po)(x,e)=>x=ctI 0/\e=0
theorem jMh {g:EF qJ9}{n k t z:Int}{au po:List UInt8}(hp:n=1/\k=2/\t=48/\z=8/\au=[]/\po=[]):∃(x:Ix)(e:Int),(x=ctI 0/\e=0)/\qJ9.fs g [.t (.int .i64 n),.t (.int .i64 k),.t (.int .i64 t),.t (.int .i64 z),.t (.sl (au.map qA)),.t (.sl (po.map qA))] []=some (.tup [.t (ixA x),.t (.int .i64 e)],[]):=by
 obtain⟨y,h1,h2⟩:=qJ9.eq g (n,k,t,z,au,po) hp;exact⟨y.1,y.2,h1,h2⟩
theorem jUp {n k t z:Int}{au po:List UInt8}(x:Ix)(e:Int)(hR:x=ctI 0/\e=0)(hV:vv=.tup [.t (ixA x),.t (.int .i64 e)])(hO:oo=[]):qJ9.K (n,k,t,z,au,po) vv oo:=⟨(x,e),hR,hV,hO⟩
theorem zI4 {g1}(h1:LkE tab 259 qNt g1)(n k t z:Int)(au po:List UInt8)(hp:n=1/\k=2/\t=48/\z=8/\au=[]/\po=[]) :
  qJe.1.wp tab gl (qD 0 [.t (.int .i64 n),.t (.int .i64 k),.t (.int .i64 t),.t (.int .i64 z),.t (.sl (au.map qA)),.t (.sl (po.map qA))]) (qD 0 []) (qZ [(12,(some (8,true))),(13,none)] 0 (qJ9.K (n,k,t,z,au,po))):=by
 obtain⟨rfl,rfl,rfl,rfl,rfl,rfl⟩:=hp;have e1:=jMj (g:=g1) (k:=2) (z:=8) ⟨rfl,rfl⟩;have hK:∀vv,vv=.tup [.t (ixA (ctI 0)),.t (.int .i64 0)]->qJ9.K (1,2,48,8,[],[]) vv []:=λvv h=>jUp (ctI 0) 0 ⟨rfl,rfl⟩ h rfl
 simp only[jT4,cnI,ixA,map_nil]at hK;have a1:anI 48 21=16:=by decide
 have a2:anI 48 42=32:=by decide
 have a3:anI 48 12=0:=by decide
 simp(disch:=omega)only[go_sem,qJe,h1,e1,map_nil,↓yD2,a1,a2,a3];repeat refine aiG ?_
 exact hK _ rfl
def qNu:ECt where
 α:=Ix×List UInt8
 β:=Ix
 aS:=λ(x,d)=>[.t (ixA x),.t (.sl (d.map qA))]
 pre:=λ(x,d)=>d.length=8
 r:=λr'=>.t (ixA r')
 R:=λ(x,d) r'=>r' = { x with wr:=true,da:=d }
theorem jMk {g:EF qNu}{x:Ix}{d:List UInt8}(hp:d.length=8):qNu.fs g [.t (ixA x),.t (.sl (d.map qA))] []=some (.t (ixA ({ x with wr:=true,da:=d })),[]):=fnQ qNu (x,d) hp
theorem zXx {x:Ix}{d:List UInt8}(hV:vv=.t (ixA ({ x with wr:=true,da:=d })))(hO:oo=[]):qNu.K (x,d) vv oo:=⟨_,rfl,hV,hO⟩
theorem qXz  (x:Ix)(d:List UInt8)(hp:d.length=8) :
  qDd.1.wp tab gl (qD 0 [.t (ixA x),.t (.sl (d.map qA))]) (qD 0 []) (qZ [(4,(some (8,true)))] 0 (qNu.K (x,d))):=by
 simp(disch:=omega)only[go_sem,qDd,ixA];.repeat first|exact(zXx rfl rfl)|refine⟨rfl,?_⟩
def qJ8:ECt where
 α:=Ix×Int
 β:=Ix×Int×Int
 aS:=λ(x,m)=>[.t (ixA x),.t (.int .i64 m)]
 pre:=λ(x,m)=>(0<=m/\m<=1000)/\(x=ctI 0\/x=ctI m)
 r:=λ(y,k,e)=>.tup [.t (ixA y),.t (.int .i64 k),.t (.int .i64 e)]
 R:=λ(x,m)(y,k,e)=>y=ctI (m+1)/\k=m+1/\e=0
theorem jMf {g:EF qJ8}{x:Ix}{m:Int}(hp:(0<=m/\m<=1000)/\(x=ctI 0\/x=ctI m)):∃(y:Ix)(k e:Int),(y=ctI (m+1)/\k=m+1/\e=0)/\qJ8.fs g [.t (ixA x),.t (.int .i64 m)] []=some (.tup [.t (ixA y),.t (.int .i64 k),.t (.int .i64 e)],[]):=by
 obtain⟨y,h1,h2⟩:=qJ8.eq g (x,m) hp;exact⟨y.1,y.2.1,y.2.2,h1,h2⟩
theorem jUo {x:Ix}{m:Int}(y:Ix)(k e:Int)(hR:y=ctI (m+1)/\k=m+1/\e=0)(hV:vv=.tup [.t (ixA y),.t (.int .i64 k),.t (.int .i64 e)])(hO:oo=[]):qJ8.K (x,m) vv oo:=⟨(y,k,e),hR,hV,hO⟩
theorem qSz (h1:LkC tab 83 qE5)(h2:LkC tab 109 qE4)(h3:LkC tab 63 yQ){g4}(h4:LkE tab 267 qNu g4)(x:Ix)(m:Int)(hp:(0<=m/\m<=1000)/\(x=ctI 0\/x=ctI m)) :
  kO.1.wp tab gl (qD 0 [.t (ixA x),.t (.int .i64 m)]) (qD 0 []) (qZ [(4,(some (8,true))),(5,none),(6,none)] 0 (qJ8.K (x,m))):=by
 obtain⟨hm,hx⟩:=hp;have hc:∀v,ctI (m+1) = { ctI v with wr:=true,da:=beI 8 (m+1) 8 }:=λv=>by
  unfold ctI cnI;rw[decide_eq_true (show m+1≠0 by omega)]
 have u:=qUd (b:=[]) (n:=m+1) sM;simp only[map_nil,nil_append,length_nil]at u;have l8:(beI 8 (m+1) 8).length=8:=qN;have t8:List.take 8 (beI 8 (m+1) 8)=beI 8 (m+1) 8:=take_of_length_le oM;have e4:∀v,_:=λv=>jMk (g:=g4) (x:=ctI v) (d:=beI 8 (m+1) 8) l8
 have hK:∀vv,vv=.tup [.t (ixA (ctI (m+1))),.t (.int .i64 (m+1)),.t (.int .i64 0)]->qJ8.K (x,m) vv []:=λvv h=>jUo (ctI (m+1)) (m+1) 0 ⟨rfl,rfl,rfl⟩ h rfl
 have w1:¬ (1099511627776<=m):=oM;have mx:(if m+1>m then m+1 else m)=m+1:=if_pos oM;have hx':x=ctI 0\/m≠0/\x=ctI m:=by
  rcases hx with h|h
  .exact .inl h
  .by_cases c:m=0
   .exact .inl (by rw[h,c])
   .exact .inr ⟨c,h⟩
 clear hx;rcases hx' with rfl|⟨hm0,rfl⟩
 .have hx0:ctI 0=⟨1,2,48,8,[],[],false,beI 8 0 8⟩:=rfl;have e4:=e4 0;rw[<-hc]at e4;clear hc;generalize ctI (m+1)=y at *;simp only[hx0,ixA,map_nil]at e4;simp only[hx0]at hK;generalize beI 8 0 8=B at *;simp(disch:=omega)only[go_sem,kO,hx0,ixA,w1,u,t8,l8,h3,h4,e4,mx];repeat refine aiG ?_
  exact hK _ rfl
 .have hx:ctI m=⟨1,2,48,8,[],[],decide (m≠0),beI 8 m 8⟩:=rfl;have e4:=e4 m;rw[<-hc]at e4;clear hc;have lb:(beI 8 m 8).length=8:=qN;have e1:=qIm (b:=beI 8 m 8) oM;have o:qG4 ((beI 8 m 8),0,0):=⟨sM,by show(beI 8 m 8).length<1000000000;omega⟩;have e2:=wW (s:=(beI 8 m 8,0,0)) (k:=8) ⟨o,oM,oM⟩;have hr:∃p,qI (beI 8 m 8,0,0) 8=(m,(beI 8 m 8,p,0)):=by
   have A:At (beI 8 m 8) 0 (beI 8 m 8++[]):=⟨[],rfl,sM⟩;obtain⟨p,h,_⟩:∃p,qI (beI 8 m 8,0,0) 8=(m,(beI 8 m 8,p,0))/\At (beI 8 m 8) p []:=⟨_,At.uint A (.inl ⟨rfl,oM⟩)⟩;exact⟨p,h⟩
  obtain⟨p,hr⟩:=hr;rw[hr,show((8:Nat):Int)=8 from rfl]at e2;generalize ctI (m+1)=y at *;have cz:((0:Nat):Int)=0:=rfl;simp only[rdO,cz]at e1 e2;simp only[decide_eq_true hm0]at hx;simp only[hx,ixA,map_nil]at e4;simp only[hx]at hK;generalize beI 8 m 8=B at *;simp(disch:=omega)only[go_sem,kO,hx,ixA,h1,e1,h2,e2,w1,u,t8,l8,h3,h4,e4,mx];repeat refine aiG ?_
  exact hK _ rfl
def qNs:ECt where
 α:=Ix×Int×Int
 β:=Bool
 aS:=λ(x,o,z)=>[.t (ixA x),.t (.int .i64 o),.t (.int .i64 z)]
 pre:=λ(x,o,z)=>x.da.length=8/\o=0/\z=8
 r:=λr'=>.t (.bool r')
 R:=λ(x,o,z) r'=>r'=true
theorem jMg {g:EF qNs}{x:Ix}{o z:Int}(hp:x.da.length=8/\o=0/\z=8):qNs.fs g [.t (ixA x),.t (.int .i64 o),.t (.int .i64 z)] []=some (.t (.bool (true)),[]):=fnQ qNs (x,o,z) hp
theorem zXv {x:Ix}{o z:Int}(hV:vv=.t (.bool (true)))(hO:oo=[]):qNs.K (x,o,z) vv oo:=⟨_,rfl,hV,hO⟩
theorem qZa  (x:Ix)(o z:Int)(hp:x.da.length=8/\o=0/\z=8) :
  qEo.1.wp tab gl (qD 0 [.t (ixA x),.t (.int .i64 o),.t (.int .i64 z)]) (qD 0 []) (qZ [(6,none)] 0 (qNs.K (x,o,z))):=by
 obtain⟨h8,rfl,rfl⟩:=hp;simp(disch:=omega)only[go_sem,qEo,ixA,h8];.repeat first|exact(zXv rfl rfl)|refine⟨rfl,?_⟩
def rdE (v:Int):Int:=if v=0 then 22 else 0
def rdD (v:Int):List UInt8:=if v=0 then [] else beI 8 v 8
def qKa:ECt where
 α:=Ix×Int×Int
 β:=List UInt8×Int
 aS:=λ(x,o,z)=>[.t (ixA x),.t (.int .i64 o),.t (.int .i64 z)]
 pre:=λ(x,o,z)=>(∃v,x=ctI v)/\o=0/\z=8
 r:=λ(d,e)=>.tup [.t (.sl (d.map qA)),.t (.int .i64 e)]
 R:=λ(x,o,z)(d,e)=>∀v,x=ctI v->d=rdD v/\e=rdE v
theorem jMi {g:EF qKa}{x:Ix}{o z:Int}(hp:(∃v,x=ctI v)/\o=0/\z=8):∃(d:List UInt8)(e:Int),(∀v,x=ctI v->d=rdD v/\e=rdE v)/\qKa.fs g [.t (ixA x),.t (.int .i64 o),.t (.int .i64 z)] []=some (.tup [.t (.sl (d.map qA)),.t (.int .i64 e)],[]):=by
 obtain⟨y,h1,h2⟩:=qKa.eq g (x,o,z) hp;exact⟨y.1,y.2,h1,h2⟩
theorem jUq {x:Ix}{o z:Int}(d:List UInt8)(e:Int)(hR:∀v,x=ctI v->d=rdD v/\e=rdE v)(hV:vv=.tup [.t (.sl (d.map qA)),.t (.int .i64 e)])(hO:oo=[]):qKa.K (x,o,z) vv oo:=⟨(d,e),hR,hV,hO⟩
theorem zF8 {g1}(h1:LkE tab 266 qNs g1)(x:Ix)(o z:Int)(hp:(∃v,x=ctI v)/\o=0/\z=8) :
  qD2.1.wp tab gl (qD 0 [.t (ixA x),.t (.int .i64 o),.t (.int .i64 z)]) (qD 0 []) (qZ [(6,none),(7,none)] 0 (qKa.K (x,o,z))):=by
 obtain⟨⟨v,rfl⟩,rfl,rfl⟩:=hp;have hv:∀v',ctI v=ctI v'->rdD v=rdD v'/\rdE v=rdE v':=by
  intro v' h;unfold ctI cnI at h;simp only[Ix.mk.injEq,true_and]at h;obtain⟨h1,h2⟩:=h;have e:(v=0)=(v'=0):=by
   have:=(decide_eq_decide.1 h1);exact propext (by simpa using Decidable.not_iff_not.1 this)
  unfold rdD rdE;rw[h2];simp only[e,and_self]
 have hx:ctI v=⟨1,2,48,8,[],[],decide (v≠0),beI 8 v 8⟩:=rfl;have lb:(beI 8 v 8).length=8:=qN;have e1:=jMg (g:=g1) (x:=ctI v) (o:=0) (z:=8) ⟨lb,rfl,rfl⟩;have t8:List.take 8 (beI 8 v 8)=beI 8 v 8:=take_of_length_le oM;have hK:∀vv,vv=.tup [.t (.sl ((rdD v).map qA)),.t (.int .i64 (rdE v))]->qKa.K (ctI v,0,8) vv []:=λvv h=>jUq (rdD v) (rdE v) hv h rfl
 clear hv;unfold rdD rdE at hK;by_cases c:v=0
 .rw[decide_eq_false (by simpa using c)]at hx;simp only[c,if_true,map_nil]at hK;rw[c]at hx;simp only[hx,ixA,map_nil]at e1 hK;simp(disch:=omega)only[go_sem,qD2,hx,ixA,c];repeat refine aiG ?_
  exact hK _ rfl
 .rw[decide_eq_true c]at hx;simp only[if_neg c]at hK;simp only[hx,ixA,map_nil]at e1 hK;generalize beI 8 v 8=B at *;simp(disch:=omega)only[go_sem,qD2,hx,ixA,h1,e1,lb,t8];repeat refine aiG ?_
  exact hK _ rfl
end Go.Eng
end
section
set_option maxRecDepth 20000
set_option maxHeartbeats 64000000
namespace Go.Eng
open List
variable (tab:Tab)(gl:Gl)
variable {vv:V}{oo:List Ob}
open Go.MuLone
theorem jPa {F:Nat->Prop}{w:World}{x:UInt8}{v:Value}(h0:Rep F w (.sl [qA x]) v):∃blk off cap,v=.slice (some ⟨blk,off,none⟩) 1 cap/\w.cell? ⟨blk,off,none⟩=some (.int .u8 x.toNat):=by
 generalize hes:[qA x]=es at h0;have hlen:es.length=1:=by rw[<-hes];rfl
 cases h0 with
 |nil=>simp at hlen
 |sl _ ad cap sz news ha hc hn h1 hF hw hz h=>
  have hne:es≠[]:=by intro e;rw[e]at hlen;simp at hlen
  have hsp:=ha hne;have hsz:sz=1:=by
   have hm:qA x∈es:=by rw[<-hes];exact .head _
   exact(hz _ hm).symm
  subst hsz;obtain⟨blk,off,sp⟩:=ad;simp only at hsp;subst hsp;refine⟨blk,off,cap,by rw[hlen],?_⟩;have hi2:0<news.length:=oM;have hu:news[0]?=some news[0]:=getElem?_eq_getElem hi2;have hr:Rep F w (qA x) news[0]:=h 0 (qA x) 0 (qA x) _ (by rw[<-hes];rfl) rfl (by rw[Nat.mul_one,Nat.add_zero];exact hu);have hc:=hw 0 _ hu;have e:(⟨blk,off,none⟩:Addr).add 0=⟨blk,off,none⟩:=by unfold Addr.add;split<;>simp_all
  rw[e]at hc;rw[hc];generalize news[0]=u at *;cases hr;rfl
theorem zTy {P:Program}{w:World}{blk off cap:Nat}{x:UInt8}(h:w.cell? ⟨blk,off,none⟩=some (.int .u8 x.toNat)):(Extern.Bytes.bytesOf (.slice (some ⟨blk,off,none⟩) 1 cap)).run P w=.ok ⟨#[x]⟩ w:=by
 have:=Lib.run_loadBytesX (P:=P) (w:=w) [(x.toNat:Int)] ⟨blk,off,none⟩ .empty (λj y hy=>by
  cases j with
  |zero=>
   simp only[getElem?_cons_zero,Option.some.injEq]at hy;have e:(⟨blk,off,none⟩:Addr).add 0=⟨blk,off,none⟩:=by unfold Addr.add;split<;>simp_all
   rw[e,h,hy]
  |succ j=>simp at hy)
 have hb:Lib.bytesOf [(x.toNat:Int)]=[x]:=by
  unfold Lib.bytesOf;simp
 rw[hb]at this;exact this
def zEd:Ct where
 α:=UInt8×UInt8
 aS x:=[.t (.sl ([x.1].map qA)),.t (.sl ([x.2].map qA))]
 ins _:=[]
 pre _:=True
 r x:= .t (.int .i64 (Lib.compareBytes [x.1] [x.2]))
 outs _:=[]
 inj:=by
  rintro⟨a,b⟩ ⟨c,d⟩ h _;simp only[List.cons.injEq,V.t.injEq,T.sl.injEq,and_true,jC]at h;obtain⟨rfl,rfl⟩:=h;exact⟨rfl,rfl⟩
theorem jKt {x y:UInt8}:zEd.fs [.t (.sl [qA x]),.t (.sl [qA y])] []=some (.t (.int .i64 (Lib.compareBytes [x] [y])),[]):=zEd.eq (x,y) trivial
theorem jOe {P:Program}{G:Nat->Option (List T)}{f:FuncId}{fn:Func}(hf:P.funcs[f]?=some fn)(hname:(fn.name == "runtime.NumGoroutine")=false)(hb:fn.body.isNone=true)(hn:Extern.findNext fn=none)
  (he:Extern.find fn=some Extern.BytealgCompare.compare):FOk P G f zEd.fs:=by
 intro aS ins r outs hs;have key:∃(x y:UInt8),aS=[.t (.sl [qA x]),.t (.sl [qA y])]/\ins=[]/\r=.t (.int .i64 (Lib.compareBytes [x] [y]))/\outs=[]:=by
  unfold Ct.fs at hs;split at hs
  .rename_i hx;cases hs;have h1:=hx.choose_spec;generalize hx.choose=y at h1⊢;obtain⟨⟨rfl,rfl⟩,h3⟩:=h1;exact⟨y.1,y.2,rfl,rfl,rfl,rfl⟩
  .cases hs
 obtain⟨x,y,rfl,rfl,rfl,rfl⟩:=key;intro w β F vals env fits hargs;have hβ:∀k,β k=none:=λk=>fits.dom k (Nat.zero_le _)
 have hvals:∃(b1 o1 c1 b2 o2 c2:Nat),vals = #[.slice (some ⟨b1,o1,none⟩) 1 c1,.slice (some ⟨b2,o2,none⟩) 1 c2]/\w.cell? ⟨b1,o1,none⟩=some (.int .u8 x.toNat)/\w.cell? ⟨b2,o2,none⟩=some (.int .u8 y.toNat):=by
  obtain⟨l⟩:=vals;cases hargs with
  |cons h1 h2=>
   cases h2 with
   |cons h2 h3=>
    cases h3;cases h1 with
    |t h1=>
     cases h2 with
     |t h2=>
      obtain⟨b1,o1,c1,rfl,g1⟩:=jPa h1;obtain⟨b2,o2,c2,rfl,g2⟩:=jPa h2;exact⟨b1,o1,c1,b2,o2,c2,rfl,g1,g2⟩
 obtain⟨b1,o1,c1,b2,o2,c2,rfl,g1,g2⟩:=hvals;have hrun:(Extern.BytealgCompare.compare #[.slice (some ⟨b1,o1,none⟩) 1 c1,.slice (some ⟨b2,o2,none⟩) 1 c2]).run P w=.ok (.int .i64 (Lib.compareBytes [x] [y])) w:=by
  change Sem.run P (do pure (goInt (Extern.BytealgCompare.cmp (<-Extern.Bytes.bytesOf (.slice (some ⟨b1,o1,none⟩) 1 c1)) (<-Extern.Bytes.bytesOf (.slice (some ⟨b2,o2,none⟩) 1 c2))))) w=_;simp only[Sem.run_bind,Sem.run_pure,zTy g1,zTy g2,Result.andThen];rw[Lib.cmp_eq];rfl
 refine .inr ⟨.int .i64 (Lib.compareBytes [x] [y]),w,?_,.int .i64 (Lib.compareBytes [x] [y]),β,F,rfl,?_⟩
 .rw[run_callFunc_extern hf hname hb hn he,hrun];rfl
 .exact⟨⟨λk o hk=>(by simp at hk),λk _=>hβ k,λi j bi bj b h1=>(by rw[hβ]at h1;cases h1),λk bi b h1=>(by rw[hβ]at h1;cases h1)⟩,.t (.int _ _),λ_ _=>rfl,λk bi b _ h1=>(by rw[hβ]at h1;cases h1),λ_ _=>Iff.rfl,env.Fw,rfl,rfl,rfl,Nat.le_refl _,λ_ _ _=>rfl⟩
def qNe:ECt where
 α:=List UInt8×List UInt8
 β:=Int
 aS:=λ(a,b)=>[.t (.sl (a.map qA)),.t (.sl (b.map qA))]
 pre:=λ(a,b)=>a.length=1/\b.length=1
 r:=λr'=>.t (.int .i64 r')
 R:=λ(a,b) r'=>r'=Lib.compareBytes a b
theorem jKq {g:EF qNe}{a b:List UInt8}(hp:a.length=1/\b.length=1):qNe.fs g [.t (.sl (a.map qA)),.t (.sl (b.map qA))] []=some (.t (.int .i64 (Lib.compareBytes a b)),[]):=fnQ qNe (a,b) hp
theorem zWb {a b:List UInt8}(hV:vv=.t (.int .i64 (Lib.compareBytes a b)))(hO:oo=[]):qNe.K (a,b) vv oo:=⟨_,rfl,hV,hO⟩
theorem qXr (h1:LkC tab 321 zEd)(a b:List UInt8)(hp:a.length=1/\b.length=1) :
  qC6.1.wp tab gl (qD 0 [.t (.sl (a.map qA)),.t (.sl (b.map qA))]) (qD 0 []) (qZ [(4,none)] 0 (qNe.K (a,b))):=by
 obtain⟨ha,hb⟩:=hp
 match a,b,ha,hb with
 |[x],[y],_,_=>
  have e:=@jKt x y;simp(disch:=omega)only[go_sem,qC6,h1,mcn,e];.repeat first|exact(zWb rfl rfl)|refine⟨rfl,?_⟩
def z7 (x:UInt8):List UInt8:=[0,0,0,0,0,0,0,x]
def qNf:ECt where
 α:=List UInt8×UInt8
 β:=List UInt8
 aS:=λ(a,c)=>[.t (.sl (a.map qA)),.t (qA c)]
 pre:=λ(a,c)=>c=0/\∃x,x≠0/\a=z7 x
 r:=λr'=>.t (.sl (r'.map qA))
 R:=λ(a,c) r'=>r'=a.drop 7
theorem jKr {g:EF qNf}{a:List UInt8}{c:UInt8}(hp:c=0/\∃x,x≠0/\a=z7 x):qNf.fs g [.t (.sl (a.map qA)),.t (qA c)] []=some (.t (.sl ((a.drop 7).map qA)),[]):=fnQ qNf (a,c) hp
theorem zWc {a:List UInt8}{c:UInt8}(hV:vv=.t (.sl ((a.drop 7).map qA)))(hO:oo=[]):qNf.K (a,c) vv oo:=⟨_,rfl,hV,hO⟩
theorem qMh  (a:List UInt8)(c:UInt8)(hp:c=0/\∃x,x≠0/\a=z7 x) :
  xA.1.wp tab gl (qD 0 [.t (.sl (a.map qA)),.t (qA c)]) (qD 0 []) (qZ [(4,none)] 0 (qNf.K (a,c))):=by
 obtain⟨rfl,x,hx,rfl⟩:=hp;simp(disch:=omega)only[go_sem,xA];refine jZ (σ:=Nat) (λk=>k<=7) (λk=>7-k) (λk=>[(0,.t (.sl (((z7 x).drop k).map qA))),(1,.t (qA 0))]) (λ_=>[]) 0 oM (qL.rd id ?_ ?_ rfl) ?_
 .simp(disch:=omega)only[go_sem,id]
 .simp(disch:=omega)only[go_sem,id]
 intro k hk;have bx:(x==0)=false:=by simpa using hx
 rcases(by omega:k=7\/k<7)with rfl|h7
 .have e:(z7 x).drop 7=[x]:=rfl;simp(disch:=omega)only[go_sem,e,mcn,hx];.repeat first|exact(zWc rfl rfl)|refine⟨rfl,?_⟩
 .obtain⟨t,ht⟩:∃t,(z7 x).drop k=0::t:=by
   rcases(by omega:k=0\/k=1\/k=2\/k=3\/k=4\/k=5\/k=6)with rfl|rfl|rfl|rfl|rfl|rfl|rfl<;>exact⟨_,rfl⟩
  have hd:(z7 x).drop (k+1)=t:=by rw[<-drop_drop,ht];rfl
  simp(disch:=omega)only[go_sem,ht,map_cons];refine qYo.of (k+1) oM oM (qL.rd id ?_ ?_ rfl);all_goals simp(disch:=omega)only[go_sem,id,hd]
def zKh:Ct where
 α:=List UInt8
 aS a:=[.t (.sl (a.map qA)),.t (qMf [0])]
 ins _:=[]
 pre a:=∃x,x≠0/\a=z7 x
 r a:= .t (.sl ((a.drop 7).map qA))
 outs _:=[]
 inj:=by
  rintro a b h _;simp only[List.cons.injEq,V.t.injEq,T.sl.injEq,and_true,jC]at h;obtain rfl:=h;exact⟨rfl,rfl⟩
theorem jCd {x:UInt8}(h:x≠0):zKh.fs [.t (.sl ((z7 x).map qA)),.t (qMf [0])] []=some (.t (.sl [qA x]),[]):=zKh.eq (z7 x) ⟨x,h,rfl⟩
theorem qUu {g1}(h1:LkE tab 317 qNf g1)(a:List UInt8)(h:∃x,x≠0/\a=z7 x):qB3.1.wp tab gl (qD 0 [.t (.sl (a.map qA)),.t (qMf [0])]) (qD 0 []) (qZ [(4,none)] 0 (λr o=>r=.t (.sl ((a.drop 7).map qA))/\o=[])):=by
 obtain⟨x,hx,rfl⟩:=h;have e:=jKr (g:=g1) (a:=z7 x) (c:=0) ⟨rfl,x,hx,rfl⟩;have l:(z7 x).length=8:=rfl;generalize z7 x=a at *;have s0:qFg [.t (qMf [0]),.t (.int .i64 0)]=.ret (.t (qA 0),[]):=qXm (i:=0) (by decide);simp(disch:=omega)only[go_sem,qB3,l,h1,e,↓s0]
def qKl:ECt where
 α:=Int×List UInt8×List UInt8
 β:=Bool
 aS:=λ(op,a,b)=>[.t (.int .i64 op),.t (.sl (a.map qA)),.t (.sl (b.map qA))]
 pre:=λ(op,a,b)=>op=2/\(∃x,x≠0/\a=z7 x)/\∃y,y≠0/\b=z7 y
 r:=λr'=>.t (.bool r')
 R:=λ(op,a,b) r'=>r'=decide (a.getD 7 0<b.getD 7 0)
theorem jOl {g:EF qKl}{op:Int}{a b:List UInt8}(hp:op=2/\(∃x,x≠0/\a=z7 x)/\∃y,y≠0/\b=z7 y):qKl.fs g [.t (.int .i64 op),.t (.sl (a.map qA)),.t (.sl (b.map qA))] []=some (.t (.bool (decide (a.getD 7 0<b.getD 7 0))),[]):=fnQ qKl (op,a,b) hp
theorem jWg {op:Int}{a b:List UInt8}(hV:vv=.t (.bool (decide (a.getD 7 0<b.getD 7 0))))(hO:oo=[]):qKl.K (op,a,b) vv oo:=⟨_,rfl,hV,hO⟩
theorem qUq (h1:LkC tab 312 zKh){g2}(h2:LkE tab 313 qNe g2)(op:Int)(a b:List UInt8)(hp:op=2/\(∃x,x≠0/\a=z7 x)/\∃y,y≠0/\b=z7 y) :
  qCb.1.wp tab gl (qD 0 [.t (.int .i64 op),.t (.sl (a.map qA)),.t (.sl (b.map qA))]) (qD 0 []) (qZ [(6,none)] 0 (qKl.K (op,a,b))):=by
 obtain⟨rfl,⟨x,hx,rfl⟩,y,hy,rfl⟩:=hp;have e1:=jCd hx;have e2:=jCd hy;have e3:=jKq (g:=g2) (a:=[x]) (b:=[y]) ⟨rfl,rfl⟩;have hd:((z7 x).getD 7 0<(z7 y).getD 7 0)=(x<y):=rfl;have hK:∀vv,vv=.t (.bool (decide (x<y)))->qKl.K (2,z7 x,z7 y) vv []:=λvv h=>jWg h rfl
 clear hd;generalize z7 x=A at *;generalize z7 y=B at *;have hc:(Lib.compareBytes [x] [y]<0)↔x<y:=by
  unfold Lib.compareBytes Lib.compareBytes;constructor
  .intro h;split at h
   .assumption
   .split at h<;>omega
  .intro h;rw[if_pos h];decide
 generalize Lib.compareBytes [x] [y]=c at *;simp only[mcn]at e3;simp(disch:=omega)only[go_sem,qCb,h1,e1,e2,h2,e3,hc];exact hK _ rfl
end Go.Eng
end
section
set_option maxRecDepth 20000
namespace Go.Eng
open List
open Go.MuLone
variable {cx:Cx}{β:Nat->Option BI}{F:Nat->Prop}{a:Act}{w:World}{fm:Nat->Option V}{hm:Nat->Option Ob}
def jRq (t nb z:Nat)(Q:xV):xV:=λe fs hs=>Q e fs hs\/(jB fs t=some .nil/\jB hs nb=none/\Q e ((t,.sl nb 0 0)::fs) ((nb,.live z [] true false)::hs))
theorem zOn {P:Program}{G:Gl}{tab:Tab}{f:FuncId}{fn:Func}{c:Code}{ac:AC}{hints:List (Nat×List Nat)}{rs:List (Nat×Option (Nat×Bool))}(fz:List Nat)(t0 nb z0:Nat)(hf:P.funcs[f]?=some fn)(hb:fn.body=some c)(hann:ann P fn.ntmps hints c=some ac)(hmx:P.follows .mixedOrders=true)
  (ht:xQ P G tab) (hrs:qMb P fn.results.toList=some rs) {aS:List V} {ins:List Ob} {r:V} {outs:List Ob} (hn:aS.length<=fn.ntmps) (hi:ins.length<=100)
  (h:ac.wp tab G (qD 0 aS) (qD 0 ins) (jRq t0 nb z0 (xO fz rs ins.length (λr' outs'=>r'=r/\outs'=outs)))):zJz P G f aS ins r outs:=by
 intro w β F vals env fits hargs;have hd0:∀k bi,β k=some bi->k<100:=by
  intro k bi h;rcases Nat.lt_or_ge k ins.length with h1|h1
  .omega
  .rw[fits.dom k h1]at h;cases h
 let cx:Cx := { P,w0:=w,F0:=F,inb:=λb=>∃k bi,β k=some bi/\bi.blk=some b,nt:=fn.ntmps,gl:=G,β0:=β,d0:=hd0 }
 have hlen:aS.length=vals.size:=by simpa using hargs.length
 have lookAs:∀t v,jB (qD 0 aS) t=some v->aS[t]?=some v:=by
  intro t v h;simpa [wI]using h
 have lookIns:∀t v,jB (qD 0 ins) t=some v->ins[t]?=some v:=by
  intro t v h;simpa [wI]using h
 have R0:Rel cx β F (jB (qD 0 aS)) (jB (qD 0 ins)) { tmps:=vals++Array.replicate (fn.ntmps-vals.size) undef,defers:=[] } w:=by
  refine⟨by simp[cx];omega,rfl,λt v hv=>?_,λid o ho=>?_,λid hn=>?_,λi j bi bj b oi oj h1 h2 h3 h4 _ _ _ _=>fits.inj i j bi bj b h1 h2 h3 h4,rfl,rfl,rfl,Nat.le_refl _,λ_ _ _=>rfl,λid z es full bi b h1 h2 h3=>.inr ⟨?_,id,bi,h2,h3⟩,λb hb=>?_,λb hb=>?_,env.Fw,λ_ _=>Iff.rfl,λid bi b h1 h2=>(fits.blt id bi b h1 h2).1,λg cs hg=>?_,λ_ _ h=>h,env.gs⟩
  .obtain⟨x,h1,h2⟩:=hargs.get' t v (lookAs t v hv);refine⟨x,?_,h2⟩;have hlt:t<vals.size:=by
    have:=(List.getElem?_eq_some_iff.1 (lookAs t v hv)).1;omega
   rw[Array.getElem?_append_left hlt];simpa using h1
  .obtain⟨bi,h1,h2,_⟩:=fits.ok id o (lookIns id o ho);exact⟨bi,h1,h2⟩
  .refine fits.dom id ?_;rcases Nat.lt_or_ge id ins.length with h1|h1
   .rw[wI]at hn;simp[h1]at hn
   .exact h1
  .have:=(List.getElem?_eq_some_iff.1 (lookIns id _ h1)).1;omega
  .obtain⟨k,bi,h1,h2⟩:=hb;exact(fits.blt k bi b h1 h2).2
  .obtain⟨k,bi,h1,h2⟩:=hb;exact(fits.blt k bi b h1 h2).1
  .exact(env.gl g cs hg).mono (λ_ _ h=>by cases h) (λ_ h=>h) (λ_ _=>rfl)
 refine calls_of_wp hf hb (AC.sound (cx:=cx) ht hmx hann h R0 (λe fs hs βR FR0 a w' hq R0'=>?_));have key:∃(fs2:Fs)(hs2:Hs)(βR2:Nat->Option BI),xO fz rs ins.length (λr' outs'=>r'=r/\outs'=outs) e fs2 hs2/\Rel cx βR2 FR0 (jB fs2) (jB hs2) a w':=by
  rcases hq with hq|⟨h1,h2,hq⟩
  .exact⟨fs,hs,βR,hq,R0'⟩
  .obtain⟨R1,_⟩:=R0'.virt h2 (full:=false) z0;rw[<-qHf]at R1;refine⟨_,_,_,hq,{ R1 with fr:=λt v hv=>?_ }⟩;unfold jB at hv;split at hv
   .rename_i ht;subst ht;cases hv;obtain⟨x,hx,hr⟩:=R1.fr _ _ h1;cases hr;exact⟨_,hx,.slv nb z0 0 zG⟩
   .exact R1.fr t v hv
 clear hq R0';obtain⟨fs,hs,βR,hq,R0'⟩:=key;have fin:((qYn fz).wp hs (λfw _=>((rsQ fs rs).bind λvs=>jD5 ins.length vs).wp (zAv hs fw) (λp _=>p.1=r/\p.2=outs)))->a.defers=[]/\∃v,(results fn a.tmps).run P w'=.ok v w'/\∃x β' F',Ending.returned v=.returned x/\qLw w β F ins r outs x β' F' w':=by
  rintro⟨fw,lf,hfz,hq⟩;obtain⟨FR,R,_⟩:=Rel.freezeAll hfz R0' (λid _=>.inl rfl);rw[<-qHf]at R;rw[Q.wp_bind]at hq;obtain⟨vs,l0,hvs,⟨r',outs'⟩,l,hrun,e1,e2⟩:=hq;obtain⟨xs,hxs,hall⟩:=qL5 (cx:=cx) R hrs hvs;refine⟨R.dfr,_,qIo hxs,?_⟩;simp only at e1 e2;subst e1 e2;unfold jD5 at hrun;obtain⟨us,l1,l2,hp,hrun,_⟩:=qS hrun;obtain⟨q,l3,l4,hqq,hrun,_⟩:=qS hrun;obtain⟨hsub,hrun⟩:=qM hrun;obtain⟨e,_⟩:=qE hrun;simp only[Prod.mk.injEq]at e;obtain⟨rfl,rfl⟩:=e;obtain⟨ids,obs⟩:=q;simp only at hsub⊢;obtain⟨t,htt⟩:=qPf (s:=0) (m:=ins.length) (n:=40+ins.length) (rest:=qPh us) (by simpa [range_eq_range']using hqq);obtain⟨hnd,hlo,hG,hin,_,_⟩:=qQn hqq sM rfl (by intro k id o h;simp at h) sM;have hidk:∀k,k<ins.length->ids[k]?=some k:=by
   intro k hk;rw[htt,getElem?_append_left (by simpa using hk)];simp[hk]
  have hlive:∀(k id:Nat),ids[k]?=some id->∃z es full,jB (zAv hs fw) id=some (.live z es true full):=by
   intro k id hk;have hkl:k<obs.length:=by rw[<-hlo];exact(List.getElem?_eq_some_iff.1 hk).1
   obtain⟨z,es,es',full,_,g1,_⟩:=hG k id obs[k] hk (by simp[hkl]);exact⟨z,es,full,g1⟩
  have hβk:∀k bi,β k=some bi->βR k=some bi:=R.ext0;have hklt:∀k bi,β k=some bi->k<ins.length:=by
   intro k bi h;rcases Nat.lt_or_ge k ins.length with h1|h1
   .exact h1
   .rw[fits.dom k h1]at h;cases h
  have hus:xU (qR βR FR w') us xs:=by
   obtain⟨g1,g2⟩:=qLm hp;refine qVt (by rw[g1];exact hall.length.symm) (λi c u hc hu=>?_);have hi:i<vs.length:=by rw[<-g1];exact(List.getElem?_eq_some_iff.1 hc).1
   obtain⟨li,m1⟩:=g2 i vs[i] c (by simp[hi]) hc;obtain⟨y,h1,h2⟩:=hall.get' i vs[i] (by simp[hi]);rw[hu]at h1;cases h1;exact qF3 R m1 h2
  have hren:xU (qR (qDv ids βR) FR w') (qFn (λr=>ids.idxOf r) us) xs:=by
   refine qVt (by rw[zJ];simpa using hus.length.symm) (λi c u hc hu=>?_);rw[zJ,getElem?_map,Option.map_eq_some_iff]at hc;obtain⟨c0,hc0,rfl⟩:=hc;obtain⟨y,h1,h2⟩:=hus.get' i c0 hc0;rw[hu]at h1;cases h1;refine qWq h2 (λr hr=>?_);have:=all_eq_true.1 hsub r (kU (mem_of_getElem? hc0) hr);simpa using this
  have hfits:zVp (qDv ids βR) FR w' (obs.map (Ob.ren λr=>ids.idxOf r)):=by
   refine⟨λk o ho=>?_,λk hk=>?_,λi j bi bj b h1 h2 h3 h4=>?_,λk bi b h1 h2=>?_⟩
   .rw[getElem?_map,Option.map_eq_some_iff]at ho;obtain⟨o',ho',rfl⟩:=ho;have hkl:k<ids.length:=by rw[hlo];exact(List.getElem?_eq_some_iff.1 ho').1
    obtain⟨z,es,es',full,lr,g1,g2,g3⟩:=hG k ids[k] o' (by simp[hkl]) ho';obtain⟨bi,hb,hok⟩:=R.hp _ _ g1;refine⟨bi,by simp[qDv,hkl,hb],?_,?_⟩
    .rw[g2];have l1:=qPn g3;have l2:(qFn (λr=>ids.idxOf r) es').length=es'.length:=by rw[zJ];simp
     have hii:∀r∈qPh es',r∈ids:=λr hr=>hin o' (mem_of_getElem? ho') z es' true full g2 r (zLe r hr)
     unfold qG9 at hok⊢;obtain⟨k1,k2,k3⟩:=hok;refine⟨k1,λh=>by rw[l2,l1];exact k2 h,?_⟩;cases hb:bi.blk with
     |none=>
      simp only[hb]at k3⊢;refine⟨?_,k3.2⟩;rw[k3.1]at l1;exact eq_nil_of_length_eq_zero (by rw[l2,l1];rfl)
     |some b=>
      simp only[hb]at k3⊢;obtain⟨c,e,fz,m1,m2,m3,m4,m5,m6,m7⟩:=k3;exact⟨c,e,fz,m1,m2,m3,by rw[l2,l1];exact m4,m5,zEw (qSk R g3 m6).2 hii,m7⟩
    .rw[g2];exact⟨z,_,full,rfl⟩
   .rw[length_map,<-hlo]at hk;simp[qDv,getElem?_eq_none hk]
   .unfold qDv at h1 h2;rw[Option.bind_eq_some_iff]at h1 h2;obtain⟨x,hx,h1⟩:=h1;obtain⟨y,hy,h2⟩:=h2;obtain⟨z1,e1,f1,m1⟩:=hlive i x hx;obtain⟨z2,e2,f2,m2⟩:=hlive j y hy;have:=R.inj x y bi bj b _ _ h1 h2 h3 h4 m1 m2 sM sM;subst this;have hi:i<ids.length:=(List.getElem?_eq_some_iff.1 hx).1;have hj:j<ids.length:=(List.getElem?_eq_some_iff.1 hy).1;exact qAi hnd hi hj (by rw[getElem?_eq_getElem hi]at hx;rw[getElem?_eq_getElem hj]at hy;rw[Option.some.inj hx,Option.some.inj hy])
   .unfold qDv at h1;rw[Option.bind_eq_some_iff]at h1;obtain⟨x,hx,h1⟩:=h1;obtain⟨z1,e1,f1,m1⟩:=hlive k x hx;exact⟨R.blt x bi b h1 h2,R.notF m1 h1 h2⟩
  refine⟨_,qDv ids βR,FR,rfl,hfits,qQy hren,λk hk=>?_,λk bi b hk h1 h2=>?_,λb hb=>R.F0 b hb,R.Fw,R.os,R.tape,R.output,R.size,λb hb hk=>R.ext b hb (λ⟨k,bi,h1,h2⟩=>hk k bi h1 h2)⟩
  .obtain⟨bi,h1,_⟩:=fits.ok k ins[k] (by simp[hk]);simp[qDv,hidk k hk,hβk k bi h1,h1]
  .unfold qDv at h1;rw[Option.bind_eq_some_iff]at h1;obtain⟨id,hid,h1⟩:=h1;obtain⟨z,es,full,hl⟩:=hlive k id hid;rcases R.old id z es full bi b hl h1 h2 with h|⟨_,k0,bi0,g1,g2⟩
   .exact h
   .exfalso;have hk0:=hklt k0 bi0 g1;obtain⟨z0,es0,full0,hl0⟩:=hlive k0 k0 (hidk k0 hk0);have e:=R.inj id k0 bi bi0 b _ _ h1 (hβk k0 bi0 g1) h2 g2 hl hl0 sM sM;subst e;have hi1:k<ids.length:=(List.getElem?_eq_some_iff.1 hid).1;have hi2:id<ids.length:=(List.getElem?_eq_some_iff.1 (hidk id hk0)).1;have:=qAi hnd hi1 hi2 (by
     have a1:=hid;have a2:=hidk id hk0;rw[getElem?_eq_getElem hi1]at a1;rw[getElem?_eq_getElem hi2]at a2;rw[Option.some.inj a1,Option.some.inj a2])
    omega
 cases e with
 |normal=>exact fin hq
 |ret=>exact fin hq
 |exit id=>exact hq.elim
theorem yFs {P:Program}{G:Gl}{tab:Tab}{f:FuncId}{fn:Func}{c:Code}{ac:AC}{hints:List (Nat×List Nat)}{rs:List (Nat×Option (Nat×Bool))}(t0 nb z0:Nat)(hf:P.funcs[f]?=some fn)(hname:(fn.name == "runtime.NumGoroutine")=false)(hb:fn.body=some c)(hann:ann P fn.ntmps hints c=some ac)(hmx:P.follows .mixedOrders=true)
  (ht:xQ P G tab) (hrs:qMb P fn.results.toList=some rs) (ct:Ct) (hn:∀x,(ct.aS x).length<=fn.ntmps) (hi:∀x,(ct.ins x).length<=100)
  (h:∀x,ct.pre x->ac.wp tab G (qD 0 (ct.aS x)) (qD 0 (ct.ins x)) (jRq t0 nb z0 (xO [] rs (ct.ins x).length (λr' o'=>r'=ct.r x/\o'=ct.outs x)))):FOk P G f ct.fs:=
 ct.ok (λargs w=>run_callFunc_enter hf hname hb args w) (λx hx=>zOn [] t0 nb z0 hf hb hann hmx ht hrs (hn x) (hi x) (h x hx))
end Go.Eng
end
section
set_option maxHeartbeats 64000000
set_option maxRecDepth 20000
namespace Go.Eng
open List
variable (tab:Tab)(gl:Gl)
variable {vv:V}{oo:List Ob}
def orS (f g:FnS):FnS:=λa i=>match f a i with
 |some y=>some y
 |none=>g a i
theorem jDu {P:Program}{G:Nat->Option (List T)}{n:FuncId}{f g:FnS}(h1:FOk P G n f)(h2:FOk P G n g):FOk P G n (orS f g):=by
 intro a i r o hs;unfold orS at hs;cases h:f a i with
 |some y=>rw[h]at hs;cases hs;exact h1 a i r o h
 |none=>rw[h]at hs;exact h2 a i r o hs
theorem xQ.hd {P:Program}{G:Nat->Option (List T)}{n:FuncId}{f:FnS}{t:Tab}(h:xQ P G ((n,f)::t)):FOk P G n f:=h n f (if_pos rfl)
structure FsB where
 fs:FnS
def qOy:ECt where
 α:=List Int×Int
 β:=Int
 aS:=λ(l,v)=>[.t (.sl (l.map iT)),.t (.int .i64 v)]
 pre:=λ(l,v)=>l=[]
 r:=λr'=>.t (.int .i64 r')
 R:=λ(l,v) r'=>r' = -1
theorem jR5 {g:EF qOy}{l:List Int}{v:Int}(hp:l=[]):qOy.fs g [.t (.sl (l.map iT)),.t (.int .i64 v)] []=some (.t (.int .i64 (-1)),[]):=fnQ qOy (l,v) hp
theorem jBq {l:List Int}{v:Int}(hV:vv=.t (.int .i64 (-1)))(hO:oo=[]):qOy.K (l,v) vv oo:=⟨_,rfl,hV,hO⟩
theorem qG8  (l:List Int)(v:Int)(hp:l=[]) :
  vJ.1.wp tab gl (qD 0 [.t (.sl (l.map iT)),.t (.int .i64 v)]) (qD 0 []) (qZ [(4,none)] 0 (qOy.K (l,v))):=by
 subst hp;simp(disch:=omega)only[go_sem,vJ,map_nil];refine jZ (σ:=Unit) (λ_=>True) (λ_=>0) (λ_=>[(0,.t (.sl [])),(1,.t (.int .i64 v)),(7,.t (.int .i64 0)),(8,.t (.int .i64 0))]) (λ_=>[]) () trivial (qL.rd id ?_ ?_ rfl) ?_
 .simp(disch:=omega)only[go_sem,id]
 .simp(disch:=omega)only[go_sem,id]
 rintro⟨⟩ -;simp(disch:=omega)only[go_sem];.repeat first|exact(jBq rfl rfl)|refine⟨rfl,?_⟩
def qK0:ECt where
 α:=List Int×Int
 β:=Bool
 aS:=λ(l,v)=>[.t (.sl (l.map iT)),.t (.int .i64 v)]
 pre:=λ(l,v)=>l=[]
 r:=λr'=>.t (.bool r')
 R:=λ(l,v) r'=>r'=false
theorem jEp {g:EF qK0}{l:List Int}{v:Int}(hp:l=[]):qK0.fs g [.t (.sl (l.map iT)),.t (.int .i64 v)] []=some (.t (.bool (false)),[]):=fnQ qK0 (l,v) hp
theorem jBp {l:List Int}{v:Int}(hV:vv=.t (.bool (false)))(hO:oo=[]):qK0.K (l,v) vv oo:=⟨_,rfl,hV,hO⟩
theorem qEe {g1}(h1:LkE tab 265 qOy g1)(l:List Int)(v:Int)(hp:l=[]) :
  yO.1.wp tab gl (qD 0 [.t (.sl (l.map iT)),.t (.int .i64 v)]) (qD 0 []) (qZ [(4,none)] 0 (qK0.K (l,v))):=by
 subst hp;have e:=jR5 (g:=g1) (l:=[]) (v:=v) rfl;rw[map_nil]at e;simp(disch:=omega)only[go_sem,yO,map_nil,h1,e];.repeat first|exact(jBp rfl rfl)|refine⟨rfl,?_⟩
def iOb (x:Ix):Ob:= .live 8 [.t (ixA x)] true true
theorem zH8 {x y:Ix}(h:iOb x=iOb y):x=y:=by
 simp only[iOb,Ob.live.injEq,List.cons.injEq,V.t.injEq,zB3,true_and,and_true]at h;exact h
def zKv:Ct where
 α:=Ix×Ix
 aS x:=[.t (ixA x.1),.ref 0 0 0]
 ins x:=[iOb x.2]
 pre _:=True
 r x:= .t (.bool (decide (x.1.n=x.2.n)))
 outs x:=[iOb x.2]
 inj:=by
  rintro⟨a,b⟩ ⟨c,d⟩ h h2;simp only[List.cons.injEq,V.t.injEq,and_true,zB3]at h h2;obtain rfl:=h;obtain rfl:=zH8 h2;exact⟨rfl,rfl⟩
theorem jNy {y x:Ix}:zKv.fs [.t (ixA y),.ref 0 0 0] [.live 8 [.t (ixA x)] true true]=some (.t (.bool (decide (y.n=x.n))),[.live 8 [.t (ixA x)] true true]):=zKv.eq (y,x) trivial
theorem qS8 (y x:Ix):kQ.1.wp tab gl (qD 0 [.t (ixA y),.ref 0 0 0]) (qD 0 [iOb x]) (qZ [(3,none)] 1 (λr o=>r=.t (.bool (decide (y.n=x.n)))/\o=[iOb x])):=by
 by_cases c:y.n=x.n
 .simp(disch:=omega)only[go_sem,kQ,iOb,ixA,c]
 .simp(disch:=omega)only[go_sem,kQ,iOb,ixA,c]
def fnI:List Ix->Int->Int
 |[],_ => -1
 |y::_,n=>if y.n=n then 0 else -1
theorem zLl {a b:List Ix}:a.map ixA=b.map ixA↔a=b:=map_inj_right (λ_ _ h=>(zB3.1 _ _).mp h)
def qWb (n:Nat):Ct where
 α:=List Ix×Ix
 aS x:=[.t (.sl (x.1.map ixA)),.fn n [.ref 0 0 0]]
 ins x:=[iOb x.2]
 pre x:=x.1.length<=1
 r x:= .t (.int .i64 (fnI x.1 x.2.n))
 outs x:=[iOb x.2]
 inj:=by
  rintro⟨a,b⟩ ⟨c,d⟩ h h2;simp only[List.cons.injEq,V.t.injEq,T.sl.injEq,and_true,zLl]at h h2;obtain rfl:=h;obtain rfl:=zH8 h2;exact⟨rfl,rfl⟩
theorem jM0 {n:Nat}{l:List Ix}{x:Ix}(h:l.length<=1):(qWb n).fs [.t (.sl (l.map ixA)),.fn n [.ref 0 0 0]] [.live 8 [.t (ixA x)] true true]=some (.t (.int .i64 (fnI l x.n)),[.live 8 [.t (ixA x)] true true]):=(qWb n).eq (l,x) h
theorem qMm (n:Nat)(hn:tab.look n=some zKv.fs)(l:List Ix)(x:Ix)(h:l.length<=1):qP.1.wp tab gl (qD 0 [.t (.sl (l.map ixA)),.fn n [.ref 0 0 0]]) (qD 0 [iOb x]) (qZ [(4,none)] 1 (λr o=>r=.t (.int .i64 (fnI l x.n))/\o=[iOb x])):=by
 simp(disch:=omega)only[go_sem,qP,iOb];refine jZ (σ:=Nat) (λk=>k<=l.length/\(k=0\/fnI l x.n = -1)) (λk=>l.length-k) (λk=>[(0,.t (.sl (l.map ixA))),(1,.fn n [.ref 0 0 0]),(7,.t (.int .i64 l.length)),(8,.t (.int .i64 k))]) (λ_=>[(0,.live 8 [.t (ixA x)] true true)]) 0 ⟨Nat.zero_le _,.inl rfl⟩ (qL.rd id ?_ ?_ rfl) ?_
 .simp(disch:=omega)only[go_sem,id]
 .simp(disch:=omega)only[go_sem,id]
 rintro k ⟨hk,hF⟩;by_cases hlt:k<l.length
 .obtain rfl:k=0:=oM
  match l,h,hlt with
  |[y],_,_=>
   have e:=@jNy y x;by_cases c:y.n=x.n
   .rw[decide_eq_true c]at e;simp only[ixA]at e;simp(disch:=omega)only[go_sem,ixA,mcn,length_cons,length_nil,hn,e];repeat refine aiG ?_
    simp only[fnI,if_pos c]
   .rw[decide_eq_false c]at e;simp only[ixA]at e;simp(disch:=omega)only[go_sem,ixA,mcn,length_cons,length_nil,hn,e];repeat refine aiG ?_
    refine qYo.of 1 ⟨sM,.inr (if_neg c)⟩ sM (qL.rd id ?_ ?_ rfl);all_goals simp(disch:=omega)only[go_sem,id,ixA]
 .have e:k=l.length:=oM;subst e;have hR:fnI l x.n = -1:=by
   rcases hF with h0|h0
   .rw[length_eq_zero_iff.1 h0];rfl
   .exact h0
  rw[hR];simp(disch:=omega)only[go_sem,hlt]
def nOb (n:Int):Ob:= .live 1 [.t (.int .i64 n)] true true
theorem qWv {x y:Int}(h:nOb x=nOb y):x=y:=by
 simp only[nOb,Ob.live.injEq,List.cons.injEq,V.t.injEq,T.int.injEq,true_and,and_true]at h;exact h
def zKw:Ct where
 α:=Ix×Int
 aS x:=[.t (ixA x.1),.ref 0 0 0]
 ins x:=[nOb x.2]
 pre _:=True
 r x:= .t (.bool (decide (x.1.n=x.2)))
 outs x:=[nOb x.2]
 inj:=by
  rintro⟨a,b⟩ ⟨c,d⟩ h h2;simp only[List.cons.injEq,V.t.injEq,and_true,zB3]at h h2;obtain rfl:=h;obtain rfl:=qWv h2;exact⟨rfl,rfl⟩
theorem jNz {y:Ix}{m:Int}:zKw.fs [.t (ixA y),.ref 0 0 0] [.live 1 [.t (.int .i64 m)] true true]=some (.t (.bool (decide (y.n=m))),[.live 1 [.t (.int .i64 m)] true true]):=zKw.eq (y,m) trivial
theorem qPw (y:Ix)(m:Int):vZ.1.wp tab gl (qD 0 [.t (ixA y),.ref 0 0 0]) (qD 0 [nOb m]) (qZ [(3,none)] 1 (λr o=>r=.t (.bool (decide (y.n=m)))/\o=[nOb m])):=by
 by_cases c:y.n=m
 .simp(disch:=omega)only[go_sem,vZ,nOb,ixA,c]
 .simp(disch:=omega)only[go_sem,vZ,nOb,ixA,c]
def lOb (l:List Ix):Ob:= .live 8 (l.map λy=>.t (ixA y)) true false
theorem zR8 {a b:List Ix}(h:lOb a=lOb b):a=b:=by
 simp only[lOb,Ob.live.injEq,true_and,and_true]at h;exact(map_inj_right (λx y e=>by simpa only[V.t.injEq,zB3]using e)).1 h
def zEf (n:Nat):Ct where
 α:=List Ix×Int
 aS x:=[.sl 0 0 x.1.length,.fn n [.ref 1 0 0]]
 ins x:=[lOb x.1,nOb x.2]
 pre x:=x.1.length<=1
 r x:= .t (.int .i64 (fnI x.1 x.2))
 outs x:=[lOb x.1,nOb x.2]
 inj:=by
  rintro⟨a,b⟩ ⟨c,d⟩ h h2;simp only[List.cons.injEq,and_true]at h h2;obtain rfl:=zR8 h2.1;obtain rfl:=qWv h2.2;exact⟨rfl,rfl⟩
theorem jMx {n:Nat}{l:List Ix}{m:Int}(h:l.length<=1):(zEf n).fs [.sl 0 0 l.length,.fn n [.ref 1 0 0]] [lOb l,nOb m]=some (.t (.int .i64 (fnI l m)),[lOb l,nOb m]):=(zEf n).eq (l,m) h
theorem qMn (n:Nat)(hn:tab.look n=some zKw.fs)(l:List Ix)(m:Int)(h:l.length<=1):qP.1.wp tab gl (qD 0 [.sl 0 0 l.length,.fn n [.ref 1 0 0]]) (qD 0 [lOb l,nOb m]) (qZ [(4,none)] 2 (λr o=>r=.t (.int .i64 (fnI l m))/\o=[lOb l,nOb m])):=by
 match l,h with
 |[],_=>
  simp(disch:=omega)only[go_sem,qP,lOb,nOb,map_nil,length_nil];refine jZ (σ:=Unit) (λ_=>True) (λ_=>0) (λ_=>[(0,.sl 0 0 0),(1,.fn n [.ref 1 0 0]),(7,.t (.int .i64 0)),(8,.t (.int .i64 0))]) (λ_=>[(0,.live 8 [] true false),(1,.live 1 [.t (.int .i64 m)] true true)]) () trivial (qL.rd id ?_ ?_ rfl) ?_
  .simp(disch:=omega)only[go_sem,id]
  .simp(disch:=omega)only[go_sem,id]
  rintro⟨⟩ -;simp(disch:=omega)only[go_sem];repeat refine aiG ?_
  all_goals rfl
 |[y],_=>
  have e:=@jNz y m;simp(disch:=omega)only[go_sem,qP,lOb,nOb,mcn,length_cons,length_nil];refine jZ (σ:=Nat) (λk=>k<=1/\(k=0\/fnI [y] m = -1)) (λk=>1-k) (λk=>[(0,.sl 0 0 1),(1,.fn n [.ref 1 0 0]),(7,.t (.int .i64 1)),(8,.t (.int .i64 k))]) (λ_=>[(0,.live 8 [.t (ixA y)] true false),(1,.live 1 [.t (.int .i64 m)] true true)]) 0 ⟨Nat.zero_le _,.inl rfl⟩ (qL.rd id ?_ ?_ rfl) ?_
  .simp(disch:=omega)only[go_sem,id]
  .simp(disch:=omega)only[go_sem,id]
  rintro k ⟨hk,hF⟩;by_cases hlt:k<1
  .obtain rfl:k=0:=oM;by_cases c:y.n=m
   .rw[decide_eq_true c]at e;simp only[ixA]at e;simp(disch:=omega)only[go_sem,ixA,hn,e];repeat refine aiG ?_
    simp only[fnI,if_pos c]
   .rw[decide_eq_false c]at e;simp only[ixA]at e;simp(disch:=omega)only[go_sem,ixA,hn,e];repeat refine aiG ?_
    refine qYo.of 1 ⟨oM,.inr (if_neg c)⟩ oM (qL.rd id ?_ ?_ rfl);all_goals simp(disch:=omega)only[go_sem,id,ixA]
  .obtain rfl:k=1:=oM;have hR:fnI [y] m = -1:=hF.resolve_left oM;rw[hR];simp(disch:=omega)only[go_sem];repeat refine aiG ?_
noncomputable def zKs (a b:Nat):FsB:=⟨orS (qWb a).fs (zEf b).fs⟩
theorem jT5 {c:Ct}{aS:List V}{ins:List Ob}(h:∀x,c.aS x≠aS):c.fs aS ins=none:=by
 unfold Ct.fs;rw[dif_neg];rintro⟨x,hx,_⟩;exact h x hx.1
theorem zR0 {a b:Nat}{l:List Ix}{m:Int}(h:l.length<=1):(zKs a b).fs [.sl 0 0 l.length,.fn b [.ref 1 0 0]] [lOb l,nOb m]=some (.t (.int .i64 (fnI l m)),[lOb l,nOb m]):=by
 show orS _ _ _ _=_;unfold orS;rw[jT5 (by intro x e;simp[qWb]at e)];exact jMx h
theorem jM1 {a b:Nat}{l:List Ix}{x:Ix}(h:l.length<=1):(zKs a b).fs [.t (.sl (l.map ixA)),.fn a [.ref 0 0 0]] [.live 8 [.t (ixA x)] true true]=some (.t (.int .i64 (fnI l x.n)),[.live 8 [.t (ixA x)] true true]):=by
 show orS _ _ _ _=_;unfold orS;rw[show(qWb a).fs [.t (.sl (l.map ixA)),.fn a [.ref 0 0 0]] [.live 8 [.t (ixA x)] true true]=some (.t (.int .i64 (fnI l x.n)),[.live 8 [.t (ixA x)] true true]) from jM0 h]
def zKj (n:Nat):Ct where
 α:=List Ix×Ix
 aS x:=[.t (.sl (x.1.map ixA)),.fn n [.ref 0 0 0]]
 ins x:=[iOb x.2]
 pre x:=x.1.length<=1
 r x:= .t (.bool (decide (0<=fnI x.1 x.2.n)))
 outs x:=[iOb x.2]
 inj:=by
  rintro⟨a,b⟩ ⟨c,d⟩ h h2;simp only[List.cons.injEq,V.t.injEq,T.sl.injEq,and_true,zLl]at h h2;obtain rfl:=h;obtain rfl:=zH8 h2;exact⟨rfl,rfl⟩
theorem jCg {n:Nat}{l:List Ix}{x:Ix}(h:l.length<=1):(zKj n).fs [.t (.sl (l.map ixA)),.fn n [.ref 0 0 0]] [.live 8 [.t (ixA x)] true true]=some (.t (.bool (decide (0<=fnI l x.n))),[.live 8 [.t (ixA x)] true true]):=(zKj n).eq (l,x) h
theorem qIx (n b:Nat)(h1:tab.look 260=some (zKs n b).fs)(l:List Ix)(x:Ix)(h:l.length<=1):zE.1.wp tab gl (qD 0 [.t (.sl (l.map ixA)),.fn n [.ref 0 0 0]]) (qD 0 [iOb x]) (qZ [(4,none)] 1 (λr o=>r=.t (.bool (decide (0<=fnI l x.n)))/\o=[iOb x])):=by
 have e:=@jM1 n b l x h;simp only[ixA]at e;by_cases c:0<=fnI l x.n
 .simp(disch:=omega)only[go_sem,zE,iOb,ixA,h1,e,c]
 .simp(disch:=omega)only[go_sem,zE,iOb,ixA,h1,e,c]
def qQe:Ct where
 α:=Unit
 aS _:=[.t (.sl [])]
 ins _:=[]
 pre _:=True
 r _:= .sl 0 0 0
 outs _:=[.live 8 [] true false]
 inj:=λ_ _ _ _=>⟨rfl,rfl⟩
def qWa:Ct where
 α:=Ix
 aS x:=[.t (.sl [ixA x])]
 ins _:=[]
 pre _:=True
 r _:= .sl 0 0 1
 outs x:=[.live 8 [.t (ixA x)] true false]
 inj:=by
  intro a b h _;simp only[List.cons.injEq,V.t.injEq,T.sl.injEq,and_true,zB3]at h;subst h;exact⟨rfl,rfl⟩
noncomputable def zEe:FsB:=⟨orS qQe.fs qWa.fs⟩
theorem jCi:zEe.fs [.t (.sl [])] []=some (.sl 0 0 0,[.live 8 [] true false]):=by
 have e:=qQe.eq () trivial;show orS qQe.fs qWa.fs _ _=_;unfold orS;rw[show qQe.fs [.t (.sl [])] []=some (.sl 0 0 0,[.live 8 [] true false]) from e]
theorem jCj {x:Ix}:zEe.fs [.t (.sl [ixA x])] []=some (.sl 0 0 1,[.live 8 [.t (ixA x)] true false]):=by
 have e:qWa.fs [.t (.sl [ixA x])] []=some (.sl 0 0 1,[.live 8 [.t (ixA x)] true false]):=qWa.eq x trivial;have e0:qQe.fs [.t (.sl [ixA x])] []=none:=by
  unfold Ct.fs;rw[dif_neg];rintro⟨_,h,_⟩;have:=h.1;simp[qQe]at this
 show orS qQe.fs qWa.fs _ _=_;unfold orS;rw[e0];exact e
theorem qTj:qW.1.wp tab gl (qD 0 [.t (.sl [])]) (qD 0 []) (jRq 2 200 8 (xO [] [(2,none)] 0 (λr o=>r=.sl 0 0 0/\o=[.live 8 [] true false]))):=by
 simp(disch:=omega)only[go_sem,qW,map_nil,jRq]
theorem qTk (x:Ix):qW.1.wp tab gl (qD 0 [.t (.sl [ixA x])]) (qD 0 []) (xO [] [(2,none)] 0 (λr o=>r=.sl 0 0 1/\o=[.live 8 [.t (ixA x)] true false])):=by
 have hz:=yDk (l:=[x]);simp only[mcn]at hz;simp(disch:=omega)only[go_sem,qW,map_cons,hz];exact⟨rfl,trivial⟩
def ctN (s:St)(v:UInt8):Prop:=s.a.ix=[cnI true (z7 v)]/\v≠0/\s.rl=[]
def qKo:ECt where
 α:=St×Av
 β:=Int
 aS:=λ(s,a)=>[.t (stA s),.t (avA a)]
 pre:=λ(s,a)=>∃v y,ctN s v/\y≠0/\a=.idx 257 2 (z7 y) (inF (cnI true (z7 v)))
 r:=λe=>.t (.int .i64 e)
 R:=λ(s,a) e=>∀v y nm,ctN s v->a=.idx 257 2 (z7 y) nm->e=if v<y then 0 else 16
 inj:=by rintro⟨s,a⟩ ⟨s',a'⟩ e _;simp only[qBa,qL2,qT4]at e;obtain⟨rfl,rfl⟩:=e;rfl
theorem jPn {g:EF qKo}{s:St}{a:Av}(hp:∃v y,ctN s v/\y≠0/\a=.idx 257 2 (z7 y) (inF (cnI true (z7 v)))):∃(e:Int),(∀v y nm,ctN s v->a=.idx 257 2 (z7 y) nm->e=if v<y then 0 else 16)/\qKo.fs g [.t (stA s),.t (avA a)] []=some (.t (.int .i64 e),[]):=qKo.eq g (s,a) hp
theorem jWv {s:St}{a:Av}(e:Int)(hR:∀v y nm,ctN s v->a=.idx 257 2 (z7 y) nm->e=if v<y then 0 else 16)(hV:vv=.t (.int .i64 e))(hO:oo=[]):qKo.K (s,a) vv oo:=⟨e,hR,hV,hO⟩
theorem jEw {x y:UInt8}(h:z7 x=z7 y):x=y:=by simpa [z7]using h
theorem jFq {s:St}{v w:UInt8}(h:ctN s v)(g:ctN s w):v=w:=by
 have:=h.1.symm.trans g.1;simp only[cnI,List.cons.injEq,Ix.mk.injEq,true_and,and_true]at this;exact jEw this
theorem qMi {g1}(h1:LkE tab 176 qH5 g1){g2}(h2:LkE tab 220 qK0 g2){g3}(h3:LkE tab 298 qKl g3)(s:St)(a:Av)(hp:∃v y,ctN s v/\y≠0/\a=.idx 257 2 (z7 y) (inF (cnI true (z7 v)))) :
  xI.1.wp tab gl (qD 0 [.t (stA s),.t (avA a)]) (qD 0 []) (qZ [(4,none)] 0 (qKo.K (s,a))):=by
 obtain⟨v,y,hv,hy,rfl⟩:=hp;have hK:∀e:Int,e=(if v<y then 0 else 16)->∀vv,vv=.t (.int .i64 e)->qKo.K (s,.idx 257 2 (z7 y) (inF (cnI true (z7 v)))) vv []:=by
  intro e he vv h;refine jWv e (λv' y' nm h1 h2=>?_) h rfl;obtain rfl:=jFq hv h1;simp only[Av.idx.injEq,true_and]at h2;obtain rfl:=jEw h2.1;exact he
 have e1:=zR2 (g:=g1) (x:=cnI true (z7 v)) (by simp[cnI]);have e2:=jEp (g:=g2) (l:=[]) (v:=1) rfl;have e3:=jOl (g:=g3) (op:=2) (a:=z7 v) (b:=z7 y) ⟨rfl,⟨v,hv.2.1,rfl⟩,y,hy,rfl⟩;have hd:((z7 v).getD 7 0<(z7 y).getD 7 0)=(v<y):=rfl;simp only[hd]at e3;have ln:=qL4 (x:=cnI true (z7 v));generalize inF (cnI true (z7 v))=N at *;obtain⟨hix,hv0,hrl⟩:=hv;simp only[cnI]at hix e1;generalize z7 v=V at *;generalize z7 y=Y at *;simp only[ixA,map_nil]at e1 e2;simp(disch:=omega)only[go_sem,xI,stA,avA,avL,hix,hrl,mcn];refine jZ (σ:=Unit) (λ_=>True) (λ_=>0) (λ_=>[(2,.ref 4096 0 0),(3,.ref 4112 0 0),(9,.t (.sl [ixA ⟨1,2,48,8,[],[],true,V⟩])),(10,.t (.int .i64 1)),(11,.t (.int .i64 0))]) (λ_=>[(4096,.live 30 [.t (stA s)] true true),(4112,.live 10 [.t (avA (.idx 257 2 Y N))] true true)]) () trivial (qL.rd id ?_ ?_ rfl) ?_
 .simp(disch:=omega)only[go_sem,id]
 .simp(disch:=omega)only[go_sem,id,stA,avA,avL,hix,hrl,mcn]
 rintro⟨⟩ -;by_cases c:v<y
 .rw[decide_eq_true c]at e3;simp(disch:=omega)only[go_sem,stA,avA,avL,ixA,hix,hrl,mcn,h1,e1,h2,e2,h3,e3];repeat refine aiG ?_
  exact hK 0 (by rw[if_pos c]) _ rfl
 .rw[decide_eq_false c]at e3;simp(disch:=omega)only[go_sem,stA,avA,avL,ixA,hix,hrl,mcn,h1,e1,h2,e2,h3,e3];repeat refine aiG ?_
  exact hK 16 (by rw[if_neg c]) _ rfl
end Go.Eng
end
