/- A part of an abstract machine, its walks, their tie. -/
import Derived.Test.YtekghmfbgbhobaaGreatDoorD24
import Derived.Test.YtekghmfbgbhobaaGreatDoorD22
import Derived.Test.YtekghmfbgbhobaaGreatDoorD16
set_option linter.all false
section
set_option maxHeartbeats 64000000
set_option maxRecDepth 20000
namespace Go.Eng
variable (tab:Tab) (gl:Gl)
variable {vv:V} {oo:List Ob}
def bY (n:Int):UInt8:=UInt8.ofNat (m64 n)
def bO (b:Bool):UInt8:=if b then 1 else 0
def eA0 (s:Sa):List UInt8:=[1,bY s.act]
def eA3 (s:Sa):List UInt8:=blL (s.au.foldl blL (s.sd.foldl blL (eA0 s))) s.en
def eA4 (s:Sa):List UInt8:=eA3 s++beI 8 s.res 8++beI 8 s.rst 8++beI 8 s.clk 8
def eA5 (s:Sa):List UInt8:=blL (eA4 s++[bO s.ord]) (qBk s.bk s.u)
def eA6 (s:Sa):List UInt8:=eA5 s++beI 8 s.mc 8++[bY s.ix.length]
def ixE (b:List UInt8)(x:Ix):List UInt8:=blL (blL (blL (b++[bY x.n]++[bY x.kd]++[bY x.ar]++beI 2 x.sz 2++[bO x.wr]) x.po) x.au) x.da
def eA7 (s:Sa):List UInt8:=s.ix.foldl ixE (eA6 s)
def nuE (b:List UInt8)(l:List Int):List UInt8:=l.foldl (fun b n=>b++beI 8 n 8) b
def eA8 (s:Sa):List UInt8:=nuE (eA7 s) [s.lk.fa,s.lk.mx,s.lk.rc,s.lk.si,s.lk.cl,s.lk.pe]
def eA9 (s:Sa):List UInt8:=eA8 s++[bY s.ks.length]
def lvE (b:List UInt8)(k:Lv):List UInt8:=blL b k.un++[bY k.us]
def zDh (s:Sa):List UInt8:=s.ks.foldl lvE (eA9 s)
theorem xS {α:Type}{f:List UInt8→α→List UInt8}{l:List α}{b:List UInt8}{k:Nat}{x:α}(h:l[k]?=some x):(l.take (k+1)).foldl f b=f ((l.take k).foldl f b) x:=by
 have hk:k<l.length:=by
  rcases Nat.lt_or_ge k l.length with h1 | h1
  ·exact h1
  ·rw[List.getElem?_eq_none h1] at h;cases h
 have e:l[k]=x:=by rw[List.getElem?_eq_getElem hk] at h;exact Option.some.inj h
 rw[List.take_succ_eq_append_getElem hk,List.foldl_append,e];rfl
theorem qQj {α:Type}{f:List UInt8→α→List UInt8}{c:Nat} : ∀ {l:List α} {b:List UInt8},(∀ b,∀ x∈l,(f b x).length≤b.length+c)→(l.foldl f b).length≤b.length+c*l.length
 | [],b,_=>sM
 | x::r,b,h=>by
  have h1:=h b x sM;have h2:=qQj (l:=r) (b:=f b x) (fun b y hy=>h b y (by simp[hy]));simp only[List.foldl_cons,List.length_cons];have e:c*(r.length+1)=c*r.length+c:=by rw[Nat.mul_add,Nat.mul_one]
  omega
theorem zL5 {n:Int}:(beI 8 n 8).length=8:=by simp[beI]
theorem jNu {n:Int}:(beI 2 n 2).length=2:=by simp[beI]
theorem zY3 {b x:List UInt8}{c:Nat}(h:x.length≤c):(blL b x).length≤b.length+(2+c):=by rw[vO];omega
theorem zA0 {bk:List zB}{u:Int}(h:RV bk):(qBk bk u).length≤2100:=by
 have h9:=qI5 (bk:=bk) (u:=u);rcases h.cases with rfl | ⟨b0,b1,rfl,g0,g1,m0,m1⟩
 ·unfold qBk;rw[List.length_append,h9];simp
 ·have q0:List.length b0≤16:=by rcases g0 with h | h<;>omega
  have q1:List.length b1≤16:=by rcases g1 with h | h<;>omega
  have f0:b0.flatten.length≤1024:=by have:=qFi m0 16;rw[List.take_of_length_le q0] at this;omega
  have f1:b1.flatten.length≤1024:=by have:=qFi m1 16;rw[List.take_of_length_le q1] at this;omega
  have e:[b0,b1].flatten.flatten.length=b0.flatten.length+b1.flatten.length:=by simp[List.flatten_append]
  unfold qBk;rw[List.length_append,h9,e];omega
theorem jB6 {s:Sa}(h:s.Ok)(k:Nat):((s.sd.take k).foldl blL (eA0 s)).length≤2+34*3:=by
 have h1:=qQj (f:=blL) (c:=34) (l:=s.sd.take k) (b:=eA0 s) (fun b x hx=>zY3 (c:=32) (h.sd.2 x (List.mem_of_mem_take hx)));have h2:=h.sd.1;have h3:(s.sd.take k).length≤3:=by rw[List.length_take];omega
 have h4:(eA0 s).length=2:=rfl;omega
theorem jB3 {s:Sa}(h:s.Ok)(k:Nat):((s.au.take k).foldl blL (s.sd.foldl blL (eA0 s))).length≤2+34*7:=by
 have h1:=qQj (f:=blL) (c:=34) (l:=s.au.take k) (b:=s.sd.foldl blL (eA0 s)) (fun b x hx=>zY3 (c:=32) (h.au.2 x (List.mem_of_mem_take hx)));have h2:=h.au.1;have h3:(s.au.take k).length≤4:=by rw[List.length_take];omega
 have h4:=jB6 h s.sd.length;rw[List.take_length] at h4;omega
theorem zPk {s:Sa}(h:s.Ok):(eA3 s).length≤300:=by
 have h1:=jB3 h s.au.length;rw[List.take_length] at h1;have h2:=h.en;unfold eA3;rw[vO];omega
theorem zPl {s:Sa}(h:s.Ok):(eA4 s).length≤324:=by
 have h1:=zPk h;unfold eA4;simp only[List.length_append,zL5];omega
theorem zPm {s:Sa}(h:s.Ok):(eA5 s).length≤2500:=by
 have h1:=zPl h;have h2:=zA0 (u:=s.u) h.bk.rv;unfold eA5;simp only[vO,List.length_append,List.length_cons,List.length_nil];omega
theorem zPn {s:Sa}(h:s.Ok):(eA6 s).length≤2600:=by
 have h1:=zPm h;unfold eA6;simp only[List.length_append,List.length_cons,List.length_nil,zL5];omega
theorem Ix.Ok.le {x:Ix}(h:x.Ok):x.po.length≤128∧x.au.length≤128∧x.da.length≤128:=by
 unfold Ix.Ok at h;omega
theorem jIp {b:List UInt8}{x:Ix}(h:x.Ok):(ixE b x).length≤b.length+400:=by
 have h1:=h.le;unfold ixE;simp only[vO,List.length_append,List.length_cons,List.length_nil,jNu];omega
theorem jB4 {s:Sa}(h:s.Ok)(k:Nat):((s.ix.take k).foldl ixE (eA6 s)).length≤5000:=by
 have h1:=qQj (f:=ixE) (c:=400) (l:=s.ix.take k) (b:=eA6 s) (fun b x hx=>jIp (h.ix.2 x (List.mem_of_mem_take hx)));have h2:=h.ix.1;have h3:(s.ix.take k).length≤6:=by rw[List.length_take];omega
 have h4:=zPn h;omega
theorem zH2 {l:List Int} : ∀ {b:List UInt8},(nuE b l).length=b.length+8*l.length:=by
 induction l with
 | nil=>intro b;simp[nuE]
 | cons n r ih=>
  intro b;have:nuE b (n::r)=nuE (b++beI 8 n 8) r:=rfl;rw[this,ih];simp only[List.length_append,zL5,List.length_cons];omega
theorem zPo {s:Sa}(h:s.Ok):(eA8 s).length≤5100:=by
 have h1:=jB4 h s.ix.length;rw[List.take_length] at h1;unfold eA8;rw[zH2];simp only[List.length_cons,List.length_nil];unfold eA7;omega
theorem jB5 {s:Sa}(h:s.Ok)(k:Nat):((s.ks.take k).foldl lvE (eA9 s)).length≤5500:=by
 have h1:=qQj (f:=lvE) (c:=40) (l:=s.ks.take k) (b:=eA9 s) (fun b x hx=>by
  have h5:=h.ks.2 x (List.mem_of_mem_take hx);unfold Lv.Ok at h5;unfold lvE;simp only[vO,List.length_append,List.length_cons,List.length_nil];omega)
 have h2:=h.ks.1;have h3:(s.ks.take k).length≤8:=by rw[List.length_take];omega
 have h4:=zPo h;have h5:(eA9 s).length=(eA8 s).length+1:=by unfold eA9;simp
 omega
theorem zPt {s:Sa}(h:s.Ok):(zDh s).length≤5500:=by
 have h1:=jB5 h s.ks.length;rw[List.take_length] at h1;exact h1
def qG2:ECt where
 α:=Bool
 β:=UInt8
 aS:=fun b=>[.t (.bool b)]
 pre:=fun b=>True
 r:=fun r'=> .t (qA r')
 R:=fun b r'=>r'=bO b
theorem zK6 {g:EF qG2}{b:Bool}:qG2.fs g [.t (.bool b)] []=some (.t (qA (bO b)),[]):=fnQ qG2 b trivial
theorem jJr {b:Bool}(hV:vv = .t (qA (bO b)))(hO:oo=[]):qG2.K b vv oo:=⟨_,rfl,hV,hO⟩
def qNb:ECt where
 α:=List (List UInt8)×Int
 β:=List UInt8
 aS:=fun (l,i)=>[.t (.sl (l.map bsT)),.t (.int .i64 i)]
 pre:=fun (l,i)=>0≤i∧i≤100∧l.length≤100000
 r:=fun r'=> .t (.sl (r'.map qA))
 R:=fun (l,i) r'=>r'=l.getD i.toNat []
theorem zYy {g:EF qNb}{l:List (List UInt8)}{i:Int}(hp:0≤i∧i≤100∧l.length≤100000):qNb.fs g [.t (.sl (l.map bsT)),.t (.int .i64 i)] []=some (.t (.sl ((l.getD i.toNat []).map qA)),[]):=fnQ qNb (l,i) hp
theorem jG1 {l:List (List UInt8)}{i:Int}(hV:vv = .t (.sl ((l.getD i.toNat []).map qA)))(hO:oo=[]):qNb.K (l,i) vv oo:=⟨_,rfl,hV,hO⟩
def qB6:ECt where
 α:=Sa
 β:=List UInt8
 aS:=fun s=>[.t (saA s)]
 pre:=fun s=>s.Ok
 r:=fun r=> .sl 0 0 r.length
 outs:=fun r=>[.live 1 ((r.map qA).map V.t) true false]
 R:=fun s r=>r=zDh s
theorem zSk {g:EF qB6}{s:Sa}(hp:s.Ok) : ∃ (r:List UInt8),(r=zDh s)∧qB6.fs g [.t (saA s)] []=some (.sl 0 0 r.length,[.live 1 ((r.map qA).map V.t) true false]):=qB6.eq g s hp
theorem jK7 {s:Sa}(r:List UInt8)(hR:r=zDh s)(hV:vv = .sl 0 0 r.length)(hO:oo=[.live 1 ((r.map qA).map V.t) true false]):qB6.K s vv oo:=⟨r,hR,hV,hO⟩
theorem zJb  (b:Bool) :
  qKi.1.wp tab gl (qE 0 [.t (.bool b)]) (qE 0 []) (qX [(2,none)] 0 (qG2.K b)):=by
 cases b;all_goals simp(maxSteps:=9^9)(disch:=try exact dS)only[go_sem,qKi]
 all_goals exact jJr rfl rfl
theorem zIw  (b:Bool) :
  qJ0.1.wp tab gl (qE 0 [.t (.bool b)]) (qE 0 []) (qX [(2,none)] 0 (qG2.K b)):=by
 cases b;all_goals simp(maxSteps:=9^9)(disch:=try exact dS)only[go_sem,qJ0]
 all_goals exact jJr rfl rfl
theorem zNw  (l:List (List UInt8))(i:Int)(hp:0≤i∧i≤100∧l.length≤100000) :
  qIl.1.wp tab gl (qE 0 [.t (.sl (l.map bsT)),.t (.int .i64 i)]) (qE 0 []) (qX [(4,none)] 0 (qNb.K (l,i))):=by
 obtain⟨h0,h1,h2⟩:=hp;obtain⟨k,rfl⟩:=Int.eq_ofNat_of_zero_le h0;by_cases c:l.length≤k
 ·simp(maxSteps:=9^9)(disch:=try exact dS)only[go_sem,qIl,c];refine jG1 (l:=l) (i:=(k:Int)) ?_ rfl;rw[List.getD_eq_getElem?_getD,List.getElem?_eq_none oM];rfl
 ·obtain⟨x,hg,_,_⟩:=qN (l:=l) (k:=k) oM;simp(maxSteps:=9^9)(disch:=try exact dS)only[go_sem,qIl,c,hg,oms];refine jG1 (l:=l) (i:=(k:Int)) ?_ rfl;rw[List.getD_eq_getElem?_getD,show (k:Int).toNat=k from rfl,hg];rfl
def zAu:Ct where
 α:=List Int×List UInt8
 aS x:=[.t (.sl (x.1.map iT)),.ref 0 0 0]
 ins x:=[.live 1 [.t (.sl (x.2.map qA))] true true]
 pre x:=(1≤x.1.length∧x.1.length≤10)∧x.2.length≤100000
 r _:= .tup []
 outs x:=[.live 1 [.sl 1 0 (nuE x.2 x.1).length] true true,.live 1 (((nuE x.2 x.1).map qA).map V.t) true false]
 inj:=by
  rintro⟨a,b⟩ ⟨c,d⟩ h h2;simp only[List.cons.injEq,V.t.injEq,T.sl.injEq,and_true,true_and,Ob.live.injEq,yD] at h h2;have e:a=c:=by
   have hi : ∀ (x y:Int),iT x=iT y→x=y:=fun x y h=>by unfold iT at h;injection h
   exact qB9 hi h
  subst e h2;exact⟨rfl,rfl⟩
theorem zH3 {l:List Int}{b:List UInt8}(h:(1≤l.length∧l.length≤10)∧b.length≤100000):zAu.fs [.t (.sl (l.map iT)),.ref 0 0 0] [.live 1 [.t (.sl (b.map qA))] true true]=some (.tup [],[.live 1 [.sl 1 0 (nuE b l).length] true true,.live 1 (((nuE b l).map qA).map V.t) true false]):=zAu.eq (l,b) h
theorem qUj (h1:LkC tab 40 yT)(l:List Int)(b:List UInt8)(hl:(1≤l.length∧l.length≤10)∧b.length≤100000) :
  qCp.1.wp tab gl (qE 0 [.t (.sl (l.map iT)),.ref 0 0 0]) (qE 0 [.live 1 [.t (.sl (b.map qA))] true true]) (xU [] [] 1 (fun r o=>r = .tup []∧o=[.live 1 [.sl 1 0 (nuE b l).length] true true,.live 1 (((nuE b l).map qA).map V.t) true false])):=by
 simp(maxSteps:=9^9)(disch:=try exact dS)only[go_sem,qCp];refine qD l.length (fun k=>[(1,.ref 0 0 0),(5,.t (.sl (l.map iT))),(6,.t (.int .i64 l.length)),(7,.t (.int .i64 (k:Nat)))]) (fun k=>match k with | 0=>[(0,.live 1 [.t (.sl (b.map qA))] true true)] | k+1=>[(0,.live 1 [.sl 9000 0 (nuE b (l.take (k+1))).length] true true),(9000,.live 1 (((nuE b (l.take (k+1))).map qA).map V.t) true false)]) (qI.rd id ?_ ?_ rfl) (fun k hk=>?_)
 ·simp(maxSteps:=9^9)(disch:=try exact dS)only[go_sem,id]
 ·simp(maxSteps:=9^9)(disch:=try exact dS)only[go_sem,id]
 rcases k with _ | k
 ·obtain⟨x,hg,_,_⟩:=qN (l:=l) (k:=0) oM;have hs:nuE b (l.take (0+1))=b++beI 8 x 8:=(xS (f:=fun b n=>b++beI 8 n 8) hg).trans rfl;have u:=qSs (b:=b) (n:=x) oM;have lh:(b++beI 8 x 8).length=b.length+8:=by rw[List.length_append,zL5]
  generalize b++beI 8 x 8=z at *;have c:0<l.length:=oM;simp(maxSteps:=9^9)(disch:=try exact dS)only[go_sem,c,hg,oms,iT,h1,u];repeat refine aiG ?_
  refine qI.rd (fun j=>if j=9000 then 16416 else j) ?_ ?_ rfl;all_goals simp(maxSteps:=9^9)(disch:=try exact dS)only[go_sem,id,hs,lh]
 by_cases c:k+1<l.length
 ·obtain⟨x,hg,_,_⟩:=qN c;have e:=zH2 (l:=l.take (k+1)) (b:=b);have et:(l.take (k+1)).length≤10:=by rw[List.length_take];omega
  have hs:nuE b (l.take (k+1+1))=nuE b (l.take (k+1))++beI 8 x 8:=xS (f:=fun b n=>b++beI 8 n 8) hg;generalize hY:nuE b (l.take (k+1))=y at *;have u:=qSs (b:=y) (n:=x) oM;have lh:(y++beI 8 x 8).length=y.length+8:=by rw[List.length_append,zL5]
  generalize y++beI 8 x 8=z at *;simp(maxSteps:=9^9)(disch:=try exact dS)only[go_sem,c,hg,oms,iT,h1,hY,u];repeat refine aiG ?_
  refine qI.rd (fun j=>if j=9000 then 16416 else j) ?_ ?_ rfl;all_goals simp(maxSteps:=9^9)(disch:=try exact dS)only[go_sem,id,hs,lh]
 ·obtain hk1:k+1=l.length:=oM;have tl:List.take (k+1) l=l:=List.take_of_length_le oM;simp(maxSteps:=9^9)(disch:=try exact dS)only[go_sem,tl,c]
theorem qP7 {n:Int}(h:0≤n∧n≤255):T.int .u8 (IntKind.u8.wrap n)=qA (bY n):=by
 have e:m64 n=n.toNat:=by unfold m64;omega
 unfold bY;rw[qL2,e];unfold qA;rw[UInt8.toNat_ofNat'];congr 1;omega
theorem qYh (h1:LkC tab 44 qDj)(h2:LkC tab 42 yT){g3}(h3:LkE tab 45 qG2 g3)(h4:LkC tab 46 qR5)(s:Sa)(hp:s.Ok) :
  qEm.1.wp tab gl (qE 0 [.t (saA s)]) (qE 0 []) (xU [] [(2,none)] 0 (qB6.K s)):=by
 have hs:=hp;have hact:=hs.act;have w0:=qP7 (n:=s.act) oM;have wi:=qP7 (n:=(s.ix.length:Int)) (by have:=hs.ix.1;omega);have wk:=qP7 (n:=(s.ks.length:Int)) (by have:=hs.ks.1;omega);have l1:=hs.sd.1;have l2:=hs.au.1;have l3:=hs.ix.1;have l4:=hs.ks.1;have l5:=hs.en;simp(disch:=omega)only[go_sem,qEm,saA,w0,mcn];refine qD s.sd.length (fun k=>[(1,.ref 4096 0 0),(3,.sl 9000 0 ((s.sd.take k).foldl blL (eA0 s)).length),(4,.t (.int .i64 (k:Nat)))]) (fun k=>[(9000,.live 1 ((((s.sd.take k).foldl blL (eA0 s)).map qA).map V.t) true false),(4096,.live 19 [.t (saA s)] true true)]) (qI.rd (fun j=>if j=9000 then 8240 else j) ?_ ?_ rfl) (fun k hk=>?_)
 ·simp(disch:=omega)only[go_sem,id,List.take_zero,List.foldl_nil,eA0,List.length_cons,List.length_nil]
 ·simp(disch:=omega)only[go_sem,id,saA,List.take_zero,List.foldl_nil,eA0,mcn]
 have le:=jB6 hs k;by_cases c:k<s.sd.length
 ·obtain⟨x,hg,hm,_⟩:=qN c;have hx:=hs.sd.2 x hm;have hf:=xS (f:=blL) (b:=eA0 s) hg;generalize (s.sd.take k).foldl blL (eA0 s)=y at *;have u:=xK (b:=y) (x:=x) ⟨oM,oM⟩;have lb:=vO (b:=y) (x:=x);simp(disch:=omega)only[go_sem,saA,c,hg,oms,h1,u];repeat refine aiG ?_
  refine qI.rd (fun j=>if j=9000 then 24672 else j) ?_ ?_ rfl;all_goals simp(disch:=omega)only[go_sem,id,saA,hf,lb]
 obtain rfl:k=s.sd.length:=oM;clear le c hk;simp(disch:=omega)only[go_sem,saA,List.take_length];refine qD s.au.length (fun k=>[(1,.ref 4096 0 0),(3,.sl 9000 0 ((s.au.take k).foldl blL (s.sd.foldl blL (eA0 s))).length),(5,.t (.int .i64 (k:Nat)))]) (fun k=>[(9000,.live 1 ((((s.au.take k).foldl blL (s.sd.foldl blL (eA0 s))).map qA).map V.t) true false),(4096,.live 19 [.t (saA s)] true true)]) (qI.rd id ?_ ?_ rfl) (fun k hk=>?_)
 ·simp(disch:=omega)only[go_sem,id,List.take_zero,List.foldl_nil]
 ·simp(disch:=omega)only[go_sem,id,saA,List.take_zero,List.foldl_nil]
 have le:=jB3 hs k;by_cases c:k<s.au.length
 ·obtain⟨x,hg,hm,_⟩:=qN c;have hx:=hs.au.2 x hm;have hf:=xS (f:=blL) (b:=s.sd.foldl blL (eA0 s)) hg;generalize (s.au.take k).foldl blL (s.sd.foldl blL (eA0 s))=y at *;have u:=xK (b:=y) (x:=x) ⟨oM,oM⟩;have lb:=vO (b:=y) (x:=x);simp(disch:=omega)only[go_sem,saA,c,hg,oms,h1,u];repeat refine aiG ?_
  refine qI.rd (fun j=>if j=9000 then 41056 else j) ?_ ?_ rfl;all_goals simp(disch:=omega)only[go_sem,id,saA,hf,lb]
 obtain rfl:k=s.au.length:=oM;rw[List.take_length] at le;have e3:blL (s.au.foldl blL (s.sd.foldl blL (eA0 s))) s.en=eA3 s:=rfl;have e5:blL (eA4 s++[bO s.ord]) (qBk s.bk s.u)=eA5 s:=rfl;have e6:eA5 s++beI 8 s.mc 8++[bY s.ix.length]=eA6 s:=rfl;have e4:eA3 s++beI 8 s.res 8++beI 8 s.rst 8++beI 8 s.clk 8=eA4 s:=rfl;have le3:=zPk hs;have le4:=zPl hs;have le5:=zPm hs;have le6:=zPn hs;clear c hk;have u3:=xK (b:=s.au.foldl blL (s.sd.foldl blL (eA0 s))) (x:=s.en) ⟨oM,oM⟩;rw[e3] at u3;have lb3:=vO (b:=s.au.foldl blL (s.sd.foldl blL (eA0 s))) (x:=s.en);rw[e3] at lb3;generalize hY:s.au.foldl blL (s.sd.foldl blL (eA0 s))=y at *;have u4:=qSs (b:=eA3 s) (n:=s.res) oM;have u4':=qSs (b:=eA3 s++beI 8 s.res 8) (n:=s.rst) (by simp only[List.length_append,zL5];omega);have u4'':=qSs (b:=eA3 s++beI 8 s.res 8++beI 8 s.rst 8) (n:=s.clk) (by simp only[List.length_append,zL5];omega);rw[e4] at u4'';have lb4:(eA4 s).length=(eA3 s++beI 8 s.res 8++beI 8 s.rst 8).length+8:=by rw[←e4];simp only[List.length_append,zL5]
 have lB1:(eA3 s++beI 8 s.res 8).length=(eA3 s).length+8:=by simp only[List.length_append,zL5]
 have lB2:(eA3 s++beI 8 s.res 8++beI 8 s.rst 8).length=(eA3 s++beI 8 s.res 8).length+8:=by simp only[List.length_append,zL5]
 generalize eA3 s++beI 8 s.res 8++beI 8 s.rst 8=B2 at *;generalize eA3 s++beI 8 s.res 8=B1 at *;generalize eA3 s=A3 at *;have hone := @zK6 g3 s.ord;have renc:=zPu (u:=s.u) hs.bk.rv;have lr:=zA0 (u:=s.u) hs.bk.rv;have u5:=xK (b:=eA4 s++[bO s.ord]) (x:=qBk s.bk s.u) ⟨soM,oM⟩;rw[e5] at u5;have lb5:(eA5 s).length=(eA4 s++[bO s.ord]).length+2+(qBk s.bk s.u).length:=by rw[←e5];exact vO
 have m5:(eA4 s).map qA++[qA (bO s.ord)]=(eA4 s++[bO s.ord]).map qA:=sM;have lB4:(eA4 s++[bO s.ord]).length=(eA4 s).length+1:=sM;generalize eA4 s++[bO s.ord]=B4 at *;generalize eA4 s=A4 at *;generalize qBk s.bk s.u=R at *;have u6:=qSs (b:=eA5 s) (n:=s.mc) oM;have lB5:(eA5 s++beI 8 s.mc 8).length=(eA5 s).length+8:=by simp only[List.length_append,zL5]
 have lb6:(eA6 s).length=(eA5 s++beI 8 s.mc 8).length+1:=by rw[←e6,@List.length_append _ (eA5 s++beI 8 s.mc 8) _];rfl
 generalize eA5 s++beI 8 s.mc 8=B5 at *;generalize eA5 s=A5 at *;have t1:List.take (y.length+2+s.en.length) A3=A3:=List.take_of_length_le oM;have t2:List.take (A3.length+8) B1=B1:=List.take_of_length_le oM;have t3:List.take (B1.length+8) B2=B2:=List.take_of_length_le oM;have t4:List.take (B2.length+8) A4=A4:=List.take_of_length_le oM;have t4':List.take (B2.length+8+1) B4=B4:=List.take_of_length_le oM;have t5:List.take (B4.length+2+R.length) A5=A5:=List.take_of_length_le oM;have t6:List.take (A5.length+8) B5=B5:=List.take_of_length_le oM;simp(disch:=omega)only[go_sem,saA,List.take_length,hY,h1,u3,t1,h2,u4,u4',u4'',t2,t3,t4,h3,hone,h4,renc,m5,t4',u5,t5,u6,t6,wi];repeat refine aiG ?_
 refine qD s.ix.length (fun k=>[(1,.ref 4096 0 0),(3,.sl 9000 0 ((s.ix.take k).foldl ixE (eA6 s)).length),(6,.t (.int .i64 (k:Nat)))]) (fun k=>[(9000,.live 1 ((((s.ix.take k).foldl ixE (eA6 s)).map qA).map V.t) true false),(4096,.live 19 [.t (saA s)] true true)]) (qI.rd (fun j=>if j=9000 then 57488 else j) ?_ ?_ rfl) (fun k hk=>?_)
 ·simp(disch:=omega)only[go_sem,id,List.take_zero,List.foldl_nil,lb6,lB5]
 ·simp(disch:=omega)only[go_sem,id,saA,List.take_zero,List.foldl_nil,e6]
 clear u3 u4 u4' u4'' u5 u6 t1 t2 t3 t4 t4' t5 t6 m5 renc lr lb3 lb4 lb5 lb6 lB1 lB2 lB4 lB5 le le3 le4 le5 e3 e4 e5 e6 hY;have le:=jB4 hs k;by_cases c:k<s.ix.length
 ·obtain⟨x,hg,hm,_⟩:=qN c;have hx:=hs.ix.2 x hm;have hl:=hx.le;have hf:=xS (f:=ixE) (b:=eA6 s) hg;have x1:=hx.1;have x2:=hx.2.1;have x3:=hx.2.2.1;generalize (s.ix.take k).foldl ixE (eA6 s)=z at *;have w1:=qP7 (n:=x.n) oM;have w2:=qP7 (n:=x.kd) oM;have w3:=qP7 (n:=x.ar) oM;have hw := @zK6 g3 x.wr;have d0:blL (blL (blL (z++[bY x.n]++[bY x.kd]++[bY x.ar]++beI 2 x.sz 2++[bO x.wr]) x.po) x.au) x.da=ixE z x:=rfl;have l10:(z++[bY x.n]++[bY x.kd]++[bY x.ar]).length=z.length+3:=sM;have u1:=zNr (b:=z++[bY x.n]++[bY x.kd]++[bY x.ar]) (n:=x.sz) oM;generalize hC1:z++[bY x.n]++[bY x.kd]++[bY x.ar]=C1 at *;have l11:(C1++beI 2 x.sz 2).length=C1.length+2:=by simp only[List.length_append,jNu]
  generalize C1++beI 2 x.sz 2=C2 at *;have l12:(C2++[bO x.wr]).length=C2.length+1:=sM;have u2:=xK (b:=C2++[bO x.wr]) (x:=x.po) ⟨oM,oM⟩;have m2:C2.map qA++[qA (bO x.wr)]=(C2++[bO x.wr]).map qA:=sM;generalize hC3:C2++[bO x.wr]=C3 at *;have l13:=vO (b:=C3) (x:=x.po);have u3:=xK (b:=blL C3 x.po) (x:=x.au) ⟨oM,oM⟩;generalize blL C3 x.po=D1 at *;have l14:=vO (b:=D1) (x:=x.au);have u4:=xK (b:=blL D1 x.au) (x:=x.da) ⟨oM,oM⟩;generalize blL D1 x.au=D2 at *;have l15:=vO (b:=D2) (x:=x.da);rw[d0] at l15 u4;have t1:List.take (z.length+3) C1=C1:=List.take_of_length_le oM;have t2:List.take (C1.length+2) C2=C2:=List.take_of_length_le oM;have t3:List.take (C1.length+2+1) C3=C3:=List.take_of_length_le oM;have t4:List.take (C3.length+2+x.po.length) D1=D1:=List.take_of_length_le oM;have t5:List.take (D1.length+2+x.au.length) D2=D2:=List.take_of_length_le oM;simp(disch:=omega)only[go_sem,saA,c,hg,oms,ixA,w1,w2,w3,h2,u1,hC1,hC3,m2,t1,h3,hw,t2,t3,h1,u2,u3,u4,t4,t5,mcn];repeat refine aiG ?_
  refine qI.rd (fun j=>if j=9000 then 82064 else j) ?_ ?_ rfl;all_goals simp(disch:=omega)only[go_sem,id,saA,hf,l15]
 obtain rfl:k=s.ix.length:=oM;rw[List.take_length] at le;obtain⟨L,hL⟩ : ∃ L:List Int,[s.lk.fa,s.lk.mx,s.lk.rc,s.lk.si,s.lk.cl,s.lk.pe]=L:=⟨_,rfl⟩;have lL:L.length=6:=by rw[←hL];rfl
 have e7:s.ix.foldl ixE (eA6 s)=eA7 s:=rfl;have e8:nuE (eA7 s) L=eA8 s:=by rw[←hL];rfl
 rw[e7] at le;simp(disch:=omega)only[go_sem,saA,List.take_length,e7];refine qD 6 (fun k=>[(1,.ref 4096 0 0),(3,.sl 9000 0 (nuE (eA7 s) (L.take k)).length),(8,.sl 86304 0 6),(9,.t (.int .i64 (k:Nat)))]) (fun k=>[(9000,.live 1 (((nuE (eA7 s) (L.take k)).map qA).map V.t) true false),(86304,.live 1 ((L.map iT).map V.t) true true),(4096,.live 19 [.t (saA s)] true true)]) (qI.rd id ?_ ?_ rfl) (fun k hk=>?_)
 ·simp(disch:=omega)only[go_sem,id,List.take_zero,nuE,List.foldl_nil]
 ·simp(disch:=omega)only[go_sem,id,saA,List.take_zero,nuE,List.foldl_nil,←hL,mcn,iT]
 by_cases c:k<6
 ·obtain⟨x,hg,_,_⟩:=qN (l:=L) (k:=k) oM;have e:=zH2 (l:=L.take k) (b:=eA7 s);have et:(L.take k).length≤6:=by rw[List.length_take];omega
  have hf:nuE (eA7 s) (L.take (k+1))=nuE (eA7 s) (L.take k)++beI 8 x 8:=xS (f:=fun b n=>b++beI 8 n 8) hg;generalize nuE (eA7 s) (L.take k)=z at *;have u:=qSs (b:=z) (n:=x) oM;have lh:(z++beI 8 x 8).length=z.length+8:=by rw[List.length_append,zL5]
  generalize z++beI 8 x 8=z2 at *;simp(disch:=omega)only[go_sem,c,hg,oms,iT,h2,u,lL];repeat refine aiG ?_
  refine qI.rd (fun j=>if j=9000 then 102480 else j) ?_ ?_ rfl;all_goals simp(disch:=omega)only[go_sem,id,saA,hf,lh]
 obtain rfl:k=6:=oM;have le8:=zPo hs;have h9:eA8 s++[bY s.ks.length]=eA9 s:=rfl;have l9:(eA9 s).length=(eA8 s).length+1:=by rw[←h9,@List.length_append _ (eA8 s) _];rfl
 have hT:L.take 6=L:=List.take_of_length_le oM;simp(disch:=omega)only[go_sem,saA,hT,e8,wk];repeat refine aiG ?_
 refine qD s.ks.length (fun k=>[(1,.ref 4096 0 0),(3,.sl 9000 0 ((s.ks.take k).foldl lvE (eA9 s)).length),(10,.t (.int .i64 (k:Nat)))]) (fun k=>[(9000,.live 1 ((((s.ks.take k).foldl lvE (eA9 s)).map qA).map V.t) true false),(4096,.live 19 [.t (saA s)] true true)]) (qI.rd (fun j=>if j=9000 then 106592 else j) ?_ ?_ rfl) (fun k hk=>?_)
 ·simp(disch:=omega)only[go_sem,id,List.take_zero,List.foldl_nil,l9]
 ·simp(disch:=omega)only[go_sem,id,saA,List.take_zero,List.foldl_nil,h9]
 have le:=jB5 hs k;by_cases c:k<s.ks.length
 ·obtain⟨x,hg,hm,_⟩:=qN c;have hx:=hs.ks.2 x hm;unfold Lv.Ok at hx;have hf:=xS (f:=lvE) (b:=eA9 s) hg;generalize (s.ks.take k).foldl lvE (eA9 s)=z at *;have w1:=qP7 (n:=x.us) oM;have d0:blL z x.un++[bY x.us]=lvE z x:=rfl;have u1:=xK (b:=z) (x:=x.un) ⟨oM,oM⟩;have l11:=vO (b:=z) (x:=x.un);have l12:(lvE z x).length=(blL z x.un).length+1:=by rw[←d0,@List.length_append _ (blL z x.un) _];rfl
  simp(disch:=omega)only[go_sem,saA,c,hg,oms,lvA,w1,h1,u1,mcn];repeat refine aiG ?_
  refine qI.rd (fun j=>if j=9000 then 123136 else j) ?_ ?_ rfl;all_goals simp(disch:=omega)only[go_sem,id,saA,hf,l12,l11,d0]
 obtain rfl:k=s.ks.length:=oM;have ea:s.ks.foldl lvE (eA9 s)=zDh s:=rfl;simp(disch:=omega)only[go_sem,saA,List.take_length,ea];repeat refine aiG ?_
 exact jK7 (zDh s) rfl rfl rfl
theorem zQl {α:Type}{l:List α}{k:Nat}{x d:α}(h:l[k]?=some x):l.getD k d=x:=by rw[List.getD_eq_getElem?_getD,h];rfl
theorem qY4 {g1}(h1:LkE tab 66 qNb g1)(h2:LkC tab 65 qDj)(h3:LkC tab 67 zAu){g4}(h4:LkE tab 68 qG2 g4)(h5:LkC tab 69 qR5)(h6:LkC tab 40 yT)(s:Sa)(hp:s.Ok) :
  qE0.1.wp tab gl (qE 0 [.t (saA s)]) (qE 0 []) (xU [] [(2,none)] 0 (qB6.K s)):=by
 have hs:=hp;have hact:=hs.act;have w0:=qP7 (n:=s.act) oM;have wi:=qP7 (n:=(s.ix.length:Int)) (by have:=hs.ix.1;omega);have wk:=qP7 (n:=(s.ks.length:Int)) (by have:=hs.ks.1;omega);have l1:=hs.sd.1;have l2:=hs.au.1;have l3:=hs.ix.1;have l4:=hs.ks.1;have l5:=hs.en;simp(maxSteps:=9^9)(disch:=try exact dS)only[go_sem,qE0,saA,w0,mcn];refine qD 3 (fun k=>[(1,.ref 4096 0 0),(3,.ref 8256 0 0),(16,.t (.int .i64 (k:Nat)))]) (fun k=>[(8256,.live 1 [.sl 9000 0 ((s.sd.take k).foldl blL (eA0 s)).length] true true),(9000,.live 1 ((((s.sd.take k).foldl blL (eA0 s)).map qA).map V.t) true false),(4096,.live 19 [.t (saA s)] true true)]) (qI.rd (fun j=>if j=9000 then 8240 else j) ?_ ?_ rfl) (fun k hk=>?_)
 ·simp(maxSteps:=9^9)(disch:=try exact dS)only[go_sem,id,List.take_zero,List.foldl_nil,eA0,List.length_cons,List.length_nil]
 ·simp(maxSteps:=9^9)(disch:=try exact dS)only[go_sem,id,saA,List.take_zero,List.foldl_nil,eA0,mcn,List.length_cons,List.length_nil]
 have le:=jB6 hs k;by_cases c:k<3
 ·obtain⟨x,hg,hm,_⟩:=qN (l:=s.sd) (k:=k) oM;have hx:=hs.sd.2 x hm;have hf:=xS (f:=blL) (b:=eA0 s) hg;have e1:=zYy (g:=g1) (l:=s.sd) (i:=(k:Int)) ⟨oM,oM,oM⟩;rw[show (k:Int).toNat=k from rfl,zQl hg] at e1;generalize (s.sd.take k).foldl blL (eA0 s)=y at *;have u:=xK (b:=y) (x:=x) ⟨oM,oM⟩;have lb:=vO (b:=y) (x:=x);simp(maxSteps:=9^9)(disch:=try exact dS)only[go_sem,saA,c,h1,e1,h2,u];repeat refine aiG ?_
  refine qI.rd (fun j=>if j=9000 then 24656 else j) ?_ ?_ rfl;all_goals simp(maxSteps:=9^9)(disch:=try exact dS)only[go_sem,id,saA,hf,lb]
 obtain rfl:k=3:=oM;have tt:List.take 3 s.sd=s.sd:=List.take_of_length_le oM;clear le c hk;simp(maxSteps:=9^9)(disch:=try exact dS)only[go_sem,saA,tt];refine qD 4 (fun k=>[(1,.ref 4096 0 0),(3,.ref 8256 0 0),(26,.t (.int .i64 (k:Nat)))]) (fun k=>[(8256,.live 1 [.sl 9000 0 ((s.au.take k).foldl blL (s.sd.foldl blL (eA0 s))).length] true true),(9000,.live 1 ((((s.au.take k).foldl blL (s.sd.foldl blL (eA0 s))).map qA).map V.t) true false),(4096,.live 19 [.t (saA s)] true true)]) (qI.rd id ?_ ?_ rfl) (fun k hk=>?_)
 ·simp(maxSteps:=9^9)(disch:=try exact dS)only[go_sem,id]
 ·simp(maxSteps:=9^9)(disch:=try exact dS)only[go_sem,id,saA,List.take_zero,List.foldl_nil]
 have le:=jB3 hs k;by_cases c:k<4
 ·obtain⟨x,hg,hm,_⟩:=qN (l:=s.au) (k:=k) oM;have hx:=hs.au.2 x hm;have hf:=xS (f:=blL) (b:=s.sd.foldl blL (eA0 s)) hg;have e1:=zYy (g:=g1) (l:=s.au) (i:=(k:Int)) ⟨oM,oM,oM⟩;rw[show (k:Int).toNat=k from rfl,zQl hg] at e1;generalize (s.au.take k).foldl blL (s.sd.foldl blL (eA0 s))=y at *;have u:=xK (b:=y) (x:=x) ⟨oM,oM⟩;have lb:=vO (b:=y) (x:=x);simp(maxSteps:=9^9)(disch:=try exact dS)only[go_sem,saA,c,h1,e1,h2,u];repeat refine aiG ?_
  refine qI.rd (fun j=>if j=9000 then 45136 else j) ?_ ?_ rfl;all_goals simp(maxSteps:=9^9)(disch:=try exact dS)only[go_sem,id,saA,hf,lb]
 obtain rfl:k=4:=oM;have tu:List.take 4 s.au=s.au:=List.take_of_length_le oM;rw[tu] at le;have e3:blL (s.au.foldl blL (s.sd.foldl blL (eA0 s))) s.en=eA3 s:=rfl;have e5:blL (eA4 s++[bO s.ord]) (qBk s.bk s.u)=eA5 s:=rfl;have e6:eA5 s++beI 8 s.mc 8++[bY s.ix.length]=eA6 s:=rfl;have le3:=zPk hs;have le4:=zPl hs;have le5:=zPm hs;have le6:=zPn hs;clear c hk;have u3:=xK (b:=s.au.foldl blL (s.sd.foldl blL (eA0 s))) (x:=s.en) ⟨oM,oM⟩;rw[e3] at u3;have lb3:=vO (b:=s.au.foldl blL (s.sd.foldl blL (eA0 s))) (x:=s.en);rw[e3] at lb3;generalize hY:s.au.foldl blL (s.sd.foldl blL (eA0 s))=y at *;have u4:=zH3 (l:=[s.res,s.rst,s.clk]) (b:=eA3 s) ⟨⟨sM,sM⟩,oM⟩;rw[show nuE (eA3 s) [s.res,s.rst,s.clk]=eA4 s from rfl] at u4;generalize eA3 s=A3 at *;have hone := @zK6 g4 s.ord;have renc:=zPu (u:=s.u) hs.bk.rv;have lr:=zA0 (u:=s.u) hs.bk.rv;have u5:=xK (b:=eA4 s++[bO s.ord]) (x:=qBk s.bk s.u) ⟨soM,oM⟩;rw[e5] at u5;have lb5:(eA5 s).length=(eA4 s++[bO s.ord]).length+2+(qBk s.bk s.u).length:=by rw[←e5];exact vO
 have m5:(eA4 s).map qA++[qA (bO s.ord)]=(eA4 s++[bO s.ord]).map qA:=sM;have lB4:(eA4 s++[bO s.ord]).length=(eA4 s).length+1:=sM;generalize hB4:eA4 s++[bO s.ord]=B4 at *;generalize eA4 s=A4 at *;generalize qBk s.bk s.u=R at *;have u6:=zH3 (l:=[s.mc]) (b:=eA5 s) ⟨⟨sM,sM⟩,oM⟩;have e6n:nuE (eA5 s) [s.mc]=eA5 s++beI 8 s.mc 8:=rfl;rw[e6n] at u6;have lB5:(eA5 s++beI 8 s.mc 8).length=(eA5 s).length+8:=by simp only[List.length_append,zL5]
 have lb6:(eA6 s).length=(eA5 s++beI 8 s.mc 8).length+1:=by rw[←e6,@List.length_append _ (eA5 s++beI 8 s.mc 8) _];rfl
 generalize eA5 s++beI 8 s.mc 8=B5 at *;generalize eA5 s=A5 at *;have t1:List.take (y.length+2+s.en.length) A3=A3:=List.take_of_length_le oM;have t4':List.take (A4.length+1) B4=B4:=List.take_of_length_le oM;have t5:List.take (B4.length+2+R.length) A5=A5:=List.take_of_length_le oM;simp only[mcn,iT] at u4 u6;simp(maxSteps:=9^9)(disch:=try exact dS)only[go_sem,saA,tu,hY,h2,u3,t1,h3,u4,h4,hone,h5,renc,m5,hB4,t4',u5,t5,u6,wi];repeat refine aiG ?_
 refine qD s.ix.length (fun k=>[(1,.ref 4096 0 0),(3,.ref 8256 0 0),(6,.fn 67 [.ref 8256 0 0]),(74,.t (.sl (s.ix.map ixA))),(75,.t (.int .i64 s.ix.length)),(76,.t (.int .i64 (k:Nat)))]) (fun k=>[(8256,.live 1 [.sl 9000 0 ((s.ix.take k).foldl ixE (eA6 s)).length] true true),(9000,.live 1 ((((s.ix.take k).foldl ixE (eA6 s)).map qA).map V.t) true false),(4096,.live 19 [.t (saA s)] true true)]) (qI.rd (fun j=>if j=9000 then 77920 else j) ?_ ?_ rfl) (fun k hk=>?_)
 ·simp(maxSteps:=9^9)(disch:=try exact dS)only[go_sem,id]
 ·simp(maxSteps:=9^9)(disch:=try exact dS)only[go_sem,id,saA,List.take_zero,List.foldl_nil,e6,lb6]
 clear u3 u4 u5 u6 t1 t4' t5 m5 renc lr lb3 lb5 lb6 lB4 lB5 le le3 le4 le5 e3 e5 e6 hY hB4;have le:=jB4 hs k;by_cases c:k<s.ix.length
 ·obtain⟨x,hg,hm,_⟩:=qN c;have hx:=hs.ix.2 x hm;have hl:=hx.le;have hf:=xS (f:=ixE) (b:=eA6 s) hg;have x1:=hx.1;have x2:=hx.2.1;have x3:=hx.2.2.1;generalize (s.ix.take k).foldl ixE (eA6 s)=z at *;have w1:=qP7 (n:=x.n) oM;have w2:=qP7 (n:=x.kd) oM;have w3:=qP7 (n:=x.ar) oM;have hw := @zK6 g4 x.wr;have d0:blL (blL (blL (z++[bY x.n]++[bY x.kd]++[bY x.ar]++beI 2 x.sz 2++[bO x.wr]) x.po) x.au) x.da=ixE z x:=rfl;have l10:(z++[bY x.n]++[bY x.kd]++[bY x.ar]).length=z.length+3:=sM;have u1:=zNr (b:=z++[bY x.n]++[bY x.kd]++[bY x.ar]) (n:=x.sz) oM;generalize hC1:z++[bY x.n]++[bY x.kd]++[bY x.ar]=C1 at *;have l11:(C1++beI 2 x.sz 2).length=C1.length+2:=by simp only[List.length_append,jNu]
  generalize C1++beI 2 x.sz 2=C2 at *;have l12:(C2++[bO x.wr]).length=C2.length+1:=sM;have u2:=xK (b:=C2++[bO x.wr]) (x:=x.po) ⟨oM,oM⟩;have m2:C2.map qA++[qA (bO x.wr)]=(C2++[bO x.wr]).map qA:=sM;generalize hC3:C2++[bO x.wr]=C3 at *;have l13:=vO (b:=C3) (x:=x.po);have u3:=xK (b:=blL C3 x.po) (x:=x.au) ⟨oM,oM⟩;generalize blL C3 x.po=D1 at *;have l14:=vO (b:=D1) (x:=x.au);have u4:=xK (b:=blL D1 x.au) (x:=x.da) ⟨oM,oM⟩;generalize blL D1 x.au=D2 at *;have l15:=vO (b:=D2) (x:=x.da);rw[d0] at l15 u4;have t1:List.take (z.length+3) C1=C1:=List.take_of_length_le oM;have t2:List.take (C1.length+2) C2=C2:=List.take_of_length_le oM;have t3:List.take (C1.length+2+1) C3=C3:=List.take_of_length_le oM;have t4:List.take (C3.length+2+x.po.length) D1=D1:=List.take_of_length_le oM;have t5:List.take (D1.length+2+x.au.length) D2=D2:=List.take_of_length_le oM;simp(maxSteps:=9^9)(disch:=try exact dS)only[go_sem,c,hg,oms,ixA,w1,w2,w3,h6,u1,hC1,hC3,m2,t1,h4,hw,t2,t3,h2,u2,u3,u4,t4,t5,mcn];repeat refine aiG ?_
  refine qI.rd (fun j=>if j=9000 then 102544 else j) ?_ ?_ rfl;all_goals simp(maxSteps:=9^9)(disch:=try exact dS)only[go_sem,id,saA,hf,l15]
 obtain rfl:k=s.ix.length:=oM;rw[List.take_length] at le;have e7:s.ix.foldl ixE (eA6 s)=eA7 s:=rfl;rw[e7] at le;have u8:=zH3 (l:=[s.lk.fa,s.lk.mx,s.lk.rc,s.lk.si,s.lk.cl,s.lk.pe]) (b:=eA7 s) ⟨⟨sM,sM⟩,oM⟩;rw[show nuE (eA7 s) [s.lk.fa,s.lk.mx,s.lk.rc,s.lk.si,s.lk.cl,s.lk.pe]=eA8 s from rfl] at u8;have le8:=zPo hs;have h9:eA8 s++[bY s.ks.length]=eA9 s:=rfl;have l9:(eA9 s).length=(eA8 s).length+1:=by rw[←h9,@List.length_append _ (eA8 s) _];rfl
 simp only[mcn,iT] at u8;simp(maxSteps:=9^9)(disch:=try exact dS)only[go_sem,saA,List.take_length,e7,h3,u8,wk];repeat refine aiG ?_
 refine qD s.ks.length (fun k=>[(3,.ref 8256 0 0),(137,.t (.sl (s.ks.map lvA))),(138,.t (.int .i64 s.ks.length)),(139,.t (.int .i64 (k:Nat)))]) (fun k=>[(8256,.live 1 [.sl 9000 0 ((s.ks.take k).foldl lvE (eA9 s)).length] true true),(9000,.live 1 ((((s.ks.take k).foldl lvE (eA9 s)).map qA).map V.t) true false)]) (qI.rd (fun j=>if j=9000 then 118880 else j) ?_ ?_ rfl) (fun k hk=>?_)
 ·simp(maxSteps:=9^9)(disch:=try exact dS)only[go_sem,id]
 ·simp(maxSteps:=9^9)(disch:=try exact dS)only[go_sem,id,saA,List.take_zero,List.foldl_nil,h9,l9]
 have le:=jB5 hs k;by_cases c:k<s.ks.length
 ·obtain⟨x,hg,hm,_⟩:=qN c;have hx:=hs.ks.2 x hm;unfold Lv.Ok at hx;have hf:=xS (f:=lvE) (b:=eA9 s) hg;generalize (s.ks.take k).foldl lvE (eA9 s)=z at *;have w1:=qP7 (n:=x.us) oM;have d0:blL z x.un++[bY x.us]=lvE z x:=rfl;have u1:=xK (b:=z) (x:=x.un) ⟨oM,oM⟩;have l11:=vO (b:=z) (x:=x.un);have l12:(lvE z x).length=(blL z x.un).length+1:=by rw[←d0,@List.length_append _ (blL z x.un) _];rfl
  simp(maxSteps:=9^9)(disch:=try exact dS)only[go_sem,c,hg,oms,lvA,w1,h2,u1,mcn];repeat refine aiG ?_
  refine qI.rd (fun j=>if j=9000 then 135296 else j) ?_ ?_ rfl;all_goals simp(maxSteps:=9^9)(disch:=try exact dS)only[go_sem,id,hf,l12,l11,d0]
 obtain rfl:k=s.ks.length:=oM;have ea:s.ks.foldl lvE (eA9 s)=zDh s:=rfl;simp(maxSteps:=9^9)(disch:=try exact dS)only[go_sem,List.take_length,ea];repeat refine aiG ?_
 exact jK7 (zDh s) rfl rfl rfl
def qHk (s:Rd)(m:Int):Int×Rd:=if (qL s 1).2.2.2=0∧m<(qL s 1).1 then (0,((qL s 1).2.1,(qL s 1).2.2.1,1)) else qL s 1
theorem qSo {s:Rd}{m:Int}(h:yH s):yH (qHk s m).2:=by
 have:=zR (k:=1) h;unfold qHk;split
 ·exact this
 ·exact this
noncomputable def dcT (b:List UInt8):List zB×Int×Int:=⟨(qQd (b:=b)).choose,(qQd (b:=b)).choose_spec.choose,(qQd (b:=b)).choose_spec.choose_spec.choose⟩
theorem zAx (b:List UInt8):dcR b = .tup [.t (.agg [.sl ((dcT b).1.map yS),.int .i64 (dcT b).2.1]),.t (.int .i64 (dcT b).2.2)]∧RV (dcT b).1:=(qQd (b:=b)).choose_spec.choose_spec.choose_spec
noncomputable def qWl (s:Rd):(List zB×Int)×Rd:=
 if (zA s 4096).2.2.2≠0 then (([],0),(zA s 4096).2)
 else (((dcT (zA s 4096).1).1,(dcT (zA s 4096).1).2.1),((zA s 4096).2.1,(zA s 4096).2.2.1,(dcT (zA s 4096).1).2.2))
theorem jD6 {s:Rd}(h:yH s):yH (qWl s).2:=by
 have:=kK (k:=4096) h;unfold qWl;split
 ·exact this
 ·exact this
def qMf (s:Rd):Nat→List (List UInt8)×Rd
 | 0=>([],s)
 | n+1=>((qMf s n).1++[(zA (qMf s n).2 4096).1],(zA (qMf s n).2 4096).2)
theorem qWh {s:Rd}(h:yH s) : ∀ n,yH (qMf s n).2
 | 0=>h
 | n+1=>kK (qWh h n)
def qT0 (s:Rd):Ix×Rd:=
 match qL s 1 with
 | (n,s1)=>match qL s1 1 with
 | (kd,s2)=>match qL s2 1 with
 | (ar,s3)=>match qL s3 2 with
 | (sz,s4)=>match qHk s4 1 with
 | (w,s5)=>match zA s5 4096 with
 | (po,s6)=>match zA s6 4096 with
 | (au,s7)=>match zA s7 4096 with
 | (da,s8)=>(⟨n,kd,ar,sz,po,au,w==1,da⟩,s8)
theorem jD1 {s:Rd}(h:yH s):yH (qT0 s).2:=by
 unfold qT0;exact kK (kK (kK (qSo (zR (zR (zR (zR h)))))))
def qUw (s:Rd):Nat→List Ix×Rd
 | 0=>([],s)
 | n+1=>((qUw s n).1++[(qT0 (qUw s n).2).1],(qT0 (qUw s n).2).2)
theorem zH7 {s:Rd}(h:yH s) : ∀ n,yH (qUw s n).2
 | 0=>h
 | n+1=>jD1 (zH7 h n)
def zWk (s:Rd):Lv×Rd:=
 match zA s 4096 with
 | (un,s1)=>match qL s1 1 with
 | (us,s2)=>(⟨un,us⟩,s2)
theorem jD5 {s:Rd}(h:yH s):yH (zWk s).2:=by
 unfold zWk;exact zR (kK h)
def qTm (s:Rd):Nat→List Lv×Rd
 | 0=>([],s)
 | n+1=>((qTm s n).1++[(zWk (qTm s n).2).1],(zWk (qTm s n).2).2)
theorem zH6 {s:Rd}(h:yH s) : ∀ n,yH (qTm s n).2
 | 0=>h
 | n+1=>jD5 (zH6 h n)
noncomputable def zBf (s:Rd):Sa×Rd:=
 match qHk s 3 with
 | (act,s1)=>match qMf s1 3 with
 | (sd,s2)=>match qMf s2 4 with
 | (au,s3)=>match zA s3 4096 with
 | (en,s4)=>match qL s4 8 with
 | (res,s5)=>match qL s5 8 with
 | (rst,s6)=>match qL s6 8 with
 | (clk,s7)=>match qHk s7 1 with
 | (w,s8)=>match qWl s8 with
 | ((bk,u),s9)=>match qL s9 8 with
 | (mc,s10)=>match qHk s10 6 with
 | (n,s11)=>match qUw s11 n.toNat with
 | (ix,s12)=>match qL s12 8 with
 | (l1,s13)=>match qL s13 8 with
 | (l2,s14)=>match qL s14 8 with
 | (l3,s15)=>match qL s15 8 with
 | (l4,s16)=>match qL s16 8 with
 | (l5,s17)=>match qL s17 8 with
 | (l6,s18)=>match qHk s18 8 with
 | (m,s19)=>match qTm s19 m.toNat with
 | (ks,s20)=>(⟨sd,au,en,act,res,rst,clk,w==1,bk,u,mc,ix,⟨l1,l2,l3,l4,l5,l6⟩,ks⟩,s20)
noncomputable def zMe (b:List UInt8):Sa×Int:=
 if (qL (b,0,0) 1).2.2.2≠0 then (default,(qL (b,0,0) 1).2.2.2)
 else if (qL (b,0,0) 1).1≠1 then (default,5)
 else if vS (zBf (qL (b,0,0) 1).2).2≠0 then (default,vS (zBf (qL (b,0,0) 1).2).2)
 else ((zBf (qL (b,0,0) 1).2).1,0)
def qAh:ECt where
 α:=List UInt8
 β:=Sa×Int
 aS:=fun b=>[.t (.sl (b.map qA))]
 pre:=fun b=>b.length<100000000
 r:=fun (y,e)=> .tup [.t (saA y),.t (.int .i64 e)]
 R:=fun b (y,e)=>(y,e)=zMe b
theorem zPg {g:EF qAh}{b:List UInt8}(hp:b.length<100000000) : ∃ (y:Sa) (e:Int),((y,e)=zMe b)∧qAh.fs g [.t (.sl (b.map qA))] []=some (.tup [.t (saA y),.t (.int .i64 e)],[]):=by
 obtain⟨y,h1,h2⟩:=qAh.eq g b hp;exact⟨y.1,y.2,h1,h2⟩
theorem zHn {b:List UInt8}(y:Sa)(e:Int)(hR:(y,e)=zMe b)(hV:vv = .tup [.t (saA y),.t (.int .i64 e)])(hO:oo=[]):qAh.K b vv oo:=⟨(y,e),hR,hV,hO⟩
def qVt:Ct where
 α:=Rd×Int
 aS x:=[.ref 0 0 0,.t (.int .i64 x.2)]
 ins x:=[yU x.1]
 pre x:=yH x.1
 r x:= .t (.int .i64 (qHk x.1 x.2).1)
 outs x:=[yU (qHk x.1 x.2).2]
 inj:=by
  rintro⟨s,a⟩ ⟨t,c⟩ h1 h2;simp only[List.cons.injEq,V.t.injEq,T.int.injEq,true_and,and_true] at h1;simp only[List.cons.injEq,and_true] at h2;subst h1;cases yV h2;exact⟨rfl,rfl⟩
theorem zR2 {s:Rd}{m:Int}(h:yH s):qVt.fs [.ref 0 0 0,.t (.int .i64 m)] [rdO s]=some (.t (.int .i64 (qHk s m).1),[rdO (qHk s m).2]):=qVt.eq (s,m) h
theorem zC2 (h1:LkC tab 57 qCq)(s:Rd)(m:Int)(h:yH s) :
  qAp.1.wp tab gl (qE 0 [.ref 0 0 0,.t (.int .i64 m)]) (qE 0 [yU s]) (qX [(4,none)] 1 (fun r o=>r = .t (.int .i64 (qHk s m).1)∧o=[yU (qHk s m).2])):=by
 have e1:=vB (s:=s) (k:=1) ⟨h,oM,oM⟩;rw[show ((1:Nat):Int)=1 from rfl] at e1;have hd:qHk s m=if (qL s 1).2.2.2=0∧m<(qL s 1).1 then (0,((qL s 1).2.1,(qL s 1).2.2.1,1)) else qL s 1:=rfl
 obtain⟨b,p,e⟩:=s;rw[hd];generalize qL (b,p,e) 1=y at *;obtain⟨v,b',p',e'⟩:=y;simp only[rdO,qV] at e1 ⊢;by_cases c1:e'=0
 ·subst c1;by_cases c2:m<v
  ·rw[if_pos ⟨rfl,c2⟩];simp(maxSteps:=9^9)(disch:=try exact dS)only[go_sem,qAp,qV,h1,e1,c2]
  ·rw[if_neg (fun h=>c2 h.2)];simp(maxSteps:=9^9)(disch:=try exact dS)only[go_sem,qAp,qV,h1,e1,c2]
 ·rw[if_neg (fun h=>c1 h.1)];simp(maxSteps:=9^9)(disch:=try exact dS)only[go_sem,qAp,qV,h1,e1,c1]
noncomputable def zKn:Ct where
 α:=Rd
 aS _:=[.ref 0 0 0]
 ins x:=[yU x]
 pre x:=yH x
 r x:= .t (.agg [.sl ((qWl x).1.1.map yS),.int .i64 (qWl x).1.2])
 outs x:=[yU (qWl x).2]
 inj:=by
  intro s t _ h2;simp only[List.cons.injEq,and_true] at h2;cases yV h2;exact⟨rfl,rfl⟩
theorem jPx {s:Rd}(h:yH s):zKn.fs [.ref 0 0 0] [rdO s]=some (.t (.agg [.sl ((qWl s).1.1.map yS),.int .i64 (qWl s).1.2]),[rdO (qWl s).2]):=zKn.eq s h
theorem zY8 {b:List UInt8}(h:b.length<1000000000):qR4.fs [.t (.sl (b.map qA))] []=some (.tup [.t (.agg [.sl ((dcT b).1.map yS),.int .i64 (dcT b).2.1]),.t (.int .i64 (dcT b).2.2)],[]):=by
 rw[←(zAx b).1];exact qR4.eq b h
theorem zC1 (h1:LkC tab 59 qAx)(h2:LkC tab 90 qR4)(s:Rd)(h:yH s) :
  qAo.1.wp tab gl (qE 0 [.ref 0 0 0]) (qE 0 [yU s]) (qX [(2,some (2,true))] 1 (fun r o=>r = .t (.agg [.sl ((qWl s).1.1.map yS),.int .i64 (qWl s).1.2])∧o=[yU (qWl s).2])):=by
 have e1:=qC2 (s:=s) (k:=4096) ⟨h,oM⟩;rw[show ((4096:Nat):Int)=4096 from rfl] at e1;have ok:=qFp (s:=s) (k:=4096);have e2:=zY8 (b:=(zA s 4096).1) oM;have hd:qWl s=if (zA s 4096).2.2.2≠0 then (([],0),(zA s 4096).2) else (((dcT (zA s 4096).1).1,(dcT (zA s 4096).1).2.1),((zA s 4096).2.1,(zA s 4096).2.2.1,(dcT (zA s 4096).1).2.2)):=rfl
 obtain⟨b,p,e⟩:=s;rw[hd];generalize zA (b,p,e) 4096=y at *;obtain⟨v,b',p',e'⟩:=y;simp only[rdO,qV] at e1 e2 ⊢;generalize dcT v=z at *;obtain⟨bk,u,f⟩:=z;simp only at e2 ⊢;by_cases c1:e'=0
 ·subst c1;rw[if_neg sM];by_cases c2:f=0
  ·subst c2;simp(maxSteps:=9^9)(disch:=try exact dS)only[go_sem,qAo,qV,h1,e1,h2,e2]
  ·simp(maxSteps:=9^9)(disch:=try exact dS)only[go_sem,qAo,qV,h1,e1,h2,e2,c2]
 ·rw[if_pos c1];simp(maxSteps:=9^9)(disch:=try exact dS)only[go_sem,qAo,qV,h1,e1,c1]
def zKm:Ct where
 α:=Rd
 aS _:=[.ref 0 0 0]
 ins x:=[yU x]
 pre x:=yH x
 r x:= .t (ixA (qT0 x).1)
 outs x:=[yU (qT0 x).2]
 inj:=by
  intro s t _ h2;simp only[List.cons.injEq,and_true] at h2;cases yV h2;exact⟨rfl,rfl⟩
theorem jPp {s:Rd}(h:yH s):zKm.fs [.ref 0 0 0] [rdO s]=some (.t (ixA (qT0 s).1),[rdO (qT0 s).2]):=zKm.eq s h
theorem qS0 (h1:LkC tab 57 qCq)(h2:LkC tab 58 qVt)(h3:LkC tab 59 qAx)(s:Rd)(h:yH s) :
  qBt.1.wp tab gl (qE 0 [.ref 0 0 0]) (qE 0 [yU s]) (qX [(2,some (8,true))] 1 (fun r o=>r = .t (ixA (qT0 s).1)∧o=[yU (qT0 s).2])):=by
 obtain⟨⟨n,s1⟩,q1⟩ : ∃ y,qL s 1=y:=⟨_,rfl⟩;have o1:yH s1:=by have:=zR (k:=1) h;rw[q1] at this;exact this
 obtain⟨⟨kd,s2⟩,q2⟩ : ∃ y,qL s1 1=y:=⟨_,rfl⟩;have o2:yH s2:=by have:=zR (k:=1) o1;rw[q2] at this;exact this
 obtain⟨⟨ar,s3⟩,q3⟩ : ∃ y,qL s2 1=y:=⟨_,rfl⟩;have o3:yH s3:=by have:=zR (k:=1) o2;rw[q3] at this;exact this
 obtain⟨⟨sz,s4⟩,q4⟩ : ∃ y,qL s3 2=y:=⟨_,rfl⟩;have o4:yH s4:=by have:=zR (k:=2) o3;rw[q4] at this;exact this
 obtain⟨⟨w,s5⟩,q5⟩ : ∃ y,qHk s4 1=y:=⟨_,rfl⟩;have o5:yH s5:=by have:=qSo (m:=1) o4;rw[q5] at this;exact this
 obtain⟨⟨po,s6⟩,q6⟩ : ∃ y,zA s5 4096=y:=⟨_,rfl⟩;have o6:yH s6:=by have:=kK (k:=4096) o5;rw[q6] at this;exact this
 obtain⟨⟨au,s7⟩,q7⟩ : ∃ y,zA s6 4096=y:=⟨_,rfl⟩;have o7:yH s7:=by have:=kK (k:=4096) o6;rw[q7] at this;exact this
 obtain⟨⟨da,s8⟩,q8⟩ : ∃ y,zA s7 4096=y:=⟨_,rfl⟩;have hd:qT0 s=(⟨n,kd,ar,sz,po,au,w==1,da⟩,s8):=by simp only[qT0,q1,q2,q3,q4,q5,q6,q7,q8]
 have e1:=vB (s:=s) (k:=1) ⟨h,oM,oM⟩;have e2:=vB (s:=s1) (k:=1) ⟨o1,oM,oM⟩;have e3:=vB (s:=s2) (k:=1) ⟨o2,oM,oM⟩;have e4:=vB (s:=s3) (k:=2) ⟨o3,oM,oM⟩;have e5:=zR2 (m:=1) o4;have e6:=qC2 (s:=s5) (k:=4096) ⟨o5,oM⟩;have e7:=qC2 (s:=s6) (k:=4096) ⟨o6,oM⟩;have e8:=qC2 (s:=s7) (k:=4096) ⟨o7,oM⟩;rw[q1] at e1;rw[q2] at e2;rw[q3] at e3;rw[q4] at e4;rw[q5] at e5;rw[q6] at e6;rw[q7] at e7;rw[q8] at e8;rw[hd];have k1:((1:Nat):Int)=1:=rfl;have k2:((2:Nat):Int)=2:=rfl;have k3:((4096:Nat):Int)=4096:=rfl;rw[k1] at e1 e2 e3;rw[k2] at e4;rw[k3] at e6 e7 e8;obtain⟨b0,p0,x0⟩:=s;simp only[rdO] at e1 e2 e3 e4 e5 e6 e7 e8;simp(maxSteps:=9^9)(disch:=try exact dS)only[go_sem,qBt,qV,rdO,h1,h2,h3,e1,e2,e3,e4,e5,e6,e7,e8,ixA];rfl
end Go.Eng
end
