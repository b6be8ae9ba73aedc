/- A part of an abstract machine, its walks, their tie. -/
import Derived.Test.YtekghmfbgbhobaaGreatDoorD23
import Derived.Test.YtekghmfbgbhobaaGreatDoorD20
set_option linter.all false
section
set_option maxHeartbeats 64000000
set_option maxRecDepth 20000
namespace Go.Eng
variable (tab:Tab) (gl:Gl)
variable {vv:V} {oo:List Ob}
def qAf (s:Sa):St:=⟨s,false,false,[],0,0,false,0,[default,default,default],[default,default,default],[],[]⟩
def qDm:ECt where
 α:=Sa
 β:=St
 aS:=fun s=>[.t (saA s)]
 pre:=fun s=>True
 r:=fun r'=> .t (stA r')
 R:=fun s r'=>r'=qAf s
theorem zDp {g:EF qDm}{s:Sa}:qDm.fs g [.t (saA s)] []=some (.t (stA (qAf s)),[]):=fnQ qDm s trivial
theorem jG7 {s:Sa}(hV:vv = .t (stA (qAf s)))(hO:oo=[]):qDm.K s vv oo:=⟨_,rfl,hV,hO⟩
theorem zFl  (s:Sa) :
  qH0.1.wp tab gl (qE 0 [.t (saA s)]) (qE 0 []) (qX [(2,(some (30,true)))] 0 (qDm.K s)):=by
 simp +contextual(disch:=omega)only[go_sem,qH0,saA,↓qB,↓qC,qU];exact⟨rfl,jG7 rfl rfl⟩
def zIp (s:St):St := { s with a := { s.a with res:=s.a.res+1,rst:=0,ord:=false,bk:=[],u:=0 },on:=true,bk:=kF s.a.act,u:=0,clk:=s.a.clk,safe:=s.a.ord }
def zX3 (s:St):St := { s with a := { s.a with rst:=s.a.rst+1,ord:=false,bk:=[],u:=0 },on:=true,bk:=qXz s.a.bk,u:=s.a.u,clk:=s.a.clk,safe:=s.a.ord }
def qRe (s:St)(m:Int):St×Int:=
 if s.on=true∨s.off=true then (default,28) else if m≠0∧m≠1 then (default,1) else if m=1∧s.a.bk.length=0 then (default,16)
 else if m=0 then (zIp s,0) else (zX3 s,0)
theorem zRb {act:Int}(ha:1≤act∧act≤3) : ∃ b0 b1:zB,kF act=[b0,b1]∧wS.fs [.t (.int .i64 act)] []=some (.agg [.sl 0 0 2,.t (.int .i64 0)],[.live 1 [.sl 1 0 b0.length,.sl 2 0 b1.length] true false,.live 1 ((b0.map bsT).map V.t) true false,.live 1 ((b1.map bsT).map V.t) true false]):=by
 obtain⟨b0,b1,e,_⟩:=ShA.new ha;refine⟨b0,b1,e,?_⟩;have h:wS.fs [.t (.int .i64 act)] []=some (twR (kF act) 0,twO (kF act)):=wS.eq act trivial;rw[e] at h;exact h
theorem zK3:wS.fs [.t (.int .i64 0)] []=some (.agg [.nil,.t (.int .i64 0)],[]):=wS.eq (0:Int) trivial
def qDp:ECt where
 α:=St×Int
 β:=St×Int
 aS:=fun (s,m)=>[.t (stA s),.t (.int .i64 m)]
 pre:=fun (s,m)=>s.a.Ok∧s.cn 1000000
 r:=fun (y,e)=> .tup [.t (stA y),.t (.int .i64 e)]
 R:=fun (s,m) (y,e)=>y=(qRe s m).1∧e=(qRe s m).2
theorem zLu {g:EF qDp}{s:St}{m:Int}(hp:s.a.Ok∧s.cn 1000000) : ∃ (y:St) (e:Int),(y=(qRe s m).1∧e=(qRe s m).2)∧qDp.fs g [.t (stA s),.t (.int .i64 m)] []=some (.tup [.t (stA y),.t (.int .i64 e)],[]):=by
 obtain⟨y,h1,h2⟩:=qDp.eq g (s,m) hp;exact⟨y.1,y.2,h1,h2⟩
theorem qRc {s:St}{m:Int}(y:St)(e:Int)(hR:y=(qRe s m).1∧e=(qRe s m).2)(hV:vv = .tup [.t (stA y),.t (.int .i64 e)])(hO:oo=[]):qDp.K (s,m) vv oo:=⟨(y,e),hR,hV,hO⟩
theorem qW9 (h1:LkC tab 38 wS)(h2:LkC tab 39 qBj)(s:St)(m:Int)(hp:s.a.Ok∧s.cn 1000000) :
  jQ.1.wp tab gl (qE 0 [.t (stA s),.t (.int .i64 m)]) (qE 0 []) (qX [(4,(some (30,true))),(5,none)] 0 (qDp.K (s,m))):=by
 obtain⟨ok,c1,c2,c3,c4,c5⟩:=hp;have q1:=ok.res;have q2:=ok.rst;have q3:=ok.act;have e2:=jAm (u:=s.a.u) ok.bk.rv.rm;simp only[jN] at e2;by_cases d1:s.on=true
 ·simp +contextual(maxSteps:=9^9)(disch:=try exact dS)only[go_sem,jQ,stA,d1,↓qB,↓qC,qU];exact qRc default 28 (by rw[qRe,if_pos (.inl d1)];exact⟨rfl,rfl⟩) rfl rfl
 by_cases d2:s.off=true
 ·simp +contextual(maxSteps:=9^9)(disch:=try exact dS)only[go_sem,jQ,stA,d1,d2,↓qB,↓qC,qU];exact qRc default 28 (by rw[qRe,if_pos (.inr d2)];exact⟨rfl,rfl⟩) rfl rfl
 have d1':s.on=false:=by simpa using d1
 have d2':s.off=false:=by simpa using d2
 by_cases m0:m=0
 ·subst m0;have hS:qRe s 0=(zIp s,0):=by simp[qRe,d1',d2']
  rcases (by omega:s.a.act=0∨(1≤s.a.act∧s.a.act≤3)) with ha | ha
  ·simp +contextual(maxSteps:=9^9)(disch:=try exact dS)only[go_sem,jQ,stA,d1',d2',h1,ha,zK3,↓qB,↓qC,qU]
   (repeat' (first | apply And.intro | intro _))<;>(try rfl)
   refine qRc (zIp s) 0 (by rw[hS];exact⟨rfl,rfl⟩) ?_ rfl;rw[zIp,ha];simp only[stA,ha,d2'];rfl
  ·obtain⟨b0,b1,eb,e1⟩:=zRb ha;simp +contextual(maxSteps:=9^9)(disch:=try exact dS)only[go_sem,jQ,stA,d1',d2',h1,e1,List.take_length,↓qB,↓qC,qU]
   (repeat' (first | apply And.intro | intro _))<;>(try rfl)
   refine qRc (zIp s) 0 (by rw[hS];exact⟨rfl,rfl⟩) ?_ rfl;rw[zIp,eb];simp only[stA,d2'];rfl
 by_cases m1:m=1
 ·subst m1;by_cases m2:s.a.bk.length=0
  ·simp +contextual(maxSteps:=9^9)(disch:=try exact dS)only[go_sem,jQ,stA,d1',d2',h2,e2,m2,↓qB,↓qC,qU];exact qRc default 16 (by simp[qRe,d1',d2',m2]) rfl rfl
  ·have hS:qRe s 1=(zX3 s,0):=by simp only[qRe,d1',d2',m2];rfl
   simp +contextual(maxSteps:=9^9)(disch:=try exact dS)only[go_sem,jQ,stA,d1',d2',h2,e2,m2,↓qB,↓qC,qU]
   (repeat' (first | apply And.intro | intro _))<;>(try rfl)
   refine qRc (zX3 s) 0 (by rw[hS];exact⟨rfl,rfl⟩) ?_ rfl;rw[zX3];simp only[stA,d2',List.map_nil]
 ·simp +contextual(maxSteps:=9^9)(disch:=try exact dS)only[go_sem,jQ,stA,d1',d2',m0,m1,↓qB,↓qC,qU];exact qRc default 1 (by simp[qRe,d1',d2',m0,m1]) rfl rfl
def qPa:ECt where
 α:=St×Int
 β:=St×Int
 aS:=fun (s,n)=>[.t (stA s),.t (.int .i64 n)]
 pre:=fun (s,n)=>0≤s.clk∧s.clk≤1099511627776
 r:=fun (y,e)=> .tup [.t (stA y),.t (.int .i64 e)]
 R:=fun (s,n) (y,e)=>e=0 → ∃ c b k,(0≤c∧c≤1099511627776)∧(k=c∨k=s.a.clk)∧y = { s with clk:=c,safe:=b,a := { s.a with clk:=k } }
theorem jLw {g:EF qPa}{s:St}{n:Int}(hp:0≤s.clk∧s.clk≤1099511627776) : ∃ (y:St) (e:Int),(e=0 → ∃ c b k,(0≤c∧c≤1099511627776)∧(k=c∨k=s.a.clk)∧y = { s with clk:=c,safe:=b,a := { s.a with clk:=k } })∧qPa.fs g [.t (stA s),.t (.int .i64 n)] []=some (.tup [.t (stA y),.t (.int .i64 e)],[]):=by
 obtain⟨y,h1,h2⟩:=qPa.eq g (s,n) hp;exact⟨y.1,y.2,h1,h2⟩
theorem zTc {s:St}{n:Int}(y:St)(e:Int)(hR:e=0 → ∃ c b k,(0≤c∧c≤1099511627776)∧(k=c∨k=s.a.clk)∧y = { s with clk:=c,safe:=b,a := { s.a with clk:=k } })(hV:vv = .tup [.t (stA y),.t (.int .i64 e)])(hO:oo=[]):qPa.K (s,n) vv oo:=⟨(y,e),hR,hV,hO⟩
theorem zFm  (s:St)(n:Int)(hp:0≤s.clk∧s.clk≤1099511627776) :
  qDz.1.wp tab gl (qE 0 [.t (stA s),.t (.int .i64 n)]) (qE 0 []) (qX [(4,(some (30,true))),(5,none)] 0 (qPa.K (s,n))):=by
 have hs:s.on=true∨s.on=false:=by cases s.on<;>simp
 rcases hs with hs | hs
 ·simp +contextual(maxSteps:=9^9)(disch:=try exact dS)only[go_sem,qDz,stA,hs,↓qB,↓qC,qU]
  (repeat' (first | apply And.intro | intro _))<;>(try rfl)
  all_goals first | exact zTc default 1 oM rfl rfl | exact zTc default 31 oM rfl rfl | skip
  ·exact zTc { s with clk:=s.clk+n,safe:=true,a := { s.a with clk:=s.clk+n } } 0 (fun _=>⟨s.clk+n,true,s.clk+n,oM,.inl rfl,rfl⟩) (by simp only[stA,hs]) rfl
  ·exact zTc { s with clk:=s.clk+n } 0 (fun _=>⟨s.clk+n,s.safe,s.a.clk,oM,.inr rfl,rfl⟩) (by simp only[stA,hs]) rfl
 ·simp +contextual(maxSteps:=9^9)(disch:=try exact dS)only[go_sem,qDz,stA,hs,↓qB,↓qC,qU];exact zTc default 28 oM rfl rfl
def zXv (s:St)(k:List zB)(u:Int):St := { qAf { s.a with ord:=s.safe,clk:=s.clk,bk:=k,u:=u } with off:=true }
def qZ2 (s:St)(m:Int):St×Int:=
 if s.on=false then (default,28) else if m=0 then (zXv s [] 0,0) else if m=1 then (zXv s s.bk s.u,0) else (default,1)
def qI2:ECt where
 α:=St×Int
 β:=St×Int
 aS:=fun (s,m)=>[.t (stA s),.t (.int .i64 m)]
 pre:=fun (s,m)=>True
 r:=fun (y,e)=> .tup [.t (stA y),.t (.int .i64 e)]
 R:=fun (s,m) (y,e)=>y=(qZ2 s m).1∧e=(qZ2 s m).2
theorem zSx {g:EF qI2}{s:St}{m:Int} : ∃ (y:St) (e:Int),(y=(qZ2 s m).1∧e=(qZ2 s m).2)∧qI2.fs g [.t (stA s),.t (.int .i64 m)] []=some (.tup [.t (stA y),.t (.int .i64 e)],[]):=by
 obtain⟨y,h1,h2⟩:=qI2.eq g (s,m) trivial;exact⟨y.1,y.2,h1,h2⟩
theorem zX0 {s:St}{m:Int}(y:St)(e:Int)(hR:y=(qZ2 s m).1∧e=(qZ2 s m).2)(hV:vv = .tup [.t (stA y),.t (.int .i64 e)])(hO:oo=[]):qI2.K (s,m) vv oo:=⟨(y,e),hR,hV,hO⟩
theorem qT7 {g1}(h1:LkE tab 11 qDm g1)(s:St)(m:Int) :
  vE.1.wp tab gl (qE 0 [.t (stA s),.t (.int .i64 m)]) (qE 0 []) (qX [(4,(some (30,true))),(5,none)] 0 (qI2.K (s,m))):=by
 by_cases d1:s.on=true
 ·by_cases m0:m=0
  ·have e1 := @zDp g1 { s.a with ord:=s.safe,clk:=s.clk,bk:=[],u:=0 };simp only[saA,stA,qAf,mcn] at e1;simp +contextual(maxSteps:=9^9)(disch:=try exact dS)only[go_sem,vE,stA,h1,e1,d1,m0,↓qB,↓qC,qU]
   (repeat' (first | apply And.intro | intro _))<;>(try rfl)
   refine zX0 (zXv s [] 0) 0 (by simp[qZ2,d1,m0]) ?_ rfl;rfl
  by_cases m1:m=1
  ·have e1 := @zDp g1 { s.a with ord:=s.safe,clk:=s.clk,bk:=s.bk,u:=s.u };simp only[saA,stA,qAf,mcn] at e1;simp +contextual(maxSteps:=9^9)(disch:=try exact dS)only[go_sem,vE,stA,h1,e1,d1,m1,↓qB,↓qC,qU]
   (repeat' (first | apply And.intro | intro _))<;>(try rfl)
   refine zX0 (zXv s s.bk s.u) 0 (by simp[qZ2,d1,m0,m1]) ?_ rfl;rfl
  ·simp +contextual(maxSteps:=9^9)(disch:=try exact dS)only[go_sem,vE,stA,d1,m0,m1,↓qB,↓qC,qU];exact zX0 default 1 (by simp[qZ2,d1,m0,m1]) rfl rfl
 ·simp +contextual(maxSteps:=9^9)(disch:=try exact dS)only[go_sem,vE,stA,d1,↓qB,↓qC,qU];exact zX0 default 28 (by simp[qZ2,d1]) rfl rfl
def jKp (s:St):List UInt8:=beI 8 s.a.res 8++beI 8 s.a.rst 8++beI 8 s.dr 8
def jNi (s:St)(n:Int):List UInt8:=drv s.a.en [114,97,110,100,111,109] (jKp s) n.toNat
def qDo:ECt where
 α:=St×Int
 β:=St×List UInt8
 aS:=fun (s,n)=>[.t (stA s),.t (.int .i64 n)]
 pre:=fun (s,n)=>s.a.en.length=32∧(0≤s.dr∧s.dr≤1000000000)∧1≤n∧n≤1024
 r:=fun (y,b)=> .tup [.t (stA y),.t (.sl (b.map qA))]
 R:=fun (s,n) (y,b)=>y = { s with dr:=s.dr+1 }∧b=jNi s n
theorem zR0 {g:EF qDo}{s:St}{n:Int}(hp:s.a.en.length=32∧(0≤s.dr∧s.dr≤1000000000)∧1≤n∧n≤1024) : ∃ (y:St) (b:List UInt8),(y = { s with dr:=s.dr+1 }∧b=jNi s n)∧qDo.fs g [.t (stA s),.t (.int .i64 n)] []=some (.tup [.t (stA y),.t (.sl (b.map qA))],[]):=by
 obtain⟨y,h1,h2⟩:=qDo.eq g (s,n) hp;exact⟨y.1,y.2,h1,h2⟩
theorem jPq {s:St}{n:Int}(y:St)(b:List UInt8)(hR:y = { s with dr:=s.dr+1 }∧b=jNi s n)(hV:vv = .tup [.t (stA y),.t (.sl (b.map qA))])(hO:oo=[]):qDo.K (s,n) vv oo:=⟨(y,b),hR,hV,hO⟩
theorem qYi (h1:LkC tab 42 yT)(h2:LkC tab 43 qB1)(s:St)(n:Int)(hp:s.a.en.length=32∧(0≤s.dr∧s.dr≤1000000000)∧1≤n∧n≤1024) :
  qEn.1.wp tab gl (qE 0 [.t (stA s),.t (.int .i64 n)]) (qE 0 []) (qX [(4,(some (30,true))),(5,none)] 0 (qDo.K (s,n))):=by
 have e1 := @qSs [] s.a.res (by decide);have e2 := @qSs (beI 8 s.a.res 8) s.a.rst (by simp[beI]);have e3 := @qSs (beI 8 s.a.res 8++beI 8 s.a.rst 8) s.dr (by simp[beI]);have e4:=qVw (k:=s.a.en) (l:=[114,97,110,100,111,109]) (c:=jKp s) (n:=n.toNat) ⟨oM,sM,by simp[jKp,beI],oM,oM⟩;rw[show ((n.toNat:Nat):Int)=n by omega,show drv s.a.en [114,97,110,100,111,109] (jKp s) n.toNat=jNi s n from rfl] at e4;have l1:(beI 8 s.a.res 8).length=8:=by simp[beI]
 have l2:(beI 8 s.a.res 8++beI 8 s.a.rst 8).length=16:=by simp[beI]
 have l3:(beI 8 s.a.res 8++beI 8 s.a.rst 8++beI 8 s.dr 8).length=24:=by simp[beI]
 simp only[List.map_nil,List.nil_append,List.length_nil,jKp,l1,l2,Nat.reduceAdd] at e1 e2 e3 e4;generalize beI 8 s.a.res 8++beI 8 s.a.rst 8++beI 8 s.dr 8=y3 at *;generalize beI 8 s.a.res 8++beI 8 s.a.rst 8=y2 at *;generalize beI 8 s.a.res 8=y1 at *;have t1:y1.take 8=y1:=List.take_of_length_le oM;have t2:y2.take 16=y2:=List.take_of_length_le oM;have t3:y3.take 24=y3:=List.take_of_length_le oM;simp +contextual(maxSteps:=9^9)(disch:=try exact dS)only[go_sem,qEn,stA,h1,h2,e1,e2,e3,e4,l1,l2,l3,t1,t2,t3,↓qB,↓qC,qU]
 (repeat' (first | apply And.intro | intro _))<;>(try rfl)
 exact jPq { s with dr:=s.dr+1 } _ ⟨rfl,rfl⟩ rfl rfl
theorem zEd : ∀ {l:List Ix} {h:Int} {k:Nat},ixP l h k = -1∨((k:Int)≤ixP l h k∧ixP l h k<k+l.length)
 | [],h,k=> .inl rfl
 | x::r,h,k=>by
  unfold ixP;have ih := @zEd r h (k+1);simp only[List.length_cons];split<;>omega
theorem zNk : ∀ {l:List Obj} {h:Int} {k:Nat},slP l h k = -1∨((k:Int)≤slP l h k∧slP l h k<k+l.length)
 | [],h,k=> .inl rfl
 | x::r,h,k=>by
  unfold slP;have ih := @zNk r h (k+1);simp only[List.length_cons];split<;>omega
def kD:ECt where
 α:=St×Int
 β:=Int
 aS:=fun (s,h)=>[.t (stA s),.t (.int .i64 h)]
 pre:=fun (s,h)=>s.a.ix.length≤6 ∧ ∀ x∈s.a.ix,0≤x.n∧x.n≤255
 r:=fun r'=> .t (.int .i64 r')
 R:=fun (s,h) r'=>r'=ixP s.a.ix h 0
theorem qHh {g:EF kD}{s:St}{h:Int}(hp:s.a.ix.length≤6 ∧ ∀ x∈s.a.ix,0≤x.n∧x.n≤255):kD.fs g [.t (stA s),.t (.int .i64 h)] []=some (.t (.int .i64 (ixP s.a.ix h 0)),[]):=fnQ kD (s,h) hp
theorem jIw {s:St}{h:Int}(hV:vv = .t (.int .i64 (ixP s.a.ix h 0)))(hO:oo=[]):kD.K (s,h) vv oo:=⟨_,rfl,hV,hO⟩
theorem qN {α:Type}{l:List α}{k:Nat}(h:k<l.length) : ∃ x,l[k]?=some x∧x∈l∧l.drop k=x::l.drop (k+1):=⟨l[k],List.getElem?_eq_getElem h,List.getElem_mem h,List.drop_eq_getElem_cons h⟩
theorem zB8  (s:St)(h:Int)(hp:s.a.ix.length≤6 ∧ ∀ x∈s.a.ix,0≤x.n∧x.n≤255) :
  qGk.1.wp tab gl (qE 0 [.t (stA s),.t (.int .i64 h)]) (qE 0 []) (qX [(4,none)] 0 (kD.K (s,h))):=by
 simp +contextual(disch:=omega)only[go_sem,qGk,stA,↓qB,↓qC,qU];refine zD (σ:=Nat) (fun k=>k≤s.a.ix.length∧ixP (s.a.ix.drop k) h k=ixP s.a.ix h 0) (fun k=>s.a.ix.length-k) (fun k=>[(1,.t (.int .i64 h)),(2,.ref 4096 0 0),(5,.t (.int .i64 k))]) (fun k=>[(4096,.live 30 [.t (stA s)] true true)]) 0 ⟨oM,rfl⟩ ?_ ?_
 ·refine qI.rd id ?_ ?_ rfl;all_goals simp(disch:=omega)only[go_sem,id,stA]
 ·rintro k ⟨hk,hi⟩;by_cases hlt:k<s.a.ix.length
  ·obtain⟨x,hg,hm,hd⟩:=qN hlt;have hx:=hp.2 _ hm;rw[hd,ixP] at hi;simp +contextual(disch:=omega)only[go_sem,stA,hlt,hg,oms,ixA,↓qB,↓qC,qU]
   (repeat' (first | apply And.intro | intro _))<;>(try rfl)
   ·rename_i c;rw[if_pos c] at hi;rw[hi];subst c;exact jIw rfl rfl
   ·rename_i c;rw[if_neg c] at hi;refine qDd.of (k+1) ⟨oM,hi⟩ oM (qI.rd id ?_ ?_ rfl);all_goals simp(disch:=omega)only[go_sem,id,stA]
  ·simp +contextual(disch:=omega)only[go_sem,stA,hlt,↓qB,↓qC,qU];rw[List.drop_of_length_le oM,ixP] at hi;rw[hi];exact jIw rfl rfl
def qAi:ECt where
 α:=St×Int
 β:=Int
 aS:=fun (s,h)=>[.t (stA s),.t (.int .i64 h)]
 pre:=fun (s,h)=>s.obs.length≤3
 r:=fun r'=> .t (.int .i64 r')
 R:=fun (s,h) r'=>r'=slP s.obs h 0
theorem qMt {g:EF qAi}{s:St}{h:Int}(hp:s.obs.length≤3):qAi.fs g [.t (stA s),.t (.int .i64 h)] []=some (.t (.int .i64 (slP s.obs h 0)),[]):=fnQ qAi (s,h) hp
theorem jLj {s:St}{h:Int}(hV:vv = .t (.int .i64 (slP s.obs h 0)))(hO:oo=[]):qAi.K (s,h) vv oo:=⟨_,rfl,hV,hO⟩
theorem zFo  (s:St)(h:Int)(hp:s.obs.length≤3) :
  qH1.1.wp tab gl (qE 0 [.t (stA s),.t (.int .i64 h)]) (qE 0 []) (qX [(4,none)] 0 (qAi.K (s,h))):=by
 simp +contextual(disch:=omega)only[go_sem,qH1,stA,↓qB,↓qC,qU];refine zD (σ:=Nat) (fun k=>k≤s.obs.length∧slP (s.obs.drop k) h k=slP s.obs h 0) (fun k=>s.obs.length-k) (fun k=>[(1,.t (.int .i64 h)),(2,.ref 4096 0 0),(5,.t (.int .i64 k))]) (fun k=>[(4096,.live 30 [.t (stA s)] true true)]) 0 ⟨oM,rfl⟩ ?_ ?_
 ·refine qI.rd id ?_ ?_ rfl;all_goals simp(disch:=omega)only[go_sem,id,stA]
 ·rintro k ⟨hk,hi⟩;by_cases hlt:k<s.obs.length
  ·obtain⟨x,hg,hm,hd⟩:=qN hlt;rw[hd,slP] at hi;by_cases c1:h=((512+k:Nat):Int)
   ·subst c1;by_cases c2:x.p.kd=0
    ·rw[if_neg (fun c=>c.2 c2)] at hi;simp +contextual(disch:=omega)only[go_sem,stA,hlt,hg,oms,wI,c2,↓qB,↓qC,qU];refine qDd.of (k+1) ⟨oM,hi⟩ oM (qI.rd id ?_ ?_ rfl);all_goals simp(disch:=omega)only[go_sem,id,stA]
    ·rw[if_pos ⟨oM,c2⟩] at hi;simp +contextual(disch:=omega)only[go_sem,stA,hlt,hg,oms,wI,c2,↓qB,↓qC,qU];rw[hi];exact jLj rfl rfl
   ·rw[if_neg (fun c=>c1 oM)] at hi;simp +contextual(disch:=omega)only[go_sem,stA,hlt,hg,oms,wI,c1,↓qB,↓qC,qU];refine qDd.of (k+1) ⟨oM,hi⟩ oM (qI.rd id ?_ ?_ rfl);all_goals simp(disch:=omega)only[go_sem,id,stA]
  ·simp +contextual(disch:=omega)only[go_sem,stA,hlt,↓qB,↓qC,qU];rw[List.drop_of_length_le oM,slP] at hi;rw[hi];exact jLj rfl rfl
def qNn:ECt where
 α:=St×Int
 β:=Bool
 aS:=fun (s,h)=>[.t (stA s),.t (.int .i64 h)]
 pre:=fun (s,h)=>(s.a.ix.length≤6 ∧ ∀ x∈s.a.ix,0≤x.n∧x.n≤255)∧s.obs.length≤3
 r:=fun b=> .t (.bool b)
 R:=fun (s,h) b=>True
theorem jHw {g:EF qNn}{s:St}{h:Int}(hp:(s.a.ix.length≤6 ∧ ∀ x∈s.a.ix,0≤x.n∧x.n≤255)∧s.obs.length≤3) : ∃ (b:Bool),(True)∧qNn.fs g [.t (stA s),.t (.int .i64 h)] []=some (.t (.bool b),[]):=qNn.eq g (s,h) hp
theorem jOc {s:St}{h:Int}(b:Bool)(hR:True)(hV:vv = .t (.bool b))(hO:oo=[]):qNn.K (s,h) vv oo:=⟨b,hR,hV,hO⟩
theorem qYj {g1}(h1:LkE tab 144 kD g1){g2}(h2:LkE tab 142 qAi g2)(s:St)(h:Int)(hp:(s.a.ix.length≤6 ∧ ∀ x∈s.a.ix,0≤x.n∧x.n≤255)∧s.obs.length≤3) :
  qEo.1.wp tab gl (qE 0 [.t (stA s),.t (.int .i64 h)]) (qE 0 []) (qX [(4,none)] 0 (qNn.K (s,h))):=by
 have e1:=qHh (g:=g1) (h:=h) hp.1;have e2:=qMt (g:=g2) (h:=h) hp.2;simp only[stA] at e1 e2;generalize ixP s.a.ix h 0=i at *;generalize slP s.obs h 0=j at *;simp +contextual(disch:=omega)only[go_sem,qEo,stA,h1,h2,e1,e2,↓qB,↓qC,qU]
 (repeat' (first | apply And.intro | intro _))<;>(try rfl)
 all_goals exact jOc _ trivial rfl rfl
theorem zDx {s:St}(hs:s.Ok)(h:Int):(∃ x∈s.a.ix,0≤ixP s.a.ix h 0∧s.a.ix[(ixP s.a.ix h 0).toNat]?=some x)∨ixP s.a.ix h 0 = -1∧((∃ x∈s.obs,0≤slP s.obs h 0∧s.obs[(slP s.obs h 0).toNat]?=some x)∨slP s.obs h 0 = -1):=by
 have r1 := @zEd s.a.ix h 0;have r2 := @zNk s.obs h 0;rcases r1 with r1 | r1
 ·refine .inr ⟨r1,?_⟩;rcases r2 with r2 | r2
  ·exact .inr r2
  ·obtain⟨x,hg,hm,_⟩:=qN (l:=s.obs) (k:=(slP s.obs h 0).toNat) oM;exact .inl ⟨x,hm,oM,hg⟩
 ·obtain⟨x,hg,hm,_⟩:=qN (l:=s.a.ix) (k:=(ixP s.a.ix h 0).toNat) oM;exact .inl ⟨x,hm,oM,hg⟩
def qIx:ECt where
 α:=St×Int
 β:=List UInt8
 aS:=fun (s,h)=>[.t (stA s),.t (.int .i64 h)]
 pre:=fun (s,h)=>s.Ok
 r:=fun b=> .t (.sl (b.map qA))
 R:=fun (s,h) b=>b.length≤32
theorem zQ7 {g:EF qIx}{s:St}{h:Int}(hp:s.Ok) : ∃ (b:List UInt8),(b.length≤32)∧qIx.fs g [.t (stA s),.t (.int .i64 h)] []=some (.t (.sl (b.map qA)),[]):=qIx.eq g (s,h) hp
theorem zMu {s:St}{h:Int}(b:List UInt8)(hR:b.length≤32)(hV:vv = .t (.sl (b.map qA)))(hO:oo=[]):qIx.K (s,h) vv oo:=⟨b,hR,hV,hO⟩
theorem zFn {g1}(h1:LkE tab 144 kD g1){g2}(h2:LkE tab 233 qK3 g2){g3}(h3:LkE tab 142 qAi g3){g4}(h4:LkE tab 223 qCs g4){g5}(h5:LkE tab 234 qNt g5)(s:St)(h:Int)(hp:s.Ok) :
  qBu.1.wp tab gl (qE 0 [.t (stA s),.t (.int .i64 h)]) (qE 0 []) (qX [(4,none)] 0 (qIx.K (s,h))):=by
 have l1:=hp.a.ix;have l2:=hp.obs;have e1:=qHh (g:=g1) (h:=h) ⟨l1.1,fun x hx=>(l1.2 x hx).1⟩;have e2:=qMt (g:=g3) (h:=h) (s:=s) oM;obtain⟨b3,i3,e3⟩ := @jH7 g5 h;simp only[stA] at e1 e2;rcases zDx hp h with⟨x,hm,c,hg⟩ | ⟨c,⟨x,hm,c2,hg⟩ | c2⟩
 ·have hx:=(l1.2 x hm).2.2.2.2.1;obtain⟨b,hb,e4⟩:=zZu (g:=g2) (x:=x) oM;simp only[ixA] at e4;generalize ixP s.a.ix h 0=i at *;generalize slP s.obs h 0=j at *;simp +contextual(disch:=omega)only[go_sem,qBu,stA,h1,h2,h3,h4,h5,e1,e2,e3,e4,hg,oms,ixA,c,↓qB,↓qC,qU];first | exact zMu b oM rfl rfl | exact⟨rfl,zMu b oM rfl rfl⟩
 ·have hx:=(l2.2 x hm).1;obtain⟨b,hb,e4⟩:=qWf (g:=g4) (p:=x.p) (by have:=hx.2.2.2;omega);simp only[puA] at e4;rw[c] at e1;generalize slP s.obs h 0=j at *;simp +contextual(disch:=omega)only[go_sem,qBu,stA,h1,h2,h3,h4,h5,e1,e2,e3,e4,hg,oms,wI,c2,↓qB,↓qC,qU];first | exact zMu b oM rfl rfl | exact⟨rfl,zMu b oM rfl rfl⟩
 ·rw[c] at e1;rw[c2] at e2;simp +contextual(disch:=omega)only[go_sem,qBu,stA,h1,h2,h3,h4,h5,e1,e2,e3,↓qB,↓qC,qU];first | exact zMu b3 i3 rfl rfl | exact⟨rfl,zMu b3 i3 rfl rfl⟩
theorem jCi {l:List (List UInt8)}{n k:Nat}(h : ∀ x∈l,x.length≤n):(l.getD k []).length≤n:=by
 rw[List.getD_eq_getElem?_getD];cases e:l[k]? with
 | none=>simp
 | some x=>exact h x (List.mem_of_getElem? e)
def qLo:ECt where
 α:=St×Int
 β:=List UInt8
 aS:=fun (s,h)=>[.t (stA s),.t (.int .i64 h)]
 pre:=fun (s,h)=>s.Ok
 r:=fun b=> .t (.sl (b.map qA))
 R:=fun (s,h) b=>b.length≤32
theorem jA5 {g:EF qLo}{s:St}{h:Int}(hp:s.Ok) : ∃ (b:List UInt8),(b.length≤32)∧qLo.fs g [.t (stA s),.t (.int .i64 h)] []=some (.t (.sl (b.map qA)),[]):=qLo.eq g (s,h) hp
theorem zYh {s:St}{h:Int}(b:List UInt8)(hR:b.length≤32)(hV:vv = .t (.sl (b.map qA)))(hO:oo=[]):qLo.K (s,h) vv oo:=⟨b,hR,hV,hO⟩
theorem zB9 {g1}(h1:LkE tab 144 kD g1){g2}(h2:LkE tab 142 qAi g2)(s:St)(h:Int)(hp:s.Ok) :
  kL.1.wp tab gl (qE 0 [.t (stA s),.t (.int .i64 h)]) (qE 0 []) (qX [(4,none)] 0 (qLo.K (s,h))):=by
 have l1:=hp.a.ix;have l2:=hp.obs;have l3:=hp.a.au;have e1:=qHh (g:=g1) (h:=h) ⟨l1.1,fun x hx=>(l1.2 x hx).1⟩;have e2:=qMt (g:=g2) (h:=h) (s:=s) oM;simp only[stA] at e1 e2;rcases zDx hp h with⟨x,hm,c,hg⟩ | ⟨c,⟨x,hm,c2,hg⟩ | c2⟩
 ·have hx:=(l1.2 x hm).2.2.2.2.2.1;generalize ixP s.a.ix h 0=i at *;simp +contextual(disch:=omega)only[go_sem,kL,stA,h1,h2,e1,e2,hg,oms,ixA,c,↓qB,↓qC,qU];exact zYh _ hx rfl rfl
 ·have hx:=(l2.2 x hm).2.1.1;rw[c] at e1;generalize slP s.obs h 0=j at *;simp +contextual(disch:=omega)only[go_sem,kL,stA,h1,h2,e1,e2,hg,oms,wI,c2,↓qB,↓qC,qU];exact zYh _ hx rfl rfl
 ·rw[c] at e1;rw[c2] at e2;by_cases k0:0≤h∧h<4
  ·obtain⟨k1,k2⟩:=k0;simp +contextual(disch:=omega)only[go_sem,kL,stA,h1,h2,e1,e2,l3.1,k1,k2,↓qB,↓qC,qU];exact zYh _ (jCi l3.2) rfl rfl
  ·simp +contextual(disch:=omega)only[go_sem,kL,stA,h1,h2,e1,e2,l3.1,↓qB,↓qC,qU]
   (repeat' (first | apply And.intro | intro _))<;>(try rfl)
   all_goals exact zYh [] sM rfl rfl
def qOw:ECt where
 α:=St×Int
 β:=List UInt8
 aS:=fun (s,h)=>[.t (stA s),.t (.int .i64 h)]
 pre:=fun (s,h)=>s.Ok
 r:=fun b=> .t (.sl (b.map qA))
 R:=fun (s,h) b=>b.length≤32
theorem jJ8 {g:EF qOw}{s:St}{h:Int}(hp:s.Ok) : ∃ (b:List UInt8),(b.length≤32)∧qOw.fs g [.t (stA s),.t (.int .i64 h)] []=some (.t (.sl (b.map qA)),[]):=qOw.eq g (s,h) hp
theorem jDx {s:St}{h:Int}(b:List UInt8)(hR:b.length≤32)(hV:vv = .t (.sl (b.map qA)))(hO:oo=[]):qOw.K (s,h) vv oo:=⟨b,hR,hV,hO⟩
theorem qYk {g1}(h1:LkE tab 144 kD g1){g2}(h2:LkE tab 142 qAi g2)(s:St)(h:Int)(hp:s.Ok) :
  xD.1.wp tab gl (qE 0 [.t (stA s),.t (.int .i64 h)]) (qE 0 []) (qX [(4,none)] 0 (qOw.K (s,h))):=by
 have l1:=hp.a.ix;have l2:=hp.obs;have e1:=qHh (g:=g1) (h:=h) ⟨l1.1,fun x hx=>(l1.2 x hx).1⟩;have e2:=qMt (g:=g2) (h:=h) (s:=s) oM;simp only[stA] at e1 e2;rcases zDx hp h with⟨x,hm,c,hg⟩ | ⟨c,⟨x,hm,c2,hg⟩ | c2⟩
 ·have hx:=(l1.2 x hm).2.2.2.2.1;generalize ixP s.a.ix h 0=i at *;simp +contextual(disch:=omega)only[go_sem,xD,stA,h1,h2,e1,e2,hg,oms,ixA,c,↓qB,↓qC,qU];exact jDx _ oM rfl rfl
 ·have hx:=(l2.2 x hm).1.2.2.2.1;rw[c] at e1;generalize slP s.obs h 0=j at *;simp +contextual(disch:=omega)only[go_sem,xD,stA,h1,h2,e1,e2,hg,oms,wI,c2,↓qB,↓qC,qU];exact jDx _ oM rfl rfl
 ·rw[c] at e1;rw[c2] at e2;simp +contextual(disch:=omega)only[go_sem,xD,stA,h1,h2,e1,e2,↓qB,↓qC,qU];exact jDx [] sM rfl rfl
def qLd:ECt where
 α:=St×Int
 β:=Bool
 aS:=fun (s,h)=>[.t (stA s),.t (.int .i64 h)]
 pre:=fun (s,h)=>s.Ok
 r:=fun b=> .t (.bool b)
 R:=fun (s,h) b=>True
theorem jAb {g:EF qLd}{s:St}{h:Int}(hp:s.Ok) : ∃ (b:Bool),(True)∧qLd.fs g [.t (stA s),.t (.int .i64 h)] []=some (.t (.bool b),[]):=qLd.eq g (s,h) hp
theorem jDu {s:St}{h:Int}(b:Bool)(hR:True)(hV:vv = .t (.bool b))(hO:oo=[]):qLd.K (s,h) vv oo:=⟨b,hR,hV,hO⟩
theorem qSw {g1}(h1:LkE tab 144 kD g1){g2}(h2:LkE tab 142 qAi g2)(s:St)(h:Int)(hp:s.Ok) :
  vY.1.wp tab gl (qE 0 [.t (stA s),.t (.int .i64 h)]) (qE 0 []) (qX [(4,none)] 0 (qLd.K (s,h))):=by
 have l1:=hp.a.ix;have l2:=hp.obs;have e1:=qHh (g:=g1) (h:=h) ⟨l1.1,fun x hx=>(l1.2 x hx).1⟩;have e2:=qMt (g:=g2) (h:=h) (s:=s) oM;simp only[stA] at e1 e2;rcases zDx hp h with⟨x,hm,c,hg⟩ | ⟨c,⟨x,hm,c2,hg⟩ | c2⟩
 ·generalize ixP s.a.ix h 0=i at *;simp +contextual(disch:=omega)only[go_sem,vY,stA,h1,h2,e1,e2,hg,oms,ixA,c,↓qB,↓qC,qU];all_goals exact jDu _ trivial rfl rfl
 ·rw[c] at e1;generalize slP s.obs h 0=j at *;simp +contextual(disch:=omega)only[go_sem,vY,stA,h1,h2,e1,e2,hg,oms,wI,c2,↓qB,↓qC,qU];all_goals exact jDu _ trivial rfl rfl
 ·rw[c] at e1;rw[c2] at e2;simp +contextual(disch:=omega)only[go_sem,vY,stA,h1,h2,e1,e2,↓qB,↓qC,qU];all_goals exact jDu _ trivial rfl rfl
end Go.Eng
end
