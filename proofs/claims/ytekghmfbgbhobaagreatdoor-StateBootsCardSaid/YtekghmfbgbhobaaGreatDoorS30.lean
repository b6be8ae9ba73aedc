/- A part of an abstract machine, its walks, their tie. -/
import Derived.Test.YtekghmfbgbhobaaGreatDoorS29
import Derived.Test.YtekghmfbgbhobaaGreatDoorS27
set_option linter.all false
section
set_option maxHeartbeats 64000000
set_option maxRecDepth 20000
namespace Go.Eng
variable (tab:Tab) (gl:Gl)
variable {vv:V} {oo:List Ob}
def jH (s:Sa):St:=⟨s,false,false,[],0,0,false,0,[default,default,default],[default,default,default],[],[]⟩
def kF:ECt where
 α:=Sa
 β:=St
 aS:=fun s=>[.t (saA s)]
 pre:=fun s=>True
 r:=fun r'=> .t (stA r')
 R:=fun s r'=>r'=jH s
theorem kA {g:EF kF}{s:Sa}:kF.fs g [.t (saA s)] []=some (.t (stA (jH s)),[]):=fnQ kF s trivial
theorem jB0 {s:Sa}(hV:vv = .t (stA (jH s)))(hO:oo=[]):kF.K s vv oo:=⟨_,rfl,hV,hO⟩
theorem zB9  (s:Sa) :
  qGd.1.wp tab gl (qD 0 [.t (saA s)]) (qD 0 []) (qY [(2,(some (30,true)))] 0 (kF.K s)):=by
 simp +contextual(disch:=omega)only[go_sem,qGd,saA,↓qB,↓qC,qN];exact⟨rfl,jB0 rfl rfl⟩
def zDp (s:St):St := { s with a := { s.a with res:=s.a.res+1,rst:=0,ord:=false,bk:=[],u:=0 },on:=true,bk:=qCr s.a.act,u:=0,clk:=s.a.clk,safe:=s.a.ord }
def zOo (s:St):St := { s with a := { s.a with rst:=s.a.rst+1,ord:=false,bk:=[],u:=0 },on:=true,bk:=qU8 s.a.bk,u:=s.a.u,clk:=s.a.clk,safe:=s.a.ord }
def qH4 (s:St)(m:Int):St×Int:=
 if s.on=true∨s.off=true then (default,28) else if m≠0∧m≠1 then (default,1) else if m=1∧s.a.bk.length=0 then (default,16)
 else if m=0 then (zDp s,0) else (zOo s,0)
theorem zMp {act:Int}(ha:1≤act∧act≤3) : ∃ b0 b1:zE,qCr act=[b0,b1]∧xD.fs [.t (.int .i64 act)] []=some (.agg [.sl 0 0 2,.t (.int .i64 0)],[.live 1 [.sl 1 0 b0.length,.sl 2 0 b1.length] true false,.live 1 ((b0.map bsT).map V.t) true false,.live 1 ((b1.map bsT).map V.t) true false]):=by
 obtain⟨b0,b1,e,_⟩:=ShA.new ha;refine⟨b0,b1,e,?_⟩;have h:xD.fs [.t (.int .i64 act)] []=some (twR (qCr act) 0,twO (qCr act)):=xD.eq act trivial;rw[e] at h;exact h
theorem zG8:xD.fs [.t (.int .i64 0)] []=some (.agg [.nil,.t (.int .i64 0)],[]):=xD.eq (0:Int) trivial
def xT:ECt where
 α:=St×Int
 β:=St×Int
 aS:=fun (s,m)=>[.t (stA s),.t (.int .i64 m)]
 pre:=fun (s,m)=>s.a.Ok∧s.cn 1000000
 r:=fun (y,e)=> .tup [.t (stA y),.t (.int .i64 e)]
 R:=fun (s,m) (y,e)=>y=(qH4 s m).1∧e=(qH4 s m).2
theorem yO {g:EF xT}{s:St}{m:Int}(hp:s.a.Ok∧s.cn 1000000) : ∃ (y:St) (e:Int),(y=(qH4 s m).1∧e=(qH4 s m).2)∧xT.fs g [.t (stA s),.t (.int .i64 m)] []=some (.tup [.t (stA y),.t (.int .i64 e)],[]):=by
 obtain⟨y,h1,h2⟩:=xT.eq g (s,m) hp;exact⟨y.1,y.2,h1,h2⟩
theorem qPh {s:St}{m:Int}(y:St)(e:Int)(hR:y=(qH4 s m).1∧e=(qH4 s m).2)(hV:vv = .tup [.t (stA y),.t (.int .i64 e)])(hO:oo=[]):xT.K (s,m) vv oo:=⟨(y,e),hR,hV,hO⟩
theorem qUg (h1:LkC tab 38 xD)(h2:LkC tab 39 qAe)(s:St)(m:Int)(hp:s.a.Ok∧s.cn 1000000) :
  jJ.1.wp tab gl (qD 0 [.t (stA s),.t (.int .i64 m)]) (qD 0 []) (qY [(4,(some (30,true))),(5,none)] 0 (xT.K (s,m))):=by
 obtain⟨ok,c1,c2,c3,c4,c5⟩:=hp;have q1:=ok.res;have q2:=ok.rst;have q3:=ok.act;have e2:=zVp (u:=s.a.u) ok.bk.rv.rm;simp only[yL] at e2;by_cases d1:s.on=true
 ·simp +contextual(maxSteps:=9^9)(disch:=try exact dS)only[go_sem,jJ,stA,d1,↓qB,↓qC,qN];exact qPh default 28 (by rw[qH4,if_pos (.inl d1)];exact⟨rfl,rfl⟩) rfl rfl
 by_cases d2:s.off=true
 ·simp +contextual(maxSteps:=9^9)(disch:=try exact dS)only[go_sem,jJ,stA,d1,d2,↓qB,↓qC,qN];exact qPh default 28 (by rw[qH4,if_pos (.inr d2)];exact⟨rfl,rfl⟩) rfl rfl
 have d1':s.on=false:=by simpa using d1
 have d2':s.off=false:=by simpa using d2
 by_cases m0:m=0
 ·subst m0;have hS:qH4 s 0=(zDp s,0):=by simp[qH4,d1',d2']
  rcases (by omega:s.a.act=0∨(1≤s.a.act∧s.a.act≤3)) with ha | ha
  ·simp +contextual(maxSteps:=9^9)(disch:=try exact dS)only[go_sem,jJ,stA,d1',d2',h1,ha,zG8,↓qB,↓qC,qN]
   (repeat' (first | apply And.intro | intro _))<;>(try rfl)
   refine qPh (zDp s) 0 (by rw[hS];exact⟨rfl,rfl⟩) ?_ rfl;rw[zDp,ha];simp only[stA,ha,d2'];rfl
  ·obtain⟨b0,b1,eb,e1⟩:=zMp ha;simp +contextual(maxSteps:=9^9)(disch:=try exact dS)only[go_sem,jJ,stA,d1',d2',h1,e1,List.take_length,↓qB,↓qC,qN]
   (repeat' (first | apply And.intro | intro _))<;>(try rfl)
   refine qPh (zDp s) 0 (by rw[hS];exact⟨rfl,rfl⟩) ?_ rfl;rw[zDp,eb];simp only[stA,d2'];rfl
 by_cases m1:m=1
 ·subst m1;by_cases m2:s.a.bk.length=0
  ·simp +contextual(maxSteps:=9^9)(disch:=try exact dS)only[go_sem,jJ,stA,d1',d2',h2,e2,m2,↓qB,↓qC,qN];exact qPh default 16 (by simp[qH4,d1',d2',m2]) rfl rfl
  ·have hS:qH4 s 1=(zOo s,0):=by simp only[qH4,d1',d2',m2];rfl
   simp +contextual(maxSteps:=9^9)(disch:=try exact dS)only[go_sem,jJ,stA,d1',d2',h2,e2,m2,↓qB,↓qC,qN]
   (repeat' (first | apply And.intro | intro _))<;>(try rfl)
   refine qPh (zOo s) 0 (by rw[hS];exact⟨rfl,rfl⟩) ?_ rfl;rw[zOo];simp only[stA,d2',List.map_nil]
 ·simp +contextual(maxSteps:=9^9)(disch:=try exact dS)only[go_sem,jJ,stA,d1',d2',m0,m1,↓qB,↓qC,qN];exact qPh default 1 (by simp[qH4,d1',d2',m0,m1]) rfl rfl
def qNp:ECt where
 α:=St×Int
 β:=St×Int
 aS:=fun (s,n)=>[.t (stA s),.t (.int .i64 n)]
 pre:=fun (s,n)=>0≤s.clk∧s.clk≤1099511627776
 r:=fun (y,e)=> .tup [.t (stA y),.t (.int .i64 e)]
 R:=fun (s,n) (y,e)=>e=0 → ∃ c b k,(0≤c∧c≤1099511627776)∧(k=c∨k=s.a.clk)∧y = { s with clk:=c,safe:=b,a := { s.a with clk:=k } }
theorem jGi {g:EF qNp}{s:St}{n:Int}(hp:0≤s.clk∧s.clk≤1099511627776) : ∃ (y:St) (e:Int),(e=0 → ∃ c b k,(0≤c∧c≤1099511627776)∧(k=c∨k=s.a.clk)∧y = { s with clk:=c,safe:=b,a := { s.a with clk:=k } })∧qNp.fs g [.t (stA s),.t (.int .i64 n)] []=some (.tup [.t (stA y),.t (.int .i64 e)],[]):=by
 obtain⟨y,h1,h2⟩:=qNp.eq g (s,n) hp;exact⟨y.1,y.2,h1,h2⟩
theorem zOt {s:St}{n:Int}(y:St)(e:Int)(hR:e=0 → ∃ c b k,(0≤c∧c≤1099511627776)∧(k=c∨k=s.a.clk)∧y = { s with clk:=c,safe:=b,a := { s.a with clk:=k } })(hV:vv = .tup [.t (stA y),.t (.int .i64 e)])(hO:oo=[]):qNp.K (s,n) vv oo:=⟨(y,e),hR,hV,hO⟩
theorem zCa  (s:St)(n:Int)(hp:0≤s.clk∧s.clk≤1099511627776) :
  qCf.1.wp tab gl (qD 0 [.t (stA s),.t (.int .i64 n)]) (qD 0 []) (qY [(4,(some (30,true))),(5,none)] 0 (qNp.K (s,n))):=by
 have hs:s.on=true∨s.on=false:=by cases s.on<;>simp
 rcases hs with hs | hs
 ·simp +contextual(maxSteps:=9^9)(disch:=try exact dS)only[go_sem,qCf,stA,hs,↓qB,↓qC,qN]
  (repeat' (first | apply And.intro | intro _))<;>(try rfl)
  all_goals first | exact zOt default 1 oM rfl rfl | exact zOt default 31 oM rfl rfl | skip
  ·exact zOt { s with clk:=s.clk+n,safe:=true,a := { s.a with clk:=s.clk+n } } 0 (fun _=>⟨s.clk+n,true,s.clk+n,oM,.inl rfl,rfl⟩) (by simp only[stA,hs]) rfl
  ·exact zOt { s with clk:=s.clk+n } 0 (fun _=>⟨s.clk+n,s.safe,s.a.clk,oM,.inr rfl,rfl⟩) (by simp only[stA,hs]) rfl
 ·simp +contextual(maxSteps:=9^9)(disch:=try exact dS)only[go_sem,qCf,stA,hs,↓qB,↓qC,qN];exact zOt default 28 oM rfl rfl
def zN8 (s:St)(k:List zE)(u:Int):St := { jH { s.a with ord:=s.safe,clk:=s.clk,bk:=k,u:=u } with off:=true }
def qPe (s:St)(m:Int):St×Int:=
 if s.on=false then (default,28) else if m=0 then (zN8 s [] 0,0) else if m=1 then (zN8 s s.bk s.u,0) else (default,1)
def qBf:ECt where
 α:=St×Int
 β:=St×Int
 aS:=fun (s,m)=>[.t (stA s),.t (.int .i64 m)]
 pre:=fun (s,m)=>True
 r:=fun (y,e)=> .tup [.t (stA y),.t (.int .i64 e)]
 R:=fun (s,m) (y,e)=>y=(qPe s m).1∧e=(qPe s m).2
theorem qFy {g:EF qBf}{s:St}{m:Int} : ∃ (y:St) (e:Int),(y=(qPe s m).1∧e=(qPe s m).2)∧qBf.fs g [.t (stA s),.t (.int .i64 m)] []=some (.tup [.t (stA y),.t (.int .i64 e)],[]):=by
 obtain⟨y,h1,h2⟩:=qBf.eq g (s,m) trivial;exact⟨y.1,y.2,h1,h2⟩
theorem zBu {s:St}{m:Int}(y:St)(e:Int)(hR:y=(qPe s m).1∧e=(qPe s m).2)(hV:vv = .tup [.t (stA y),.t (.int .i64 e)])(hO:oo=[]):qBf.K (s,m) vv oo:=⟨(y,e),hR,hV,hO⟩
theorem qRl {g1}(h1:LkE tab 11 kF g1)(s:St)(m:Int) :
  yP.1.wp tab gl (qD 0 [.t (stA s),.t (.int .i64 m)]) (qD 0 []) (qY [(4,(some (30,true))),(5,none)] 0 (qBf.K (s,m))):=by
 by_cases d1:s.on=true
 ·by_cases m0:m=0
  ·have e1 := @kA g1 { s.a with ord:=s.safe,clk:=s.clk,bk:=[],u:=0 };simp only[saA,stA,jH,mcn] at e1;simp +contextual(maxSteps:=9^9)(disch:=try exact dS)only[go_sem,yP,stA,h1,e1,d1,m0,↓qB,↓qC,qN]
   (repeat' (first | apply And.intro | intro _))<;>(try rfl)
   refine zBu (zN8 s [] 0) 0 (by simp[qPe,d1,m0]) ?_ rfl;rfl
  by_cases m1:m=1
  ·have e1 := @kA g1 { s.a with ord:=s.safe,clk:=s.clk,bk:=s.bk,u:=s.u };simp only[saA,stA,jH,mcn] at e1;simp +contextual(maxSteps:=9^9)(disch:=try exact dS)only[go_sem,yP,stA,h1,e1,d1,m1,↓qB,↓qC,qN]
   (repeat' (first | apply And.intro | intro _))<;>(try rfl)
   refine zBu (zN8 s s.bk s.u) 0 (by simp[qPe,d1,m0,m1]) ?_ rfl;rfl
  ·simp +contextual(maxSteps:=9^9)(disch:=try exact dS)only[go_sem,yP,stA,d1,m0,m1,↓qB,↓qC,qN];exact zBu default 1 (by simp[qPe,d1,m0,m1]) rfl rfl
 ·simp +contextual(maxSteps:=9^9)(disch:=try exact dS)only[go_sem,yP,stA,d1,↓qB,↓qC,qN];exact zBu default 28 (by simp[qPe,d1]) rfl rfl
def zSk (s:St):List UInt8:=beI 8 s.a.res 8++beI 8 s.a.rst 8++beI 8 s.dr 8
def jA4 (s:St)(n:Int):List UInt8:=drv s.a.en [114,97,110,100,111,109] (zSk s) n.toNat
def kS:ECt where
 α:=St×Int
 β:=St×List UInt8
 aS:=fun (s,n)=>[.t (stA s),.t (.int .i64 n)]
 pre:=fun (s,n)=>s.a.en.length=32∧(0≤s.dr∧s.dr≤1000000000)∧1≤n∧n≤1024
 r:=fun (y,b)=> .tup [.t (stA y),.t (.sl (b.map qA))]
 R:=fun (s,n) (y,b)=>y = { s with dr:=s.dr+1 }∧b=jA4 s n
theorem qTt {g:EF kS}{s:St}{n:Int}(hp:s.a.en.length=32∧(0≤s.dr∧s.dr≤1000000000)∧1≤n∧n≤1024) : ∃ (y:St) (b:List UInt8),(y = { s with dr:=s.dr+1 }∧b=jA4 s n)∧kS.fs g [.t (stA s),.t (.int .i64 n)] []=some (.tup [.t (stA y),.t (.sl (b.map qA))],[]):=by
 obtain⟨y,h1,h2⟩:=kS.eq g (s,n) hp;exact⟨y.1,y.2,h1,h2⟩
theorem jE9 {s:St}{n:Int}(y:St)(b:List UInt8)(hR:y = { s with dr:=s.dr+1 }∧b=jA4 s n)(hV:vv = .tup [.t (stA y),.t (.sl (b.map qA))])(hO:oo=[]):kS.K (s,n) vv oo:=⟨(y,b),hR,hV,hO⟩
theorem qVp (h1:LkC tab 42 vN)(h2:LkC tab 43 qAd)(s:St)(n:Int)(hp:s.a.en.length=32∧(0≤s.dr∧s.dr≤1000000000)∧1≤n∧n≤1024) :
  qC5.1.wp tab gl (qD 0 [.t (stA s),.t (.int .i64 n)]) (qD 0 []) (qY [(4,(some (30,true))),(5,none)] 0 (kS.K (s,n))):=by
 have e1 := @zE7 [] s.a.res (by decide);have e2 := @zE7 (beI 8 s.a.res 8) s.a.rst (by simp[beI]);have e3 := @zE7 (beI 8 s.a.res 8++beI 8 s.a.rst 8) s.dr (by simp[beI]);have e4:=qQw (k:=s.a.en) (l:=[114,97,110,100,111,109]) (c:=zSk s) (n:=n.toNat) ⟨oM,sM,by simp[zSk,beI],oM,oM⟩;rw[show ((n.toNat:Nat):Int)=n by omega,show drv s.a.en [114,97,110,100,111,109] (zSk s) n.toNat=jA4 s n from rfl] at e4;have l1:(beI 8 s.a.res 8).length=8:=by simp[beI]
 have l2:(beI 8 s.a.res 8++beI 8 s.a.rst 8).length=16:=by simp[beI]
 have l3:(beI 8 s.a.res 8++beI 8 s.a.rst 8++beI 8 s.dr 8).length=24:=by simp[beI]
 simp only[List.map_nil,List.nil_append,List.length_nil,zSk,l1,l2,Nat.reduceAdd] at e1 e2 e3 e4;generalize beI 8 s.a.res 8++beI 8 s.a.rst 8++beI 8 s.dr 8=y3 at *;generalize beI 8 s.a.res 8++beI 8 s.a.rst 8=y2 at *;generalize beI 8 s.a.res 8=y1 at *;have t1:y1.take 8=y1:=List.take_of_length_le oM;have t2:y2.take 16=y2:=List.take_of_length_le oM;have t3:y3.take 24=y3:=List.take_of_length_le oM;simp +contextual(maxSteps:=9^9)(disch:=try exact dS)only[go_sem,qC5,stA,h1,h2,e1,e2,e3,e4,l1,l2,l3,t1,t2,t3,↓qB,↓qC,qN]
 (repeat' (first | apply And.intro | intro _))<;>(try rfl)
 exact jE9 { s with dr:=s.dr+1 } _ ⟨rfl,rfl⟩ rfl rfl
def ixP:List Ix→Int→Nat→Int
 | [],_,_ => -1
 | x::r,h,k=>if h=256+x.n then (k:Int) else ixP r h (k+1)
def slP:List Obj→Int→Nat→Int
 | [],_,_ => -1
 | x::r,h,k=>if h=512+(k:Int)∧x.p.kd≠0 then (k:Int) else slP r h (k+1)
theorem zA0 : ∀ {l:List Ix} {h:Int} {k:Nat},ixP l h k = -1∨((k:Int)≤ixP l h k∧ixP l h k<k+l.length)
 | [],h,k=> .inl rfl
 | x::r,h,k=>by
  unfold ixP;have ih := @zA0 r h (k+1);simp only[List.length_cons];split<;>omega
theorem zJd : ∀ {l:List Obj} {h:Int} {k:Nat},slP l h k = -1∨((k:Int)≤slP l h k∧slP l h k<k+l.length)
 | [],h,k=> .inl rfl
 | x::r,h,k=>by
  unfold slP;have ih := @zJd r h (k+1);simp only[List.length_cons];split<;>omega
def wB:ECt where
 α:=St×Int
 β:=Int
 aS:=fun (s,h)=>[.t (stA s),.t (.int .i64 h)]
 pre:=fun (s,h)=>s.a.ix.length≤6 ∧ ∀ x∈s.a.ix,0≤x.n∧x.n≤255
 r:=fun r'=> .t (.int .i64 r')
 R:=fun (s,h) r'=>r'=ixP s.a.ix h 0
theorem qFr {g:EF wB}{s:St}{h:Int}(hp:s.a.ix.length≤6 ∧ ∀ x∈s.a.ix,0≤x.n∧x.n≤255):wB.fs g [.t (stA s),.t (.int .i64 h)] []=some (.t (.int .i64 (ixP s.a.ix h 0)),[]):=fnQ wB (s,h) hp
theorem jDi {s:St}{h:Int}(hV:vv = .t (.int .i64 (ixP s.a.ix h 0)))(hO:oo=[]):wB.K (s,h) vv oo:=⟨_,rfl,hV,hO⟩
theorem qQ {α:Type}{l:List α}{k:Nat}(h:k<l.length) : ∃ x,l[k]?=some x∧x∈l∧l.drop k=x::l.drop (k+1):=⟨l[k],List.getElem?_eq_getElem h,List.getElem_mem h,List.drop_eq_getElem_cons h⟩
theorem qY2  (s:St)(h:Int)(hp:s.a.ix.length≤6 ∧ ∀ x∈s.a.ix,0≤x.n∧x.n≤255) :
  qEw.1.wp tab gl (qD 0 [.t (stA s),.t (.int .i64 h)]) (qD 0 []) (qY [(4,none)] 0 (wB.K (s,h))):=by
 simp +contextual(disch:=omega)only[go_sem,qEw,stA,↓qB,↓qC,qN];refine qW (σ:=Nat) (fun k=>k≤s.a.ix.length∧ixP (s.a.ix.drop k) h k=ixP s.a.ix h 0) (fun k=>s.a.ix.length-k) (fun k=>[(1,.t (.int .i64 h)),(2,.ref 4096 0 0),(5,.t (.int .i64 k))]) (fun k=>[(4096,.live 30 [.t (stA s)] true true)]) 0 ⟨oM,rfl⟩ ?_ ?_
 ·refine qI.rd id ?_ ?_ rfl;all_goals simp(disch:=omega)only[go_sem,id,stA]
 ·rintro k ⟨hk,hi⟩;by_cases hlt:k<s.a.ix.length
  ·obtain⟨x,hg,hm,hd⟩:=qQ hlt;have hx:=hp.2 _ hm;rw[hd,ixP] at hi;simp +contextual(disch:=omega)only[go_sem,stA,hlt,hg,oms,ixA,↓qB,↓qC,qN]
   (repeat' (first | apply And.intro | intro _))<;>(try rfl)
   ·rename_i c;rw[if_pos c] at hi;rw[hi];subst c;exact jDi rfl rfl
   ·rename_i c;rw[if_neg c] at hi;refine qAf.of (k+1) ⟨oM,hi⟩ oM (qI.rd id ?_ ?_ rfl);all_goals simp(disch:=omega)only[go_sem,id,stA]
  ·simp +contextual(disch:=omega)only[go_sem,stA,hlt,↓qB,↓qC,qN];rw[List.drop_of_length_le oM,ixP] at hi;rw[hi];exact jDi rfl rfl
def kT:ECt where
 α:=St×Int
 β:=Int
 aS:=fun (s,h)=>[.t (stA s),.t (.int .i64 h)]
 pre:=fun (s,h)=>s.obs.length≤3
 r:=fun r'=> .t (.int .i64 r')
 R:=fun (s,h) r'=>r'=slP s.obs h 0
theorem qK5 {g:EF kT}{s:St}{h:Int}(hp:s.obs.length≤3):kT.fs g [.t (stA s),.t (.int .i64 h)] []=some (.t (.int .i64 (slP s.obs h 0)),[]):=fnQ kT (s,h) hp
theorem jF3 {s:St}{h:Int}(hV:vv = .t (.int .i64 (slP s.obs h 0)))(hO:oo=[]):kT.K (s,h) vv oo:=⟨_,rfl,hV,hO⟩
theorem zCd  (s:St)(h:Int)(hp:s.obs.length≤3) :
  qGf.1.wp tab gl (qD 0 [.t (stA s),.t (.int .i64 h)]) (qD 0 []) (qY [(4,none)] 0 (kT.K (s,h))):=by
 simp +contextual(disch:=omega)only[go_sem,qGf,stA,↓qB,↓qC,qN];refine qW (σ:=Nat) (fun k=>k≤s.obs.length∧slP (s.obs.drop k) h k=slP s.obs h 0) (fun k=>s.obs.length-k) (fun k=>[(1,.t (.int .i64 h)),(2,.ref 4096 0 0),(5,.t (.int .i64 k))]) (fun k=>[(4096,.live 30 [.t (stA s)] true true)]) 0 ⟨oM,rfl⟩ ?_ ?_
 ·refine qI.rd id ?_ ?_ rfl;all_goals simp(disch:=omega)only[go_sem,id,stA]
 ·rintro k ⟨hk,hi⟩;by_cases hlt:k<s.obs.length
  ·obtain⟨x,hg,hm,hd⟩:=qQ hlt;rw[hd,slP] at hi;by_cases c1:h=((512+k:Nat):Int)
   ·subst c1;by_cases c2:x.p.kd=0
    ·rw[if_neg (fun c=>c.2 c2)] at hi;simp +contextual(disch:=omega)only[go_sem,stA,hlt,hg,oms,vF,c2,↓qB,↓qC,qN];refine qAf.of (k+1) ⟨oM,hi⟩ oM (qI.rd id ?_ ?_ rfl);all_goals simp(disch:=omega)only[go_sem,id,stA]
    ·rw[if_pos ⟨oM,c2⟩] at hi;simp +contextual(disch:=omega)only[go_sem,stA,hlt,hg,oms,vF,c2,↓qB,↓qC,qN];rw[hi];exact jF3 rfl rfl
   ·rw[if_neg (fun c=>c1 oM)] at hi;simp +contextual(disch:=omega)only[go_sem,stA,hlt,hg,oms,vF,c1,↓qB,↓qC,qN];refine qAf.of (k+1) ⟨oM,hi⟩ oM (qI.rd id ?_ ?_ rfl);all_goals simp(disch:=omega)only[go_sem,id,stA]
  ·simp +contextual(disch:=omega)only[go_sem,stA,hlt,↓qB,↓qC,qN];rw[List.drop_of_length_le oM,slP] at hi;rw[hi];exact jF3 rfl rfl
def qLz:ECt where
 α:=St×Int
 β:=Bool
 aS:=fun (s,h)=>[.t (stA s),.t (.int .i64 h)]
 pre:=fun (s,h)=>(s.a.ix.length≤6 ∧ ∀ x∈s.a.ix,0≤x.n∧x.n≤255)∧s.obs.length≤3
 r:=fun b=> .t (.bool b)
 R:=fun (s,h) b=>True
theorem jCm {g:EF qLz}{s:St}{h:Int}(hp:(s.a.ix.length≤6 ∧ ∀ x∈s.a.ix,0≤x.n∧x.n≤255)∧s.obs.length≤3) : ∃ (b:Bool),(True)∧qLz.fs g [.t (stA s),.t (.int .i64 h)] []=some (.t (.bool b),[]):=qLz.eq g (s,h) hp
theorem jIy {s:St}{h:Int}(b:Bool)(hR:True)(hV:vv = .t (.bool b))(hO:oo=[]):qLz.K (s,h) vv oo:=⟨b,hR,hV,hO⟩
theorem qVq {g1}(h1:LkE tab 144 wB g1){g2}(h2:LkE tab 142 kT g2)(s:St)(h:Int)(hp:(s.a.ix.length≤6 ∧ ∀ x∈s.a.ix,0≤x.n∧x.n≤255)∧s.obs.length≤3) :
  qC6.1.wp tab gl (qD 0 [.t (stA s),.t (.int .i64 h)]) (qD 0 []) (qY [(4,none)] 0 (qLz.K (s,h))):=by
 have e1:=qFr (g:=g1) (h:=h) hp.1;have e2:=qK5 (g:=g2) (h:=h) hp.2;simp only[stA] at e1 e2;generalize ixP s.a.ix h 0=i at *;generalize slP s.obs h 0=j at *;simp +contextual(disch:=omega)only[go_sem,qC6,stA,h1,h2,e1,e2,↓qB,↓qC,qN]
 (repeat' (first | apply And.intro | intro _))<;>(try rfl)
 all_goals exact jIy _ trivial rfl rfl
theorem zAm {s:St}(hs:s.Ok)(h:Int):(∃ x∈s.a.ix,0≤ixP s.a.ix h 0∧s.a.ix[(ixP s.a.ix h 0).toNat]?=some x)∨ixP s.a.ix h 0 = -1∧((∃ x∈s.obs,0≤slP s.obs h 0∧s.obs[(slP s.obs h 0).toNat]?=some x)∨slP s.obs h 0 = -1):=by
 have r1 := @zA0 s.a.ix h 0;have r2 := @zJd s.obs h 0;rcases r1 with r1 | r1
 ·refine .inr ⟨r1,?_⟩;rcases r2 with r2 | r2
  ·exact .inr r2
  ·obtain⟨x,hg,hm,_⟩:=qQ (l:=s.obs) (k:=(slP s.obs h 0).toNat) oM;exact .inl ⟨x,hm,oM,hg⟩
 ·obtain⟨x,hg,hm,_⟩:=qQ (l:=s.a.ix) (k:=(ixP s.a.ix h 0).toNat) oM;exact .inl ⟨x,hm,oM,hg⟩
def qHd:ECt where
 α:=St×Int
 β:=List UInt8
 aS:=fun (s,h)=>[.t (stA s),.t (.int .i64 h)]
 pre:=fun (s,h)=>s.Ok
 r:=fun b=> .t (.sl (b.map qA))
 R:=fun (s,h) b=>b.length≤32
theorem zMn {g:EF qHd}{s:St}{h:Int}(hp:s.Ok) : ∃ (b:List UInt8),(b.length≤32)∧qHd.fs g [.t (stA s),.t (.int .i64 h)] []=some (.t (.sl (b.map qA)),[]):=qHd.eq g (s,h) hp
theorem zIn {s:St}{h:Int}(b:List UInt8)(hR:b.length≤32)(hV:vv = .t (.sl (b.map qA)))(hO:oo=[]):qHd.K (s,h) vv oo:=⟨b,hR,hV,hO⟩
theorem zCb {g1}(h1:LkE tab 144 wB g1){g2}(h2:LkE tab 233 qJa g2){g3}(h3:LkE tab 142 kT g3){g4}(h4:LkE tab 223 qBd g4){g5}(h5:LkE tab 234 qL5 g5)(s:St)(h:Int)(hp:s.Ok) :
  qAn.1.wp tab gl (qD 0 [.t (stA s),.t (.int .i64 h)]) (qD 0 []) (qY [(4,none)] 0 (qHd.K (s,h))):=by
 have l1:=hp.a.ix;have l2:=hp.obs;have e1:=qFr (g:=g1) (h:=h) ⟨l1.1,fun x hx=>(l1.2 x hx).1⟩;have e2:=qK5 (g:=g3) (h:=h) (s:=s) oM;obtain⟨b3,i3,e3⟩ := @jCx g5 h;simp only[stA] at e1 e2;rcases zAm hp h with⟨x,hm,c,hg⟩ | ⟨c,⟨x,hm,c2,hg⟩ | c2⟩
 ·have hx:=(l1.2 x hm).2.2.2.2.1;obtain⟨b,hb,e4⟩:=zU0 (g:=g2) (x:=x) oM;simp only[ixA] at e4;generalize ixP s.a.ix h 0=i at *;generalize slP s.obs h 0=j at *;simp +contextual(disch:=omega)only[go_sem,qAn,stA,h1,h2,h3,h4,h5,e1,e2,e3,e4,hg,oms,ixA,c,↓qB,↓qC,qN];first | exact zIn b oM rfl rfl | exact⟨rfl,zIn b oM rfl rfl⟩
 ·have hx:=(l2.2 x hm).1;obtain⟨b,hb,e4⟩:=qTo (g:=g4) (p:=x.p) (by have:=hx.2.2.2;omega);simp only[puA] at e4;rw[c] at e1;generalize slP s.obs h 0=j at *;simp +contextual(disch:=omega)only[go_sem,qAn,stA,h1,h2,h3,h4,h5,e1,e2,e3,e4,hg,oms,vF,c2,↓qB,↓qC,qN];first | exact zIn b oM rfl rfl | exact⟨rfl,zIn b oM rfl rfl⟩
 ·rw[c] at e1;rw[c2] at e2;simp +contextual(disch:=omega)only[go_sem,qAn,stA,h1,h2,h3,h4,h5,e1,e2,e3,↓qB,↓qC,qN];first | exact zIn b3 i3 rfl rfl | exact⟨rfl,zIn b3 i3 rfl rfl⟩
theorem zXe {l:List (List UInt8)}{n k:Nat}(h : ∀ x∈l,x.length≤n):(l.getD k []).length≤n:=by
 rw[List.getD_eq_getElem?_getD];cases e:l[k]? with
 | none=>simp
 | some x=>exact h x (List.mem_of_getElem? e)
def qJv:ECt where
 α:=St×Int
 β:=List UInt8
 aS:=fun (s,h)=>[.t (stA s),.t (.int .i64 h)]
 pre:=fun (s,h)=>s.Ok
 r:=fun b=> .t (.sl (b.map qA))
 R:=fun (s,h) b=>b.length≤32
theorem zV6 {g:EF qJv}{s:St}{h:Int}(hp:s.Ok) : ∃ (b:List UInt8),(b.length≤32)∧qJv.fs g [.t (stA s),.t (.int .i64 h)] []=some (.t (.sl (b.map qA)),[]):=qJv.eq g (s,h) hp
theorem zTu {s:St}{h:Int}(b:List UInt8)(hR:b.length≤32)(hV:vv = .t (.sl (b.map qA)))(hO:oo=[]):qJv.K (s,h) vv oo:=⟨b,hR,hV,hO⟩
theorem qY3 {g1}(h1:LkE tab 144 wB g1){g2}(h2:LkE tab 142 kT g2)(s:St)(h:Int)(hp:s.Ok) :
  wH.1.wp tab gl (qD 0 [.t (stA s),.t (.int .i64 h)]) (qD 0 []) (qY [(4,none)] 0 (qJv.K (s,h))):=by
 have l1:=hp.a.ix;have l2:=hp.obs;have l3:=hp.a.au;have e1:=qFr (g:=g1) (h:=h) ⟨l1.1,fun x hx=>(l1.2 x hx).1⟩;have e2:=qK5 (g:=g2) (h:=h) (s:=s) oM;simp only[stA] at e1 e2;rcases zAm hp h with⟨x,hm,c,hg⟩ | ⟨c,⟨x,hm,c2,hg⟩ | c2⟩
 ·have hx:=(l1.2 x hm).2.2.2.2.2.1;generalize ixP s.a.ix h 0=i at *;simp +contextual(disch:=omega)only[go_sem,wH,stA,h1,h2,e1,e2,hg,oms,ixA,c,↓qB,↓qC,qN];exact zTu _ hx rfl rfl
 ·have hx:=(l2.2 x hm).2.1.1;rw[c] at e1;generalize slP s.obs h 0=j at *;simp +contextual(disch:=omega)only[go_sem,wH,stA,h1,h2,e1,e2,hg,oms,vF,c2,↓qB,↓qC,qN];exact zTu _ hx rfl rfl
 ·rw[c] at e1;rw[c2] at e2;by_cases k0:0≤h∧h<4
  ·obtain⟨k1,k2⟩:=k0;simp +contextual(disch:=omega)only[go_sem,wH,stA,h1,h2,e1,e2,l3.1,k1,k2,↓qB,↓qC,qN];exact zTu _ (zXe l3.2) rfl rfl
  ·simp +contextual(disch:=omega)only[go_sem,wH,stA,h1,h2,e1,e2,l3.1,↓qB,↓qC,qN]
   (repeat' (first | apply And.intro | intro _))<;>(try rfl)
   all_goals exact zTu [] sM rfl rfl
def qM8:ECt where
 α:=St×Int
 β:=List UInt8
 aS:=fun (s,h)=>[.t (stA s),.t (.int .i64 h)]
 pre:=fun (s,h)=>s.Ok
 r:=fun b=> .t (.sl (b.map qA))
 R:=fun (s,h) b=>b.length≤32
theorem jEv {g:EF qM8}{s:St}{h:Int}(hp:s.Ok) : ∃ (b:List UInt8),(b.length≤32)∧qM8.fs g [.t (stA s),.t (.int .i64 h)] []=some (.t (.sl (b.map qA)),[]):=qM8.eq g (s,h) hp
theorem zYt {s:St}{h:Int}(b:List UInt8)(hR:b.length≤32)(hV:vv = .t (.sl (b.map qA)))(hO:oo=[]):qM8.K (s,h) vv oo:=⟨b,hR,hV,hO⟩
theorem qVr {g1}(h1:LkE tab 144 wB g1){g2}(h2:LkE tab 142 kT g2)(s:St)(h:Int)(hp:s.Ok) :
  wX.1.wp tab gl (qD 0 [.t (stA s),.t (.int .i64 h)]) (qD 0 []) (qY [(4,none)] 0 (qM8.K (s,h))):=by
 have l1:=hp.a.ix;have l2:=hp.obs;have e1:=qFr (g:=g1) (h:=h) ⟨l1.1,fun x hx=>(l1.2 x hx).1⟩;have e2:=qK5 (g:=g2) (h:=h) (s:=s) oM;simp only[stA] at e1 e2;rcases zAm hp h with⟨x,hm,c,hg⟩ | ⟨c,⟨x,hm,c2,hg⟩ | c2⟩
 ·have hx:=(l1.2 x hm).2.2.2.2.1;generalize ixP s.a.ix h 0=i at *;simp +contextual(disch:=omega)only[go_sem,wX,stA,h1,h2,e1,e2,hg,oms,ixA,c,↓qB,↓qC,qN];exact zYt _ oM rfl rfl
 ·have hx:=(l2.2 x hm).1.2.2.2.1;rw[c] at e1;generalize slP s.obs h 0=j at *;simp +contextual(disch:=omega)only[go_sem,wX,stA,h1,h2,e1,e2,hg,oms,vF,c2,↓qB,↓qC,qN];exact zYt _ oM rfl rfl
 ·rw[c] at e1;rw[c2] at e2;simp +contextual(disch:=omega)only[go_sem,wX,stA,h1,h2,e1,e2,↓qB,↓qC,qN];exact zYt [] sM rfl rfl
def qJk:ECt where
 α:=St×Int
 β:=Bool
 aS:=fun (s,h)=>[.t (stA s),.t (.int .i64 h)]
 pre:=fun (s,h)=>s.Ok
 r:=fun b=> .t (.bool b)
 R:=fun (s,h) b=>True
theorem zVh {g:EF qJk}{s:St}{h:Int}(hp:s.Ok) : ∃ (b:Bool),(True)∧qJk.fs g [.t (stA s),.t (.int .i64 h)] []=some (.t (.bool b),[]):=qJk.eq g (s,h) hp
theorem zYq {s:St}{h:Int}(b:Bool)(hR:True)(hV:vv = .t (.bool b))(hO:oo=[]):qJk.K (s,h) vv oo:=⟨b,hR,hV,hO⟩
theorem qQj {g1}(h1:LkE tab 144 wB g1){g2}(h2:LkE tab 142 kT g2)(s:St)(h:Int)(hp:s.Ok) :
  vH.1.wp tab gl (qD 0 [.t (stA s),.t (.int .i64 h)]) (qD 0 []) (qY [(4,none)] 0 (qJk.K (s,h))):=by
 have l1:=hp.a.ix;have l2:=hp.obs;have e1:=qFr (g:=g1) (h:=h) ⟨l1.1,fun x hx=>(l1.2 x hx).1⟩;have e2:=qK5 (g:=g2) (h:=h) (s:=s) oM;simp only[stA] at e1 e2;rcases zAm hp h with⟨x,hm,c,hg⟩ | ⟨c,⟨x,hm,c2,hg⟩ | c2⟩
 ·generalize ixP s.a.ix h 0=i at *;simp +contextual(disch:=omega)only[go_sem,vH,stA,h1,h2,e1,e2,hg,oms,ixA,c,↓qB,↓qC,qN];all_goals exact zYq _ trivial rfl rfl
 ·rw[c] at e1;generalize slP s.obs h 0=j at *;simp +contextual(disch:=omega)only[go_sem,vH,stA,h1,h2,e1,e2,hg,oms,vF,c2,↓qB,↓qC,qN];all_goals exact zYq _ trivial rfl rfl
 ·rw[c] at e1;rw[c2] at e2;simp +contextual(disch:=omega)only[go_sem,vH,stA,h1,h2,e1,e2,↓qB,↓qC,qN];all_goals exact zYq _ trivial rfl rfl
end Go.Eng
end
