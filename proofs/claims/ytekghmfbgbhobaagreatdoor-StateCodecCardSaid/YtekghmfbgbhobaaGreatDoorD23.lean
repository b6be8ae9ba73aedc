/- A part of an abstract machine, its walks, their tie. -/
import Derived.Test.YtekghmfbgbhobaaGreatDoorD22
import Derived.Test.YtekghmfbgbhobaaGreatDoorD16
import Derived.Test.YtekghmfbgbhobaaGreatDoorD21
set_option linter.all false
section
set_option maxHeartbeats 64000000
set_option maxRecDepth 20000
namespace Go.Eng
variable (tab:Tab) (gl:Gl)
variable {vv:V} {oo:List Ob}
abbrev tmI (n:Int):Prop:=0≤n∧n≤1099511627776
def qN2:ECt where
 α:=Lk×Int
 β:=Lk
 aS:=fun (l,now)=>[.t (lkA l),.t (.int .i64 now)]
 pre:=fun (l,now)=>True
 r:=fun r'=> .t (lkA r')
 R:=fun (l,now) r'=>r' = { l with fa:=0,si:=now }
theorem jI0 {g:EF qN2}{l:Lk}{now:Int}:qN2.fs g [.t (lkA l),.t (.int .i64 now)] []=some (.t (lkA ({ l with fa:=0,si:=now })),[]):=fnQ qN2 (l,now) trivial
theorem jOp {l:Lk}{now:Int}(hV:vv = .t (lkA ({ l with fa:=0,si:=now })))(hO:oo=[]):qN2.K (l,now) vv oo:=⟨_,rfl,hV,hO⟩
theorem zB0  (l:Lk)(now:Int) :
  qGd.1.wp tab gl (qE 0 [.t (lkA l),.t (.int .i64 now)]) (qE 0 []) (qX [(4,(some (6,true)))] 0 (qN2.K (l,now))):=by
 simp(disch:=omega)only[go_sem,qGd,lkA];exact jOp rfl rfl
def qN7:ECt where
 α:=Lk×Int
 β:=Bool
 aS:=fun (l,now)=>[.t (lkA l),.t (.int .i64 now)]
 pre:=fun (l,now)=>True
 r:=fun r'=> .t (.bool r')
 R:=fun (l,now) r'=>r'=decide (l.cl≤now)
theorem jI7 {g:EF qN7}{l:Lk}{now:Int}:qN7.fs g [.t (lkA l),.t (.int .i64 now)] []=some (.t (.bool (decide (l.cl≤now))),[]):=fnQ qN7 (l,now) trivial
theorem jOs {l:Lk}{now:Int}(hV:vv = .t (.bool (decide (l.cl≤now))))(hO:oo=[]):qN7.K (l,now) vv oo:=⟨_,rfl,hV,hO⟩
theorem zFf  (l:Lk)(now:Int) :
  qHu.1.wp tab gl (qE 0 [.t (lkA l),.t (.int .i64 now)]) (qE 0 []) (qX [(4,none)] 0 (qN7.K (l,now))):=by
 simp(disch:=omega)only[go_sem,qHu,lkA];exact jOs rfl rfl
def qN6:ECt where
 α:=Lk×Int×Int×Int
 β:=Lk×Int
 aS:=fun (l,a,b,c)=>[.t (lkA l),.t (.int .i64 a),.t (.int .i64 b),.t (.int .i64 c)]
 pre:=fun (l,a,b,c)=>l.Ok
 r:=fun (y,e)=> .tup [.t (lkA y),.t (.int .i64 e)]
 R:=fun (l,a,b,c) (y,e)=>e=0→y.Ok
theorem jI6 {g:EF qN6}{l:Lk}{a b c:Int}(hp:l.Ok) : ∃ (y:Lk) (e:Int),(e=0→y.Ok)∧qN6.fs g [.t (lkA l),.t (.int .i64 a),.t (.int .i64 b),.t (.int .i64 c)] []=some (.tup [.t (lkA y),.t (.int .i64 e)],[]):=by
 obtain⟨y,h1,h2⟩:=qN6.eq g (l,a,b,c) hp;exact⟨y.1,y.2,h1,h2⟩
theorem jI5 {l:Lk}{a b c:Int}(y:Lk)(e:Int)(hR:e=0→y.Ok)(hV:vv = .tup [.t (lkA y),.t (.int .i64 e)])(hO:oo=[]):qN6.K (l,a,b,c) vv oo:=⟨(y,e),hR,hV,hO⟩
theorem qX8  (l:Lk)(a b c:Int)(hp:l.Ok) :
  qEh.1.wp tab gl (qE 0 [.t (lkA l),.t (.int .i64 a),.t (.int .i64 b),.t (.int .i64 c)]) (qE 0 []) (qX [(8,(some (6,true))),(9,none)] 0 (qN6.K (l,a,b,c))):=by
 obtain⟨h1,h2,h3,h4,h5,h6⟩:=hp;simp +contextual(maxSteps:=9^9)(disch:=try exact dS)only[go_sem,qEh,lkA,↓qB,↓qC,qU];repeat' (first | apply And.intro | intro _)
 all_goals first | exact jI5 default 1 oM rfl rfl | (refine jI5 ⟨if a<l.fa then a else l.fa,a,b,l.si,l.cl,c⟩ 0 ?_ rfl rfl;simp only[Lk.Ok];split<;>omega)
def qK1:ECt where
 α:=Lk×Int
 β:=Lk
 aS:=fun (l,now)=>[.t (lkA l),.t (.int .i64 now)]
 pre:=fun (l,now)=>l.Ok∧tmI now
 r:=fun y=> .t (lkA y)
 R:=fun (l,now) y=>y.Ok
theorem zZr {g:EF qK1}{l:Lk}{now:Int}(hp:l.Ok∧tmI now) : ∃ (y:Lk),(y.Ok)∧qK1.fs g [.t (lkA l),.t (.int .i64 now)] []=some (.t (lkA y),[]):=qK1.eq g (l,now) hp
theorem zQu {l:Lk}{now:Int}(y:Lk)(hR:y.Ok)(hV:vv = .t (lkA y))(hO:oo=[]):qK1.K (l,now) vv oo:=⟨y,hR,hV,hO⟩
theorem qW3  (l:Lk)(now:Int)(hp:l.Ok∧tmI now) :
  vV.1.wp tab gl (qE 0 [.t (lkA l),.t (.int .i64 now)]) (qE 0 []) (qX [(4,(some (6,true)))] 0 (qK1.K (l,now))):=by
 obtain⟨⟨h1,h2,h3,h4,h5,h6⟩,h7,h8⟩:=hp;by_cases c1:now<l.si
 ·simp +contextual(disch:=omega)only[go_sem,vV,lkA,c1,↓qB,↓qC,qU];exact zQu { l with si:=now } (by simp only[Lk.Ok];omega) rfl rfl
 have hq:(now-l.si).tdiv l.rc=(now-l.si)/l.rc:=Int.tdiv_eq_ediv_of_nonneg oM;have q0:0≤(now-l.si)/l.rc:=Int.ediv_nonneg oM oM;have q1:l.rc≠0→(now-l.si)/l.rc*l.rc≤now-l.si:=fun h=>Int.ediv_mul_le _ h
 have q2:(now-l.si)/l.rc≤now-l.si:=Int.ediv_le_self _ oM;by_cases c3:l.rc=0
 ·simp +contextual(disch:=omega)only[go_sem,vV,lkA,c1,c3,↓qB,↓qC,qU];repeat' (first | apply And.intro | intro _)
  ·exact zQu { l with si:=now } (by simp only[Lk.Ok];omega) (by rw[lkA,‹l.fa=0›,c3]) rfl
  ·exact zQu l (by simp only[Lk.Ok];omega) (by rw[lkA,c3]) rfl
 have q1:=q1 c3;by_cases c2:(now-l.si)/l.rc<l.fa
 ·have q3:0≤(now-l.si)/l.rc*l.rc:=Int.mul_nonneg q0 h3.1;simp +contextual(disch:=omega)only[go_sem,vV,lkA,c1,hq,c2,c3,↓qB,↓qC,qU];repeat' (first | apply And.intro | intro _)
  all_goals first | rfl | omega | skip
  exact zQu ⟨l.fa-(now-l.si)/l.rc,l.mx,l.rc,l.si+(now-l.si)/l.rc*l.rc,l.cl,l.pe⟩ (by simp only[Lk.Ok];omega) rfl rfl
 ·have q3:l.fa*l.rc≤(now-l.si)/l.rc*l.rc:=Int.mul_le_mul_of_nonneg_right oM h3.1;have q4:0≤l.fa*l.rc:=Int.mul_nonneg h1.1 h3.1;simp +contextual(disch:=omega)only[go_sem,vV,lkA,c1,hq,c2,c3,Int.sub_self,↓qB,↓qC,qU];repeat' (first | apply And.intro | intro _)
  all_goals first | rfl | exact zQu ⟨0,l.mx,l.rc,now,l.cl,l.pe⟩ (by simp only[Lk.Ok];omega) rfl rfl
def qN3:ECt where
 α:=Lk×Int
 β:=Bool
 aS:=fun (l,now)=>[.t (lkA l),.t (.int .i64 now)]
 pre:=fun (l,now)=>l.Ok∧tmI now
 r:=fun b=> .t (.bool b)
 R:=fun (l,now) b=>True
theorem jI1 {g:EF qN3}{l:Lk}{now:Int}(hp:l.Ok∧tmI now) : ∃ (b:Bool),(True)∧qN3.fs g [.t (lkA l),.t (.int .i64 now)] []=some (.t (.bool b),[]):=qN3.eq g (l,now) hp
theorem jOq {l:Lk}{now:Int}(b:Bool)(hR:True)(hV:vv = .t (.bool b))(hO:oo=[]):qN3.K (l,now) vv oo:=⟨b,hR,hV,hO⟩
theorem qX9 {g1}(h1:LkE tab 232 qK1 g1)(l:Lk)(now:Int)(hp:l.Ok∧tmI now) :
  qEi.1.wp tab gl (qE 0 [.t (lkA l),.t (.int .i64 now)]) (qE 0 []) (qX [(4,none)] 0 (qN3.K (l,now))):=by
 obtain⟨y,h,e⟩:=zZr (g:=g1) hp;simp only[lkA] at e;simp +contextual(disch:=omega)only[go_sem,qEi,lkA,h1,e,↓qB,↓qC,qU];exact jOq _ trivial rfl rfl
def qN4:ECt where
 α:=Lk×Int
 β:=Lk
 aS:=fun (l,now)=>[.t (lkA l),.t (.int .i64 now)]
 pre:=fun (l,now)=>l.Ok∧tmI now
 r:=fun y=> .t (lkA y)
 R:=fun (l,now) y=>y.Ok
theorem jI2 {g:EF qN4}{l:Lk}{now:Int}(hp:l.Ok∧tmI now) : ∃ (y:Lk),(y.Ok)∧qN4.fs g [.t (lkA l),.t (.int .i64 now)] []=some (.t (lkA y),[]):=qN4.eq g (l,now) hp
theorem jOr {l:Lk}{now:Int}(y:Lk)(hR:y.Ok)(hV:vv = .t (lkA y))(hO:oo=[]):qN4.K (l,now) vv oo:=⟨y,hR,hV,hO⟩
theorem zFe {g1}(h1:LkE tab 232 qK1 g1)(l:Lk)(now:Int)(hp:l.Ok∧tmI now) :
  qHt.1.wp tab gl (qE 0 [.t (lkA l),.t (.int .i64 now)]) (qE 0 []) (qX [(4,(some (6,true)))] 0 (qN4.K (l,now))):=by
 obtain⟨y,⟨j1,j2,j3,j4,j5,j6⟩,e⟩:=zZr (g:=g1) hp;simp only[lkA] at e;simp +contextual(disch:=omega)only[go_sem,qHt,lkA,h1,e,↓qB,↓qC,qU];refine jOr { y with fa:=if y.mx<y.fa+1 then y.mx else y.fa+1 } ?_ rfl rfl;simp only[Lk.Ok];split<;>omega
def qN8:ECt where
 α:=Lk×Int
 β:=Lk
 aS:=fun (l,now)=>[.t (lkA l),.t (.int .i64 now)]
 pre:=fun (l,now)=>l.Ok∧tmI now
 r:=fun y=> .t (lkA y)
 R:=fun (l,now) y=>y.Ok
theorem jI8 {g:EF qN8}{l:Lk}{now:Int}(hp:l.Ok∧tmI now) : ∃ (y:Lk),(y.Ok)∧qN8.fs g [.t (lkA l),.t (.int .i64 now)] []=some (.t (lkA y),[]):=qN8.eq g (l,now) hp
theorem jOt {l:Lk}{now:Int}(y:Lk)(hR:y.Ok)(hV:vv = .t (lkA y))(hO:oo=[]):qN8.K (l,now) vv oo:=⟨y,hR,hV,hO⟩
theorem zB1  (l:Lk)(now:Int)(hp:l.Ok∧tmI now) :
  qGe.1.wp tab gl (qE 0 [.t (lkA l),.t (.int .i64 now)]) (qE 0 []) (qX [(4,(some (6,true)))] 0 (qN8.K (l,now))):=by
 obtain⟨⟨h1,h2,h3,h4,h5,h6⟩,h7,h8⟩:=hp;simp +contextual(disch:=omega)only[go_sem,qGe,lkA,↓qB,↓qC,qU];exact jOt { l with cl:=now+l.pe } (by simp only[Lk.Ok];omega) rfl rfl
def qO4:ECt where
 α:=Int×Int
 β:=Bool
 aS:=fun (k,z)=>[.t (.int .i64 k),.t (.int .i64 z)]
 pre:=fun (k,z)=>True
 r:=fun b=> .t (.bool b)
 R:=fun (k,z) b=>b=true→(1≤k∧k≤4)∧(1≤z∧z≤128)∧(k=3→z=8)
theorem jLm {g:EF qO4}{k z:Int} : ∃ (b:Bool),(b=true→(1≤k∧k≤4)∧(1≤z∧z≤128)∧(k=3→z=8))∧qO4.fs g [.t (.int .i64 k),.t (.int .i64 z)] []=some (.t (.bool b),[]):=qO4.eq g (k,z) trivial
theorem jP9 {k z:Int}(b:Bool)(hR:b=true→(1≤k∧k≤4)∧(1≤z∧z≤128)∧(k=3→z=8))(hV:vv = .t (.bool b))(hO:oo=[]):qO4.K (k,z) vv oo:=⟨b,hR,hV,hO⟩
theorem zBz  (k z:Int) :
  qGc.1.wp tab gl (qE 0 [.t (.int .i64 k),.t (.int .i64 z)]) (qE 0 []) (qX [(4,none)] 0 (qO4.K (k,z))):=by
 simp +contextual(disch:=omega)only[go_sem,qGc,↓qB,↓qC,qU];repeat' (first | apply And.intro | intro _)
 all_goals (refine jP9 _ ?_ rfl rfl;intro h;simp at h<;>omega)
theorem zX0 {n:Nat}{x:UInt8}:(List.replicate n x).take n=List.replicate n x:=sM
def qNv:ECt where
 α:=Int×Int×Int×Int×List UInt8×List UInt8
 β:=Ix×Int
 aS:=fun (n,k,r,z,au,po)=>[.t (.int .i64 n),.t (.int .i64 k),.t (.int .i64 r),.t (.int .i64 z),.t (.sl (au.map qA)),.t (.sl (po.map qA))]
 pre:=fun (n,k,r,z,au,po)=>au.length≤4096∧po.length≤4096
 r:=fun (x,e)=> .tup [.t (ixA x),.t (.int .i64 e)]
 R:=fun (n,k,r,z,au,po) (x,e)=>e=0→x.Ok
theorem jIq {g:EF qNv}{n k r z:Int}{au po:List UInt8}(hp:au.length≤4096∧po.length≤4096) : ∃ (x:Ix) (e:Int),(e=0→x.Ok)∧qNv.fs g [.t (.int .i64 n),.t (.int .i64 k),.t (.int .i64 r),.t (.int .i64 z),.t (.sl (au.map qA)),.t (.sl (po.map qA))] []=some (.tup [.t (ixA x),.t (.int .i64 e)],[]):=by
 obtain⟨y,h1,h2⟩:=qNv.eq g (n,k,r,z,au,po) hp;exact⟨y.1,y.2,h1,h2⟩
theorem zQn {n k r z:Int}{au po:List UInt8}(x:Ix)(e:Int)(hR:e=0→x.Ok)(hV:vv = .tup [.t (ixA x),.t (.int .i64 e)])(hO:oo=[]):qNv.K (n,k,r,z,au,po) vv oo:=⟨(x,e),hR,hV,hO⟩
theorem zIq {g1}(h1:LkE tab 252 qO4 g1)(n k r z:Int)(au po:List UInt8)(hp:au.length≤4096∧po.length≤4096) :
  qFr.1.wp tab gl (qE 0 [.t (.int .i64 n),.t (.int .i64 k),.t (.int .i64 r),.t (.int .i64 z),.t (.sl (au.map qA)),.t (.sl (po.map qA))]) (qE 0 []) (qX [(12,(some (8,true))),(13,none)] 0 (qNv.K (n,k,r,z,au,po))):=by
 obtain⟨y,h,e⟩:=jLm (g:=g1) (k:=k) (z:=z);by_cases c:y=true
 ·obtain⟨c1,c2,c3⟩:=h c;simp +contextual(maxSteps:=9^9)(disch:=try exact dS)only[go_sem,qFr,h1,e,c,zX0,↓qB,↓qC,qU];repeat' (first | apply And.intro | intro _)
  all_goals first | exact zQn default 1 oM rfl rfl | exact zQn default 4 oM rfl rfl | exact zQn default 20 oM rfl rfl | skip
  all_goals refine zQn ⟨n,k,r,z,po,au,false,List.replicate z.toNat 0⟩ 0 ?_ rfl rfl
  all_goals simp only[Ix.Ok,List.length_replicate]
  all_goals omega
 ·simp +contextual(maxSteps:=9^9)(disch:=try exact dS)only[go_sem,qFr,h1,e,c,↓qB,↓qC,qU];repeat' (first | apply And.intro | intro _)
  all_goals exact zQn default 1 oM rfl rfl
def qKx:ECt where
 α:=Int×Int×Int
 β:=Bool
 aS:=fun (o,n,z)=>[.t (.int .i64 o),.t (.int .i64 n),.t (.int .i64 z)]
 pre:=fun (o,n,z)=>(0≤n∧n≤1099511627776)∧(0≤z∧z≤128)
 r:=fun b=> .t (.bool b)
 R:=fun (o,n,z) b=>b=true→0≤o∧0≤n∧o+n≤z
theorem zZo {g:EF qKx}{o n z:Int}(hp:(0≤n∧n≤1099511627776)∧(0≤z∧z≤128)) : ∃ (b:Bool),(b=true→0≤o∧0≤n∧o+n≤z)∧qKx.fs g [.t (.int .i64 o),.t (.int .i64 n),.t (.int .i64 z)] []=some (.t (.bool b),[]):=qKx.eq g (o,n,z) hp
theorem jOf {o n z:Int}(b:Bool)(hR:b=true→0≤o∧0≤n∧o+n≤z)(hV:vv = .t (.bool b))(hO:oo=[]):qKx.K (o,n,z) vv oo:=⟨b,hR,hV,hO⟩
theorem qX7  (o n z:Int)(hp:(0≤n∧n≤1099511627776)∧(0≤z∧z≤128)) :
  qEg.1.wp tab gl (qE 0 [.t (.int .i64 o),.t (.int .i64 n),.t (.int .i64 z)]) (qE 0 []) (qX [(6,none)] 0 (qKx.K (o,n,z))):=by
 simp +contextual(disch:=omega)only[go_sem,qEg,↓qB,↓qC,qU];repeat' (first | apply And.intro | intro _)
 all_goals (refine jOf _ ?_ rfl rfl;intro h;simp at h<;>omega)
def qNx:ECt where
 α:=Ix×Int×Int
 β:=List UInt8×Int
 aS:=fun (x,o,n)=>[.t (ixA x),.t (.int .i64 o),.t (.int .i64 n)]
 pre:=fun (x,o,n)=>x.Ok∧tmI n
 r:=fun (b,e)=> .tup [.t (.sl (b.map qA)),.t (.int .i64 e)]
 R:=fun (x,o,n) (b,e)=>b.length≤128
theorem jIt {g:EF qNx}{x:Ix}{o n:Int}(hp:x.Ok∧tmI n) : ∃ (b:List UInt8) (e:Int),(b.length≤128)∧qNx.fs g [.t (ixA x),.t (.int .i64 o),.t (.int .i64 n)] []=some (.tup [.t (.sl (b.map qA)),.t (.int .i64 e)],[]):=by
 obtain⟨y,h1,h2⟩:=qNx.eq g (x,o,n) hp;exact⟨y.1,y.2,h1,h2⟩
theorem jCq {x:Ix}{o n:Int}(b:List UInt8)(e:Int)(hR:b.length≤128)(hV:vv = .tup [.t (.sl (b.map qA)),.t (.int .i64 e)])(hO:oo=[]):qNx.K (x,o,n) vv oo:=⟨(b,e),hR,hV,hO⟩
theorem zFc {g1}(h1:LkE tab 253 qKx g1)(h2:LkC tab 99 qAe)(x:Ix)(o n:Int)(hp:x.Ok∧tmI n) :
  qDv.1.wp tab gl (qE 0 [.t (ixA x),.t (.int .i64 o),.t (.int .i64 n)]) (qE 0 []) (qX [(6,none),(7,none)] 0 (qNx.K (x,o,n))):=by
 obtain⟨⟨i1,i2,i3,i4,i5,i6,i7,i8⟩,i9⟩:=hp;obtain⟨y,h,e⟩:=zZo (g:=g1) (o:=o) (n:=n) (z:=x.da.length) oM;by_cases c:y=true
 ·obtain⟨c1,c2,c3⟩:=h c;have e2:=zY (bs:=(x.da.drop o.toNat).take ((o+n).toNat-o.toNat)) soM;simp +contextual(disch:=omega)only[go_sem,qDv,ixA,h1,h2,e,e2,c,↓qB,↓qC,qU];repeat' (first | apply And.intro | intro _)
  ·exact jCq [] _ sM rfl rfl
  ·exact jCq _ _ soM rfl rfl
 ·simp +contextual(disch:=omega)only[go_sem,qDv,ixA,h1,e,c,↓qB,↓qC,qU];repeat' (first | apply And.intro | intro _)
  all_goals exact jCq [] _ sM rfl rfl
def qN0:ECt where
 α:=Ix×Int×List UInt8
 β:=Ix×Int
 aS:=fun (x,o,d)=>[.t (ixA x),.t (.int .i64 o),.t (.sl (d.map qA))]
 pre:=fun (x,o,d)=>x.Ok∧d.length≤4096
 r:=fun (y,e)=> .tup [.t (ixA y),.t (.int .i64 e)]
 R:=fun (x,o,d) (y,e)=>e=0→y.Ok∧y.n=x.n
theorem jIw {g:EF qN0}{x:Ix}{o:Int}{d:List UInt8}(hp:x.Ok∧d.length≤4096) : ∃ (y:Ix) (e:Int),(e=0→y.Ok∧y.n=x.n)∧qN0.fs g [.t (ixA x),.t (.int .i64 o),.t (.sl (d.map qA))] []=some (.tup [.t (ixA y),.t (.int .i64 e)],[]):=by
 obtain⟨y,h1,h2⟩:=qN0.eq g (x,o,d) hp;exact⟨y.1,y.2,h1,h2⟩
theorem zVf {x:Ix}{o:Int}{d:List UInt8}(y:Ix)(e:Int)(hR:e=0→y.Ok∧y.n=x.n)(hV:vv = .tup [.t (ixA y),.t (.int .i64 e)])(hO:oo=[]):qN0.K (x,o,d) vv oo:=⟨(y,e),hR,hV,hO⟩
theorem zBy {g1}(h1:LkE tab 253 qKx g1)(h2:LkC tab 99 qAe)(x:Ix)(o:Int)(d:List UInt8)(hp:x.Ok∧d.length≤4096) :
  qCu.1.wp tab gl (qE 0 [.t (ixA x),.t (.int .i64 o),.t (.sl (d.map qA))]) (qE 0 []) (qX [(6,(some (8,true))),(7,none)] 0 (qN0.K (x,o,d))):=by
 obtain⟨⟨i1,i2,i3,i4,i5,i6,i7,i8⟩,i9⟩:=hp;obtain⟨y,h,e⟩:=zZo (g:=g1) (o:=o) (n:=d.length) (z:=x.da.length) oM;by_cases c:y=true
 ·obtain⟨c1,c2,c3⟩:=h c;have e2:=zY (bs:=x.da.take o.toNat) soM;simp +contextual(disch:=omega)only[go_sem,qCu,ixA,h1,h2,e,e2,c,↓qB,↓qC,qU];repeat' (first | apply And.intro | intro _)
  ·exact zVf default 19 oM rfl rfl
  ·rfl
  ·refine zVf ⟨x.n,1,x.ar,x.sz,x.po,x.au,true,_⟩ 0 (fun _=>⟨?_,rfl⟩) rfl rfl;simp only[Ix.Ok,jVq];omega
 ·simp +contextual(disch:=omega)only[go_sem,qCu,ixA,h1,e,c,↓qB,↓qC,qU];repeat' (first | apply And.intro | intro _)
  ·exact zVf default 19 oM rfl rfl
  ·exact zVf default 24 oM rfl rfl
theorem zLb {s:Rd}{k:Nat}:0≤(qL s k).1∧(qL s k).1<9223372036854775808:=by
 unfold qL;split
 ·simp
 ·split
  ·simp
  ·split
   ·simp
   ·simp only;omega
def qNz:ECt where
 α:=Ix
 β:=Int
 aS:=fun x=>[.t (ixA x)]
 pre:=fun x=>x.Ok
 r:=fun n=> .t (.int .i64 n)
 R:=fun x n=>0≤n∧n<9223372036854775808
theorem jIv {g:EF qNz}{x:Ix}(hp:x.Ok) : ∃ (n:Int),(0≤n∧n<9223372036854775808)∧qNz.fs g [.t (ixA x)] []=some (.t (.int .i64 n),[]):=qNz.eq g x hp
theorem jOj {x:Ix}(n:Int)(hR:0≤n∧n<9223372036854775808)(hV:vv = .t (.int .i64 n))(hO:oo=[]):qNz.K x vv oo:=⟨n,hR,hV,hO⟩
theorem qX6 (h1:LkC tab 56 qDi)(h2:LkC tab 57 qCn)(x:Ix)(hp:x.Ok) :
  qEf.1.wp tab gl (qE 0 [.t (ixA x)]) (qE 0 []) (qX [(2,none)] 0 (qNz.K x)):=by
 have i7:=hp.2.2.2.2.2.2.1;have e1:=qLr (b:=x.da) oM;have e2:=vB (s:=(x.da,0,0)) (k:=8) ⟨⟨sM,by show x.da.length<_;omega⟩,oM,oM⟩;simp only[rdO,Int.ofNat_zero] at e1 e2;rw[show ((8:Nat):Int)=8 from rfl] at e2;simp +contextual(disch:=omega)only[go_sem,qEf,ixA,h1,h2,e1,e2,↓qB,↓qC,qU];exact jOj _ zLb rfl rfl
def qNu:ECt where
 α:=Ix×Int
 β:=Ix×Int×Int
 aS:=fun (x,m)=>[.t (ixA x),.t (.int .i64 m)]
 pre:=fun (x,m)=>x.Ok∧tmI m
 r:=fun (y,m',e)=> .tup [.t (ixA y),.t (.int .i64 m'),.t (.int .i64 e)]
 R:=fun (x,m) (y,m',e)=>e=0→(y.Ok∧y.n=x.n)∧tmI m'
theorem jIp {g:EF qNu}{x:Ix}{m:Int}(hp:x.Ok∧tmI m) : ∃ (y:Ix) (m' e:Int),(e=0→(y.Ok∧y.n=x.n)∧tmI m')∧qNu.fs g [.t (ixA x),.t (.int .i64 m)] []=some (.tup [.t (ixA y),.t (.int .i64 m'),.t (.int .i64 e)],[]):=by
 obtain⟨y,h1,h2⟩:=qNu.eq g (x,m) hp;exact⟨y.1,y.2.1,y.2.2,h1,h2⟩
theorem zQm {x:Ix}{m:Int}(y:Ix)(m' e:Int)(hR:e=0→(y.Ok∧y.n=x.n)∧tmI m')(hV:vv = .tup [.t (ixA y),.t (.int .i64 m'),.t (.int .i64 e)])(hO:oo=[]):qNu.K (x,m) vv oo:=⟨(y,m',e),hR,hV,hO⟩
theorem qSq {g1}(h1:LkE tab 254 qNz g1)(h2:LkC tab 42 yT)(x:Ix)(m:Int)(hp:x.Ok∧tmI m) :
  vX.1.wp tab gl (qE 0 [.t (ixA x),.t (.int .i64 m)]) (qE 0 []) (qX [(4,(some (8,true))),(5,none),(6,none)] 0 (qNu.K (x,m))):=by
 obtain⟨n,h,e⟩:=jIv (g:=g1) hp.1;obtain⟨⟨i1,i2,i3,i4,i5,i6,i7,i8⟩,i9,i10⟩:=hp;obtain⟨xn,xk,xr,xz,xp,xa,xw,xd⟩:=x;simp only[ixA] at *;by_cases c1:xk=2
 ·subst c1;have eU:=fun n => @qSn [] n (by decide)
  simp only[List.map_nil] at eU;cases xw
  ·simp +contextual(disch:=omega)only[go_sem,vX,h1,h2,e,eU,↓qB,↓qC,qU];repeat' (first | apply And.intro | intro _)
   ·exact zQm default 0 31 oM rfl rfl
   ·simp[beI]
   ·refine zQm ⟨xn,2,xr,xz,xp,xa,true,_⟩ _ 0 ?_ rfl rfl;intro _;refine⟨⟨?_,rfl⟩,?_⟩
    ·simp[Ix.Ok];omega
    ·unfold tmI;split<;>omega
  ·simp +contextual(disch:=omega)only[go_sem,vX,h1,h2,e,eU,↓qB,↓qC,qU];repeat' (first | apply And.intro | intro _)
   ·exact zQm default 0 31 oM rfl rfl
   ·simp[beI]
   ·refine zQm ⟨xn,2,xr,xz,xp,xa,true,_⟩ _ 0 ?_ rfl rfl;intro _;refine⟨⟨?_,rfl⟩,?_⟩
    ·simp[Ix.Ok];omega
    ·unfold tmI;split<;>omega
 ·simp +contextual(disch:=omega)only[go_sem,vX,c1,↓qB,↓qC,qU];exact zQm default 0 19 oM rfl rfl
theorem zXz {α:Type}{l m:List α}:(l++m).take (l.length+m.length)=l++m:=List.take_of_length_le sM
def qNy:ECt where
 α:=Ix×List UInt8
 β:=Ix×Int
 aS:=fun (x,b)=>[.t (ixA x),.t (.sl (b.map qA))]
 pre:=fun (x,b)=>x.Ok∧b.length≤4096
 r:=fun (y,e)=> .tup [.t (ixA y),.t (.int .i64 e)]
 R:=fun (x,b) (y,e)=>e=0→y.Ok∧y.n=x.n
theorem jIu {g:EF qNy}{x:Ix}{b:List UInt8}(hp:x.Ok∧b.length≤4096) : ∃ (y:Ix) (e:Int),(e=0→y.Ok∧y.n=x.n)∧qNy.fs g [.t (ixA x),.t (.sl (b.map qA))] []=some (.tup [.t (ixA y),.t (.int .i64 e)],[]):=by
 obtain⟨y,h1,h2⟩:=qNy.eq g (x,b) hp;exact⟨y.1,y.2,h1,h2⟩
theorem jCr {x:Ix}{b:List UInt8}(y:Ix)(e:Int)(hR:e=0→y.Ok∧y.n=x.n)(hV:vv = .tup [.t (ixA y),.t (.int .i64 e)])(hO:oo=[]):qNy.K (x,b) vv oo:=⟨(y,e),hR,hV,hO⟩
theorem qW2 (h1:LkC tab 99 qAe)(x:Ix)(b:List UInt8)(hp:x.Ok∧b.length≤4096) :
  kE.1.wp tab gl (qE 0 [.t (ixA x),.t (.sl (b.map qA))]) (qE 0 []) (qX [(4,(some (8,true))),(5,none)] 0 (qNy.K (x,b))):=by
 obtain⟨⟨i1,i2,i3,i4,i5,i6,i7,i8⟩,i9⟩:=hp;obtain⟨xn,xk,xr,xz,xp,xa,xw,xd⟩:=x;simp only[ixA] at *;by_cases c1:xk=3
 ·subst c1;have l8:=i8 rfl;have e2:=zY (bs:=xd) oM;by_cases c2:b.length=8
  ·simp +contextual(disch:=omega)only[go_sem,kE,h1,e2,c2,l8,↓qB,↓qC,qU];refine zD (σ:=Nat×List UInt8) (fun s=>s.1≤8∧s.2.length=8) (fun s=>8-s.1)
    (fun s=>[(1,.t (.sl (b.map qA))),(2,.ref 4096 0 0),(4,.ref 4112 0 0),(6,.sl 24608 0 8),(7,.t (.int .i64 s.1))])
    (fun s=>[(24608,.live 1 ((s.2.map qA).map V.t) true false),(4112,.live 8 [.agg [.t (.int .i64 0),.t (.int .i64 0),.t (.int .i64 0),.t (.int .i64 0),.nil,.nil,.t (.bool false),.nil]] true true),(4096,.live 8 [.t (.agg [.int .i64 xn,.int .i64 3,.int .i64 xr,.int .i64 xz,.sl (xp.map qA),.sl (xa.map qA),.bool xw,.sl (xd.map qA)])] true true)])
    (0,xd) ⟨oM,l8⟩ ?_ ?_
   ·refine qI.rd id ?_ ?_ rfl;all_goals simp(disch:=omega)only[go_sem,id]
   ·rintro⟨k,d⟩ ⟨hk,hd⟩;simp only at hk hd;by_cases hlt:k<8
    ·simp(disch:=omega)only[go_sem,hd,hlt,c2,zUh];refine⟨rfl,qDa.of (k+1,d.set k (d.getD k 0 ||| b.getD k 0)) ⟨by show k+1≤8;omega,by simp[hd]⟩ (by show 8-(k+1)<8-k;omega) (qI.rd id ?_ ?_ rfl)⟩;all_goals simp(disch:=omega)only[go_sem,id]
     all_goals rfl
    ·simp(disch:=omega)only[go_sem,hd,hlt];refine jCr ⟨xn,3,xr,xz,xp,xa,true,_⟩ 0 ?_ rfl rfl;intro _;refine⟨?_,rfl⟩;simp[Ix.Ok];omega
  ·simp +contextual(disch:=omega)only[go_sem,kE,h1,e2,c2,↓qB,↓qC,qU];exact jCr default 24 oM rfl rfl
 ·simp +contextual(disch:=omega)only[go_sem,kE,c1,↓qB,↓qC,qU];exact jCr default 19 oM rfl rfl
def qNs:ECt where
 α:=Ix×List UInt8
 β:=Ix×Int
 aS:=fun (x,b)=>[.t (ixA x),.t (.sl (b.map qA))]
 pre:=fun (x,b)=>x.Ok∧b.length≤4096
 r:=fun (y,e)=> .tup [.t (ixA y),.t (.int .i64 e)]
 R:=fun (x,b) (y,e)=>e=0→y.Ok∧y.n=x.n
theorem jIn {g:EF qNs}{x:Ix}{b:List UInt8}(hp:x.Ok∧b.length≤4096) : ∃ (y:Ix) (e:Int),(e=0→y.Ok∧y.n=x.n)∧qNs.fs g [.t (ixA x),.t (.sl (b.map qA))] []=some (.tup [.t (ixA y),.t (.int .i64 e)],[]):=by
 obtain⟨y,h1,h2⟩:=qNs.eq g (x,b) hp;exact⟨y.1,y.2,h1,h2⟩
theorem jCp {x:Ix}{b:List UInt8}(y:Ix)(e:Int)(hR:e=0→y.Ok∧y.n=x.n)(hV:vv = .tup [.t (ixA y),.t (.int .i64 e)])(hO:oo=[]):qNs.K (x,b) vv oo:=⟨(y,e),hR,hV,hO⟩
theorem qX5 (h1:LkC tab 99 qAe)(h2:tab.look 102=some (qJh 32 yK).fs)(x:Ix)(b:List UInt8)(hp:x.Ok∧b.length≤4096) :
  qEe.1.wp tab gl (qE 0 [.t (ixA x),.t (.sl (b.map qA))]) (qE 0 []) (qX [(4,(some (8,true))),(5,none)] 0 (qNs.K (x,b))):=by
 obtain⟨⟨i1,i2,i3,i4,i5,i6,i7,i8⟩,i9⟩:=hp;obtain⟨xn,xk,xr,xz,xp,xa,xw,xd⟩:=x;simp only[ixA] at *;have e2:=zY (bs:=xd) oM;have e3:=qZy (n:=32) (f:=yK) (bs:=xd++b) soM;simp +contextual(disch:=omega)only[go_sem,qEe,h1,h2,e2,e3,zXz,List.take_of_length_le,qS,↓qB,↓qC,qU];repeat' (first | apply And.intro | intro _)
 ·exact jCp default 19 oM rfl rfl
 ·exact jCp default 4 oM rfl rfl
 ·refine jCp ⟨xn,4,xr,xz,xp,xa,true,(yK (xd++b)).take 32⟩ 0 ?_ (by rw[ixA,List.map_take]) rfl;intro _;refine⟨?_,rfl⟩;simp[Ix.Ok,qS];omega
def qO2:ECt where
 α:=List UInt8
 β:=List UInt8
 aS:=fun b=>[.t (.sl (b.map qA))]
 pre:=fun b=>b.length≤4096
 r:=fun r=> .t (.sl (r.map qA))
 R:=fun b r=>r.length≤b.length
theorem jAq {g:EF qO2}{b:List UInt8}(hp:b.length≤4096) : ∃ (r:List UInt8),(r.length≤b.length)∧qO2.fs g [.t (.sl (b.map qA))] []=some (.t (.sl (r.map qA)),[]):=qO2.eq g b hp
theorem jLi {b:List UInt8}(r:List UInt8)(hR:r.length≤b.length)(hV:vv = .t (.sl (r.map qA)))(hO:oo=[]):qO2.K b vv oo:=⟨r,hR,hV,hO⟩
theorem zF5  (b:List UInt8)(hp:b.length≤4096) :
  qIe.1.wp tab gl (qE 0 [.t (.sl (b.map qA))]) (qE 0 []) (qX [(2,none)] 0 (qO2.K b)):=by
 simp +contextual(disch:=omega)only[go_sem,qIe,↓qB,↓qC,qU];refine zD (σ:=Nat) (fun k=>k≤b.length) (fun k=>b.length-k) (fun k=>[(0,.t (.sl (b.map qA))),(3,.t (.int .i64 k))]) (fun _=>[]) 0 oM ?_ ?_
 ·refine qI.rd id ?_ ?_ rfl;all_goals simp(disch:=omega)only[go_sem,id]
 ·intro k hk;by_cases hlt:k<b.length
  ·simp +contextual(disch:=omega)only[go_sem,hlt,↓qB,↓qC,qU];repeat' (first | apply And.intro | intro _)
   ·refine qDa.of (k+1) oM oM (qI.rd id ?_ ?_ rfl);all_goals simp(disch:=omega)only[go_sem,id]
   ·exact jLi _ sM rfl rfl
  ·simp +contextual(disch:=omega)only[go_sem,hlt,↓qB,↓qC,qU];exact jLi _ sM rfl rfl
def qOa:ECt where
 α:=List UInt8×List UInt8
 β:=Bool
 aS:=fun (a,b)=>[.t (.sl (a.map qA)),.t (.sl (b.map qA))]
 pre:=fun (a,b)=>a.length≤4096∧b.length≤4096
 r:=fun r=> .t (.bool r)
 R:=fun (a,b) r=>True
theorem zZt {g:EF qOa}{a b:List UInt8}(hp:a.length≤4096∧b.length≤4096) : ∃ (r:Bool),(True)∧qOa.fs g [.t (.sl (a.map qA)),.t (.sl (b.map qA))] []=some (.t (.bool r),[]):=qOa.eq g (a,b) hp
theorem jC1 {a b:List UInt8}(r:Bool)(hR:True)(hV:vv = .t (.bool r))(hO:oo=[]):qOa.K (a,b) vv oo:=⟨r,hR,hV,hO⟩
theorem zI5 {g1}(h1:LkE tab 283 qO2 g1)(a b:List UInt8)(hp:a.length≤4096∧b.length≤4096) :
  qFv.1.wp tab gl (qE 0 [.t (.sl (a.map qA)),.t (.sl (b.map qA))]) (qE 0 []) (qX [(4,none)] 0 (qOa.K (a,b))):=by
 obtain⟨x,hx,e1⟩:=jAq (g:=g1) hp.1;obtain⟨y,hy,e2⟩:=jAq (g:=g1) hp.2;by_cases c:x.length=y.length
 ·simp +contextual(disch:=omega)only[go_sem,qFv,h1,e1,e2,c,↓qB,↓qC,qU];refine zD (σ:=Nat) (fun k=>k≤y.length) (fun k=>y.length-k) (fun k=>[(5,.t (.sl (x.map qA))),(6,.t (.sl (y.map qA))),(7,.t (.int .i64 k))]) (fun _=>[]) 0 oM ?_ ?_
  ·refine qI.rd id ?_ ?_ rfl;all_goals simp(disch:=omega)only[go_sem,id]
  ·intro k hk;by_cases hlt:k<y.length
   ·simp +contextual(disch:=omega)only[go_sem,hlt,c,↓qB,↓qC,qU];repeat' (first | apply And.intro | intro _)
    ·rfl
    ·rfl
    ·exact jC1 _ trivial rfl rfl
    ·refine qDa.of (k+1) oM oM (qI.rd id ?_ ?_ rfl);all_goals simp(disch:=omega)only[go_sem,id]
   ·simp +contextual(disch:=omega)only[go_sem,hlt,c,↓qB,↓qC,qU];exact jC1 _ trivial rfl rfl
 ·simp +contextual(disch:=omega)only[go_sem,qFv,h1,e1,e2,c,↓qB,↓qC,qU];exact jC1 _ trivial rfl rfl
def qNc:ECt where
 α:=Int×List UInt8×List UInt8
 β:=Bool
 aS:=fun (o,a,b)=>[.t (.int .i64 o),.t (.sl (a.map qA)),.t (.sl (b.map qA))]
 pre:=fun (o,a,b)=>a.length≤4096∧b.length≤4096
 r:=fun r=> .t (.bool r)
 R:=fun (o,a,b) r=>True
theorem jHf {g:EF qNc}{o:Int}{a b:List UInt8}(hp:a.length≤4096∧b.length≤4096) : ∃ (r:Bool),(True)∧qNc.fs g [.t (.int .i64 o),.t (.sl (a.map qA)),.t (.sl (b.map qA))] []=some (.t (.bool r),[]):=qNc.eq g (o,a,b) hp
theorem jNy {o:Int}{a b:List UInt8}(r:Bool)(hR:True)(hV:vv = .t (.bool r))(hO:oo=[]):qNc.K (o,a,b) vv oo:=⟨r,hR,hV,hO⟩
theorem qYw {g1}(h1:LkE tab 282 qOa g1)(o:Int)(a b:List UInt8)(hp:a.length≤4096∧b.length≤4096) :
  qEu.1.wp tab gl (qE 0 [.t (.int .i64 o),.t (.sl (a.map qA)),.t (.sl (b.map qA))]) (qE 0 []) (qX [(6,none)] 0 (qNc.K (o,a,b))):=by
 obtain⟨x,hx,e1⟩:=zZt (g:=g1) hp;obtain⟨y,hy,e2⟩:=zZt (g:=g1) hp.symm;simp +contextual(disch:=omega)only[go_sem,qEu,h1,e1,e2,↓qB,↓qC,qU];repeat' (first | apply And.intro | intro _)
 all_goals exact jNy _ trivial rfl rfl
inductive As where
 | reg (s0 s1:Int) (d:List UInt8)
 | alt (bs:List (List UInt8))
def As.Ok:As→Prop
 | .reg s0 s1 d=>(0≤s0∧s0≤65535)∧(0≤s1∧s1≤65535)∧d.length=32
 | .alt bs=>(2≤bs.length∧bs.length≤8) ∧ ∀ b∈bs,b.length=32
def z32:List UInt8:=List.replicate 32 0
theorem qS5:z32.length=32:=rfl
theorem qL3 : ∀ {fs:List (List UInt8)} {t n:Nat},(∀ x∈fs,x.length≤n)→(yB t fs).length≤1+(4+n)*fs.length:=by
 intro fs
 induction fs with
 | nil=>intro t n _;simp[yB]
 | cons x r ih=>
  intro t n h;have h1:=h x sM;have h2:=ih (t:=t) (fun y hy=>h y (by simp[hy]));simp only[yB,List.length_cons,List.flatMap_cons,List.length_append,zAh] at h2 ⊢;rw[Nat.mul_add];omega
def qZj:Ct where
 α:=Unit
 aS _:=[]
 ins _:=[]
 pre _:=True
 r _:= .sl 0 0 32
 outs _:=[.live 1 ((z32.map qA).map V.t) true false]
 inj:=fun _ _ _ _=>⟨rfl,rfl⟩
theorem zRg:qZj.fs [] []=some (.sl 0 0 32,[.live 1 ((z32.map qA).map V.t) true false]):=qZj.eq () trivial
theorem zGj:qIc.1.wp tab gl (qE 0 []) (qE 0 []) (xS [] [(0,none)] 0 (fun r o=>r = .sl 0 0 32∧o=[.live 1 ((z32.map qA).map V.t) true false])):=by
 simp(disch:=omega)only[go_sem,qIc,z32]
def jGy:List UInt8:=[97,117,116,104,101,110,116,105,99,97,116,101]
def jF8 (k no ad c:List UInt8):List UInt8:=zD3 (drv k jGy no 32) (yB 0 [ad,no,c])
theorem qWy {k no ad c:List UInt8}:(jF8 k no ad c).length=32:=qFf
theorem jBw {k no:List UInt8}(h:k.length≤64∧no.length≤64):qBy.fs [.t (.sl (k.map qA)),.t (qL6 [97,117,116,104,101,110,116,105,99,97,116,101]),.t (.sl (no.map qA)),.t (.int .i64 32)] []=some (.t (.sl ((drv k jGy no 32).map qA)),[]):=qVr (l:=jGy) (n:=32) ⟨h.1,by decide,oM,oM,oM⟩
def qMz:Ct where
 α:=List UInt8×List UInt8×List UInt8×List UInt8
 aS x:=[.t (.sl (x.1.map qA)),.t (.sl (x.2.1.map qA)),.t (.sl (x.2.2.1.map qA)),.t (.sl (x.2.2.2.map qA))]
 ins _:=[]
 pre x:=x.1.length≤64∧x.2.1.length≤64∧x.2.2.1.length≤1000000∧x.2.2.2.length≤1000000
 r _:= .sl 0 0 32
 outs x:=[.live 1 (((jF8 x.1 x.2.1 x.2.2.1 x.2.2.2).map qA).map V.t) true false]
 inj:=by
  rintro⟨a,b,c,d⟩ ⟨e,f,g,i⟩ h _;simp only[List.cons.injEq,V.t.injEq,T.sl.injEq,true_and,and_true,yD] at h;obtain⟨rfl,rfl,rfl,rfl⟩:=h;exact⟨rfl,rfl⟩
theorem zOv {k no ad c:List UInt8}(h:k.length≤64∧no.length≤64∧ad.length≤1000000∧c.length≤1000000):qMz.fs [.t (.sl (k.map qA)),.t (.sl (no.map qA)),.t (.sl (ad.map qA)),.t (.sl (c.map qA))] []=some (.sl 0 0 32,[.live 1 (((jF8 k no ad c).map qA).map V.t) true false]):=qMz.eq (k,no,ad,c) h
theorem zQa {t:Nat}{x y z:List UInt8}(hx:x.length≤1000000)(hy:y.length≤1000000)(hz:z.length≤1000000):(yB t [x,y,z]).length<100000000:=by
 simp only[yB,List.flatMap_cons,List.flatMap_nil,List.length_cons,List.length_append,List.length_nil,zAh];omega
theorem zN4 (h1:LkC tab 43 qBy)(h2:LkC tab 191 qAt)(h3:LkC tab 83 qS9)(k no ad c:List UInt8)(h:k.length≤64∧no.length≤64∧ad.length≤1000000∧c.length≤1000000) :
  qMv.1.wp tab gl (qE 0 [.t (.sl (k.map qA)),.t (.sl (no.map qA)),.t (.sl (ad.map qA)),.t (.sl (c.map qA))]) (qE 0 []) (xS [] [(8,none)] 0 (fun r o=>r = .sl 0 0 32∧o=[.live 1 (((jF8 k no ad c).map qA).map V.t) true false])):=by
 obtain⟨hk,hn,ha,hc⟩:=h;have hD:=jBw (k:=k) (no:=no) ⟨hk,hn⟩;have hl:=zQa (t:=0) (x:=ad) (y:=no) (z:=c) ha oM hc;have hF:=qQf (t:=0) (fs:=[ad,no,c]) ⟨oM,oM⟩;have hM:=zKt (k:=drv k jGy no 32) (b:=yB 0 [ad,no,c]) ⟨by rw[qD9];omega,oM⟩;have hT:zD3 (drv k jGy no 32) (yB 0 [ad,no,c])=jF8 k no ad c:=rfl;rw[hT] at hM;generalize yB 0 [ad,no,c]=f at *;have tf:List.take f.length f=f:=List.take_length;simp only[mcn,zG8] at hF;rw[show ((0:Nat):Int)=0 from rfl] at hF;generalize jF8 k no ad c=t at *;simp(disch:=omega)only[go_sem,qMv,h1,h2,h3,hD,hF,hM,tf];all_goals rfl
def u8I (n:Int):UInt8:=UInt8.ofNat (n%256).toNat
theorem u8w {n:Int}:T.int .u8 (IntKind.u8.wrap n)=qA (u8I n):=by
 unfold qA u8I;rw[qLx];congr 1;have h0:=Int.emod_nonneg n (b:=256) (by decide);have h1:=Int.emod_lt_of_pos n (b:=256) (by decide);rw[UInt8.toNat_ofNat'];omega
theorem qJg {b x:List UInt8}(h:b.length<100000000∧x.length≤65535) : ∃ y:List UInt8,y.length=b.length+2+x.length∧qDg.fs [.t (.sl (b.map qA)),.t (.sl (x.map qA))] []=some (.sl 0 0 y.length,[.live 1 ((y.map qA).map V.t) true false]):=
 ⟨_,vO,by rw[xI h,vO]⟩
theorem qF4 {b:List UInt8}{k:Nat}{n:Int}(hb:b.length<1000000000∧1≤k∧k≤8) : ∃ y:List UInt8,y.length=b.length+k∧yT.fs [.t (.sl (b.map qA)),.t (.int .i64 k),.t (.int .i64 n)] []=some (.sl 0 0 y.length,[.live 1 ((y.map qA).map V.t) true false]):=
 ⟨b++beI k n k,by simp[beI],by have e:=yT.eq (b,k,n) hb;rw[show (b++beI k n k).length=b.length+k by simp[beI]];exact e⟩
theorem qQi {t:Nat}{fs:List (List UInt8)}(ht:t<256)(h1:fs.length≤1000)(h2 : ∀ x∈fs,x.length≤100000) : ∃ y:List UInt8,y.length=32∧qA5.fs [.t (.int .i64 t),.t (.sl (fs.map bsT))] []=some (.sl 0 0 y.length,[.live 1 ((y.map qA).map V.t) true false]):=by
 refine⟨zHt t fs,qS,?_⟩;have hl:=qL3 (t:=t) h2;have:(4+100000)*fs.length≤(4+100000)*1000:=Nat.mul_le_mul_left _ h1;have e:=qA5.eq (t,fs) ⟨ht,by show (yB t fs).length<_;omega⟩;rw[show (zHt t fs).length=32 from qS];exact e
theorem jCb {t:Nat}{fs:List (List UInt8)}(ht:t<256)(h1:fs.length≤1000)(h2 : ∀ x∈fs,x.length≤100000) : ∃ y:List UInt8,y.length≤200000000∧qAt.fs [.t (.int .i64 t),.t (.sl (fs.map bsT))] []=some (.sl 0 0 y.length,[.live 1 ((y.map qA).map V.t) true false]):=by
 have hl:=qL3 (t:=t) h2;have:(4+100000)*fs.length≤(4+100000)*1000:=Nat.mul_le_mul_left _ h1;exact⟨yB t fs,oM,qQf ⟨ht,oM⟩⟩
theorem jLl {b:List UInt8}(h:b.length<1000000000) : ∃ y:List UInt8,y.length=32∧(qJh 32 yK).fs [.t (.sl (b.map qA))] []=some (.sl 0 0 y.length,[.live 1 ((y.map qA).map V.t) true false]):=
 ⟨yK b,qS,by rw[qZy h,qS]⟩
theorem zMa {k l c:List UInt8}{n:Nat}(h:k.length≤64∧l.length<100000000∧c.length<100000000∧1≤n∧n≤1024) : ∃ y:List UInt8,y.length=n∧qBy.fs [.t (.sl (k.map qA)),.t (qL6 l),.t (.sl (c.map qA)),.t (.int .i64 n)] []=some (.t (.sl (y.map qA)),[]):=
 ⟨_,qD9,qVr h⟩
theorem zRu {s:Rd}{k:Nat}(h:yH s)(hk:1≤k∧k≤8) : ∃ (n:Int) (b:List UInt8) (a:Nat) (e:Int),(0≤n∧n<9223372036854775808)∧yH (b,a,e)∧qCn.fs [.ref 0 0 0,.t (.int .i64 k)] [rdO s]=some (.t (.int .i64 n),[rdO (b,a,e)]):=
 ⟨_,_,_,_,zLb,zR h,vB ⟨h,hk⟩⟩
theorem qPh {s:Rd}{k:Nat}(h:yH s)(hk:k≤65535) : ∃ (y b:List UInt8) (a:Nat) (e:Int),y.length≤k∧yH (b,a,e)∧qAu.fs [.ref 0 0 0,.t (.int .i64 k)] [rdO s]=some (.t (.sl (y.map qA)),[rdO (b,a,e)]):=
 ⟨_,_,_,_,qFl,kI h,qCz ⟨h,hk⟩⟩
theorem jKp {s:Rd}{k:Nat}(h:yH s)(hk:k≤1000000000) : ∃ (y b:List UInt8) (a:Nat) (e:Int),y.length≤k∧yH (b,a,e)∧qKj.fs [.ref 0 0 0,.t (.int .i64 k)] [rdO s]=some (.t (.sl (y.map qA)),[rdO (b,a,e)]):=
 ⟨_,_,_,_,zK8,zK9 h,qI9 ⟨h,hk⟩⟩
def qLi:ECt where
 α:=Int
 β:=Int
 aS:=fun k=>[.t (.int .i64 k)]
 pre:=fun k=>True
 r:=fun r'=> .t (.int .i64 r')
 R:=fun k r'=>r'=if k=2 then 17 else 32
theorem jAx {g:EF qLi}{k:Int}:qLi.fs g [.t (.int .i64 k)] []=some (.t (.int .i64 (if k=2 then 17 else 32)),[]):=fnQ qLi k trivial
theorem jL1 {k:Int}(hV:vv = .t (.int .i64 (if k=2 then 17 else 32)))(hO:oo=[]):qLi.K k vv oo:=⟨_,rfl,hV,hO⟩
theorem qRe  (k:Int) :
  qAw.1.wp tab gl (qE 0 [.t (.int .i64 k)]) (qE 0 []) (qX [(2,none)] 0 (qLi.K k)):=by
 simp +contextual(maxSteps:=9^9)(disch:=try exact dS)only[go_sem,qAw,↓qB,↓qC,qU];repeat' (first | apply And.intro | intro _)
 ·exact jL1 rfl rfl
 ·rename_i c;exact jL1 (by rw[if_neg c]) rfl
def qIv:ECt where
 α:=Pu
 β:=Int
 aS:=fun p=>[.t (puA p)]
 pre:=fun p=>p.po.length≤100000∧p.un.length≤100000
 r:=fun e=> .t (.int .i64 e)
 R:=fun p e=>e=0→p.Ok
theorem zRi {g:EF qIv}{p:Pu}(hp:p.po.length≤100000∧p.un.length≤100000) : ∃ (e:Int),(e=0→p.Ok)∧qIv.fs g [.t (puA p)] []=some (.t (.int .i64 e),[]):=qIv.eq g p hp
theorem zWc {p:Pu}(e:Int)(hR:e=0→p.Ok)(hV:vv = .t (.int .i64 e))(hO:oo=[]):qIv.K p vv oo:=⟨e,hR,hV,hO⟩
theorem zBx {g1}(h1:LkE tab 220 qLi g1)(p:Pu)(hp:p.po.length≤100000∧p.un.length≤100000) :
  qGb.1.wp tab gl (qE 0 [.t (puA p)]) (qE 0 []) (qX [(2,none)] 0 (qIv.K p)):=by
 simp +contextual(maxSteps:=9^9)(disch:=try exact dS)only[go_sem,qGb,puA,h1,jAx,↓qB,↓qC,qU]
 (repeat' (first | apply And.intro | intro _))<;>(try rfl)
 all_goals first | exact zWc 1 oM rfl rfl | exact zWc 19 oM rfl rfl | exact zWc 20 oM rfl rfl | (refine zWc 0 ?_ rfl rfl;simp only[Pu.Ok];omega)
def qCq:ECt where
 α:=Pu
 β:=List UInt8
 aS:=fun p=>[.t (puA p)]
 pre:=fun p=>p.po.length≤40000∧p.un.length≤40000
 r:=fun b=> .sl 0 0 b.length
 outs:=fun b=>[.live 1 ((b.map qA).map V.t) true false]
 R:=fun p b=>b.length=p.po.length+p.un.length+7
theorem qWb {g:EF qCq}{p:Pu}(hp:p.po.length≤40000∧p.un.length≤40000) : ∃ (b:List UInt8),(b.length=p.po.length+p.un.length+7)∧qCq.fs g [.t (puA p)] []=some (.sl 0 0 b.length,[.live 1 ((b.map qA).map V.t) true false]):=qCq.eq g p hp
theorem jPd {p:Pu}(b:List UInt8)(hR:b.length=p.po.length+p.un.length+7)(hV:vv = .sl 0 0 b.length)(hO:oo=[.live 1 ((b.map qA).map V.t) true false]):qCq.K p vv oo:=⟨b,hR,hV,hO⟩
theorem qX3 (h1:LkC tab 44 qDg)(p:Pu)(hp:p.po.length≤40000∧p.un.length≤40000) :
  qEd.1.wp tab gl (qE 0 [.t (puA p)]) (qE 0 []) (xS [] [(2,none)] 0 (qCq.K p)):=by
 obtain⟨y,hy,e1⟩:=qJg (b:=[u8I p.kd,u8I p.ar,u8I p.ht]) (x:=p.po) ⟨sM,oM⟩;simp only[List.length_cons,List.length_nil] at hy;obtain⟨z,hz,e2⟩:=qJg (b:=y) (x:=p.un) ⟨oM,oM⟩;simp only[mcn] at e1;simp +contextual(maxSteps:=9^9)(disch:=try exact dS)only[go_sem,qEd,puA,h1,u8w,e1,e2,List.take_length,↓qB,↓qC,qU];exact⟨rfl,jPd z oM rfl rfl⟩
def qCp:ECt where
 α:=Pu
 β:=List UInt8
 aS:=fun p=>[.t (puA p)]
 pre:=fun p=>p.po.length≤40000∧p.un.length≤40000
 r:=fun b=> .t (.sl (b.map qA))
 R:=fun p b=>b.length=32
theorem qWa {g:EF qCp}{p:Pu}(hp:p.po.length≤40000∧p.un.length≤40000) : ∃ (b:List UInt8),(b.length=32)∧qCp.fs g [.t (puA p)] []=some (.t (.sl (b.map qA)),[]):=qCp.eq g p hp
theorem jO8 {p:Pu}(b:List UInt8)(hR:b.length=32)(hV:vv = .t (.sl (b.map qA)))(hO:oo=[]):qCp.K p vv oo:=⟨b,hR,hV,hO⟩
theorem zE9 {g1}(h1:LkE tab 171 qCq g1)(h2:LkC tab 231 qA5)(p:Pu)(hp:p.po.length≤40000∧p.un.length≤40000) :
  qHq.1.wp tab gl (qE 0 [.t (puA p)]) (qE 0 []) (qX [(2,none)] 0 (qCp.K p)):=by
 obtain⟨b,hb,e1⟩:=qWb (g:=g1) hp;obtain⟨y,hy,e2⟩:=qQi (t:=6) (fs:=[b]) oM sM soM;simp only[mcn,bsT,puA] at e1 e2;rw[show ((6:Nat):Int)=6 from rfl] at e2;simp +contextual(maxSteps:=9^9)(disch:=try exact dS)only[go_sem,qHq,puA,h1,h2,e1,e2,List.take_length,↓qB,↓qC,qU];exact jO8 y hy rfl rfl
theorem jAe {s:Rd}(h:yH s):qDh.fs [.ref 0 0 0] [rdO s]=some (.t (.int .i64 (vS s)),[rdO s]):=qPk h
def qLa:ECt where
 α:=List UInt8
 β:=Pu×Int
 aS:=fun b=>[.t (.sl (b.map qA))]
 pre:=fun b=>b.length<1000000000
 r:=fun (p,e)=> .tup [.t (puA p),.t (.int .i64 e)]
 R:=fun b (p,e)=>e=0→p.Ok
theorem zZ8 {g:EF qLa}{b:List UInt8}(hp:b.length<1000000000) : ∃ (p:Pu) (e:Int),(e=0→p.Ok)∧qLa.fs g [.t (.sl (b.map qA))] []=some (.tup [.t (puA p),.t (.int .i64 e)],[]):=by
 obtain⟨y,h1,h2⟩:=qLa.eq g b hp;exact⟨y.1,y.2,h1,h2⟩
theorem jDr {b:List UInt8}(p:Pu)(e:Int)(hR:e=0→p.Ok)(hV:vv = .tup [.t (puA p),.t (.int .i64 e)])(hO:oo=[]):qLa.K b vv oo:=⟨(p,e),hR,hV,hO⟩
theorem qX2 (h1:LkC tab 56 qDi)(h2:LkC tab 57 qCn)(h3:LkC tab 59 qAu)(h4:LkC tab 62 qDh){g5}(h5:LkE tab 221 qIv g5)(b:List UInt8)(hp:b.length<1000000000) :
  qEc.1.wp tab gl (qE 0 [.t (.sl (b.map qA))]) (qE 0 []) (qX [(2,(some (5,true))),(3,none)] 0 (qLa.K b)):=by
 have e1:=qLr hp;obtain⟨k1,b1,a1,r1,i1,o1,e2⟩:=zRu (s:=(b,0,0)) (k:=1) ⟨sM,hp⟩ oM;obtain⟨k2,b2,a2,r2,i2,o2,e3⟩:=zRu (k:=1) o1 oM;obtain⟨k3,b3,a3,r3,i3,o3,e4⟩:=zRu (k:=1) o2 oM;obtain⟨y,b4,a4,r4,i4,o4,e5⟩:=qPh (k:=32) o3 oM;obtain⟨z,b5,a5,r5,i5,o5,e6⟩:=qPh (k:=32) o4 oM;have e7:=qPk o5;obtain⟨q,h,e8⟩:=zRi (g:=g5) (p:=⟨k1,k2,k3,y,z⟩) (by simp only;omega);simp only[rdO,Int.ofNat_zero,puA] at e1 e2 e3 e4 e5 e6 e7 e8;rw[show ((1:Nat):Int)=1 from rfl] at e2 e3 e4;rw[show ((32:Nat):Int)=32 from rfl] at e5 e6;generalize vS (b5,a5,r5)=w at *;simp +contextual(maxSteps:=9^9)(disch:=try exact dS)only[go_sem,qEc,puA,h1,h2,h3,h4,h5,e1,e2,e3,e4,e5,e6,e7,e8,↓qB,↓qC,qU];repeat' (first | apply And.intro | intro _)
 ·exact jDr default q oM rfl rfl
 ·exact jDr ⟨k1,k2,k3,y,z⟩ 0 (fun _=>h ‹_›) rfl rfl
 ·exact jDr default w oM rfl rfl
def qNt:ECt where
 α:=Ix
 β:=List UInt8
 aS:=fun x=>[.t (ixA x)]
 pre:=fun x=>True
 r:=fun b=> .t (.sl (b.map qA))
 R:=fun x b=>b.length≤10
theorem jIo {g:EF qNt}{x:Ix} : ∃ (b:List UInt8),(b.length≤10)∧qNt.fs g [.t (ixA x)] []=some (.t (.sl (b.map qA)),[]):=qNt.eq g x trivial
theorem jOh {x:Ix}(b:List UInt8)(hR:b.length≤10)(hV:vv = .t (.sl (b.map qA)))(hO:oo=[]):qNt.K x vv oo:=⟨b,hR,hV,hO⟩
theorem qSp (h1:LkC tab 42 yT)(x:Ix) :
  qBn.1.wp tab gl (qE 0 [.t (ixA x)]) (qE 0 []) (qX [(2,none)] 0 (qNt.K x)):=by
 obtain⟨y,hy,e1⟩:=qF4 (b:=[u8I x.n,u8I x.kd,u8I x.ar]) (k:=2) (n:=x.sz) sM;simp only[mcn] at e1;simp only[List.length_cons,List.length_nil] at hy;rw[show ((2:Nat):Int)=2 from rfl] at e1;simp +contextual(maxSteps:=9^9)(disch:=try exact dS)only[go_sem,qBn,ixA,h1,u8w,e1,↓qB,↓qC,qU]
 (repeat' (first | apply And.intro | intro _))<;>(try rfl)
 all_goals exact jOh _ soM rfl rfl
def qKy:ECt where
 α:=Ix
 β:=List UInt8
 aS:=fun x=>[.t (ixA x)]
 pre:=fun x=>x.po.length≤40000
 r:=fun b=> .t (.sl (b.map qA))
 R:=fun x b=>b.length=32
theorem zZp {g:EF qKy}{x:Ix}(hp:x.po.length≤40000) : ∃ (b:List UInt8),(b.length=32)∧qKy.fs g [.t (ixA x)] []=some (.t (.sl (b.map qA)),[]):=qKy.eq g x hp
theorem jOk {x:Ix}(b:List UInt8)(hR:b.length=32)(hV:vv = .t (.sl (b.map qA)))(hO:oo=[]):qKy.K x vv oo:=⟨b,hR,hV,hO⟩
theorem qSo {g1}(h1:LkE tab 263 qNt g1)(h2:LkC tab 231 qA5)(x:Ix)(hp:x.po.length≤40000) :
  qBm.1.wp tab gl (qE 0 [.t (ixA x)]) (qE 0 []) (qX [(2,none)] 0 (qKy.K x)):=by
 obtain⟨b,hb,e1⟩ := @jIo g1 x;obtain⟨y,hy,e2⟩:=qQi (t:=7) (fs:=[b,x.po]) oM sM soM;simp only[mcn,bsT,ixA] at e1 e2;rw[show ((7:Nat):Int)=7 from rfl] at e2;simp +contextual(maxSteps:=9^9)(disch:=try exact dS)only[go_sem,qBm,ixA,h1,h2,e1,e2,List.take_length,↓qB,↓qC,qU];exact⟨rfl,jOk y hy rfl rfl⟩
def qNo:ECt where
 α:=Int
 β:=List UInt8
 aS:=fun h=>[.t (.int .i64 h)]
 pre:=fun h=>True
 r:=fun b=> .t (.sl (b.map qA))
 R:=fun h b=>b.length≤32
theorem jH2 {g:EF qNo}{h:Int} : ∃ (b:List UInt8),(b.length≤32)∧qNo.fs g [.t (.int .i64 h)] []=some (.t (.sl (b.map qA)),[]):=qNo.eq g h trivial
theorem jH1 {h:Int}(b:List UInt8)(hR:b.length≤32)(hV:vv = .t (.sl (b.map qA)))(hO:oo=[]):qNo.K h vv oo:=⟨b,hR,hV,hO⟩
theorem qLw (h1:LkC tab 231 qA5)(h:Int) :
  kS.1.wp tab gl (qE 0 [.t (.int .i64 h)]) (qE 0 []) (qX [(2,none)] 0 (qNo.K h)):=by
 obtain⟨y,hy,e2⟩:=qQi (t:=11) (fs:=[[u8I h]]) oM sM sM;simp only[mcn,bsT] at e2;rw[show ((11:Nat):Int)=11 from rfl] at e2;simp +contextual(maxSteps:=9^9)(disch:=try exact dS)only[go_sem,kS,h1,e2,u8w,List.take_length,↓qB,↓qC,qU]
 (repeat' (first | apply And.intro | intro _))<;>(try rfl)
 all_goals first | exact jH1 [] sM rfl rfl | exact jH1 y oM rfl rfl
end Go.Eng
end
