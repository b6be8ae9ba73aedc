/- A part of an abstract machine, its walks, their tie. -/
import Derived.Test.YtekghmfbgbhobaaGreatDoorD22
import Derived.Test.YtekghmfbgbhobaaGreatDoorD16
import Derived.Test.YtekghmfbgbhobaaGreatDoorD21
set_option linter.all false
section
set_option maxHeartbeats 64000000
set_option maxRecDepth 20000
namespace Go.Eng
variable (tab:Tab) (gl:Gl)
variable {vv:V} {oo:List Ob}
def qN7:ECt where
 α:=Lk×Int
 β:=Lk
 aS:=fun (l,now)=>[.t (lkA l),.t (.int .i64 now)]
 pre:=fun (l,now)=>True
 r:=fun r'=> .t (lkA r')
 R:=fun (l,now) r'=>r' = { l with fa:=0,si:=now }
theorem jI5 {g:EF qN7}{l:Lk}{now:Int}:qN7.fs g [.t (lkA l),.t (.int .i64 now)] []=some (.t (lkA ({ l with fa:=0,si:=now })),[]):=fnQ qN7 (l,now) trivial
theorem jOu {l:Lk}{now:Int}(hV:vv = .t (lkA ({ l with fa:=0,si:=now })))(hO:oo=[]):qN7.K (l,now) vv oo:=⟨_,rfl,hV,hO⟩
theorem zB5  (l:Lk)(now:Int) :
  qGh.1.wp tab gl (qE 0 [.t (lkA l),.t (.int .i64 now)]) (qE 0 []) (qX [(4,(some (6,true)))] 0 (qN7.K (l,now))):=by
 simp(disch:=omega)only[go_sem,qGh,lkA];exact jOu rfl rfl
def qOc:ECt where
 α:=Lk×Int
 β:=Bool
 aS:=fun (l,now)=>[.t (lkA l),.t (.int .i64 now)]
 pre:=fun (l,now)=>True
 r:=fun r'=> .t (.bool r')
 R:=fun (l,now) r'=>r'=decide (l.cl≤now)
theorem jJc {g:EF qOc}{l:Lk}{now:Int}:qOc.fs g [.t (lkA l),.t (.int .i64 now)] []=some (.t (.bool (decide (l.cl≤now))),[]):=fnQ qOc (l,now) trivial
theorem jOx {l:Lk}{now:Int}(hV:vv = .t (.bool (decide (l.cl≤now))))(hO:oo=[]):qOc.K (l,now) vv oo:=⟨_,rfl,hV,hO⟩
theorem zFk  (l:Lk)(now:Int) :
  qHz.1.wp tab gl (qE 0 [.t (lkA l),.t (.int .i64 now)]) (qE 0 []) (qX [(4,none)] 0 (qOc.K (l,now))):=by
 simp(disch:=omega)only[go_sem,qHz,lkA];exact jOx rfl rfl
def qOb:ECt where
 α:=Lk×Int×Int×Int
 β:=Lk×Int
 aS:=fun (l,a,b,c)=>[.t (lkA l),.t (.int .i64 a),.t (.int .i64 b),.t (.int .i64 c)]
 pre:=fun (l,a,b,c)=>l.Ok
 r:=fun (y,e)=> .tup [.t (lkA y),.t (.int .i64 e)]
 R:=fun (l,a,b,c) (y,e)=>e=0→y.Ok
theorem jJb {g:EF qOb}{l:Lk}{a b c:Int}(hp:l.Ok) : ∃ (y:Lk) (e:Int),(e=0→y.Ok)∧qOb.fs g [.t (lkA l),.t (.int .i64 a),.t (.int .i64 b),.t (.int .i64 c)] []=some (.tup [.t (lkA y),.t (.int .i64 e)],[]):=by
 obtain⟨y,h1,h2⟩:=qOb.eq g (l,a,b,c) hp;exact⟨y.1,y.2,h1,h2⟩
theorem jJa {l:Lk}{a b c:Int}(y:Lk)(e:Int)(hR:e=0→y.Ok)(hV:vv = .tup [.t (lkA y),.t (.int .i64 e)])(hO:oo=[]):qOb.K (l,a,b,c) vv oo:=⟨(y,e),hR,hV,hO⟩
theorem qYd  (l:Lk)(a b c:Int)(hp:l.Ok) :
  qEk.1.wp tab gl (qE 0 [.t (lkA l),.t (.int .i64 a),.t (.int .i64 b),.t (.int .i64 c)]) (qE 0 []) (qX [(8,(some (6,true))),(9,none)] 0 (qOb.K (l,a,b,c))):=by
 obtain⟨h1,h2,h3,h4,h5,h6⟩:=hp;simp +contextual(maxSteps:=9^9)(disch:=try exact dS)only[go_sem,qEk,lkA,↓qB,↓qC,qU];repeat' (first | apply And.intro | intro _)
 all_goals first | exact jJa default 1 oM rfl rfl | (refine jJa ⟨if a<l.fa then a else l.fa,a,b,l.si,l.cl,c⟩ 0 ?_ rfl rfl;simp only[Lk.Ok];split<;>omega)
def qK6:ECt where
 α:=Lk×Int
 β:=Lk
 aS:=fun (l,now)=>[.t (lkA l),.t (.int .i64 now)]
 pre:=fun (l,now)=>l.Ok∧tmI now
 r:=fun y=> .t (lkA y)
 R:=fun (l,now) y=>y.Ok
theorem zZw {g:EF qK6}{l:Lk}{now:Int}(hp:l.Ok∧tmI now) : ∃ (y:Lk),(y.Ok)∧qK6.fs g [.t (lkA l),.t (.int .i64 now)] []=some (.t (lkA y),[]):=qK6.eq g (l,now) hp
theorem zQz {l:Lk}{now:Int}(y:Lk)(hR:y.Ok)(hV:vv = .t (lkA y))(hO:oo=[]):qK6.K (l,now) vv oo:=⟨y,hR,hV,hO⟩
theorem qW8  (l:Lk)(now:Int)(hp:l.Ok∧tmI now) :
  vV.1.wp tab gl (qE 0 [.t (lkA l),.t (.int .i64 now)]) (qE 0 []) (qX [(4,(some (6,true)))] 0 (qK6.K (l,now))):=by
 obtain⟨⟨h1,h2,h3,h4,h5,h6⟩,h7,h8⟩:=hp;by_cases c1:now<l.si
 ·simp +contextual(disch:=omega)only[go_sem,vV,lkA,c1,↓qB,↓qC,qU];exact zQz { l with si:=now } (by simp only[Lk.Ok];omega) rfl rfl
 have hq:(now-l.si).tdiv l.rc=(now-l.si)/l.rc:=Int.tdiv_eq_ediv_of_nonneg oM;have q0:0≤(now-l.si)/l.rc:=Int.ediv_nonneg oM oM;have q1:l.rc≠0→(now-l.si)/l.rc*l.rc≤now-l.si:=fun h=>Int.ediv_mul_le _ h
 have q2:(now-l.si)/l.rc≤now-l.si:=Int.ediv_le_self _ oM;by_cases c3:l.rc=0
 ·simp +contextual(disch:=omega)only[go_sem,vV,lkA,c1,c3,↓qB,↓qC,qU];repeat' (first | apply And.intro | intro _)
  ·exact zQz { l with si:=now } (by simp only[Lk.Ok];omega) (by rw[lkA,‹l.fa=0›,c3]) rfl
  ·exact zQz l (by simp only[Lk.Ok];omega) (by rw[lkA,c3]) rfl
 have q1:=q1 c3;by_cases c2:(now-l.si)/l.rc<l.fa
 ·have q3:0≤(now-l.si)/l.rc*l.rc:=Int.mul_nonneg q0 h3.1;simp +contextual(disch:=omega)only[go_sem,vV,lkA,c1,hq,c2,c3,↓qB,↓qC,qU];repeat' (first | apply And.intro | intro _)
  all_goals first | rfl | omega | skip
  exact zQz ⟨l.fa-(now-l.si)/l.rc,l.mx,l.rc,l.si+(now-l.si)/l.rc*l.rc,l.cl,l.pe⟩ (by simp only[Lk.Ok];omega) rfl rfl
 ·have q3:l.fa*l.rc≤(now-l.si)/l.rc*l.rc:=Int.mul_le_mul_of_nonneg_right oM h3.1;have q4:0≤l.fa*l.rc:=Int.mul_nonneg h1.1 h3.1;simp +contextual(disch:=omega)only[go_sem,vV,lkA,c1,hq,c2,c3,Int.sub_self,↓qB,↓qC,qU];repeat' (first | apply And.intro | intro _)
  all_goals first | rfl | exact zQz ⟨0,l.mx,l.rc,now,l.cl,l.pe⟩ (by simp only[Lk.Ok];omega) rfl rfl
def qN8:ECt where
 α:=Lk×Int
 β:=Bool
 aS:=fun (l,now)=>[.t (lkA l),.t (.int .i64 now)]
 pre:=fun (l,now)=>l.Ok∧tmI now
 r:=fun b=> .t (.bool b)
 R:=fun (l,now) b=>True
theorem jI6 {g:EF qN8}{l:Lk}{now:Int}(hp:l.Ok∧tmI now) : ∃ (b:Bool),(True)∧qN8.fs g [.t (lkA l),.t (.int .i64 now)] []=some (.t (.bool b),[]):=qN8.eq g (l,now) hp
theorem jOv {l:Lk}{now:Int}(b:Bool)(hR:True)(hV:vv = .t (.bool b))(hO:oo=[]):qN8.K (l,now) vv oo:=⟨b,hR,hV,hO⟩
theorem qYe {g1}(h1:LkE tab 232 qK6 g1)(l:Lk)(now:Int)(hp:l.Ok∧tmI now) :
  qEl.1.wp tab gl (qE 0 [.t (lkA l),.t (.int .i64 now)]) (qE 0 []) (qX [(4,none)] 0 (qN8.K (l,now))):=by
 obtain⟨y,h,e⟩:=zZw (g:=g1) hp;simp only[lkA] at e;simp +contextual(disch:=omega)only[go_sem,qEl,lkA,h1,e,↓qB,↓qC,qU];exact jOv _ trivial rfl rfl
def qN9:ECt where
 α:=Lk×Int
 β:=Lk
 aS:=fun (l,now)=>[.t (lkA l),.t (.int .i64 now)]
 pre:=fun (l,now)=>l.Ok∧tmI now
 r:=fun y=> .t (lkA y)
 R:=fun (l,now) y=>y.Ok
theorem jI7 {g:EF qN9}{l:Lk}{now:Int}(hp:l.Ok∧tmI now) : ∃ (y:Lk),(y.Ok)∧qN9.fs g [.t (lkA l),.t (.int .i64 now)] []=some (.t (lkA y),[]):=qN9.eq g (l,now) hp
theorem jOw {l:Lk}{now:Int}(y:Lk)(hR:y.Ok)(hV:vv = .t (lkA y))(hO:oo=[]):qN9.K (l,now) vv oo:=⟨y,hR,hV,hO⟩
theorem zFj {g1}(h1:LkE tab 232 qK6 g1)(l:Lk)(now:Int)(hp:l.Ok∧tmI now) :
  qHy.1.wp tab gl (qE 0 [.t (lkA l),.t (.int .i64 now)]) (qE 0 []) (qX [(4,(some (6,true)))] 0 (qN9.K (l,now))):=by
 obtain⟨y,⟨j1,j2,j3,j4,j5,j6⟩,e⟩:=zZw (g:=g1) hp;simp only[lkA] at e;simp +contextual(disch:=omega)only[go_sem,qHy,lkA,h1,e,↓qB,↓qC,qU];refine jOw { y with fa:=if y.mx<y.fa+1 then y.mx else y.fa+1 } ?_ rfl rfl;simp only[Lk.Ok];split<;>omega
def qOd:ECt where
 α:=Lk×Int
 β:=Lk
 aS:=fun (l,now)=>[.t (lkA l),.t (.int .i64 now)]
 pre:=fun (l,now)=>l.Ok∧tmI now
 r:=fun y=> .t (lkA y)
 R:=fun (l,now) y=>y.Ok
theorem jJd {g:EF qOd}{l:Lk}{now:Int}(hp:l.Ok∧tmI now) : ∃ (y:Lk),(y.Ok)∧qOd.fs g [.t (lkA l),.t (.int .i64 now)] []=some (.t (lkA y),[]):=qOd.eq g (l,now) hp
theorem jOy {l:Lk}{now:Int}(y:Lk)(hR:y.Ok)(hV:vv = .t (lkA y))(hO:oo=[]):qOd.K (l,now) vv oo:=⟨y,hR,hV,hO⟩
theorem zB6  (l:Lk)(now:Int)(hp:l.Ok∧tmI now) :
  qGi.1.wp tab gl (qE 0 [.t (lkA l),.t (.int .i64 now)]) (qE 0 []) (qX [(4,(some (6,true)))] 0 (qOd.K (l,now))):=by
 obtain⟨⟨h1,h2,h3,h4,h5,h6⟩,h7,h8⟩:=hp;simp +contextual(disch:=omega)only[go_sem,qGi,lkA,↓qB,↓qC,qU];exact jOy { l with cl:=now+l.pe } (by simp only[Lk.Ok];omega) rfl rfl
def qO9:ECt where
 α:=Int×Int
 β:=Bool
 aS:=fun (k,z)=>[.t (.int .i64 k),.t (.int .i64 z)]
 pre:=fun (k,z)=>True
 r:=fun b=> .t (.bool b)
 R:=fun (k,z) b=>b=true→(1≤k∧k≤4)∧(1≤z∧z≤128)∧(k=3→z=8)
theorem jLr {g:EF qO9}{k z:Int} : ∃ (b:Bool),(b=true→(1≤k∧k≤4)∧(1≤z∧z≤128)∧(k=3→z=8))∧qO9.fs g [.t (.int .i64 k),.t (.int .i64 z)] []=some (.t (.bool b),[]):=qO9.eq g (k,z) trivial
theorem jQe {k z:Int}(b:Bool)(hR:b=true→(1≤k∧k≤4)∧(1≤z∧z≤128)∧(k=3→z=8))(hV:vv = .t (.bool b))(hO:oo=[]):qO9.K (k,z) vv oo:=⟨b,hR,hV,hO⟩
theorem zB4  (k z:Int) :
  qGg.1.wp tab gl (qE 0 [.t (.int .i64 k),.t (.int .i64 z)]) (qE 0 []) (qX [(4,none)] 0 (qO9.K (k,z))):=by
 simp +contextual(disch:=omega)only[go_sem,qGg,↓qB,↓qC,qU];repeat' (first | apply And.intro | intro _)
 all_goals (refine jQe _ ?_ rfl rfl;intro h;simp at h<;>omega)
theorem zX5 {n:Nat}{x:UInt8}:(List.replicate n x).take n=List.replicate n x:=sM
def qN0:ECt where
 α:=Int×Int×Int×Int×List UInt8×List UInt8
 β:=Ix×Int
 aS:=fun (n,k,r,z,au,po)=>[.t (.int .i64 n),.t (.int .i64 k),.t (.int .i64 r),.t (.int .i64 z),.t (.sl (au.map qA)),.t (.sl (po.map qA))]
 pre:=fun (n,k,r,z,au,po)=>au.length≤4096∧po.length≤4096
 r:=fun (x,e)=> .tup [.t (ixA x),.t (.int .i64 e)]
 R:=fun (n,k,r,z,au,po) (x,e)=>e=0→x.Ok
theorem jIv {g:EF qN0}{n k r z:Int}{au po:List UInt8}(hp:au.length≤4096∧po.length≤4096) : ∃ (x:Ix) (e:Int),(e=0→x.Ok)∧qN0.fs g [.t (.int .i64 n),.t (.int .i64 k),.t (.int .i64 r),.t (.int .i64 z),.t (.sl (au.map qA)),.t (.sl (po.map qA))] []=some (.tup [.t (ixA x),.t (.int .i64 e)],[]):=by
 obtain⟨y,h1,h2⟩:=qN0.eq g (n,k,r,z,au,po) hp;exact⟨y.1,y.2,h1,h2⟩
theorem zQs {n k r z:Int}{au po:List UInt8}(x:Ix)(e:Int)(hR:e=0→x.Ok)(hV:vv = .tup [.t (ixA x),.t (.int .i64 e)])(hO:oo=[]):qN0.K (n,k,r,z,au,po) vv oo:=⟨(x,e),hR,hV,hO⟩
theorem zIv {g1}(h1:LkE tab 252 qO9 g1)(n k r z:Int)(au po:List UInt8)(hp:au.length≤4096∧po.length≤4096) :
  qFv.1.wp tab gl (qE 0 [.t (.int .i64 n),.t (.int .i64 k),.t (.int .i64 r),.t (.int .i64 z),.t (.sl (au.map qA)),.t (.sl (po.map qA))]) (qE 0 []) (qX [(12,(some (8,true))),(13,none)] 0 (qN0.K (n,k,r,z,au,po))):=by
 obtain⟨y,h,e⟩:=jLr (g:=g1) (k:=k) (z:=z);by_cases c:y=true
 ·obtain⟨c1,c2,c3⟩:=h c;simp +contextual(maxSteps:=9^9)(disch:=try exact dS)only[go_sem,qFv,h1,e,c,zX5,↓qB,↓qC,qU];repeat' (first | apply And.intro | intro _)
  all_goals first | exact zQs default 1 oM rfl rfl | exact zQs default 4 oM rfl rfl | exact zQs default 20 oM rfl rfl | skip
  all_goals refine zQs ⟨n,k,r,z,po,au,false,List.replicate z.toNat 0⟩ 0 ?_ rfl rfl
  all_goals simp only[Ix.Ok,List.length_replicate]
  all_goals omega
 ·simp +contextual(maxSteps:=9^9)(disch:=try exact dS)only[go_sem,qFv,h1,e,c,↓qB,↓qC,qU];repeat' (first | apply And.intro | intro _)
  all_goals exact zQs default 1 oM rfl rfl
def qK2:ECt where
 α:=Int×Int×Int
 β:=Bool
 aS:=fun (o,n,z)=>[.t (.int .i64 o),.t (.int .i64 n),.t (.int .i64 z)]
 pre:=fun (o,n,z)=>(0≤n∧n≤1099511627776)∧(0≤z∧z≤128)
 r:=fun b=> .t (.bool b)
 R:=fun (o,n,z) b=>b=true→0≤o∧0≤n∧o+n≤z
theorem zZt {g:EF qK2}{o n z:Int}(hp:(0≤n∧n≤1099511627776)∧(0≤z∧z≤128)) : ∃ (b:Bool),(b=true→0≤o∧0≤n∧o+n≤z)∧qK2.fs g [.t (.int .i64 o),.t (.int .i64 n),.t (.int .i64 z)] []=some (.t (.bool b),[]):=qK2.eq g (o,n,z) hp
theorem jOk {o n z:Int}(b:Bool)(hR:b=true→0≤o∧0≤n∧o+n≤z)(hV:vv = .t (.bool b))(hO:oo=[]):qK2.K (o,n,z) vv oo:=⟨b,hR,hV,hO⟩
theorem qYc  (o n z:Int)(hp:(0≤n∧n≤1099511627776)∧(0≤z∧z≤128)) :
  qEj.1.wp tab gl (qE 0 [.t (.int .i64 o),.t (.int .i64 n),.t (.int .i64 z)]) (qE 0 []) (qX [(6,none)] 0 (qK2.K (o,n,z))):=by
 simp +contextual(disch:=omega)only[go_sem,qEj,↓qB,↓qC,qU];repeat' (first | apply And.intro | intro _)
 all_goals (refine jOk _ ?_ rfl rfl;intro h;simp at h<;>omega)
def qN2:ECt where
 α:=Ix×Int×Int
 β:=List UInt8×Int
 aS:=fun (x,o,n)=>[.t (ixA x),.t (.int .i64 o),.t (.int .i64 n)]
 pre:=fun (x,o,n)=>x.Ok∧tmI n
 r:=fun (b,e)=> .tup [.t (.sl (b.map qA)),.t (.int .i64 e)]
 R:=fun (x,o,n) (b,e)=>b.length≤128
theorem jIy {g:EF qN2}{x:Ix}{o n:Int}(hp:x.Ok∧tmI n) : ∃ (b:List UInt8) (e:Int),(b.length≤128)∧qN2.fs g [.t (ixA x),.t (.int .i64 o),.t (.int .i64 n)] []=some (.tup [.t (.sl (b.map qA)),.t (.int .i64 e)],[]):=by
 obtain⟨y,h1,h2⟩:=qN2.eq g (x,o,n) hp;exact⟨y.1,y.2,h1,h2⟩
theorem jCv {x:Ix}{o n:Int}(b:List UInt8)(e:Int)(hR:b.length≤128)(hV:vv = .tup [.t (.sl (b.map qA)),.t (.int .i64 e)])(hO:oo=[]):qN2.K (x,o,n) vv oo:=⟨(b,e),hR,hV,hO⟩
theorem zFh {g1}(h1:LkE tab 253 qK2 g1)(h2:LkC tab 99 qAg)(x:Ix)(o n:Int)(hp:x.Ok∧tmI n) :
  qDy.1.wp tab gl (qE 0 [.t (ixA x),.t (.int .i64 o),.t (.int .i64 n)]) (qE 0 []) (qX [(6,none),(7,none)] 0 (qN2.K (x,o,n))):=by
 obtain⟨⟨i1,i2,i3,i4,i5,i6,i7,i8⟩,i9⟩:=hp;obtain⟨y,h,e⟩:=zZt (g:=g1) (o:=o) (n:=n) (z:=x.da.length) oM;by_cases c:y=true
 ·obtain⟨c1,c2,c3⟩:=h c;have e2:=zY (bs:=(x.da.drop o.toNat).take ((o+n).toNat-o.toNat)) soM;simp +contextual(disch:=omega)only[go_sem,qDy,ixA,h1,h2,e,e2,c,↓qB,↓qC,qU];repeat' (first | apply And.intro | intro _)
  ·exact jCv [] _ sM rfl rfl
  ·exact jCv _ _ soM rfl rfl
 ·simp +contextual(disch:=omega)only[go_sem,qDy,ixA,h1,e,c,↓qB,↓qC,qU];repeat' (first | apply And.intro | intro _)
  all_goals exact jCv [] _ sM rfl rfl
def qN5:ECt where
 α:=Ix×Int×List UInt8
 β:=Ix×Int
 aS:=fun (x,o,d)=>[.t (ixA x),.t (.int .i64 o),.t (.sl (d.map qA))]
 pre:=fun (x,o,d)=>x.Ok∧d.length≤4096
 r:=fun (y,e)=> .tup [.t (ixA y),.t (.int .i64 e)]
 R:=fun (x,o,d) (y,e)=>e=0→y.Ok∧y.n=x.n
theorem jI1 {g:EF qN5}{x:Ix}{o:Int}{d:List UInt8}(hp:x.Ok∧d.length≤4096) : ∃ (y:Ix) (e:Int),(e=0→y.Ok∧y.n=x.n)∧qN5.fs g [.t (ixA x),.t (.int .i64 o),.t (.sl (d.map qA))] []=some (.tup [.t (ixA y),.t (.int .i64 e)],[]):=by
 obtain⟨y,h1,h2⟩:=qN5.eq g (x,o,d) hp;exact⟨y.1,y.2,h1,h2⟩
theorem zVk {x:Ix}{o:Int}{d:List UInt8}(y:Ix)(e:Int)(hR:e=0→y.Ok∧y.n=x.n)(hV:vv = .tup [.t (ixA y),.t (.int .i64 e)])(hO:oo=[]):qN5.K (x,o,d) vv oo:=⟨(y,e),hR,hV,hO⟩
theorem zB3 {g1}(h1:LkE tab 253 qK2 g1)(h2:LkC tab 99 qAg)(x:Ix)(o:Int)(d:List UInt8)(hp:x.Ok∧d.length≤4096) :
  qCx.1.wp tab gl (qE 0 [.t (ixA x),.t (.int .i64 o),.t (.sl (d.map qA))]) (qE 0 []) (qX [(6,(some (8,true))),(7,none)] 0 (qN5.K (x,o,d))):=by
 obtain⟨⟨i1,i2,i3,i4,i5,i6,i7,i8⟩,i9⟩:=hp;obtain⟨y,h,e⟩:=zZt (g:=g1) (o:=o) (n:=d.length) (z:=x.da.length) oM;by_cases c:y=true
 ·obtain⟨c1,c2,c3⟩:=h c;have e2:=zY (bs:=x.da.take o.toNat) soM;simp +contextual(disch:=omega)only[go_sem,qCx,ixA,h1,h2,e,e2,c,↓qB,↓qC,qU];repeat' (first | apply And.intro | intro _)
  ·exact zVk default 19 oM rfl rfl
  ·rfl
  ·refine zVk ⟨x.n,1,x.ar,x.sz,x.po,x.au,true,_⟩ 0 (fun _=>⟨?_,rfl⟩) rfl rfl;simp only[Ix.Ok,jVv];omega
 ·simp +contextual(disch:=omega)only[go_sem,qCx,ixA,h1,e,c,↓qB,↓qC,qU];repeat' (first | apply And.intro | intro _)
  ·exact zVk default 19 oM rfl rfl
  ·exact zVk default 24 oM rfl rfl
theorem zLg {s:Rd}{k:Nat}:0≤(qL s k).1∧(qL s k).1<9223372036854775808:=by
 unfold qL;split
 ·simp
 ·split
  ·simp
  ·split
   ·simp
   ·simp only;omega
def qN4:ECt where
 α:=Ix
 β:=Int
 aS:=fun x=>[.t (ixA x)]
 pre:=fun x=>x.Ok
 r:=fun n=> .t (.int .i64 n)
 R:=fun x n=>0≤n∧n<9223372036854775808
theorem jI0 {g:EF qN4}{x:Ix}(hp:x.Ok) : ∃ (n:Int),(0≤n∧n<9223372036854775808)∧qN4.fs g [.t (ixA x)] []=some (.t (.int .i64 n),[]):=qN4.eq g x hp
theorem jOo {x:Ix}(n:Int)(hR:0≤n∧n<9223372036854775808)(hV:vv = .t (.int .i64 n))(hO:oo=[]):qN4.K x vv oo:=⟨n,hR,hV,hO⟩
theorem qYb (h1:LkC tab 56 qDl)(h2:LkC tab 57 qCq)(x:Ix)(hp:x.Ok) :
  qEi.1.wp tab gl (qE 0 [.t (ixA x)]) (qE 0 []) (qX [(2,none)] 0 (qN4.K x)):=by
 have i7:=hp.2.2.2.2.2.2.1;have e1:=qLw (b:=x.da) oM;have e2:=vB (s:=(x.da,0,0)) (k:=8) ⟨⟨sM,by show x.da.length<_;omega⟩,oM,oM⟩;simp only[rdO,Int.ofNat_zero] at e1 e2;rw[show ((8:Nat):Int)=8 from rfl] at e2;simp +contextual(disch:=omega)only[go_sem,qEi,ixA,h1,h2,e1,e2,↓qB,↓qC,qU];exact jOo _ zLg rfl rfl
def qNz:ECt where
 α:=Ix×Int
 β:=Ix×Int×Int
 aS:=fun (x,m)=>[.t (ixA x),.t (.int .i64 m)]
 pre:=fun (x,m)=>x.Ok∧tmI m
 r:=fun (y,m',e)=> .tup [.t (ixA y),.t (.int .i64 m'),.t (.int .i64 e)]
 R:=fun (x,m) (y,m',e)=>e=0→(y.Ok∧y.n=x.n)∧tmI m'
theorem jIu {g:EF qNz}{x:Ix}{m:Int}(hp:x.Ok∧tmI m) : ∃ (y:Ix) (m' e:Int),(e=0→(y.Ok∧y.n=x.n)∧tmI m')∧qNz.fs g [.t (ixA x),.t (.int .i64 m)] []=some (.tup [.t (ixA y),.t (.int .i64 m'),.t (.int .i64 e)],[]):=by
 obtain⟨y,h1,h2⟩:=qNz.eq g (x,m) hp;exact⟨y.1,y.2.1,y.2.2,h1,h2⟩
theorem zQr {x:Ix}{m:Int}(y:Ix)(m' e:Int)(hR:e=0→(y.Ok∧y.n=x.n)∧tmI m')(hV:vv = .tup [.t (ixA y),.t (.int .i64 m'),.t (.int .i64 e)])(hO:oo=[]):qNz.K (x,m) vv oo:=⟨(y,m',e),hR,hV,hO⟩
theorem qSv {g1}(h1:LkE tab 254 qN4 g1)(h2:LkC tab 42 yT)(x:Ix)(m:Int)(hp:x.Ok∧tmI m) :
  vX.1.wp tab gl (qE 0 [.t (ixA x),.t (.int .i64 m)]) (qE 0 []) (qX [(4,(some (8,true))),(5,none),(6,none)] 0 (qNz.K (x,m))):=by
 obtain⟨n,h,e⟩:=jI0 (g:=g1) hp.1;obtain⟨⟨i1,i2,i3,i4,i5,i6,i7,i8⟩,i9,i10⟩:=hp;obtain⟨xn,xk,xr,xz,xp,xa,xw,xd⟩:=x;simp only[ixA] at *;by_cases c1:xk=2
 ·subst c1;have eU:=fun n => @qSs [] n (by decide)
  simp only[List.map_nil] at eU;cases xw
  ·simp +contextual(disch:=omega)only[go_sem,vX,h1,h2,e,eU,↓qB,↓qC,qU];repeat' (first | apply And.intro | intro _)
   ·exact zQr default 0 31 oM rfl rfl
   ·simp[beI]
   ·refine zQr ⟨xn,2,xr,xz,xp,xa,true,_⟩ _ 0 ?_ rfl rfl;intro _;refine⟨⟨?_,rfl⟩,?_⟩
    ·simp[Ix.Ok];omega
    ·unfold tmI;split<;>omega
  ·simp +contextual(disch:=omega)only[go_sem,vX,h1,h2,e,eU,↓qB,↓qC,qU];repeat' (first | apply And.intro | intro _)
   ·exact zQr default 0 31 oM rfl rfl
   ·simp[beI]
   ·refine zQr ⟨xn,2,xr,xz,xp,xa,true,_⟩ _ 0 ?_ rfl rfl;intro _;refine⟨⟨?_,rfl⟩,?_⟩
    ·simp[Ix.Ok];omega
    ·unfold tmI;split<;>omega
 ·simp +contextual(disch:=omega)only[go_sem,vX,c1,↓qB,↓qC,qU];exact zQr default 0 19 oM rfl rfl
theorem zX4 {α:Type}{l m:List α}:(l++m).take (l.length+m.length)=l++m:=List.take_of_length_le sM
def qN3:ECt where
 α:=Ix×List UInt8
 β:=Ix×Int
 aS:=fun (x,b)=>[.t (ixA x),.t (.sl (b.map qA))]
 pre:=fun (x,b)=>x.Ok∧b.length≤4096
 r:=fun (y,e)=> .tup [.t (ixA y),.t (.int .i64 e)]
 R:=fun (x,b) (y,e)=>e=0→y.Ok∧y.n=x.n
theorem jIz {g:EF qN3}{x:Ix}{b:List UInt8}(hp:x.Ok∧b.length≤4096) : ∃ (y:Ix) (e:Int),(e=0→y.Ok∧y.n=x.n)∧qN3.fs g [.t (ixA x),.t (.sl (b.map qA))] []=some (.tup [.t (ixA y),.t (.int .i64 e)],[]):=by
 obtain⟨y,h1,h2⟩:=qN3.eq g (x,b) hp;exact⟨y.1,y.2,h1,h2⟩
theorem jCw {x:Ix}{b:List UInt8}(y:Ix)(e:Int)(hR:e=0→y.Ok∧y.n=x.n)(hV:vv = .tup [.t (ixA y),.t (.int .i64 e)])(hO:oo=[]):qN3.K (x,b) vv oo:=⟨(y,e),hR,hV,hO⟩
theorem qW7 (h1:LkC tab 99 qAg)(x:Ix)(b:List UInt8)(hp:x.Ok∧b.length≤4096) :
  kG.1.wp tab gl (qE 0 [.t (ixA x),.t (.sl (b.map qA))]) (qE 0 []) (qX [(4,(some (8,true))),(5,none)] 0 (qN3.K (x,b))):=by
 obtain⟨⟨i1,i2,i3,i4,i5,i6,i7,i8⟩,i9⟩:=hp;obtain⟨xn,xk,xr,xz,xp,xa,xw,xd⟩:=x;simp only[ixA] at *;by_cases c1:xk=3
 ·subst c1;have l8:=i8 rfl;have e2:=zY (bs:=xd) oM;by_cases c2:b.length=8
  ·simp +contextual(disch:=omega)only[go_sem,kG,h1,e2,c2,l8,↓qB,↓qC,qU];refine zD (σ:=Nat×List UInt8) (fun s=>s.1≤8∧s.2.length=8) (fun s=>8-s.1)
    (fun s=>[(1,.t (.sl (b.map qA))),(2,.ref 4096 0 0),(4,.ref 4112 0 0),(6,.sl 24608 0 8),(7,.t (.int .i64 s.1))])
    (fun s=>[(24608,.live 1 ((s.2.map qA).map V.t) true false),(4112,.live 8 [.agg [.t (.int .i64 0),.t (.int .i64 0),.t (.int .i64 0),.t (.int .i64 0),.nil,.nil,.t (.bool false),.nil]] true true),(4096,.live 8 [.t (.agg [.int .i64 xn,.int .i64 3,.int .i64 xr,.int .i64 xz,.sl (xp.map qA),.sl (xa.map qA),.bool xw,.sl (xd.map qA)])] true true)])
    (0,xd) ⟨oM,l8⟩ ?_ ?_
   ·refine qI.rd id ?_ ?_ rfl;all_goals simp(disch:=omega)only[go_sem,id]
   ·rintro⟨k,d⟩ ⟨hk,hd⟩;simp only at hk hd;by_cases hlt:k<8
    ·simp(disch:=omega)only[go_sem,hd,hlt,c2,zUm];refine⟨rfl,qDd.of (k+1,d.set k (d.getD k 0 ||| b.getD k 0)) ⟨by show k+1≤8;omega,by simp[hd]⟩ (by show 8-(k+1)<8-k;omega) (qI.rd id ?_ ?_ rfl)⟩;all_goals simp(disch:=omega)only[go_sem,id]
     all_goals rfl
    ·simp(disch:=omega)only[go_sem,hd,hlt];refine jCw ⟨xn,3,xr,xz,xp,xa,true,_⟩ 0 ?_ rfl rfl;intro _;refine⟨?_,rfl⟩;simp[Ix.Ok];omega
  ·simp +contextual(disch:=omega)only[go_sem,kG,h1,e2,c2,↓qB,↓qC,qU];exact jCw default 24 oM rfl rfl
 ·simp +contextual(disch:=omega)only[go_sem,kG,c1,↓qB,↓qC,qU];exact jCw default 19 oM rfl rfl
def qNx:ECt where
 α:=Ix×List UInt8
 β:=Ix×Int
 aS:=fun (x,b)=>[.t (ixA x),.t (.sl (b.map qA))]
 pre:=fun (x,b)=>x.Ok∧b.length≤4096
 r:=fun (y,e)=> .tup [.t (ixA y),.t (.int .i64 e)]
 R:=fun (x,b) (y,e)=>e=0→y.Ok∧y.n=x.n
theorem jIs {g:EF qNx}{x:Ix}{b:List UInt8}(hp:x.Ok∧b.length≤4096) : ∃ (y:Ix) (e:Int),(e=0→y.Ok∧y.n=x.n)∧qNx.fs g [.t (ixA x),.t (.sl (b.map qA))] []=some (.tup [.t (ixA y),.t (.int .i64 e)],[]):=by
 obtain⟨y,h1,h2⟩:=qNx.eq g (x,b) hp;exact⟨y.1,y.2,h1,h2⟩
theorem jCu {x:Ix}{b:List UInt8}(y:Ix)(e:Int)(hR:e=0→y.Ok∧y.n=x.n)(hV:vv = .tup [.t (ixA y),.t (.int .i64 e)])(hO:oo=[]):qNx.K (x,b) vv oo:=⟨(y,e),hR,hV,hO⟩
theorem qYa (h1:LkC tab 99 qAg)(h2:tab.look 102=some (qJm 32 yK).fs)(x:Ix)(b:List UInt8)(hp:x.Ok∧b.length≤4096) :
  qEh.1.wp tab gl (qE 0 [.t (ixA x),.t (.sl (b.map qA))]) (qE 0 []) (qX [(4,(some (8,true))),(5,none)] 0 (qNx.K (x,b))):=by
 obtain⟨⟨i1,i2,i3,i4,i5,i6,i7,i8⟩,i9⟩:=hp;obtain⟨xn,xk,xr,xz,xp,xa,xw,xd⟩:=x;simp only[ixA] at *;have e2:=zY (bs:=xd) oM;have e3:=qZ3 (n:=32) (f:=yK) (bs:=xd++b) soM;simp +contextual(disch:=omega)only[go_sem,qEh,h1,h2,e2,e3,zX4,List.take_of_length_le,qS,↓qB,↓qC,qU];repeat' (first | apply And.intro | intro _)
 ·exact jCu default 19 oM rfl rfl
 ·exact jCu default 4 oM rfl rfl
 ·refine jCu ⟨xn,4,xr,xz,xp,xa,true,(yK (xd++b)).take 32⟩ 0 ?_ (by rw[ixA,List.map_take]) rfl;intro _;refine⟨?_,rfl⟩;simp[Ix.Ok,qS];omega
def qO7:ECt where
 α:=List UInt8
 β:=List UInt8
 aS:=fun b=>[.t (.sl (b.map qA))]
 pre:=fun b=>b.length≤4096
 r:=fun r=> .t (.sl (r.map qA))
 R:=fun b r=>r.length≤b.length
theorem jAv {g:EF qO7}{b:List UInt8}(hp:b.length≤4096) : ∃ (r:List UInt8),(r.length≤b.length)∧qO7.fs g [.t (.sl (b.map qA))] []=some (.t (.sl (r.map qA)),[]):=qO7.eq g b hp
theorem jLn {b:List UInt8}(r:List UInt8)(hR:r.length≤b.length)(hV:vv = .t (.sl (r.map qA)))(hO:oo=[]):qO7.K b vv oo:=⟨r,hR,hV,hO⟩
theorem zGa  (b:List UInt8)(hp:b.length≤4096) :
  qIj.1.wp tab gl (qE 0 [.t (.sl (b.map qA))]) (qE 0 []) (qX [(2,none)] 0 (qO7.K b)):=by
 simp +contextual(disch:=omega)only[go_sem,qIj,↓qB,↓qC,qU];refine zD (σ:=Nat) (fun k=>k≤b.length) (fun k=>b.length-k) (fun k=>[(0,.t (.sl (b.map qA))),(3,.t (.int .i64 k))]) (fun _=>[]) 0 oM ?_ ?_
 ·refine qI.rd id ?_ ?_ rfl;all_goals simp(disch:=omega)only[go_sem,id]
 ·intro k hk;by_cases hlt:k<b.length
  ·simp +contextual(disch:=omega)only[go_sem,hlt,↓qB,↓qC,qU];repeat' (first | apply And.intro | intro _)
   ·refine qDd.of (k+1) oM oM (qI.rd id ?_ ?_ rfl);all_goals simp(disch:=omega)only[go_sem,id]
   ·exact jLn _ sM rfl rfl
  ·simp +contextual(disch:=omega)only[go_sem,hlt,↓qB,↓qC,qU];exact jLn _ sM rfl rfl
def qOf:ECt where
 α:=List UInt8×List UInt8
 β:=Bool
 aS:=fun (a,b)=>[.t (.sl (a.map qA)),.t (.sl (b.map qA))]
 pre:=fun (a,b)=>a.length≤4096∧b.length≤4096
 r:=fun r=> .t (.bool r)
 R:=fun (a,b) r=>True
theorem zZy {g:EF qOf}{a b:List UInt8}(hp:a.length≤4096∧b.length≤4096) : ∃ (r:Bool),(True)∧qOf.fs g [.t (.sl (a.map qA)),.t (.sl (b.map qA))] []=some (.t (.bool r),[]):=qOf.eq g (a,b) hp
theorem jC6 {a b:List UInt8}(r:Bool)(hR:True)(hV:vv = .t (.bool r))(hO:oo=[]):qOf.K (a,b) vv oo:=⟨r,hR,hV,hO⟩
theorem zJa {g1}(h1:LkE tab 283 qO7 g1)(a b:List UInt8)(hp:a.length≤4096∧b.length≤4096) :
  qFz.1.wp tab gl (qE 0 [.t (.sl (a.map qA)),.t (.sl (b.map qA))]) (qE 0 []) (qX [(4,none)] 0 (qOf.K (a,b))):=by
 obtain⟨x,hx,e1⟩:=jAv (g:=g1) hp.1;obtain⟨y,hy,e2⟩:=jAv (g:=g1) hp.2;by_cases c:x.length=y.length
 ·simp +contextual(disch:=omega)only[go_sem,qFz,h1,e1,e2,c,↓qB,↓qC,qU];refine zD (σ:=Nat) (fun k=>k≤y.length) (fun k=>y.length-k) (fun k=>[(5,.t (.sl (x.map qA))),(6,.t (.sl (y.map qA))),(7,.t (.int .i64 k))]) (fun _=>[]) 0 oM ?_ ?_
  ·refine qI.rd id ?_ ?_ rfl;all_goals simp(disch:=omega)only[go_sem,id]
  ·intro k hk;by_cases hlt:k<y.length
   ·simp +contextual(disch:=omega)only[go_sem,hlt,c,↓qB,↓qC,qU];repeat' (first | apply And.intro | intro _)
    ·rfl
    ·rfl
    ·exact jC6 _ trivial rfl rfl
    ·refine qDd.of (k+1) oM oM (qI.rd id ?_ ?_ rfl);all_goals simp(disch:=omega)only[go_sem,id]
   ·simp +contextual(disch:=omega)only[go_sem,hlt,c,↓qB,↓qC,qU];exact jC6 _ trivial rfl rfl
 ·simp +contextual(disch:=omega)only[go_sem,qFz,h1,e1,e2,c,↓qB,↓qC,qU];exact jC6 _ trivial rfl rfl
def qNh:ECt where
 α:=Int×List UInt8×List UInt8
 β:=Bool
 aS:=fun (o,a,b)=>[.t (.int .i64 o),.t (.sl (a.map qA)),.t (.sl (b.map qA))]
 pre:=fun (o,a,b)=>a.length≤4096∧b.length≤4096
 r:=fun r=> .t (.bool r)
 R:=fun (o,a,b) r=>True
theorem jHk {g:EF qNh}{o:Int}{a b:List UInt8}(hp:a.length≤4096∧b.length≤4096) : ∃ (r:Bool),(True)∧qNh.fs g [.t (.int .i64 o),.t (.sl (a.map qA)),.t (.sl (b.map qA))] []=some (.t (.bool r),[]):=qNh.eq g (o,a,b) hp
theorem jN3 {o:Int}{a b:List UInt8}(r:Bool)(hR:True)(hV:vv = .t (.bool r))(hO:oo=[]):qNh.K (o,a,b) vv oo:=⟨r,hR,hV,hO⟩
theorem qY1 {g1}(h1:LkE tab 282 qOf g1)(o:Int)(a b:List UInt8)(hp:a.length≤4096∧b.length≤4096) :
  qEy.1.wp tab gl (qE 0 [.t (.int .i64 o),.t (.sl (a.map qA)),.t (.sl (b.map qA))]) (qE 0 []) (qX [(6,none)] 0 (qNh.K (o,a,b))):=by
 obtain⟨x,hx,e1⟩:=zZy (g:=g1) hp;obtain⟨y,hy,e2⟩:=zZy (g:=g1) hp.symm;simp +contextual(disch:=omega)only[go_sem,qEy,h1,e1,e2,↓qB,↓qC,qU];repeat' (first | apply And.intro | intro _)
 all_goals exact jN3 _ trivial rfl rfl
inductive As where
 | reg (s0 s1:Int) (d:List UInt8)
 | alt (bs:List (List UInt8))
def As.Ok:As→Prop
 | .reg s0 s1 d=>(0≤s0∧s0≤65535)∧(0≤s1∧s1≤65535)∧d.length=32
 | .alt bs=>(2≤bs.length∧bs.length≤8) ∧ ∀ b∈bs,b.length=32
def z32:List UInt8:=List.replicate 32 0
theorem qTa:z32.length=32:=rfl
theorem qL8 : ∀ {fs:List (List UInt8)} {t n:Nat},(∀ x∈fs,x.length≤n)→(yB t fs).length≤1+(4+n)*fs.length:=by
 intro fs
 induction fs with
 | nil=>intro t n _;simp[yB]
 | cons x r ih=>
  intro t n h;have h1:=h x sM;have h2:=ih (t:=t) (fun y hy=>h y (by simp[hy]));simp only[yB,List.length_cons,List.flatMap_cons,List.length_append,zAm] at h2 ⊢;rw[Nat.mul_add];omega
def qZo:Ct where
 α:=Unit
 aS _:=[]
 ins _:=[]
 pre _:=True
 r _:= .sl 0 0 32
 outs _:=[.live 1 ((z32.map qA).map V.t) true false]
 inj:=fun _ _ _ _=>⟨rfl,rfl⟩
theorem zRl:qZo.fs [] []=some (.sl 0 0 32,[.live 1 ((z32.map qA).map V.t) true false]):=qZo.eq () trivial
theorem zGo:qIh.1.wp tab gl (qE 0 []) (qE 0 []) (xU [] [(0,none)] 0 (fun r o=>r = .sl 0 0 32∧o=[.live 1 ((z32.map qA).map V.t) true false])):=by
 simp(disch:=omega)only[go_sem,qIh,z32]
def jG3:List UInt8:=[97,117,116,104,101,110,116,105,99,97,116,101]
def jGd (k no ad c:List UInt8):List UInt8:=zD8 (drv k jG3 no 32) (yB 0 [ad,no,c])
theorem qW3 {k no ad c:List UInt8}:(jGd k no ad c).length=32:=qFj
theorem jB1 {k no:List UInt8}(h:k.length≤64∧no.length≤64):qB1.fs [.t (.sl (k.map qA)),.t (qMb [97,117,116,104,101,110,116,105,99,97,116,101]),.t (.sl (no.map qA)),.t (.int .i64 32)] []=some (.t (.sl ((drv k jG3 no 32).map qA)),[]):=qVw (l:=jG3) (n:=32) ⟨h.1,by decide,oM,oM,oM⟩
def qM4:Ct where
 α:=List UInt8×List UInt8×List UInt8×List UInt8
 aS x:=[.t (.sl (x.1.map qA)),.t (.sl (x.2.1.map qA)),.t (.sl (x.2.2.1.map qA)),.t (.sl (x.2.2.2.map qA))]
 ins _:=[]
 pre x:=x.1.length≤64∧x.2.1.length≤64∧x.2.2.1.length≤1000000∧x.2.2.2.length≤1000000
 r _:= .sl 0 0 32
 outs x:=[.live 1 (((jGd x.1 x.2.1 x.2.2.1 x.2.2.2).map qA).map V.t) true false]
 inj:=by
  rintro⟨a,b,c,d⟩ ⟨e,f,g,i⟩ h _;simp only[List.cons.injEq,V.t.injEq,T.sl.injEq,true_and,and_true,yD] at h;obtain⟨rfl,rfl,rfl,rfl⟩:=h;exact⟨rfl,rfl⟩
theorem zO0 {k no ad c:List UInt8}(h:k.length≤64∧no.length≤64∧ad.length≤1000000∧c.length≤1000000):qM4.fs [.t (.sl (k.map qA)),.t (.sl (no.map qA)),.t (.sl (ad.map qA)),.t (.sl (c.map qA))] []=some (.sl 0 0 32,[.live 1 (((jGd k no ad c).map qA).map V.t) true false]):=qM4.eq (k,no,ad,c) h
theorem zQf {t:Nat}{x y z:List UInt8}(hx:x.length≤1000000)(hy:y.length≤1000000)(hz:z.length≤1000000):(yB t [x,y,z]).length<100000000:=by
 simp only[yB,List.flatMap_cons,List.flatMap_nil,List.length_cons,List.length_append,List.length_nil,zAm];omega
theorem zN9 (h1:LkC tab 43 qB1)(h2:LkC tab 191 qAw)(h3:LkC tab 83 qTe)(k no ad c:List UInt8)(h:k.length≤64∧no.length≤64∧ad.length≤1000000∧c.length≤1000000) :
  qM0.1.wp tab gl (qE 0 [.t (.sl (k.map qA)),.t (.sl (no.map qA)),.t (.sl (ad.map qA)),.t (.sl (c.map qA))]) (qE 0 []) (xU [] [(8,none)] 0 (fun r o=>r = .sl 0 0 32∧o=[.live 1 (((jGd k no ad c).map qA).map V.t) true false])):=by
 obtain⟨hk,hn,ha,hc⟩:=h;have hD:=jB1 (k:=k) (no:=no) ⟨hk,hn⟩;have hl:=zQf (t:=0) (x:=ad) (y:=no) (z:=c) ha oM hc;have hF:=qQk (t:=0) (fs:=[ad,no,c]) ⟨oM,oM⟩;have hM:=zKy (k:=drv k jG3 no 32) (b:=yB 0 [ad,no,c]) ⟨by rw[qEc];omega,oM⟩;have hT:zD8 (drv k jG3 no 32) (yB 0 [ad,no,c])=jGd k no ad c:=rfl;rw[hT] at hM;generalize yB 0 [ad,no,c]=f at *;have tf:List.take f.length f=f:=List.take_length;simp only[mcn,zHd] at hF;rw[show ((0:Nat):Int)=0 from rfl] at hF;generalize jGd k no ad c=t at *;simp(disch:=omega)only[go_sem,qM0,h1,h2,h3,hD,hF,hM,tf];all_goals rfl
def u8I (n:Int):UInt8:=UInt8.ofNat (n%256).toNat
theorem u8w {n:Int}:T.int .u8 (IntKind.u8.wrap n)=qA (u8I n):=by
 unfold qA u8I;rw[qL2];congr 1;have h0:=Int.emod_nonneg n (b:=256) (by decide);have h1:=Int.emod_lt_of_pos n (b:=256) (by decide);rw[UInt8.toNat_ofNat'];omega
theorem qJl {b x:List UInt8}(h:b.length<100000000∧x.length≤65535) : ∃ y:List UInt8,y.length=b.length+2+x.length∧qDj.fs [.t (.sl (b.map qA)),.t (.sl (x.map qA))] []=some (.sl 0 0 y.length,[.live 1 ((y.map qA).map V.t) true false]):=
 ⟨_,vO,by rw[xK h,vO]⟩
theorem qF8 {b:List UInt8}{k:Nat}{n:Int}(hb:b.length<1000000000∧1≤k∧k≤8) : ∃ y:List UInt8,y.length=b.length+k∧yT.fs [.t (.sl (b.map qA)),.t (.int .i64 k),.t (.int .i64 n)] []=some (.sl 0 0 y.length,[.live 1 ((y.map qA).map V.t) true false]):=
 ⟨b++beI k n k,by simp[beI],by have e:=yT.eq (b,k,n) hb;rw[show (b++beI k n k).length=b.length+k by simp[beI]];exact e⟩
theorem qQn {t:Nat}{fs:List (List UInt8)}(ht:t<256)(h1:fs.length≤1000)(h2 : ∀ x∈fs,x.length≤100000) : ∃ y:List UInt8,y.length=32∧qA8.fs [.t (.int .i64 t),.t (.sl (fs.map bsT))] []=some (.sl 0 0 y.length,[.live 1 ((y.map qA).map V.t) true false]):=by
 refine⟨zHy t fs,qS,?_⟩;have hl:=qL8 (t:=t) h2;have:(4+100000)*fs.length≤(4+100000)*1000:=Nat.mul_le_mul_left _ h1;have e:=qA8.eq (t,fs) ⟨ht,by show (yB t fs).length<_;omega⟩;rw[show (zHy t fs).length=32 from qS];exact e
theorem jCg {t:Nat}{fs:List (List UInt8)}(ht:t<256)(h1:fs.length≤1000)(h2 : ∀ x∈fs,x.length≤100000) : ∃ y:List UInt8,y.length≤200000000∧qAw.fs [.t (.int .i64 t),.t (.sl (fs.map bsT))] []=some (.sl 0 0 y.length,[.live 1 ((y.map qA).map V.t) true false]):=by
 have hl:=qL8 (t:=t) h2;have:(4+100000)*fs.length≤(4+100000)*1000:=Nat.mul_le_mul_left _ h1;exact⟨yB t fs,oM,qQk ⟨ht,oM⟩⟩
theorem jLq {b:List UInt8}(h:b.length<1000000000) : ∃ y:List UInt8,y.length=32∧(qJm 32 yK).fs [.t (.sl (b.map qA))] []=some (.sl 0 0 y.length,[.live 1 ((y.map qA).map V.t) true false]):=
 ⟨yK b,qS,by rw[qZ3 h,qS]⟩
theorem zMf {k l c:List UInt8}{n:Nat}(h:k.length≤64∧l.length<100000000∧c.length<100000000∧1≤n∧n≤1024) : ∃ y:List UInt8,y.length=n∧qB1.fs [.t (.sl (k.map qA)),.t (qMb l),.t (.sl (c.map qA)),.t (.int .i64 n)] []=some (.t (.sl (y.map qA)),[]):=
 ⟨_,qEc,qVw h⟩
theorem zRz {s:Rd}{k:Nat}(h:yH s)(hk:1≤k∧k≤8) : ∃ (n:Int) (b:List UInt8) (a:Nat) (e:Int),(0≤n∧n<9223372036854775808)∧yH (b,a,e)∧qCq.fs [.ref 0 0 0,.t (.int .i64 k)] [rdO s]=some (.t (.int .i64 n),[rdO (b,a,e)]):=
 ⟨_,_,_,_,zLg,zR h,vB ⟨h,hk⟩⟩
theorem qPm {s:Rd}{k:Nat}(h:yH s)(hk:k≤65535) : ∃ (y b:List UInt8) (a:Nat) (e:Int),y.length≤k∧yH (b,a,e)∧qAx.fs [.ref 0 0 0,.t (.int .i64 k)] [rdO s]=some (.t (.sl (y.map qA)),[rdO (b,a,e)]):=
 ⟨_,_,_,_,qFp,kK h,qC2 ⟨h,hk⟩⟩
theorem jKu {s:Rd}{k:Nat}(h:yH s)(hk:k≤1000000000) : ∃ (y b:List UInt8) (a:Nat) (e:Int),y.length≤k∧yH (b,a,e)∧qKo.fs [.ref 0 0 0,.t (.int .i64 k)] [rdO s]=some (.t (.sl (y.map qA)),[rdO (b,a,e)]):=
 ⟨_,_,_,_,zLd,zLe h,qJe ⟨h,hk⟩⟩
def qLn:ECt where
 α:=Int
 β:=Int
 aS:=fun k=>[.t (.int .i64 k)]
 pre:=fun k=>True
 r:=fun r'=> .t (.int .i64 r')
 R:=fun k r'=>r'=if k=2 then 17 else 32
theorem jA2 {g:EF qLn}{k:Int}:qLn.fs g [.t (.int .i64 k)] []=some (.t (.int .i64 (if k=2 then 17 else 32)),[]):=fnQ qLn k trivial
theorem jL6 {k:Int}(hV:vv = .t (.int .i64 (if k=2 then 17 else 32)))(hO:oo=[]):qLn.K k vv oo:=⟨_,rfl,hV,hO⟩
theorem qRj  (k:Int) :
  qAz.1.wp tab gl (qE 0 [.t (.int .i64 k)]) (qE 0 []) (qX [(2,none)] 0 (qLn.K k)):=by
 simp +contextual(maxSteps:=9^9)(disch:=try exact dS)only[go_sem,qAz,↓qB,↓qC,qU];repeat' (first | apply And.intro | intro _)
 ·exact jL6 rfl rfl
 ·rename_i c;exact jL6 (by rw[if_neg c]) rfl
def qI0:ECt where
 α:=Pu
 β:=Int
 aS:=fun p=>[.t (puA p)]
 pre:=fun p=>p.po.length≤100000∧p.un.length≤100000
 r:=fun e=> .t (.int .i64 e)
 R:=fun p e=>e=0→p.Ok
theorem zRn {g:EF qI0}{p:Pu}(hp:p.po.length≤100000∧p.un.length≤100000) : ∃ (e:Int),(e=0→p.Ok)∧qI0.fs g [.t (puA p)] []=some (.t (.int .i64 e),[]):=qI0.eq g p hp
theorem zWh {p:Pu}(e:Int)(hR:e=0→p.Ok)(hV:vv = .t (.int .i64 e))(hO:oo=[]):qI0.K p vv oo:=⟨e,hR,hV,hO⟩
theorem zB2 {g1}(h1:LkE tab 220 qLn g1)(p:Pu)(hp:p.po.length≤100000∧p.un.length≤100000) :
  qGf.1.wp tab gl (qE 0 [.t (puA p)]) (qE 0 []) (qX [(2,none)] 0 (qI0.K p)):=by
 simp +contextual(maxSteps:=9^9)(disch:=try exact dS)only[go_sem,qGf,puA,h1,jA2,↓qB,↓qC,qU]
 (repeat' (first | apply And.intro | intro _))<;>(try rfl)
 all_goals first | exact zWh 1 oM rfl rfl | exact zWh 19 oM rfl rfl | exact zWh 20 oM rfl rfl | (refine zWh 0 ?_ rfl rfl;simp only[Pu.Ok];omega)
def qCt:ECt where
 α:=Pu
 β:=List UInt8
 aS:=fun p=>[.t (puA p)]
 pre:=fun p=>p.po.length≤40000∧p.un.length≤40000
 r:=fun b=> .sl 0 0 b.length
 outs:=fun b=>[.live 1 ((b.map qA).map V.t) true false]
 R:=fun p b=>b.length=p.po.length+p.un.length+7
theorem qWg {g:EF qCt}{p:Pu}(hp:p.po.length≤40000∧p.un.length≤40000) : ∃ (b:List UInt8),(b.length=p.po.length+p.un.length+7)∧qCt.fs g [.t (puA p)] []=some (.sl 0 0 b.length,[.live 1 ((b.map qA).map V.t) true false]):=qCt.eq g p hp
theorem jPi {p:Pu}(b:List UInt8)(hR:b.length=p.po.length+p.un.length+7)(hV:vv = .sl 0 0 b.length)(hO:oo=[.live 1 ((b.map qA).map V.t) true false]):qCt.K p vv oo:=⟨b,hR,hV,hO⟩
theorem qX8 (h1:LkC tab 44 qDj)(p:Pu)(hp:p.po.length≤40000∧p.un.length≤40000) :
  qEg.1.wp tab gl (qE 0 [.t (puA p)]) (qE 0 []) (xU [] [(2,none)] 0 (qCt.K p)):=by
 obtain⟨y,hy,e1⟩:=qJl (b:=[u8I p.kd,u8I p.ar,u8I p.ht]) (x:=p.po) ⟨sM,oM⟩;simp only[List.length_cons,List.length_nil] at hy;obtain⟨z,hz,e2⟩:=qJl (b:=y) (x:=p.un) ⟨oM,oM⟩;simp only[mcn] at e1;simp +contextual(maxSteps:=9^9)(disch:=try exact dS)only[go_sem,qEg,puA,h1,u8w,e1,e2,List.take_length,↓qB,↓qC,qU];exact⟨rfl,jPi z oM rfl rfl⟩
def qCs:ECt where
 α:=Pu
 β:=List UInt8
 aS:=fun p=>[.t (puA p)]
 pre:=fun p=>p.po.length≤40000∧p.un.length≤40000
 r:=fun b=> .t (.sl (b.map qA))
 R:=fun p b=>b.length=32
theorem qWf {g:EF qCs}{p:Pu}(hp:p.po.length≤40000∧p.un.length≤40000) : ∃ (b:List UInt8),(b.length=32)∧qCs.fs g [.t (puA p)] []=some (.t (.sl (b.map qA)),[]):=qCs.eq g p hp
theorem jPd {p:Pu}(b:List UInt8)(hR:b.length=32)(hV:vv = .t (.sl (b.map qA)))(hO:oo=[]):qCs.K p vv oo:=⟨b,hR,hV,hO⟩
theorem zFe {g1}(h1:LkE tab 171 qCt g1)(h2:LkC tab 231 qA8)(p:Pu)(hp:p.po.length≤40000∧p.un.length≤40000) :
  qHv.1.wp tab gl (qE 0 [.t (puA p)]) (qE 0 []) (qX [(2,none)] 0 (qCs.K p)):=by
 obtain⟨b,hb,e1⟩:=qWg (g:=g1) hp;obtain⟨y,hy,e2⟩:=qQn (t:=6) (fs:=[b]) oM sM soM;simp only[mcn,bsT,puA] at e1 e2;rw[show ((6:Nat):Int)=6 from rfl] at e2;simp +contextual(maxSteps:=9^9)(disch:=try exact dS)only[go_sem,qHv,puA,h1,h2,e1,e2,List.take_length,↓qB,↓qC,qU];exact jPd y hy rfl rfl
theorem jAj {s:Rd}(h:yH s):qDk.fs [.ref 0 0 0] [rdO s]=some (.t (.int .i64 (vS s)),[rdO s]):=qPp h
def qLf:ECt where
 α:=List UInt8
 β:=Pu×Int
 aS:=fun b=>[.t (.sl (b.map qA))]
 pre:=fun b=>b.length<1000000000
 r:=fun (p,e)=> .tup [.t (puA p),.t (.int .i64 e)]
 R:=fun b (p,e)=>e=0→p.Ok
theorem jAd {g:EF qLf}{b:List UInt8}(hp:b.length<1000000000) : ∃ (p:Pu) (e:Int),(e=0→p.Ok)∧qLf.fs g [.t (.sl (b.map qA))] []=some (.tup [.t (puA p),.t (.int .i64 e)],[]):=by
 obtain⟨y,h1,h2⟩:=qLf.eq g b hp;exact⟨y.1,y.2,h1,h2⟩
theorem jDw {b:List UInt8}(p:Pu)(e:Int)(hR:e=0→p.Ok)(hV:vv = .tup [.t (puA p),.t (.int .i64 e)])(hO:oo=[]):qLf.K b vv oo:=⟨(p,e),hR,hV,hO⟩
theorem qX7 (h1:LkC tab 56 qDl)(h2:LkC tab 57 qCq)(h3:LkC tab 59 qAx)(h4:LkC tab 62 qDk){g5}(h5:LkE tab 221 qI0 g5)(b:List UInt8)(hp:b.length<1000000000) :
  qEf.1.wp tab gl (qE 0 [.t (.sl (b.map qA))]) (qE 0 []) (qX [(2,(some (5,true))),(3,none)] 0 (qLf.K b)):=by
 have e1:=qLw hp;obtain⟨k1,b1,a1,r1,i1,o1,e2⟩:=zRz (s:=(b,0,0)) (k:=1) ⟨sM,hp⟩ oM;obtain⟨k2,b2,a2,r2,i2,o2,e3⟩:=zRz (k:=1) o1 oM;obtain⟨k3,b3,a3,r3,i3,o3,e4⟩:=zRz (k:=1) o2 oM;obtain⟨y,b4,a4,r4,i4,o4,e5⟩:=qPm (k:=32) o3 oM;obtain⟨z,b5,a5,r5,i5,o5,e6⟩:=qPm (k:=32) o4 oM;have e7:=qPp o5;obtain⟨q,h,e8⟩:=zRn (g:=g5) (p:=⟨k1,k2,k3,y,z⟩) (by simp only;omega);simp only[rdO,Int.ofNat_zero,puA] at e1 e2 e3 e4 e5 e6 e7 e8;rw[show ((1:Nat):Int)=1 from rfl] at e2 e3 e4;rw[show ((32:Nat):Int)=32 from rfl] at e5 e6;generalize vS (b5,a5,r5)=w at *;simp +contextual(maxSteps:=9^9)(disch:=try exact dS)only[go_sem,qEf,puA,h1,h2,h3,h4,h5,e1,e2,e3,e4,e5,e6,e7,e8,↓qB,↓qC,qU];repeat' (first | apply And.intro | intro _)
 ·exact jDw default q oM rfl rfl
 ·exact jDw ⟨k1,k2,k3,y,z⟩ 0 (fun _=>h ‹_›) rfl rfl
 ·exact jDw default w oM rfl rfl
def qNy:ECt where
 α:=Ix
 β:=List UInt8
 aS:=fun x=>[.t (ixA x)]
 pre:=fun x=>True
 r:=fun b=> .t (.sl (b.map qA))
 R:=fun x b=>b.length≤10
theorem jIt {g:EF qNy}{x:Ix} : ∃ (b:List UInt8),(b.length≤10)∧qNy.fs g [.t (ixA x)] []=some (.t (.sl (b.map qA)),[]):=qNy.eq g x trivial
theorem jOm {x:Ix}(b:List UInt8)(hR:b.length≤10)(hV:vv = .t (.sl (b.map qA)))(hO:oo=[]):qNy.K x vv oo:=⟨b,hR,hV,hO⟩
theorem qSu (h1:LkC tab 42 yT)(x:Ix) :
  qBq.1.wp tab gl (qE 0 [.t (ixA x)]) (qE 0 []) (qX [(2,none)] 0 (qNy.K x)):=by
 obtain⟨y,hy,e1⟩:=qF8 (b:=[u8I x.n,u8I x.kd,u8I x.ar]) (k:=2) (n:=x.sz) sM;simp only[mcn] at e1;simp only[List.length_cons,List.length_nil] at hy;rw[show ((2:Nat):Int)=2 from rfl] at e1;simp +contextual(maxSteps:=9^9)(disch:=try exact dS)only[go_sem,qBq,ixA,h1,u8w,e1,↓qB,↓qC,qU]
 (repeat' (first | apply And.intro | intro _))<;>(try rfl)
 all_goals exact jOm _ soM rfl rfl
def qK3:ECt where
 α:=Ix
 β:=List UInt8
 aS:=fun x=>[.t (ixA x)]
 pre:=fun x=>x.po.length≤40000
 r:=fun b=> .t (.sl (b.map qA))
 R:=fun x b=>b.length=32
theorem zZu {g:EF qK3}{x:Ix}(hp:x.po.length≤40000) : ∃ (b:List UInt8),(b.length=32)∧qK3.fs g [.t (ixA x)] []=some (.t (.sl (b.map qA)),[]):=qK3.eq g x hp
theorem jOp {x:Ix}(b:List UInt8)(hR:b.length=32)(hV:vv = .t (.sl (b.map qA)))(hO:oo=[]):qK3.K x vv oo:=⟨b,hR,hV,hO⟩
theorem qSt {g1}(h1:LkE tab 263 qNy g1)(h2:LkC tab 231 qA8)(x:Ix)(hp:x.po.length≤40000) :
  qBp.1.wp tab gl (qE 0 [.t (ixA x)]) (qE 0 []) (qX [(2,none)] 0 (qK3.K x)):=by
 obtain⟨b,hb,e1⟩ := @jIt g1 x;obtain⟨y,hy,e2⟩:=qQn (t:=7) (fs:=[b,x.po]) oM sM soM;simp only[mcn,bsT,ixA] at e1 e2;rw[show ((7:Nat):Int)=7 from rfl] at e2;simp +contextual(maxSteps:=9^9)(disch:=try exact dS)only[go_sem,qBp,ixA,h1,h2,e1,e2,List.take_length,↓qB,↓qC,qU];exact⟨rfl,jOp y hy rfl rfl⟩
def qNt:ECt where
 α:=Int
 β:=List UInt8
 aS:=fun h=>[.t (.int .i64 h)]
 pre:=fun h=>True
 r:=fun b=> .t (.sl (b.map qA))
 R:=fun h b=>b.length≤32
theorem jH7 {g:EF qNt}{h:Int} : ∃ (b:List UInt8),(b.length≤32)∧qNt.fs g [.t (.int .i64 h)] []=some (.t (.sl (b.map qA)),[]):=qNt.eq g h trivial
theorem jH6 {h:Int}(b:List UInt8)(hR:b.length≤32)(hV:vv = .t (.sl (b.map qA)))(hO:oo=[]):qNt.K h vv oo:=⟨b,hR,hV,hO⟩
theorem qL1 (h1:LkC tab 231 qA8)(h:Int) :
  kU.1.wp tab gl (qE 0 [.t (.int .i64 h)]) (qE 0 []) (qX [(2,none)] 0 (qNt.K h)):=by
 obtain⟨y,hy,e2⟩:=qQn (t:=11) (fs:=[[u8I h]]) oM sM sM;simp only[mcn,bsT] at e2;rw[show ((11:Nat):Int)=11 from rfl] at e2;simp +contextual(maxSteps:=9^9)(disch:=try exact dS)only[go_sem,kU,h1,e2,u8w,List.take_length,↓qB,↓qC,qU]
 (repeat' (first | apply And.intro | intro _))<;>(try rfl)
 all_goals first | exact jH6 [] sM rfl rfl | exact jH6 y oM rfl rfl
end Go.Eng
end
