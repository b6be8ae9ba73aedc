/- A part of an abstract machine, its walks, their tie. -/
import Derived.Test.YtekghmfbgbhobaaGreatDoorS28
import Derived.Test.YtekghmfbgbhobaaGreatDoorS22
import Derived.Test.YtekghmfbgbhobaaGreatDoorS27
set_option linter.all false
section
set_option maxHeartbeats 64000000
set_option maxRecDepth 20000
namespace Go.Eng
variable (tab:Tab) (gl:Gl)
variable {vv:V} {oo:List Ob}
abbrev tmI (n:Int):Prop:=0≤n∧n≤1099511627776
def qMi:ECt where
 α:=Lk×Int
 β:=Lk
 aS:=fun (l,now)=>[.t (lkA l),.t (.int .i64 now)]
 pre:=fun (l,now)=>True
 r:=fun r'=> .t (lkA r')
 R:=fun (l,now) r'=>r' = { l with fa:=0,si:=now }
theorem jDs {g:EF qMi}{l:Lk}{now:Int}:qMi.fs g [.t (lkA l),.t (.int .i64 now)] []=some (.t (lkA ({ l with fa:=0,si:=now })),[]):=fnQ qMi (l,now) trivial
theorem jJg {l:Lk}{now:Int}(hV:vv = .t (lkA ({ l with fa:=0,si:=now })))(hO:oo=[]):qMi.K (l,now) vv oo:=⟨_,rfl,hV,hO⟩
theorem qYz  (l:Lk)(now:Int) :
  qEt.1.wp tab gl (qD 0 [.t (lkA l),.t (.int .i64 now)]) (qD 0 []) (qY [(4,(some (6,true)))] 0 (qMi.K (l,now))):=by
 simp(disch:=omega)only[go_sem,qEt,lkA];exact jJg rfl rfl
def qMn:ECt where
 α:=Lk×Int
 β:=Bool
 aS:=fun (l,now)=>[.t (lkA l),.t (.int .i64 now)]
 pre:=fun (l,now)=>True
 r:=fun r'=> .t (.bool r')
 R:=fun (l,now) r'=>r'=decide (l.cl≤now)
theorem jDz {g:EF qMn}{l:Lk}{now:Int}:qMn.fs g [.t (lkA l),.t (.int .i64 now)] []=some (.t (.bool (decide (l.cl≤now))),[]):=fnQ qMn (l,now) trivial
theorem jJj {l:Lk}{now:Int}(hV:vv = .t (.bool (decide (l.cl≤now))))(hO:oo=[]):qMn.K (l,now) vv oo:=⟨_,rfl,hV,hO⟩
theorem zB8  (l:Lk)(now:Int) :
  qGc.1.wp tab gl (qD 0 [.t (lkA l),.t (.int .i64 now)]) (qD 0 []) (qY [(4,none)] 0 (qMn.K (l,now))):=by
 simp(disch:=omega)only[go_sem,qGc,lkA];exact jJj rfl rfl
def qMm:ECt where
 α:=Lk×Int×Int×Int
 β:=Lk×Int
 aS:=fun (l,a,b,c)=>[.t (lkA l),.t (.int .i64 a),.t (.int .i64 b),.t (.int .i64 c)]
 pre:=fun (l,a,b,c)=>l.Ok
 r:=fun (y,e)=> .tup [.t (lkA y),.t (.int .i64 e)]
 R:=fun (l,a,b,c) (y,e)=>e=0→y.Ok
theorem jDy {g:EF qMm}{l:Lk}{a b c:Int}(hp:l.Ok) : ∃ (y:Lk) (e:Int),(e=0→y.Ok)∧qMm.fs g [.t (lkA l),.t (.int .i64 a),.t (.int .i64 b),.t (.int .i64 c)] []=some (.tup [.t (lkA y),.t (.int .i64 e)],[]):=by
 obtain⟨y,h1,h2⟩:=qMm.eq g (l,a,b,c) hp;exact⟨y.1,y.2,h1,h2⟩
theorem jDx {l:Lk}{a b c:Int}(y:Lk)(e:Int)(hR:e=0→y.Ok)(hV:vv = .tup [.t (lkA y),.t (.int .i64 e)])(hO:oo=[]):qMm.K (l,a,b,c) vv oo:=⟨(y,e),hR,hV,hO⟩
theorem qVm  (l:Lk)(a b c:Int)(hp:l.Ok) :
  qC3.1.wp tab gl (qD 0 [.t (lkA l),.t (.int .i64 a),.t (.int .i64 b),.t (.int .i64 c)]) (qD 0 []) (qY [(8,(some (6,true))),(9,none)] 0 (qMm.K (l,a,b,c))):=by
 obtain⟨h1,h2,h3,h4,h5,h6⟩:=hp;simp +contextual(maxSteps:=9^9)(disch:=try exact dS)only[go_sem,qC3,lkA,↓qB,↓qC,qN];repeat' (first | apply And.intro | intro _)
 all_goals first | exact jDx default 1 oM rfl rfl | (refine jDx ⟨if a<l.fa then a else l.fa,a,b,l.si,l.cl,c⟩ 0 ?_ rfl rfl;simp only[Lk.Ok];split<;>omega)
def qJd:ECt where
 α:=Lk×Int
 β:=Lk
 aS:=fun (l,now)=>[.t (lkA l),.t (.int .i64 now)]
 pre:=fun (l,now)=>l.Ok∧tmI now
 r:=fun y=> .t (lkA y)
 R:=fun (l,now) y=>y.Ok
theorem zU2 {g:EF qJd}{l:Lk}{now:Int}(hp:l.Ok∧tmI now) : ∃ (y:Lk),(y.Ok)∧qJd.fs g [.t (lkA l),.t (.int .i64 now)] []=some (.t (lkA y),[]):=qJd.eq g (l,now) hp
theorem zMe {l:Lk}{now:Int}(y:Lk)(hR:y.Ok)(hV:vv = .t (lkA y))(hO:oo=[]):qJd.K (l,now) vv oo:=⟨y,hR,hV,hO⟩
theorem qUf  (l:Lk)(now:Int)(hp:l.Ok∧tmI now) :
  vD.1.wp tab gl (qD 0 [.t (lkA l),.t (.int .i64 now)]) (qD 0 []) (qY [(4,(some (6,true)))] 0 (qJd.K (l,now))):=by
 obtain⟨⟨h1,h2,h3,h4,h5,h6⟩,h7,h8⟩:=hp;by_cases c1:now<l.si
 ·simp +contextual(disch:=omega)only[go_sem,vD,lkA,c1,↓qB,↓qC,qN];exact zMe { l with si:=now } (by simp only[Lk.Ok];omega) rfl rfl
 have hq:(now-l.si).tdiv l.rc=(now-l.si)/l.rc:=Int.tdiv_eq_ediv_of_nonneg oM;have q0:0≤(now-l.si)/l.rc:=Int.ediv_nonneg oM oM;have q1:l.rc≠0→(now-l.si)/l.rc*l.rc≤now-l.si:=fun h=>Int.ediv_mul_le _ h
 have q2:(now-l.si)/l.rc≤now-l.si:=Int.ediv_le_self _ oM;by_cases c3:l.rc=0
 ·simp +contextual(disch:=omega)only[go_sem,vD,lkA,c1,c3,↓qB,↓qC,qN];repeat' (first | apply And.intro | intro _)
  ·exact zMe { l with si:=now } (by simp only[Lk.Ok];omega) (by rw[lkA,‹l.fa=0›,c3]) rfl
  ·exact zMe l (by simp only[Lk.Ok];omega) (by rw[lkA,c3]) rfl
 have q1:=q1 c3;by_cases c2:(now-l.si)/l.rc<l.fa
 ·have q3:0≤(now-l.si)/l.rc*l.rc:=Int.mul_nonneg q0 h3.1;simp +contextual(disch:=omega)only[go_sem,vD,lkA,c1,hq,c2,c3,↓qB,↓qC,qN];repeat' (first | apply And.intro | intro _)
  all_goals first | rfl | omega | skip
  exact zMe ⟨l.fa-(now-l.si)/l.rc,l.mx,l.rc,l.si+(now-l.si)/l.rc*l.rc,l.cl,l.pe⟩ (by simp only[Lk.Ok];omega) rfl rfl
 ·have q3:l.fa*l.rc≤(now-l.si)/l.rc*l.rc:=Int.mul_le_mul_of_nonneg_right oM h3.1;have q4:0≤l.fa*l.rc:=Int.mul_nonneg h1.1 h3.1;simp +contextual(disch:=omega)only[go_sem,vD,lkA,c1,hq,c2,c3,Int.sub_self,↓qB,↓qC,qN];repeat' (first | apply And.intro | intro _)
  all_goals first | rfl | exact zMe ⟨0,l.mx,l.rc,now,l.cl,l.pe⟩ (by simp only[Lk.Ok];omega) rfl rfl
def qMj:ECt where
 α:=Lk×Int
 β:=Bool
 aS:=fun (l,now)=>[.t (lkA l),.t (.int .i64 now)]
 pre:=fun (l,now)=>l.Ok∧tmI now
 r:=fun b=> .t (.bool b)
 R:=fun (l,now) b=>True
theorem jDt {g:EF qMj}{l:Lk}{now:Int}(hp:l.Ok∧tmI now) : ∃ (b:Bool),(True)∧qMj.fs g [.t (lkA l),.t (.int .i64 now)] []=some (.t (.bool b),[]):=qMj.eq g (l,now) hp
theorem jJh {l:Lk}{now:Int}(b:Bool)(hR:True)(hV:vv = .t (.bool b))(hO:oo=[]):qMj.K (l,now) vv oo:=⟨b,hR,hV,hO⟩
theorem qVn {g1}(h1:LkE tab 232 qJd g1)(l:Lk)(now:Int)(hp:l.Ok∧tmI now) :
  qC4.1.wp tab gl (qD 0 [.t (lkA l),.t (.int .i64 now)]) (qD 0 []) (qY [(4,none)] 0 (qMj.K (l,now))):=by
 obtain⟨y,h,e⟩:=zU2 (g:=g1) hp;simp only[lkA] at e;simp +contextual(disch:=omega)only[go_sem,qC4,lkA,h1,e,↓qB,↓qC,qN];exact jJh _ trivial rfl rfl
def qMk:ECt where
 α:=Lk×Int
 β:=Lk
 aS:=fun (l,now)=>[.t (lkA l),.t (.int .i64 now)]
 pre:=fun (l,now)=>l.Ok∧tmI now
 r:=fun y=> .t (lkA y)
 R:=fun (l,now) y=>y.Ok
theorem jDu {g:EF qMk}{l:Lk}{now:Int}(hp:l.Ok∧tmI now) : ∃ (y:Lk),(y.Ok)∧qMk.fs g [.t (lkA l),.t (.int .i64 now)] []=some (.t (lkA y),[]):=qMk.eq g (l,now) hp
theorem jJi {l:Lk}{now:Int}(y:Lk)(hR:y.Ok)(hV:vv = .t (lkA y))(hO:oo=[]):qMk.K (l,now) vv oo:=⟨y,hR,hV,hO⟩
theorem zB7 {g1}(h1:LkE tab 232 qJd g1)(l:Lk)(now:Int)(hp:l.Ok∧tmI now) :
  qGb.1.wp tab gl (qD 0 [.t (lkA l),.t (.int .i64 now)]) (qD 0 []) (qY [(4,(some (6,true)))] 0 (qMk.K (l,now))):=by
 obtain⟨y,⟨j1,j2,j3,j4,j5,j6⟩,e⟩:=zU2 (g:=g1) hp;simp only[lkA] at e;simp +contextual(disch:=omega)only[go_sem,qGb,lkA,h1,e,↓qB,↓qC,qN];refine jJi { y with fa:=if y.mx<y.fa+1 then y.mx else y.fa+1 } ?_ rfl rfl;simp only[Lk.Ok];split<;>omega
def qMo:ECt where
 α:=Lk×Int
 β:=Lk
 aS:=fun (l,now)=>[.t (lkA l),.t (.int .i64 now)]
 pre:=fun (l,now)=>l.Ok∧tmI now
 r:=fun y=> .t (lkA y)
 R:=fun (l,now) y=>y.Ok
theorem jD0 {g:EF qMo}{l:Lk}{now:Int}(hp:l.Ok∧tmI now) : ∃ (y:Lk),(y.Ok)∧qMo.fs g [.t (lkA l),.t (.int .i64 now)] []=some (.t (lkA y),[]):=qMo.eq g (l,now) hp
theorem jJk {l:Lk}{now:Int}(y:Lk)(hR:y.Ok)(hV:vv = .t (lkA y))(hO:oo=[]):qMo.K (l,now) vv oo:=⟨y,hR,hV,hO⟩
theorem qY0  (l:Lk)(now:Int)(hp:l.Ok∧tmI now) :
  qEu.1.wp tab gl (qD 0 [.t (lkA l),.t (.int .i64 now)]) (qD 0 []) (qY [(4,(some (6,true)))] 0 (qMo.K (l,now))):=by
 obtain⟨⟨h1,h2,h3,h4,h5,h6⟩,h7,h8⟩:=hp;simp +contextual(disch:=omega)only[go_sem,qEu,lkA,↓qB,↓qC,qN];exact jJk { l with cl:=now+l.pe } (by simp only[Lk.Ok];omega) rfl rfl
def qNo:ECt where
 α:=Int×Int
 β:=Bool
 aS:=fun (k,z)=>[.t (.int .i64 k),.t (.int .i64 z)]
 pre:=fun (k,z)=>True
 r:=fun b=> .t (.bool b)
 R:=fun (k,z) b=>b=true→(1≤k∧k≤4)∧(1≤z∧z≤128)∧(k=3→z=8)
theorem jGe {g:EF qNo}{k z:Int} : ∃ (b:Bool),(b=true→(1≤k∧k≤4)∧(1≤z∧z≤128)∧(k=3→z=8))∧qNo.fs g [.t (.int .i64 k),.t (.int .i64 z)] []=some (.t (.bool b),[]):=qNo.eq g (k,z) trivial
theorem jK0 {k z:Int}(b:Bool)(hR:b=true→(1≤k∧k≤4)∧(1≤z∧z≤128)∧(k=3→z=8))(hV:vv = .t (.bool b))(hO:oo=[]):qNo.K (k,z) vv oo:=⟨b,hR,hV,hO⟩
theorem qYy  (k z:Int) :
  qEs.1.wp tab gl (qD 0 [.t (.int .i64 k),.t (.int .i64 z)]) (qD 0 []) (qY [(4,none)] 0 (qNo.K (k,z))):=by
 simp +contextual(disch:=omega)only[go_sem,qEs,↓qB,↓qC,qN];repeat' (first | apply And.intro | intro _)
 all_goals (refine jK0 _ ?_ rfl rfl;intro h;simp at h<;>omega)
theorem zTh {n:Nat}{x:UInt8}:(List.replicate n x).take n=List.replicate n x:=sM
def qMb:ECt where
 α:=Int×Int×Int×Int×List UInt8×List UInt8
 β:=Ix×Int
 aS:=fun (n,k,r,z,au,po)=>[.t (.int .i64 n),.t (.int .i64 k),.t (.int .i64 r),.t (.int .i64 z),.t (.sl (au.map qA)),.t (.sl (po.map qA))]
 pre:=fun (n,k,r,z,au,po)=>au.length≤4096∧po.length≤4096
 r:=fun (x,e)=> .tup [.t (ixA x),.t (.int .i64 e)]
 R:=fun (n,k,r,z,au,po) (x,e)=>e=0→x.Ok
theorem jDh {g:EF qMb}{n k r z:Int}{au po:List UInt8}(hp:au.length≤4096∧po.length≤4096) : ∃ (x:Ix) (e:Int),(e=0→x.Ok)∧qMb.fs g [.t (.int .i64 n),.t (.int .i64 k),.t (.int .i64 r),.t (.int .i64 z),.t (.sl (au.map qA)),.t (.sl (po.map qA))] []=some (.tup [.t (ixA x),.t (.int .i64 e)],[]):=by
 obtain⟨y,h1,h2⟩:=qMb.eq g (n,k,r,z,au,po) hp;exact⟨y.1,y.2,h1,h2⟩
theorem zL6 {n k r z:Int}{au po:List UInt8}(x:Ix)(e:Int)(hR:e=0→x.Ok)(hV:vv = .tup [.t (ixA x),.t (.int .i64 e)])(hO:oo=[]):qMb.K (n,k,r,z,au,po) vv oo:=⟨(x,e),hR,hV,hO⟩
theorem zFd {g1}(h1:LkE tab 252 qNo g1)(n k r z:Int)(au po:List UInt8)(hp:au.length≤4096∧po.length≤4096) :
  qD8.1.wp tab gl (qD 0 [.t (.int .i64 n),.t (.int .i64 k),.t (.int .i64 r),.t (.int .i64 z),.t (.sl (au.map qA)),.t (.sl (po.map qA))]) (qD 0 []) (qY [(12,(some (8,true))),(13,none)] 0 (qMb.K (n,k,r,z,au,po))):=by
 obtain⟨y,h,e⟩:=jGe (g:=g1) (k:=k) (z:=z);by_cases c:y=true
 ·obtain⟨c1,c2,c3⟩:=h c;simp +contextual(maxSteps:=9^9)(disch:=try exact dS)only[go_sem,qD8,h1,e,c,zTh,↓qB,↓qC,qN];repeat' (first | apply And.intro | intro _)
  all_goals first | exact zL6 default 1 oM rfl rfl | exact zL6 default 4 oM rfl rfl | exact zL6 default 20 oM rfl rfl | skip
  all_goals refine zL6 ⟨n,k,r,z,po,au,false,List.replicate z.toNat 0⟩ 0 ?_ rfl rfl
  all_goals simp only[Ix.Ok,List.length_replicate]
  all_goals omega
 ·simp +contextual(maxSteps:=9^9)(disch:=try exact dS)only[go_sem,qD8,h1,e,c,↓qB,↓qC,qN];repeat' (first | apply And.intro | intro _)
  all_goals exact zL6 default 1 oM rfl rfl
def qI9:ECt where
 α:=Int×Int×Int
 β:=Bool
 aS:=fun (o,n,z)=>[.t (.int .i64 o),.t (.int .i64 n),.t (.int .i64 z)]
 pre:=fun (o,n,z)=>(0≤n∧n≤1099511627776)∧(0≤z∧z≤128)
 r:=fun b=> .t (.bool b)
 R:=fun (o,n,z) b=>b=true→0≤o∧0≤n∧o+n≤z
theorem zUz {g:EF qI9}{o n z:Int}(hp:(0≤n∧n≤1099511627776)∧(0≤z∧z≤128)) : ∃ (b:Bool),(b=true→0≤o∧0≤n∧o+n≤z)∧qI9.fs g [.t (.int .i64 o),.t (.int .i64 n),.t (.int .i64 z)] []=some (.t (.bool b),[]):=qI9.eq g (o,n,z) hp
theorem jI7 {o n z:Int}(b:Bool)(hR:b=true→0≤o∧0≤n∧o+n≤z)(hV:vv = .t (.bool b))(hO:oo=[]):qI9.K (o,n,z) vv oo:=⟨b,hR,hV,hO⟩
theorem qVl  (o n z:Int)(hp:(0≤n∧n≤1099511627776)∧(0≤z∧z≤128)) :
  qC2.1.wp tab gl (qD 0 [.t (.int .i64 o),.t (.int .i64 n),.t (.int .i64 z)]) (qD 0 []) (qY [(6,none)] 0 (qI9.K (o,n,z))):=by
 simp +contextual(disch:=omega)only[go_sem,qC2,↓qB,↓qC,qN];repeat' (first | apply And.intro | intro _)
 all_goals (refine jI7 _ ?_ rfl rfl;intro h;simp at h<;>omega)
def qMd:ECt where
 α:=Ix×Int×Int
 β:=List UInt8×Int
 aS:=fun (x,o,n)=>[.t (ixA x),.t (.int .i64 o),.t (.int .i64 n)]
 pre:=fun (x,o,n)=>x.Ok∧tmI n
 r:=fun (b,e)=> .tup [.t (.sl (b.map qA)),.t (.int .i64 e)]
 R:=fun (x,o,n) (b,e)=>b.length≤128
theorem jDk {g:EF qMd}{x:Ix}{o n:Int}(hp:x.Ok∧tmI n) : ∃ (b:List UInt8) (e:Int),(b.length≤128)∧qMd.fs g [.t (ixA x),.t (.int .i64 o),.t (.int .i64 n)] []=some (.tup [.t (.sl (b.map qA)),.t (.int .i64 e)],[]):=by
 obtain⟨y,h1,h2⟩:=qMd.eq g (x,o,n) hp;exact⟨y.1,y.2,h1,h2⟩
theorem zXs {x:Ix}{o n:Int}(b:List UInt8)(e:Int)(hR:b.length≤128)(hV:vv = .tup [.t (.sl (b.map qA)),.t (.int .i64 e)])(hO:oo=[]):qMd.K (x,o,n) vv oo:=⟨(b,e),hR,hV,hO⟩
theorem zB5 {g1}(h1:LkE tab 253 qI9 g1)(h2:LkC tab 99 kR)(x:Ix)(o n:Int)(hp:x.Ok∧tmI n) :
  qCe.1.wp tab gl (qD 0 [.t (ixA x),.t (.int .i64 o),.t (.int .i64 n)]) (qD 0 []) (qY [(6,none),(7,none)] 0 (qMd.K (x,o,n))):=by
 obtain⟨⟨i1,i2,i3,i4,i5,i6,i7,i8⟩,i9⟩:=hp;obtain⟨y,h,e⟩:=zUz (g:=g1) (o:=o) (n:=n) (z:=x.da.length) oM;by_cases c:y=true
 ·obtain⟨c1,c2,c3⟩:=h c;have e2:=zR (bs:=(x.da.drop o.toNat).take ((o+n).toNat-o.toNat)) soM;simp +contextual(disch:=omega)only[go_sem,qCe,ixA,h1,h2,e,e2,c,↓qB,↓qC,qN];repeat' (first | apply And.intro | intro _)
  ·exact zXs [] _ sM rfl rfl
  ·exact zXs _ _ soM rfl rfl
 ·simp +contextual(disch:=omega)only[go_sem,qCe,ixA,h1,e,c,↓qB,↓qC,qN];repeat' (first | apply And.intro | intro _)
  all_goals exact zXs [] _ sM rfl rfl
def qMg:ECt where
 α:=Ix×Int×List UInt8
 β:=Ix×Int
 aS:=fun (x,o,d)=>[.t (ixA x),.t (.int .i64 o),.t (.sl (d.map qA))]
 pre:=fun (x,o,d)=>x.Ok∧d.length≤4096
 r:=fun (y,e)=> .tup [.t (ixA y),.t (.int .i64 e)]
 R:=fun (x,o,d) (y,e)=>e=0→y.Ok∧y.n=x.n
theorem jDn {g:EF qMg}{x:Ix}{o:Int}{d:List UInt8}(hp:x.Ok∧d.length≤4096) : ∃ (y:Ix) (e:Int),(e=0→y.Ok∧y.n=x.n)∧qMg.fs g [.t (ixA x),.t (.int .i64 o),.t (.sl (d.map qA))] []=some (.tup [.t (ixA y),.t (.int .i64 e)],[]):=by
 obtain⟨y,h1,h2⟩:=qMg.eq g (x,o,d) hp;exact⟨y.1,y.2,h1,h2⟩
theorem zQz {x:Ix}{o:Int}{d:List UInt8}(y:Ix)(e:Int)(hR:e=0→y.Ok∧y.n=x.n)(hV:vv = .tup [.t (ixA y),.t (.int .i64 e)])(hO:oo=[]):qMg.K (x,o,d) vv oo:=⟨(y,e),hR,hV,hO⟩
theorem qYx {g1}(h1:LkE tab 253 qI9 g1)(h2:LkC tab 99 kR)(x:Ix)(o:Int)(d:List UInt8)(hp:x.Ok∧d.length≤4096) :
  qBj.1.wp tab gl (qD 0 [.t (ixA x),.t (.int .i64 o),.t (.sl (d.map qA))]) (qD 0 []) (qY [(6,(some (8,true))),(7,none)] 0 (qMg.K (x,o,d))):=by
 obtain⟨⟨i1,i2,i3,i4,i5,i6,i7,i8⟩,i9⟩:=hp;obtain⟨y,h,e⟩:=zUz (g:=g1) (o:=o) (n:=d.length) (z:=x.da.length) oM;by_cases c:y=true
 ·obtain⟨c1,c2,c3⟩:=h c;have e2:=zR (bs:=x.da.take o.toNat) soM;simp +contextual(disch:=omega)only[go_sem,qBj,ixA,h1,h2,e,e2,c,↓qB,↓qC,qN];repeat' (first | apply And.intro | intro _)
  ·exact zQz default 19 oM rfl rfl
  ·rfl
  ·refine zQz ⟨x.n,1,x.ar,x.sz,x.po,x.au,true,_⟩ 0 (fun _=>⟨?_,rfl⟩) rfl rfl;simp only[Ix.Ok,jPn];omega
 ·simp +contextual(disch:=omega)only[go_sem,qBj,ixA,h1,e,c,↓qB,↓qC,qN];repeat' (first | apply And.intro | intro _)
  ·exact zQz default 19 oM rfl rfl
  ·exact zQz default 24 oM rfl rfl
theorem zHf {s:Rd}{k:Nat}:0≤(qBt s k).1∧(qBt s k).1<9223372036854775808:=by
 unfold qBt;split
 ·simp
 ·split
  ·simp
  ·split
   ·simp
   ·simp only;omega
def qMf:ECt where
 α:=Ix
 β:=Int
 aS:=fun x=>[.t (ixA x)]
 pre:=fun x=>x.Ok
 r:=fun n=> .t (.int .i64 n)
 R:=fun x n=>0≤n∧n<9223372036854775808
theorem jDm {g:EF qMf}{x:Ix}(hp:x.Ok) : ∃ (n:Int),(0≤n∧n<9223372036854775808)∧qMf.fs g [.t (ixA x)] []=some (.t (.int .i64 n),[]):=qMf.eq g x hp
theorem jJa {x:Ix}(n:Int)(hR:0≤n∧n<9223372036854775808)(hV:vv = .t (.int .i64 n))(hO:oo=[]):qMf.K x vv oo:=⟨n,hR,hV,hO⟩
theorem qVk (h1:LkC tab 56 qLi)(h2:LkC tab 57 qP0)(x:Ix)(hp:x.Ok) :
  qC1.1.wp tab gl (qD 0 [.t (ixA x)]) (qD 0 []) (qY [(2,none)] 0 (qMf.K x)):=by
 have i7:=hp.2.2.2.2.2.2.1;have e1:=qYc (b:=x.da) oM;have e2:=zNg (s:=(x.da,0,0)) (k:=8) ⟨⟨sM,by show x.da.length<_;omega⟩,oM,oM⟩;simp only[rdO,Int.ofNat_zero] at e1 e2;rw[show ((8:Nat):Int)=8 from rfl] at e2;simp +contextual(disch:=omega)only[go_sem,qC1,ixA,h1,h2,e1,e2,↓qB,↓qC,qN];exact jJa _ zHf rfl rfl
def qMa:ECt where
 α:=Ix×Int
 β:=Ix×Int×Int
 aS:=fun (x,m)=>[.t (ixA x),.t (.int .i64 m)]
 pre:=fun (x,m)=>x.Ok∧tmI m
 r:=fun (y,m',e)=> .tup [.t (ixA y),.t (.int .i64 m'),.t (.int .i64 e)]
 R:=fun (x,m) (y,m',e)=>e=0→(y.Ok∧y.n=x.n)∧tmI m'
theorem jDg {g:EF qMa}{x:Ix}{m:Int}(hp:x.Ok∧tmI m) : ∃ (y:Ix) (m' e:Int),(e=0→(y.Ok∧y.n=x.n)∧tmI m')∧qMa.fs g [.t (ixA x),.t (.int .i64 m)] []=some (.tup [.t (ixA y),.t (.int .i64 m'),.t (.int .i64 e)],[]):=by
 obtain⟨y,h1,h2⟩:=qMa.eq g (x,m) hp;exact⟨y.1,y.2.1,y.2.2,h1,h2⟩
theorem zL5 {x:Ix}{m:Int}(y:Ix)(m' e:Int)(hR:e=0→(y.Ok∧y.n=x.n)∧tmI m')(hV:vv = .tup [.t (ixA y),.t (.int .i64 m'),.t (.int .i64 e)])(hO:oo=[]):qMa.K (x,m) vv oo:=⟨(y,m',e),hR,hV,hO⟩
theorem qQi {g1}(h1:LkE tab 254 qMf g1)(h2:LkC tab 42 vN)(x:Ix)(m:Int)(hp:x.Ok∧tmI m) :
  vG.1.wp tab gl (qD 0 [.t (ixA x),.t (.int .i64 m)]) (qD 0 []) (qY [(4,(some (8,true))),(5,none),(6,none)] 0 (qMa.K (x,m))):=by
 obtain⟨n,h,e⟩:=jDm (g:=g1) hp.1;obtain⟨⟨i1,i2,i3,i4,i5,i6,i7,i8⟩,i9,i10⟩:=hp;obtain⟨xn,xk,xr,xz,xp,xa,xw,xd⟩:=x;simp only[ixA] at *;by_cases c1:xk=2
 ·subst c1;have eU:=fun n => @zE7 [] n (by decide)
  simp only[List.map_nil] at eU;cases xw
  ·simp +contextual(disch:=omega)only[go_sem,vG,h1,h2,e,eU,↓qB,↓qC,qN];repeat' (first | apply And.intro | intro _)
   ·exact zL5 default 0 31 oM rfl rfl
   ·simp[beI]
   ·refine zL5 ⟨xn,2,xr,xz,xp,xa,true,_⟩ _ 0 ?_ rfl rfl;intro _;refine⟨⟨?_,rfl⟩,?_⟩
    ·simp[Ix.Ok];omega
    ·unfold tmI;split<;>omega
  ·simp +contextual(disch:=omega)only[go_sem,vG,h1,h2,e,eU,↓qB,↓qC,qN];repeat' (first | apply And.intro | intro _)
   ·exact zL5 default 0 31 oM rfl rfl
   ·simp[beI]
   ·refine zL5 ⟨xn,2,xr,xz,xp,xa,true,_⟩ _ 0 ?_ rfl rfl;intro _;refine⟨⟨?_,rfl⟩,?_⟩
    ·simp[Ix.Ok];omega
    ·unfold tmI;split<;>omega
 ·simp +contextual(disch:=omega)only[go_sem,vG,c1,↓qB,↓qC,qN];exact zL5 default 0 19 oM rfl rfl
theorem zTg {α:Type}{l m:List α}:(l++m).take (l.length+m.length)=l++m:=List.take_of_length_le sM
def qMe:ECt where
 α:=Ix×List UInt8
 β:=Ix×Int
 aS:=fun (x,b)=>[.t (ixA x),.t (.sl (b.map qA))]
 pre:=fun (x,b)=>x.Ok∧b.length≤4096
 r:=fun (y,e)=> .tup [.t (ixA y),.t (.int .i64 e)]
 R:=fun (x,b) (y,e)=>e=0→y.Ok∧y.n=x.n
theorem jDl {g:EF qMe}{x:Ix}{b:List UInt8}(hp:x.Ok∧b.length≤4096) : ∃ (y:Ix) (e:Int),(e=0→y.Ok∧y.n=x.n)∧qMe.fs g [.t (ixA x),.t (.sl (b.map qA))] []=some (.tup [.t (ixA y),.t (.int .i64 e)],[]):=by
 obtain⟨y,h1,h2⟩:=qMe.eq g (x,b) hp;exact⟨y.1,y.2,h1,h2⟩
theorem zXt {x:Ix}{b:List UInt8}(y:Ix)(e:Int)(hR:e=0→y.Ok∧y.n=x.n)(hV:vv = .tup [.t (ixA y),.t (.int .i64 e)])(hO:oo=[]):qMe.K (x,b) vv oo:=⟨(y,e),hR,hV,hO⟩
theorem qUe (h1:LkC tab 99 kR)(x:Ix)(b:List UInt8)(hp:x.Ok∧b.length≤4096) :
  wD.1.wp tab gl (qD 0 [.t (ixA x),.t (.sl (b.map qA))]) (qD 0 []) (qY [(4,(some (8,true))),(5,none)] 0 (qMe.K (x,b))):=by
 obtain⟨⟨i1,i2,i3,i4,i5,i6,i7,i8⟩,i9⟩:=hp;obtain⟨xn,xk,xr,xz,xp,xa,xw,xd⟩:=x;simp only[ixA] at *;by_cases c1:xk=3
 ·subst c1;have l8:=i8 rfl;have e2:=zR (bs:=xd) oM;by_cases c2:b.length=8
  ·simp +contextual(disch:=omega)only[go_sem,wD,h1,e2,c2,l8,↓qB,↓qC,qN];refine qW (σ:=Nat×List UInt8) (fun s=>s.1≤8∧s.2.length=8) (fun s=>8-s.1)
    (fun s=>[(1,.t (.sl (b.map qA))),(2,.ref 4096 0 0),(4,.ref 4112 0 0),(6,.sl 24608 0 8),(7,.t (.int .i64 s.1))])
    (fun s=>[(24608,.live 1 ((s.2.map qA).map V.t) true false),(4112,.live 8 [.agg [.t (.int .i64 0),.t (.int .i64 0),.t (.int .i64 0),.t (.int .i64 0),.nil,.nil,.t (.bool false),.nil]] true true),(4096,.live 8 [.t (.agg [.int .i64 xn,.int .i64 3,.int .i64 xr,.int .i64 xz,.sl (xp.map qA),.sl (xa.map qA),.bool xw,.sl (xd.map qA)])] true true)])
    (0,xd) ⟨oM,l8⟩ ?_ ?_
   ·refine qI.rd id ?_ ?_ rfl;all_goals simp(disch:=omega)only[go_sem,id]
   ·rintro⟨k,d⟩ ⟨hk,hd⟩;simp only at hk hd;by_cases hlt:k<8
    ·simp(disch:=omega)only[go_sem,hd,hlt,c2,zP4];refine⟨rfl,qAf.of (k+1,d.set k (d.getD k 0 ||| b.getD k 0)) ⟨by show k+1≤8;omega,by simp[hd]⟩ (by show 8-(k+1)<8-k;omega) (qI.rd id ?_ ?_ rfl)⟩;all_goals simp(disch:=omega)only[go_sem,id]
     all_goals rfl
    ·simp(disch:=omega)only[go_sem,hd,hlt];refine zXt ⟨xn,3,xr,xz,xp,xa,true,_⟩ 0 ?_ rfl rfl;intro _;refine⟨?_,rfl⟩;simp[Ix.Ok];omega
  ·simp +contextual(disch:=omega)only[go_sem,wD,h1,e2,c2,↓qB,↓qC,qN];exact zXt default 24 oM rfl rfl
 ·simp +contextual(disch:=omega)only[go_sem,wD,c1,↓qB,↓qC,qN];exact zXt default 19 oM rfl rfl
def qL8:ECt where
 α:=Ix×List UInt8
 β:=Ix×Int
 aS:=fun (x,b)=>[.t (ixA x),.t (.sl (b.map qA))]
 pre:=fun (x,b)=>x.Ok∧b.length≤4096
 r:=fun (y,e)=> .tup [.t (ixA y),.t (.int .i64 e)]
 R:=fun (x,b) (y,e)=>e=0→y.Ok∧y.n=x.n
theorem jDe {g:EF qL8}{x:Ix}{b:List UInt8}(hp:x.Ok∧b.length≤4096) : ∃ (y:Ix) (e:Int),(e=0→y.Ok∧y.n=x.n)∧qL8.fs g [.t (ixA x),.t (.sl (b.map qA))] []=some (.tup [.t (ixA y),.t (.int .i64 e)],[]):=by
 obtain⟨y,h1,h2⟩:=qL8.eq g (x,b) hp;exact⟨y.1,y.2,h1,h2⟩
theorem zXr {x:Ix}{b:List UInt8}(y:Ix)(e:Int)(hR:e=0→y.Ok∧y.n=x.n)(hV:vv = .tup [.t (ixA y),.t (.int .i64 e)])(hO:oo=[]):qL8.K (x,b) vv oo:=⟨(y,e),hR,hV,hO⟩
theorem qVj (h1:LkC tab 99 kR)(h2:tab.look 102=some (qHx 32 jY).fs)(x:Ix)(b:List UInt8)(hp:x.Ok∧b.length≤4096) :
  qC0.1.wp tab gl (qD 0 [.t (ixA x),.t (.sl (b.map qA))]) (qD 0 []) (qY [(4,(some (8,true))),(5,none)] 0 (qL8.K (x,b))):=by
 obtain⟨⟨i1,i2,i3,i4,i5,i6,i7,i8⟩,i9⟩:=hp;obtain⟨xn,xk,xr,xz,xp,xa,xw,xd⟩:=x;simp only[ixA] at *;have e2:=zR (bs:=xd) oM;have e3:=qW5 (n:=32) (f:=jY) (bs:=xd++b) soM;simp +contextual(disch:=omega)only[go_sem,qC0,h1,h2,e2,e3,zTg,List.take_of_length_le,qO,↓qB,↓qC,qN];repeat' (first | apply And.intro | intro _)
 ·exact zXr default 19 oM rfl rfl
 ·exact zXr default 4 oM rfl rfl
 ·refine zXr ⟨xn,4,xr,xz,xp,xa,true,(jY (xd++b)).take 32⟩ 0 ?_ (by rw[ixA,List.map_take]) rfl;intro _;refine⟨?_,rfl⟩;simp[Ix.Ok,qO];omega
def qNm:ECt where
 α:=List UInt8
 β:=List UInt8
 aS:=fun b=>[.t (.sl (b.map qA))]
 pre:=fun b=>b.length≤4096
 r:=fun r=> .t (.sl (r.map qA))
 R:=fun b r=>r.length≤b.length
theorem zVw {g:EF qNm}{b:List UInt8}(hp:b.length≤4096) : ∃ (r:List UInt8),(r.length≤b.length)∧qNm.fs g [.t (.sl (b.map qA))] []=some (.t (.sl (r.map qA)),[]):=qNm.eq g b hp
theorem jF9 {b:List UInt8}(r:List UInt8)(hR:r.length≤b.length)(hV:vv = .t (.sl (r.map qA)))(hO:oo=[]):qNm.K b vv oo:=⟨r,hR,hV,hO⟩
theorem zC0  (b:List UInt8)(hp:b.length≤4096) :
  qGy.1.wp tab gl (qD 0 [.t (.sl (b.map qA))]) (qD 0 []) (qY [(2,none)] 0 (qNm.K b)):=by
 simp +contextual(disch:=omega)only[go_sem,qGy,↓qB,↓qC,qN];refine qW (σ:=Nat) (fun k=>k≤b.length) (fun k=>b.length-k) (fun k=>[(0,.t (.sl (b.map qA))),(3,.t (.int .i64 k))]) (fun _=>[]) 0 oM ?_ ?_
 ·refine qI.rd id ?_ ?_ rfl;all_goals simp(disch:=omega)only[go_sem,id]
 ·intro k hk;by_cases hlt:k<b.length
  ·simp +contextual(disch:=omega)only[go_sem,hlt,↓qB,↓qC,qN];repeat' (first | apply And.intro | intro _)
   ·refine qAf.of (k+1) oM oM (qI.rd id ?_ ?_ rfl);all_goals simp(disch:=omega)only[go_sem,id]
   ·exact jF9 _ sM rfl rfl
  ·simp +contextual(disch:=omega)only[go_sem,hlt,↓qB,↓qC,qN];exact jF9 _ sM rfl rfl
def qMq:ECt where
 α:=List UInt8×List UInt8
 β:=Bool
 aS:=fun (a,b)=>[.t (.sl (a.map qA)),.t (.sl (b.map qA))]
 pre:=fun (a,b)=>a.length≤4096∧b.length≤4096
 r:=fun r=> .t (.bool r)
 R:=fun (a,b) r=>True
theorem zU4 {g:EF qMq}{a b:List UInt8}(hp:a.length≤4096∧b.length≤4096) : ∃ (r:Bool),(True)∧qMq.fs g [.t (.sl (a.map qA)),.t (.sl (b.map qA))] []=some (.t (.bool r),[]):=qMq.eq g (a,b) hp
theorem zX2 {a b:List UInt8}(r:Bool)(hR:True)(hV:vv = .t (.bool r))(hO:oo=[]):qMq.K (a,b) vv oo:=⟨r,hR,hV,hO⟩
theorem zFq {g1}(h1:LkE tab 283 qNm g1)(a b:List UInt8)(hp:a.length≤4096∧b.length≤4096) :
  qEc.1.wp tab gl (qD 0 [.t (.sl (a.map qA)),.t (.sl (b.map qA))]) (qD 0 []) (qY [(4,none)] 0 (qMq.K (a,b))):=by
 obtain⟨x,hx,e1⟩:=zVw (g:=g1) hp.1;obtain⟨y,hy,e2⟩:=zVw (g:=g1) hp.2;by_cases c:x.length=y.length
 ·simp +contextual(disch:=omega)only[go_sem,qEc,h1,e1,e2,c,↓qB,↓qC,qN];refine qW (σ:=Nat) (fun k=>k≤y.length) (fun k=>y.length-k) (fun k=>[(5,.t (.sl (x.map qA))),(6,.t (.sl (y.map qA))),(7,.t (.int .i64 k))]) (fun _=>[]) 0 oM ?_ ?_
  ·refine qI.rd id ?_ ?_ rfl;all_goals simp(disch:=omega)only[go_sem,id]
  ·intro k hk;by_cases hlt:k<y.length
   ·simp +contextual(disch:=omega)only[go_sem,hlt,c,↓qB,↓qC,qN];repeat' (first | apply And.intro | intro _)
    ·rfl
    ·rfl
    ·exact zX2 _ trivial rfl rfl
    ·refine qAf.of (k+1) oM oM (qI.rd id ?_ ?_ rfl);all_goals simp(disch:=omega)only[go_sem,id]
   ·simp +contextual(disch:=omega)only[go_sem,hlt,c,↓qB,↓qC,qN];exact zX2 _ trivial rfl rfl
 ·simp +contextual(disch:=omega)only[go_sem,qEc,h1,e1,e2,c,↓qB,↓qC,qN];exact zX2 _ trivial rfl rfl
def qLt:ECt where
 α:=Int×List UInt8×List UInt8
 β:=Bool
 aS:=fun (o,a,b)=>[.t (.int .i64 o),.t (.sl (a.map qA)),.t (.sl (b.map qA))]
 pre:=fun (o,a,b)=>a.length≤4096∧b.length≤4096
 r:=fun r=> .t (.bool r)
 R:=fun (o,a,b) r=>True
theorem jCd {g:EF qLt}{o:Int}{a b:List UInt8}(hp:a.length≤4096∧b.length≤4096) : ∃ (r:Bool),(True)∧qLt.fs g [.t (.int .i64 o),.t (.sl (a.map qA)),.t (.sl (b.map qA))] []=some (.t (.bool r),[]):=qLt.eq g (o,a,b) hp
theorem jIo {o:Int}{a b:List UInt8}(r:Bool)(hR:True)(hV:vv = .t (.bool r))(hO:oo=[]):qLt.K (o,a,b) vv oo:=⟨r,hR,hV,hO⟩
theorem qV8 {g1}(h1:LkE tab 282 qMq g1)(o:Int)(a b:List UInt8)(hp:a.length≤4096∧b.length≤4096) :
  qDf.1.wp tab gl (qD 0 [.t (.int .i64 o),.t (.sl (a.map qA)),.t (.sl (b.map qA))]) (qD 0 []) (qY [(6,none)] 0 (qLt.K (o,a,b))):=by
 obtain⟨x,hx,e1⟩:=zU4 (g:=g1) hp;obtain⟨y,hy,e2⟩:=zU4 (g:=g1) hp.symm;simp +contextual(disch:=omega)only[go_sem,qDf,h1,e1,e2,↓qB,↓qC,qN];repeat' (first | apply And.intro | intro _)
 all_goals exact jIo _ trivial rfl rfl
inductive As where
 | reg (s0 s1:Int) (d:List UInt8)
 | alt (bs:List (List UInt8))
def As.Ok:As→Prop
 | .reg s0 s1 d=>(0≤s0∧s0≤65535)∧(0≤s1∧s1≤65535)∧d.length=32
 | .alt bs=>(2≤bs.length∧bs.length≤8) ∧ ∀ b∈bs,b.length=32
def z32:List UInt8:=List.replicate 32 0
theorem qQs:z32.length=32:=rfl
theorem qKh : ∀ {fs:List (List UInt8)} {t n:Nat},(∀ x∈fs,x.length≤n)→(jS t fs).length≤1+(4+n)*fs.length:=by
 intro fs
 induction fs with
 | nil=>intro t n _;simp[jS]
 | cons x r ih=>
  intro t n h;have h1:=h x sM;have h2:=ih (t:=t) (fun y hy=>h y (by simp[hy]));simp only[jS,List.length_cons,List.flatMap_cons,List.length_append,qXo] at h2 ⊢;rw[Nat.mul_add];omega
def qWv:Ct where
 α:=Unit
 aS _:=[]
 ins _:=[]
 pre _:=True
 r _:= .sl 0 0 32
 outs _:=[.live 1 ((z32.map qA).map V.t) true false]
 inj:=fun _ _ _ _=>⟨rfl,rfl⟩
theorem zMz:qWv.fs [] []=some (.sl 0 0 32,[.live 1 ((z32.map qA).map V.t) true false]):=qWv.eq () trivial
theorem zDe:qGw.1.wp tab gl (qD 0 []) (qD 0 []) (xU [] [(0,none)] 0 (fun r o=>r = .sl 0 0 32∧o=[.live 1 ((z32.map qA).map V.t) true false])):=by
 simp(disch:=omega)only[go_sem,qGw,z32]
def jBv:List UInt8:=[97,117,116,104,101,110,116,105,99,97,116,101]
def jA6 (k no ad c:List UInt8):List UInt8:=zAw (drv k jBv no 32) (jS 0 [ad,no,c])
theorem qUa {k no ad c:List UInt8}:(jA6 k no ad c).length=32:=qDx
theorem zW1 {k no:List UInt8}(h:k.length≤64∧no.length≤64):qAd.fs [.t (.sl (k.map qA)),.t (qKm [97,117,116,104,101,110,116,105,99,97,116,101]),.t (.sl (no.map qA)),.t (.int .i64 32)] []=some (.t (.sl ((drv k jBv no 32).map qA)),[]):=qQw (l:=jBv) (n:=32) ⟨h.1,by decide,oM,oM,oM⟩
def qLf:Ct where
 α:=List UInt8×List UInt8×List UInt8×List UInt8
 aS x:=[.t (.sl (x.1.map qA)),.t (.sl (x.2.1.map qA)),.t (.sl (x.2.2.1.map qA)),.t (.sl (x.2.2.2.map qA))]
 ins _:=[]
 pre x:=x.1.length≤64∧x.2.1.length≤64∧x.2.2.1.length≤1000000∧x.2.2.2.length≤1000000
 r _:= .sl 0 0 32
 outs x:=[.live 1 (((jA6 x.1 x.2.1 x.2.2.1 x.2.2.2).map qA).map V.t) true false]
 inj:=by
  rintro⟨a,b,c,d⟩ ⟨e,f,g,i⟩ h _;simp only[List.cons.injEq,V.t.injEq,T.sl.injEq,true_and,and_true,yC] at h;obtain⟨rfl,rfl,rfl,rfl⟩:=h;exact⟨rfl,rfl⟩
theorem zKn {k no ad c:List UInt8}(h:k.length≤64∧no.length≤64∧ad.length≤1000000∧c.length≤1000000):qLf.fs [.t (.sl (k.map qA)),.t (.sl (no.map qA)),.t (.sl (ad.map qA)),.t (.sl (c.map qA))] []=some (.sl 0 0 32,[.live 1 (((jA6 k no ad c).map qA).map V.t) true false]):=qLf.eq (k,no,ad,c) h
theorem zLu {t:Nat}{x y z:List UInt8}(hx:x.length≤1000000)(hy:y.length≤1000000)(hz:z.length≤1000000):(jS t [x,y,z]).length<100000000:=by
 simp only[jS,List.flatMap_cons,List.flatMap_nil,List.length_cons,List.length_append,List.length_nil,qXo];omega
theorem zJ0 (h1:LkC tab 43 qAd)(h2:LkC tab 191 xI)(h3:LkC tab 83 qQv)(k no ad c:List UInt8)(h:k.length≤64∧no.length≤64∧ad.length≤1000000∧c.length≤1000000) :
  qLc.1.wp tab gl (qD 0 [.t (.sl (k.map qA)),.t (.sl (no.map qA)),.t (.sl (ad.map qA)),.t (.sl (c.map qA))]) (qD 0 []) (xU [] [(8,none)] 0 (fun r o=>r = .sl 0 0 32∧o=[.live 1 (((jA6 k no ad c).map qA).map V.t) true false])):=by
 obtain⟨hk,hn,ha,hc⟩:=h;have hD:=zW1 (k:=k) (no:=no) ⟨hk,hn⟩;have hl:=zLu (t:=0) (x:=ad) (y:=no) (z:=c) ha oM hc;have hF:=qOp (t:=0) (fs:=[ad,no,c]) ⟨oM,oM⟩;have hM:=zG4 (k:=drv k jBv no 32) (b:=jS 0 [ad,no,c]) ⟨by rw[qBb];omega,oM⟩;have hT:zAw (drv k jBv no 32) (jS 0 [ad,no,c])=jA6 k no ad c:=rfl;rw[hT] at hM;generalize jS 0 [ad,no,c]=f at *;have tf:List.take f.length f=f:=List.take_length;simp only[mcn,zD0] at hF;rw[show ((0:Nat):Int)=0 from rfl] at hF;generalize jA6 k no ad c=t at *;simp(disch:=omega)only[go_sem,qLc,h1,h2,h3,hD,hF,hM,tf];all_goals rfl
def u8I (n:Int):UInt8:=UInt8.ofNat (n%256).toNat
theorem u8w {n:Int}:T.int .u8 (IntKind.u8.wrap n)=qA (u8I n):=by
 unfold qA u8I;rw[qKa];congr 1;have h0:=Int.emod_nonneg n (b:=256) (by decide);have h1:=Int.emod_lt_of_pos n (b:=256) (by decide);rw[UInt8.toNat_ofNat'];omega
theorem qHw {b x:List UInt8}(h:b.length<100000000∧x.length≤65535) : ∃ y:List UInt8,y.length=b.length+2+x.length∧qG3.fs [.t (.sl (b.map qA)),.t (.sl (x.map qA))] []=some (.sl 0 0 y.length,[.live 1 ((y.map qA).map V.t) true false]):=
 ⟨_,zKm,by rw[zWn h,zKm]⟩
theorem qEk {b:List UInt8}{k:Nat}{n:Int}(hb:b.length<1000000000∧1≤k∧k≤8) : ∃ y:List UInt8,y.length=b.length+k∧vN.fs [.t (.sl (b.map qA)),.t (.int .i64 k),.t (.int .i64 n)] []=some (.sl 0 0 y.length,[.live 1 ((y.map qA).map V.t) true false]):=
 ⟨b++beI k n k,by simp[beI],by have e:=vN.eq (b,k,n) hb;rw[show (b++beI k n k).length=b.length+k by simp[beI]];exact e⟩
theorem qOs {t:Nat}{fs:List (List UInt8)}(ht:t<256)(h1:fs.length≤1000)(h2 : ∀ x∈fs,x.length≤100000) : ∃ y:List UInt8,y.length=32∧xP.fs [.t (.int .i64 t),.t (.sl (fs.map bsT))] []=some (.sl 0 0 y.length,[.live 1 ((y.map qA).map V.t) true false]):=by
 refine⟨zEk t fs,qO,?_⟩;have hl:=qKh (t:=t) h2;have:(4+100000)*fs.length≤(4+100000)*1000:=Nat.mul_le_mul_left _ h1;have e:=xP.eq (t,fs) ⟨ht,by show (jS t fs).length<_;omega⟩;rw[show (zEk t fs).length=32 from qO];exact e
theorem zXc {t:Nat}{fs:List (List UInt8)}(ht:t<256)(h1:fs.length≤1000)(h2 : ∀ x∈fs,x.length≤100000) : ∃ y:List UInt8,y.length≤200000000∧xI.fs [.t (.int .i64 t),.t (.sl (fs.map bsT))] []=some (.sl 0 0 y.length,[.live 1 ((y.map qA).map V.t) true false]):=by
 have hl:=qKh (t:=t) h2;have:(4+100000)*fs.length≤(4+100000)*1000:=Nat.mul_le_mul_left _ h1;exact⟨jS t fs,oM,qOp ⟨ht,oM⟩⟩
theorem jGc {b:List UInt8}(h:b.length<1000000000) : ∃ y:List UInt8,y.length=32∧(qHx 32 jY).fs [.t (.sl (b.map qA))] []=some (.sl 0 0 y.length,[.live 1 ((y.map qA).map V.t) true false]):=
 ⟨jY b,qO,by rw[qW5 h,qO]⟩
theorem zH9 {k l c:List UInt8}{n:Nat}(h:k.length≤64∧l.length<100000000∧c.length<100000000∧1≤n∧n≤1024) : ∃ y:List UInt8,y.length=n∧qAd.fs [.t (.sl (k.map qA)),.t (qKm l),.t (.sl (c.map qA)),.t (.int .i64 n)] []=some (.t (.sl (y.map qA)),[]):=
 ⟨_,qBb,qQw h⟩
theorem zNh {s:Rd}{k:Nat}(h:qN2 s)(hk:1≤k∧k≤8) : ∃ (n:Int) (b:List UInt8) (a:Nat) (e:Int),(0≤n∧n<9223372036854775808)∧qN2 (b,a,e)∧qP0.fs [.ref 0 0 0,.t (.int .i64 k)] [rdO s]=some (.t (.int .i64 n),[rdO (b,a,e)]):=
 ⟨_,_,_,_,zHf,zM6 h,zNg ⟨h,hk⟩⟩
theorem qN0 {s:Rd}{k:Nat}(h:qN2 s)(hk:k≤65535) : ∃ (y b:List UInt8) (a:Nat) (e:Int),y.length≤k∧qN2 (b,a,e)∧qG4.fs [.ref 0 0 0,.t (.int .i64 k)] [rdO s]=some (.t (.sl (y.map qA)),[rdO (b,a,e)]):=
 ⟨_,_,_,_,zM4,zM5 h,zRx ⟨h,hk⟩⟩
theorem jFe {s:Rd}{k:Nat}(h:qN2 s)(hk:k≤1000000000) : ∃ (y b:List UInt8) (a:Nat) (e:Int),y.length≤k∧qN2 (b,a,e)∧qS5.fs [.ref 0 0 0,.t (.int .i64 k)] [rdO s]=some (.t (.sl (y.map qA)),[rdO (b,a,e)]):=
 ⟨_,_,_,_,zRz,zR0 h,zZi ⟨h,hk⟩⟩
def qJu:ECt where
 α:=Int
 β:=Int
 aS:=fun k=>[.t (.int .i64 k)]
 pre:=fun k=>True
 r:=fun r'=> .t (.int .i64 r')
 R:=fun k r'=>r'=if k=2 then 17 else 32
theorem zV3 {g:EF qJu}{k:Int}:qJu.fs g [.t (.int .i64 k)] []=some (.t (.int .i64 (if k=2 then 17 else 32)),[]):=fnQ qJu k trivial
theorem jGr {k:Int}(hV:vv = .t (.int .i64 (if k=2 then 17 else 32)))(hO:oo=[]):qJu.K k vv oo:=⟨_,rfl,hV,hO⟩
theorem qPm  (k:Int) :
  xK.1.wp tab gl (qD 0 [.t (.int .i64 k)]) (qD 0 []) (qY [(2,none)] 0 (qJu.K k)):=by
 simp +contextual(maxSteps:=9^9)(disch:=try exact dS)only[go_sem,xK,↓qB,↓qC,qN];repeat' (first | apply And.intro | intro _)
 ·exact jGr rfl rfl
 ·rename_i c;exact jGr (by rw[if_neg c]) rfl
def qHg:ECt where
 α:=Pu
 β:=Int
 aS:=fun p=>[.t (puA p)]
 pre:=fun p=>p.po.length≤100000∧p.un.length≤100000
 r:=fun e=> .t (.int .i64 e)
 R:=fun p e=>e=0→p.Ok
theorem zM1 {g:EF qHg}{p:Pu}(hp:p.po.length≤100000∧p.un.length≤100000) : ∃ (e:Int),(e=0→p.Ok)∧qHg.fs g [.t (puA p)] []=some (.t (.int .i64 e),[]):=qHg.eq g p hp
theorem zRw {p:Pu}(e:Int)(hR:e=0→p.Ok)(hV:vv = .t (.int .i64 e))(hO:oo=[]):qHg.K p vv oo:=⟨e,hR,hV,hO⟩
theorem qYw {g1}(h1:LkE tab 220 qJu g1)(p:Pu)(hp:p.po.length≤100000∧p.un.length≤100000) :
  qEr.1.wp tab gl (qD 0 [.t (puA p)]) (qD 0 []) (qY [(2,none)] 0 (qHg.K p)):=by
 simp +contextual(maxSteps:=9^9)(disch:=try exact dS)only[go_sem,qEr,puA,h1,zV3,↓qB,↓qC,qN]
 (repeat' (first | apply And.intro | intro _))<;>(try rfl)
 all_goals first | exact zRw 1 oM rfl rfl | exact zRw 19 oM rfl rfl | exact zRw 20 oM rfl rfl | (refine zRw 0 ?_ rfl rfl;simp only[Pu.Ok];omega)
def qBe:ECt where
 α:=Pu
 β:=List UInt8
 aS:=fun p=>[.t (puA p)]
 pre:=fun p=>p.po.length≤40000∧p.un.length≤40000
 r:=fun b=> .sl 0 0 b.length
 outs:=fun b=>[.live 1 ((b.map qA).map V.t) true false]
 R:=fun p b=>b.length=p.po.length+p.un.length+7
theorem qTp {g:EF qBe}{p:Pu}(hp:p.po.length≤40000∧p.un.length≤40000) : ∃ (b:List UInt8),(b.length=p.po.length+p.un.length+7)∧qBe.fs g [.t (puA p)] []=some (.sl 0 0 b.length,[.live 1 ((b.map qA).map V.t) true false]):=qBe.eq g p hp
theorem jJ3 {p:Pu}(b:List UInt8)(hR:b.length=p.po.length+p.un.length+7)(hV:vv = .sl 0 0 b.length)(hO:oo=[.live 1 ((b.map qA).map V.t) true false]):qBe.K p vv oo:=⟨b,hR,hV,hO⟩
theorem qVh (h1:LkC tab 44 qG3)(p:Pu)(hp:p.po.length≤40000∧p.un.length≤40000) :
  qCz.1.wp tab gl (qD 0 [.t (puA p)]) (qD 0 []) (xU [] [(2,none)] 0 (qBe.K p)):=by
 obtain⟨y,hy,e1⟩:=qHw (b:=[u8I p.kd,u8I p.ar,u8I p.ht]) (x:=p.po) ⟨sM,oM⟩;simp only[List.length_cons,List.length_nil] at hy;obtain⟨z,hz,e2⟩:=qHw (b:=y) (x:=p.un) ⟨oM,oM⟩;simp only[mcn] at e1;simp +contextual(maxSteps:=9^9)(disch:=try exact dS)only[go_sem,qCz,puA,h1,u8w,e1,e2,List.take_length,↓qB,↓qC,qN];exact⟨rfl,jJ3 z oM rfl rfl⟩
def qBd:ECt where
 α:=Pu
 β:=List UInt8
 aS:=fun p=>[.t (puA p)]
 pre:=fun p=>p.po.length≤40000∧p.un.length≤40000
 r:=fun b=> .t (.sl (b.map qA))
 R:=fun p b=>b.length=32
theorem qTo {g:EF qBd}{p:Pu}(hp:p.po.length≤40000∧p.un.length≤40000) : ∃ (b:List UInt8),(b.length=32)∧qBd.fs g [.t (puA p)] []=some (.t (.sl (b.map qA)),[]):=qBd.eq g p hp
theorem jJy {p:Pu}(b:List UInt8)(hR:b.length=32)(hV:vv = .t (.sl (b.map qA)))(hO:oo=[]):qBd.K p vv oo:=⟨b,hR,hV,hO⟩
theorem zB0 {g1}(h1:LkE tab 171 qBe g1)(h2:LkC tab 231 xP)(p:Pu)(hp:p.po.length≤40000∧p.un.length≤40000) :
  qF6.1.wp tab gl (qD 0 [.t (puA p)]) (qD 0 []) (qY [(2,none)] 0 (qBd.K p)):=by
 obtain⟨b,hb,e1⟩:=qTp (g:=g1) hp;obtain⟨y,hy,e2⟩:=qOs (t:=6) (fs:=[b]) oM sM soM;simp only[mcn,bsT,puA] at e1 e2;rw[show ((6:Nat):Int)=6 from rfl] at e2;simp +contextual(maxSteps:=9^9)(disch:=try exact dS)only[go_sem,qF6,puA,h1,h2,e1,e2,List.take_length,↓qB,↓qC,qN];exact jJy y hy rfl rfl
def qM7:ECt where
 α:=Pu×Pu
 β:=Bool
 aS:=fun (p,q)=>[.t (puA p),.t (puA q)]
 pre:=fun (p,q)=>p=q∧p.po.length≤100000∧p.un.length≤100000
 r:=fun b=> .t (.bool b)
 R:=fun (p,q) b=>b=true
theorem jEu {g:EF qM7}{p q:Pu}(hp:p=q∧p.po.length≤100000∧p.un.length≤100000) : ∃ (b:Bool),(b=true)∧qM7.fs g [.t (puA p),.t (puA q)] []=some (.t (.bool b),[]):=qM7.eq g (p,q) hp
theorem jJ4 {p q:Pu}(b:Bool)(hR:b=true)(hV:vv = .t (.bool b))(hO:oo=[]):qM7.K (p,q) vv oo:=⟨b,hR,hV,hO⟩
theorem zB1 (h1:LkC tab 20 wA)(p q:Pu)(hp:p=q∧p.po.length≤100000∧p.un.length≤100000) :
  qF7.1.wp tab gl (qD 0 [.t (puA p),.t (puA q)]) (qD 0 []) (qY [(4,none)] 0 (qM7.K (p,q))):=by
 obtain⟨rfl,h2,h3⟩:=hp;have e1:=yG (a:=p.po) (b:=p.po) ⟨oM,oM⟩;have e2:=yG (a:=p.un) (b:=p.un) ⟨oM,oM⟩;simp +contextual(maxSteps:=9^9)(disch:=try exact dS)only[go_sem,qF7,puA,h1,e1,e2,↓qB,↓qC,qN];exact jJ4 true rfl rfl rfl
theorem zVm {s:Rd}(h:qN2 s):qLh.fs [.ref 0 0 0] [rdO s]=some (.t (.int .i64 (qU7 s)),[rdO s]):=zNd h
def qJm:ECt where
 α:=List UInt8
 β:=Pu×Int
 aS:=fun b=>[.t (.sl (b.map qA))]
 pre:=fun b=>b.length<1000000000
 r:=fun (p,e)=> .tup [.t (puA p),.t (.int .i64 e)]
 R:=fun b (p,e)=>e=0→p.Ok
theorem zVj {g:EF qJm}{b:List UInt8}(hp:b.length<1000000000) : ∃ (p:Pu) (e:Int),(e=0→p.Ok)∧qJm.fs g [.t (.sl (b.map qA))] []=some (.tup [.t (puA p),.t (.int .i64 e)],[]):=by
 obtain⟨y,h1,h2⟩:=qJm.eq g b hp;exact⟨y.1,y.2,h1,h2⟩
theorem zYs {b:List UInt8}(p:Pu)(e:Int)(hR:e=0→p.Ok)(hV:vv = .tup [.t (puA p),.t (.int .i64 e)])(hO:oo=[]):qJm.K b vv oo:=⟨(p,e),hR,hV,hO⟩
theorem qVg (h1:LkC tab 56 qLi)(h2:LkC tab 57 qP0)(h3:LkC tab 59 qG4)(h4:LkC tab 62 qLh){g5}(h5:LkE tab 221 qHg g5)(b:List UInt8)(hp:b.length<1000000000) :
  qCy.1.wp tab gl (qD 0 [.t (.sl (b.map qA))]) (qD 0 []) (qY [(2,(some (5,true))),(3,none)] 0 (qJm.K b)):=by
 have e1:=qYc hp;obtain⟨k1,b1,a1,r1,i1,o1,e2⟩:=zNh (s:=(b,0,0)) (k:=1) ⟨sM,hp⟩ oM;obtain⟨k2,b2,a2,r2,i2,o2,e3⟩:=zNh (k:=1) o1 oM;obtain⟨k3,b3,a3,r3,i3,o3,e4⟩:=zNh (k:=1) o2 oM;obtain⟨y,b4,a4,r4,i4,o4,e5⟩:=qN0 (k:=32) o3 oM;obtain⟨z,b5,a5,r5,i5,o5,e6⟩:=qN0 (k:=32) o4 oM;have e7:=zNd o5;obtain⟨q,h,e8⟩:=zM1 (g:=g5) (p:=⟨k1,k2,k3,y,z⟩) (by simp only;omega);simp only[rdO,Int.ofNat_zero,puA] at e1 e2 e3 e4 e5 e6 e7 e8;rw[show ((1:Nat):Int)=1 from rfl] at e2 e3 e4;rw[show ((32:Nat):Int)=32 from rfl] at e5 e6;generalize qU7 (b5,a5,r5)=w at *;simp +contextual(maxSteps:=9^9)(disch:=try exact dS)only[go_sem,qCy,puA,h1,h2,h3,h4,h5,e1,e2,e3,e4,e5,e6,e7,e8,↓qB,↓qC,qN];repeat' (first | apply And.intro | intro _)
 ·exact zYs default q oM rfl rfl
 ·exact zYs ⟨k1,k2,k3,y,z⟩ 0 (fun _=>h ‹_›) rfl rfl
 ·exact zYs default w oM rfl rfl
def qL9:ECt where
 α:=Ix
 β:=List UInt8
 aS:=fun x=>[.t (ixA x)]
 pre:=fun x=>True
 r:=fun b=> .t (.sl (b.map qA))
 R:=fun x b=>b.length≤10
theorem jDf {g:EF qL9}{x:Ix} : ∃ (b:List UInt8),(b.length≤10)∧qL9.fs g [.t (ixA x)] []=some (.t (.sl (b.map qA)),[]):=qL9.eq g x trivial
theorem jI8 {x:Ix}(b:List UInt8)(hR:b.length≤10)(hV:vv = .t (.sl (b.map qA)))(hO:oo=[]):qL9.K x vv oo:=⟨b,hR,hV,hO⟩
theorem qQh (h1:LkC tab 42 vN)(x:Ix) :
  qAk.1.wp tab gl (qD 0 [.t (ixA x)]) (qD 0 []) (qY [(2,none)] 0 (qL9.K x)):=by
 obtain⟨y,hy,e1⟩:=qEk (b:=[u8I x.n,u8I x.kd,u8I x.ar]) (k:=2) (n:=x.sz) sM;simp only[mcn] at e1;simp only[List.length_cons,List.length_nil] at hy;rw[show ((2:Nat):Int)=2 from rfl] at e1;simp +contextual(maxSteps:=9^9)(disch:=try exact dS)only[go_sem,qAk,ixA,h1,u8w,e1,↓qB,↓qC,qN]
 (repeat' (first | apply And.intro | intro _))<;>(try rfl)
 all_goals exact jI8 _ soM rfl rfl
def qJa:ECt where
 α:=Ix
 β:=List UInt8
 aS:=fun x=>[.t (ixA x)]
 pre:=fun x=>x.po.length≤40000
 r:=fun b=> .t (.sl (b.map qA))
 R:=fun x b=>b.length=32
theorem zU0 {g:EF qJa}{x:Ix}(hp:x.po.length≤40000) : ∃ (b:List UInt8),(b.length=32)∧qJa.fs g [.t (ixA x)] []=some (.t (.sl (b.map qA)),[]):=qJa.eq g x hp
theorem jJb {x:Ix}(b:List UInt8)(hR:b.length=32)(hV:vv = .t (.sl (b.map qA)))(hO:oo=[]):qJa.K x vv oo:=⟨b,hR,hV,hO⟩
theorem qQg {g1}(h1:LkE tab 263 qL9 g1)(h2:LkC tab 231 xP)(x:Ix)(hp:x.po.length≤40000) :
  qAj.1.wp tab gl (qD 0 [.t (ixA x)]) (qD 0 []) (qY [(2,none)] 0 (qJa.K x)):=by
 obtain⟨b,hb,e1⟩ := @jDf g1 x;obtain⟨y,hy,e2⟩:=qOs (t:=7) (fs:=[b,x.po]) oM sM soM;simp only[mcn,bsT,ixA] at e1 e2;rw[show ((7:Nat):Int)=7 from rfl] at e2;simp +contextual(maxSteps:=9^9)(disch:=try exact dS)only[go_sem,qAj,ixA,h1,h2,e1,e2,List.take_length,↓qB,↓qC,qN];exact⟨rfl,jJb y hy rfl rfl⟩
def qL5:ECt where
 α:=Int
 β:=List UInt8
 aS:=fun h=>[.t (.int .i64 h)]
 pre:=fun h=>True
 r:=fun b=> .t (.sl (b.map qA))
 R:=fun h b=>b.length≤32
theorem jCx {g:EF qL5}{h:Int} : ∃ (b:List UInt8),(b.length≤32)∧qL5.fs g [.t (.int .i64 h)] []=some (.t (.sl (b.map qA)),[]):=qL5.eq g h trivial
theorem jCw {h:Int}(b:List UInt8)(hR:b.length≤32)(hV:vv = .t (.sl (b.map qA)))(hO:oo=[]):qL5.K h vv oo:=⟨b,hR,hV,hO⟩
theorem qJ9 (h1:LkC tab 231 xP)(h:Int) :
  wP.1.wp tab gl (qD 0 [.t (.int .i64 h)]) (qD 0 []) (qY [(2,none)] 0 (qL5.K h)):=by
 obtain⟨y,hy,e2⟩:=qOs (t:=11) (fs:=[[u8I h]]) oM sM sM;simp only[mcn,bsT] at e2;rw[show ((11:Nat):Int)=11 from rfl] at e2;simp +contextual(maxSteps:=9^9)(disch:=try exact dS)only[go_sem,wP,h1,e2,u8w,List.take_length,↓qB,↓qC,qN]
 (repeat' (first | apply And.intro | intro _))<;>(try rfl)
 all_goals first | exact jCw [] sM rfl rfl | exact jCw y oM rfl rfl
end Go.Eng
end
