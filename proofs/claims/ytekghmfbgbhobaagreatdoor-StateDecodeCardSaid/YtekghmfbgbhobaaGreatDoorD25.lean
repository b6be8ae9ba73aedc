/- A part of an abstract machine, its walks, their tie. -/
import Derived.Test.YtekghmfbgbhobaaGreatDoorD22
import Derived.Test.YtekghmfbgbhobaaGreatDoorD16
set_option linter.all false
section
set_option maxHeartbeats 64000000
set_option maxRecDepth 20000
namespace Go.Eng
variable {vv:V} {oo:List Ob}
structure Sl2 where
 a:Int
 b:Int
 deriving Inhabited
structure Att where
 key:List UInt8
 no:List UInt8
 res:Int
 rst:Int
 clk:Int
 safe:Bool
 u:Int
 s0:Int
 s1:Int
 dg:List UInt8
 deriving Inhabited
structure Rr where
 bk:List zB
 u:Int
 deriving Inhabited
def jAt (x:Sl2):T:= .agg [.int .i64 x.a,.int .i64 x.b]
def zUe (x:Att):T:= .agg [.sl (x.key.map qA),.sl (x.no.map qA),.int .i64 x.res,.int .i64 x.rst,.int .i64 x.clk,.bool x.safe,.int .i64 x.u,.int .i64 x.s0,.int .i64 x.s1,.sl (x.dg.map qA)]
def rrA (x:Rr):T:= .agg [.sl (x.bk.map yS),.int .i64 x.u]
theorem jLi:EI jAt:=qDt (by rintro⟨⟩ ⟨⟩ h;simp only[jAt,zAy] at h;obtain⟨rfl,rfl⟩:=h;rfl)
theorem jG2:EI zUe:=qDt (by rintro⟨⟩ ⟨⟩ h;simp only[zUe,zAy] at h;obtain⟨rfl,rfl,rfl,rfl,rfl,rfl,rfl,rfl,rfl,rfl⟩:=h;rfl)
theorem jPt:EI rrA:=qDt (by rintro⟨⟩ ⟨⟩ h;simp only[rrA,zAy] at h;obtain⟨rfl,rfl⟩:=h;rfl)
theorem jVs:EI jAt∧EI zUe∧EI rrA:=⟨jLi,jG2,jPt⟩
def Asr.B (a:Asr):Prop:=a.dg.length≤4000∧a.od.length≤4000∧a.nm.length≤4000∧a.rf.length≤4000∧a.br.length≤8 ∧ ∀ x∈a.br,x.length≤4000
def Rq.B (q:Rq):Prop:=q.hs.length≤8∧q.au.length≤8∧q.ns.length≤8∧q.bl.length≤8∧(∀ x∈q.bl,x.length≤4000) ∧ ∀ a∈q.au,a.no.length≤4000∧a.va.length≤4000
def jNl:List (Int×Int×Int×Int):=[(-2,0,0,0),(0,0,1,0),(0,0,1,0),(-2,0,0,0),(0,0,0,0),(0,0,2,0),(0,0,1,2),(0,0,1,1),(0,0,1,0),
 (1,1,3,3),(1,1,3,3),(1,1,0,2),(0,0,1,0),(1,1,0,0),(1,1,0,1),(1,1,2,1),(0,0,1,0),(0,0,6,-1),(1,1,2,1),(0,0,1,3),(0,0,1,0),
 (1,1,4,2),(1,1,1,0),(2,1,1,1),(2,1,2,0),(2,1,0,0),(2,1,0,1),(2,1,0,1),(2,1,0,0),(2,1,0,0),(1,1,0,1),(1,1,0,0),(1,1,0,0),(1,1,3,0)]
def qG6 (c:Int):Int×Int×Int×Int:=if c<0∨34≤c then (-2,0,0,0) else jNl.getD c.toNat (-2,0,0,0)
structure Rq.Ok (q:Rq):Prop where
 co:(0≤q.co∧q.co<34)∧(qG6 q.co).1 ≠ -2
 hs:(q.hs.length:Int)=(qG6 q.co).1 ∧ ∀ x∈q.hs,0≤x∧x≤65535
 au:(q.au.length:Int)=(qG6 q.co).2.1 ∧ ∀ a∈q.au,tmI a.s∧a.no.length≤128∧a.va.length≤128
 ns:(q.ns.length:Int)=(qG6 q.co).2.2.1 ∧ ∀ x∈q.ns,tmI x
 bl:((q.bl.length:Int)=(qG6 q.co).2.2.2∨(qG6 q.co).2.2.2 = -1∧q.bl.length≤8) ∧ ∀ x∈q.bl,x.length≤1024
def Rq.h0 (q:Rq):Int:=q.hs.getD 0 0
def Rq.h1 (q:Rq):Int:=q.hs.getD 1 0
def Rq.Al (q:Rq)(s:St):Prop:=(q.co=9→0≤q.h0∧q.h0≤2)∧(q.co=10∨q.co=11∨q.co=13∨q.co=14∨q.co=15→0≤slP s.obs q.h0 0)∧(q.co=30→0≤q.h0∧q.h0≤3)∧(23≤q.co∧q.co≤29→0≤ixP s.a.ix q.h1 0)
def St.Go (k:Int)(s t:St):Prop:=t.Ok∧s.up k t
def St.lkd (s:St)(l:Lk):St := { s with a := { s.a with lk:=l } }
def qKy:ECt where
 α:=List UInt8
 β:=List Int
 aS:=fun m=>[.t (.sl (m.map qA))]
 pre:=fun m=>m.length≤100000
 r:=fun r=> .t (.sl (r.map iT))
 R:=fun m r=>r.length=35 ∧ ∀ x∈r,0≤x∧x≤15
theorem zZb {g:EF qKy}{m:List UInt8}(hp:m.length≤100000) : ∃ (r:List Int),(r.length=35 ∧ ∀ x∈r,0≤x∧x≤15)∧qKy.fs g [.t (.sl (m.map qA))] []=some (.t (.sl (r.map iT)),[]):=qKy.eq g m hp
theorem jN8 {m:List UInt8}(r:List Int)(hR:r.length=35 ∧ ∀ x∈r,0≤x∧x≤15)(hV:vv = .t (.sl (r.map iT)))(hO:oo=[]):qKy.K m vv oo:=⟨r,hR,hV,hO⟩
def qD7:ECt where
 α:=Int×Int×Int×Int×List UInt8
 β:=List UInt8
 aS:=fun (l,c,a,b,x)=>[.t (.int .i64 l),.t (.int .i64 c),.t (.int .i64 a),.t (.int .i64 b),.t (.sl (x.map qA))]
 pre:=fun (l,c,a,b,x)=>x.length=16∧0≤a∧b≤15
 r:=fun r=> .t (.sl (r.map qA))
 R:=fun (l,c,a,b,x) r=>r.length=16
theorem zIo {g:EF qD7}{l c a b:Int}{x:List UInt8}(hp:x.length=16∧0≤a∧b≤15) : ∃ (r:List UInt8),(r.length=16)∧qD7.fs g [.t (.int .i64 l),.t (.int .i64 c),.t (.int .i64 a),.t (.int .i64 b),.t (.sl (x.map qA))] []=some (.t (.sl (r.map qA)),[]):=qD7.eq g (l,c,a,b,x) hp
theorem jLo {l c a b:Int}{x:List UInt8}(r:List UInt8)(hR:r.length=16)(hV:vv = .t (.sl (r.map qA)))(hO:oo=[]):qD7.K (l,c,a,b,x) vv oo:=⟨r,hR,hV,hO⟩
def qLj:ECt where
 α:=List UInt8×Int×Int
 β:=List UInt8
 aS:=fun (s,l,c)=>[.t (.sl (s.map qA)),.t (.int .i64 l),.t (.int .i64 c)]
 pre:=fun (s,l,c)=>s.length≤64
 r:=fun r=> .t (.sl (r.map qA))
 R:=fun (s,l,c) r=>r.length=16
theorem jAw {g:EF qLj}{s:List UInt8}{l c:Int}(hp:s.length≤64) : ∃ (r:List UInt8),(r.length=16)∧qLj.fs g [.t (.sl (s.map qA)),.t (.int .i64 l),.t (.int .i64 c)] []=some (.t (.sl (r.map qA)),[]):=qLj.eq g (s,l,c) hp
theorem jQd {s:List UInt8}{l c:Int}(r:List UInt8)(hR:r.length=16)(hV:vv = .t (.sl (r.map qA)))(hO:oo=[]):qLj.K (s,l,c) vv oo:=⟨r,hR,hV,hO⟩
def qK9:ECt where
 α:=Int×List UInt8
 β:=List UInt8
 aS:=fun (l,e)=>[.t (.int .i64 l),.t (.sl (e.map qA))]
 pre:=fun (l,e)=>e.length≤1000
 r:=fun r=> .t (.sl (r.map qA))
 R:=fun (l,e) r=>r.length=16
theorem zZ7 {g:EF qK9}{l:Int}{e:List UInt8}(hp:e.length≤1000) : ∃ (r:List UInt8),(r.length=16)∧qK9.fs g [.t (.int .i64 l),.t (.sl (e.map qA))] []=some (.t (.sl (r.map qA)),[]):=qK9.eq g (l,e) hp
theorem jPa {l:Int}{e:List UInt8}(r:List UInt8)(hR:r.length=16)(hV:vv = .t (.sl (r.map qA)))(hO:oo=[]):qK9.K (l,e) vv oo:=⟨r,hR,hV,hO⟩
def qOm:ECt where
 α:=List UInt8×Int
 β:=List UInt8
 aS:=fun (s,l)=>[.t (.sl (s.map qA)),.t (.int .i64 l)]
 pre:=fun (s,l)=>s.length≤64
 r:=fun r=> .t (.sl (r.map qA))
 R:=fun (s,l) r=>r.length≤16
theorem jJu {g:EF qOm}{s:List UInt8}{l:Int}(hp:s.length≤64) : ∃ (r:List UInt8),(r.length≤16)∧qOm.fs g [.t (.sl (s.map qA)),.t (.int .i64 l)] []=some (.t (.sl (r.map qA)),[]):=qOm.eq g (s,l) hp
theorem jDj {s:List UInt8}{l:Int}(r:List UInt8)(hR:r.length≤16)(hV:vv = .t (.sl (r.map qA)))(hO:oo=[]):qOm.K (s,l) vv oo:=⟨r,hR,hV,hO⟩
def qOr:ECt where
 α:=List UInt8×Int×List UInt8
 β:=List UInt8
 aS:=fun (s,l,m)=>[.t (.sl (s.map qA)),.t (.int .i64 l),.t (.sl (m.map qA))]
 pre:=fun (s,l,m)=>s.length≤64∧m.length≤100000
 r:=fun r=> .t (.sl (r.map qA))
 R:=fun (s,l,m) r=>r.length≤560
theorem jJ0 {g:EF qOr}{s:List UInt8}{l:Int}{m:List UInt8}(hp:s.length≤64∧m.length≤100000) : ∃ (r:List UInt8),(r.length≤560)∧qOr.fs g [.t (.sl (s.map qA)),.t (.int .i64 l),.t (.sl (m.map qA))] []=some (.t (.sl (r.map qA)),[]):=qOr.eq g (s,l,m) hp
theorem jDn {s:List UInt8}{l:Int}{m:List UInt8}(r:List UInt8)(hR:r.length≤560)(hV:vv = .t (.sl (r.map qA)))(hO:oo=[]):qOr.K (s,l,m) vv oo:=⟨r,hR,hV,hO⟩
def qOq:ECt where
 α:=Int×List UInt8×List UInt8
 β:=List UInt8×Bool
 aS:=fun (l,m,sg)=>[.t (.int .i64 l),.t (.sl (m.map qA)),.t (.sl (sg.map qA))]
 pre:=fun (l,m,sg)=>m.length≤100000∧sg.length≤100000
 r:=fun (r,b)=> .tup [.t (.sl (r.map qA)),.t (.bool b)]
 R:=fun (l,m,sg) (r,b)=>r.length≤16
theorem jJz {g:EF qOq}{l:Int}{m sg:List UInt8}(hp:m.length≤100000∧sg.length≤100000) : ∃ (r:List UInt8) (b:Bool),(r.length≤16)∧qOq.fs g [.t (.int .i64 l),.t (.sl (m.map qA)),.t (.sl (sg.map qA))] []=some (.tup [.t (.sl (r.map qA)),.t (.bool b)],[]):=by
 obtain⟨y,h1,h2⟩:=qOq.eq g (l,m,sg) hp;exact⟨y.1,y.2,h1,h2⟩
theorem zWd {l:Int}{m sg:List UInt8}(r:List UInt8)(b:Bool)(hR:r.length≤16)(hV:vv = .tup [.t (.sl (r.map qA)),.t (.bool b)])(hO:oo=[]):qOq.K (l,m,sg) vv oo:=⟨(r,b),hR,hV,hO⟩
def qK0:ECt where
 α:=Int
 β:=Bool
 aS:=fun n=>[.t (.int .i64 n)]
 pre:=fun n=>True
 r:=fun r'=> .t (.bool r')
 R:=fun n r'=>r'=decide (n=1∨n=2∨n=4∨n=8)
theorem zZm {g:EF qK0}{n:Int}:qK0.fs g [.t (.int .i64 n)] []=some (.t (.bool (decide (n=1∨n=2∨n=4∨n=8))),[]):=fnQ qK0 n trivial
theorem zP0 {n:Int}(hV:vv = .t (.bool (decide (n=1∨n=2∨n=4∨n=8))))(hO:oo=[]):qK0.K n vv oo:=⟨_,rfl,hV,hO⟩
def qK4:ECt where
 α:=Int×Int×List UInt8×List UInt8
 β:=List UInt8
 aS:=fun (h,i,x,y)=>[.t (.int .i64 h),.t (.int .i64 i),.t (.sl (x.map qA)),.t (.sl (y.map qA))]
 pre:=fun (h,i,x,y)=>x.length≤1000∧y.length≤1000
 r:=fun r=> .t (.sl (r.map qA))
 R:=fun (h,i,x,y) r=>r.length=16
theorem zQt {g:EF qK4}{h i:Int}{x y:List UInt8}(hp:x.length≤1000∧y.length≤1000) : ∃ (r:List UInt8),(r.length=16)∧qK4.fs g [.t (.int .i64 h),.t (.int .i64 i),.t (.sl (x.map qA)),.t (.sl (y.map qA))] []=some (.t (.sl (r.map qA)),[]):=qK4.eq g (h,i,x,y) hp
theorem jOq {h i:Int}{x y:List UInt8}(r:List UInt8)(hR:r.length=16)(hV:vv = .t (.sl (r.map qA)))(hO:oo=[]):qK4.K (h,i,x,y) vv oo:=⟨r,hR,hV,hO⟩
def qLl:ECt where
 α:=Int×List (List UInt8)
 β:=List (List UInt8)
 aS:=fun (h,l)=>[.t (.int .i64 h),.t (.sl (l.map bsT))]
 pre:=fun (h,l)=>l.length≤8 ∧ ∀ x∈l,x.length≤16
 r:=fun r=> .t (.sl (r.map bsT))
 R:=fun (h,l) r=>r.length=l.length/2 ∧ ∀ x∈r,x.length≤16
theorem jA0 {g:EF qLl}{h:Int}{l:List (List UInt8)}(hp:l.length≤8 ∧ ∀ x∈l,x.length≤16) : ∃ (r:List (List UInt8)),(r.length=l.length/2 ∧ ∀ x∈r,x.length≤16)∧qLl.fs g [.t (.int .i64 h),.t (.sl (l.map bsT))] []=some (.t (.sl (r.map bsT)),[]):=qLl.eq g (h,l) hp
theorem jQl {h:Int}{l:List (List UInt8)}(r:List (List UInt8))(hR:r.length=l.length/2 ∧ ∀ x∈r,x.length≤16)(hV:vv = .t (.sl (r.map bsT)))(hO:oo=[]):qLl.K (h,l) vv oo:=⟨r,hR,hV,hO⟩
def qOz:ECt where
 α:=List (List UInt8)
 β:=List UInt8
 aS:=fun l=>[.t (.sl (l.map bsT))]
 pre:=fun l=>l.length≤8 ∧ ∀ x∈l,x.length≤16
 r:=fun r=> .t (.sl (r.map qA))
 R:=fun l r=>r.length≤16
theorem jKs {g:EF qOz}{l:List (List UInt8)}(hp:l.length≤8 ∧ ∀ x∈l,x.length≤16) : ∃ (r:List UInt8),(r.length≤16)∧qOz.fs g [.t (.sl (l.map bsT))] []=some (.t (.sl (r.map qA)),[]):=qOz.eq g l hp
theorem jKr {l:List (List UInt8)}(r:List UInt8)(hR:r.length≤16)(hV:vv = .t (.sl (r.map qA)))(hO:oo=[]):qOz.K l vv oo:=⟨r,hR,hV,hO⟩
def qOv:ECt where
 α:=Int×List (List UInt8)
 β:=List (List UInt8)
 aS:=fun (i,l)=>[.t (.int .i64 i),.t (.sl (l.map bsT))]
 pre:=fun (i,l)=>l.length≤8 ∧ ∀ x∈l,x.length≤16
 r:=fun r=> .t (.sl (r.map bsT))
 R:=fun (i,l) r=>r.length≤3 ∧ ∀ x∈r,x.length≤16
theorem jJ7 {g:EF qOv}{i:Int}{l:List (List UInt8)}(hp:l.length≤8 ∧ ∀ x∈l,x.length≤16) : ∃ (r:List (List UInt8)),(r.length≤3 ∧ ∀ x∈r,x.length≤16)∧qOv.fs g [.t (.int .i64 i),.t (.sl (l.map bsT))] []=some (.t (.sl (r.map bsT)),[]):=qOv.eq g (i,l) hp
theorem zWg {i:Int}{l:List (List UInt8)}(r:List (List UInt8))(hR:r.length≤3 ∧ ∀ x∈r,x.length≤16)(hV:vv = .t (.sl (r.map bsT)))(hO:oo=[]):qOv.K (i,l) vv oo:=⟨r,hR,hV,hO⟩
def qKv:ECt where
 α:=List UInt8×Int×List (List UInt8)
 β:=List UInt8
 aS:=fun (x,i,p)=>[.t (.sl (x.map qA)),.t (.int .i64 i),.t (.sl (p.map bsT))]
 pre:=fun (x,i,p)=>x.length≤16 ∧ ∀ x∈p,x.length≤16
 r:=fun r=> .t (.sl (r.map qA))
 R:=fun (x,i,p) r=>r.length≤16
theorem jHf {g:EF qKv}{x:List UInt8}{i:Int}{p:List (List UInt8)}(hp:x.length≤16 ∧ ∀ x∈p,x.length≤16) : ∃ (r:List UInt8),(r.length≤16)∧qKv.fs g [.t (.sl (x.map qA)),.t (.int .i64 i),.t (.sl (p.map bsT))] []=some (.t (.sl (r.map qA)),[]):=qKv.eq g (x,i,p) hp
theorem zHh {x:List UInt8}{i:Int}{p:List (List UInt8)}(r:List UInt8)(hR:r.length≤16)(hV:vv = .t (.sl (r.map qA)))(hO:oo=[]):qKv.K (x,i,p) vv oo:=⟨r,hR,hV,hO⟩
def qK7:ECt where
 α:=List UInt8×Int
 β:=List UInt8
 aS:=fun (s,h)=>[.t (.sl (s.map qA)),.t (.int .i64 h)]
 pre:=fun (s,h)=>s.length≤64
 r:=fun r=> .t (.sl (r.map qA))
 R:=fun (s,h) r=>r.length=32
theorem zZx {g:EF qK7}{s:List UInt8}{h:Int}(hp:s.length≤64) : ∃ (r:List UInt8),(r.length=32)∧qK7.fs g [.t (.sl (s.map qA)),.t (.int .i64 h)] []=some (.t (.sl (r.map qA)),[]):=qK7.eq g (s,h) hp
theorem jO0 {s:List UInt8}{h:Int}(r:List UInt8)(hR:r.length=32)(hV:vv = .t (.sl (r.map qA)))(hO:oo=[]):qK7.K (s,h) vv oo:=⟨r,hR,hV,hO⟩
def qIv:ECt where
 α:=List UInt8×Int
 β:=List (List UInt8)
 aS:=fun (s,h)=>[.t (.sl (s.map qA)),.t (.int .i64 h)]
 pre:=fun (s,h)=>s.length≤64∧0≤h∧h≤3
 r:=fun r=> .t (.sl (r.map bsT))
 R:=fun (s,h) r=>r.length≤8 ∧ ∀ x∈r,x.length≤16
theorem zZz {g:EF qIv}{s:List UInt8}{h:Int}(hp:s.length≤64∧0≤h∧h≤3) : ∃ (r:List (List UInt8)),(r.length≤8 ∧ ∀ x∈r,x.length≤16)∧qIv.fs g [.t (.sl (s.map qA)),.t (.int .i64 h)] []=some (.t (.sl (r.map bsT)),[]):=qIv.eq g (s,h) hp
theorem jO2 {s:List UInt8}{h:Int}(r:List (List UInt8))(hR:r.length≤8 ∧ ∀ x∈r,x.length≤16)(hV:vv = .t (.sl (r.map bsT)))(hO:oo=[]):qIv.K (s,h) vv oo:=⟨r,hR,hV,hO⟩
def qLa:ECt where
 α:=List UInt8×Int
 β:=List UInt8
 aS:=fun (s,h)=>[.t (.sl (s.map qA)),.t (.int .i64 h)]
 pre:=fun (s,h)=>s.length≤64
 r:=fun r=> .t (.sl (r.map qA))
 R:=fun (s,h) r=>r.length≤17
theorem zZ8 {g:EF qLa}{s:List UInt8}{h:Int}(hp:s.length≤64) : ∃ (r:List UInt8),(r.length≤17)∧qLa.fs g [.t (.sl (s.map qA)),.t (.int .i64 h)] []=some (.t (.sl (r.map qA)),[]):=qLa.eq g (s,h) hp
theorem jDr {s:List UInt8}{h:Int}(r:List UInt8)(hR:r.length≤17)(hV:vv = .t (.sl (r.map qA)))(hO:oo=[]):qLa.K (s,h) vv oo:=⟨r,hR,hV,hO⟩
def qI1:ECt where
 α:=List UInt8×Int×Int×List UInt8
 β:=List UInt8
 aS:=fun (s,h,l,m)=>[.t (.sl (s.map qA)),.t (.int .i64 h),.t (.int .i64 l),.t (.sl (m.map qA))]
 pre:=fun (s,h,l,m)=>s.length≤64∧m.length≤100000
 r:=fun r=> .t (.sl (r.map qA))
 R:=fun (s,h,l,m) r=>r.length≤1000
theorem zSr {g:EF qI1}{s:List UInt8}{h l:Int}{m:List UInt8}(hp:s.length≤64∧m.length≤100000) : ∃ (r:List UInt8),(r.length≤1000)∧qI1.fs g [.t (.sl (s.map qA)),.t (.int .i64 h),.t (.int .i64 l),.t (.sl (m.map qA))] []=some (.t (.sl (r.map qA)),[]):=qI1.eq g (s,h,l,m) hp
theorem zE9 {s:List UInt8}{h l:Int}{m:List UInt8}(r:List UInt8)(hR:r.length≤1000)(hV:vv = .t (.sl (r.map qA)))(hO:oo=[]):qI1.K (s,h,l,m) vv oo:=⟨r,hR,hV,hO⟩
def qPd:ECt where
 α:=List UInt8×List UInt8×List UInt8
 β:=Int×Bool
 aS:=fun (p,m,sg)=>[.t (.sl (p.map qA)),.t (.sl (m.map qA)),.t (.sl (sg.map qA))]
 pre:=fun (p,m,sg)=>p.length≤4000∧m.length≤100000∧sg.length≤4000
 r:=fun (n,b)=> .tup [.t (.int .i64 n),.t (.bool b)]
 R:=fun (p,m,sg) (n,b)=>True
theorem jMr {g:EF qPd}{p m sg:List UInt8}(hp:p.length≤4000∧m.length≤100000∧sg.length≤4000) : ∃ (n:Int) (b:Bool),(True)∧qPd.fs g [.t (.sl (p.map qA)),.t (.sl (m.map qA)),.t (.sl (sg.map qA))] []=some (.tup [.t (.int .i64 n),.t (.bool b)],[]):=by
 obtain⟨y,h1,h2⟩:=qPd.eq g (p,m,sg) hp;exact⟨y.1,y.2,h1,h2⟩
theorem zN0 {p m sg:List UInt8}(n:Int)(b:Bool)(hR:True)(hV:vv = .tup [.t (.int .i64 n),.t (.bool b)])(hO:oo=[]):qPd.K (p,m,sg) vv oo:=⟨(n,b),hR,hV,hO⟩
def qOj:ECt where
 α:=List UInt8×List UInt8
 β:=Int
 aS:=fun (a,b)=>[.t (.sl (a.map qA)),.t (.sl (b.map qA))]
 pre:=fun (a,b)=>a.length≤4000∧b.length≤4000
 r:=fun e=> .t (.int .i64 e)
 R:=fun (a,b) e=>True
theorem zZ2 {g:EF qOj}{a b:List UInt8}(hp:a.length≤4000∧b.length≤4000) : ∃ (e:Int),(True)∧qOj.fs g [.t (.sl (a.map qA)),.t (.sl (b.map qA))] []=some (.t (.int .i64 e),[]):=qOj.eq g (a,b) hp
theorem jO6 {a b:List UInt8}(e:Int)(hR:True)(hV:vv = .t (.int .i64 e))(hO:oo=[]):qOj.K (a,b) vv oo:=⟨e,hR,hV,hO⟩
def qO4:ECt where
 α:=Sl2
 β:=Bool
 aS:=fun x=>[.t (jAt x)]
 pre:=fun x=>True
 r:=fun b=> .t (.bool b)
 R:=fun x b=>True
 inj:=by rintro x x' e _;simp only[zAy,jOb,jVs] at e;obtain rfl:=e;rfl
theorem jLk {g:EF qO4}{x:Sl2} : ∃ (b:Bool),(True)∧qO4.fs g [.t (jAt x)] []=some (.t (.bool b),[]):=qO4.eq g x trivial
theorem jP9 {x:Sl2}(b:Bool)(hR:True)(hV:vv = .t (.bool b))(hO:oo=[]):qO4.K x vv oo:=⟨b,hR,hV,hO⟩
def qNc:ECt where
 α:=List (List UInt8)
 β:=Bool
 aS:=fun l=>[.t (.sl (l.map bsT))]
 pre:=fun l=>l.length≤8 ∧ ∀ x∈l,x.length≤4000
 r:=fun b=> .t (.bool b)
 R:=fun l b=>True
theorem jG8 {g:EF qNc}{l:List (List UInt8)}(hp:l.length≤8 ∧ ∀ x∈l,x.length≤4000) : ∃ (b:Bool),(True)∧qNc.fs g [.t (.sl (l.map bsT))] []=some (.t (.bool b),[]):=qNc.eq g l hp
theorem jBm {l:List (List UInt8)}(b:Bool)(hR:True)(hV:vv = .t (.bool b))(hO:oo=[]):qNc.K l vv oo:=⟨b,hR,hV,hO⟩
def qIp:ECt where
 α:=Asr
 β:=Int
 aS:=fun a=>[.t (vN a)]
 pre:=fun a=>a.B
 r:=fun e=> .t (.int .i64 e)
 R:=fun a e=>True
theorem zJ7 {g:EF qIp}{a:Asr}(hp:a.B) : ∃ (e:Int),(True)∧qIp.fs g [.t (vN a)] []=some (.t (.int .i64 e),[]):=qIp.eq g a hp
theorem jNn {a:Asr}(e:Int)(hR:True)(hV:vv = .t (.int .i64 e))(hO:oo=[]):qIp.K a vv oo:=⟨e,hR,hV,hO⟩
def qNr:ECt where
 α:=List UInt8×Asr
 β:=List UInt8
 aS:=fun (d,a)=>[.t (.sl (d.map qA)),.t (vN a)]
 pre:=fun (d,a)=>d.length≤4000∧a.B
 r:=fun r=> .sl 0 0 r.length
 outs:=fun r=>[.live 1 ((r.map qA).map V.t) true false]
 R:=fun (d,a) r=>r.length≤200000
theorem jH3 {g:EF qNr}{d:List UInt8}{a:Asr}(hp:d.length≤4000∧a.B) : ∃ (r:List UInt8),(r.length≤200000)∧qNr.fs g [.t (.sl (d.map qA)),.t (vN a)] []=some (.sl 0 0 r.length,[.live 1 ((r.map qA).map V.t) true false]):=qNr.eq g (d,a) hp
theorem zA2 {d:List UInt8}{a:Asr}(r:List UInt8)(hR:r.length≤200000)(hV:vv = .sl 0 0 r.length)(hO:oo=[.live 1 ((r.map qA).map V.t) true false]):qNr.K (d,a) vv oo:=⟨r,hR,hV,hO⟩
def qG0:ECt where
 α:=List UInt8×Asr
 β:=List UInt8
 aS:=fun (d,a)=>[.t (.sl (d.map qA)),.t (vN a)]
 pre:=fun (d,a)=>d.length≤4000∧a.B
 r:=fun r=> .t (.sl (r.map qA))
 R:=fun (d,a) r=>r.length≤32
theorem zDz {g:EF qG0}{d:List UInt8}{a:Asr}(hp:d.length≤4000∧a.B) : ∃ (r:List UInt8),(r.length≤32)∧qG0.fs g [.t (.sl (d.map qA)),.t (vN a)] []=some (.t (.sl (r.map qA)),[]):=qG0.eq g (d,a) hp
theorem jHx {d:List UInt8}{a:Asr}(r:List UInt8)(hR:r.length≤32)(hV:vv = .t (.sl (r.map qA)))(hO:oo=[]):qG0.K (d,a) vv oo:=⟨r,hR,hV,hO⟩
def qNl:ECt where
 α:=List Asr
 β:=List UInt8
 aS:=fun l=>[.t (.sl (l.map vN))]
 pre:=fun l=>l.length≤8 ∧ ∀ a∈l,a.B
 r:=fun r=> .t (.sl (r.map qA))
 R:=fun l r=>r.length≤32
theorem zZe {g:EF qNl}{l:List Asr}(hp:l.length≤8 ∧ ∀ a∈l,a.B) : ∃ (r:List UInt8),(r.length≤32)∧qNl.fs g [.t (.sl (l.map vN))] []=some (.t (.sl (r.map qA)),[]):=qNl.eq g l hp
theorem jHr {l:List Asr}(r:List UInt8)(hR:r.length≤32)(hV:vv = .t (.sl (r.map qA)))(hO:oo=[]):qNl.K l vv oo:=⟨r,hR,hV,hO⟩
def qLm:ECt where
 α:=Sn×Int×Int
 β:=List UInt8
 aS:=fun (s,k,h)=>[.t (snA s),.t (.int .i64 k),.t (.int .i64 h)]
 pre:=fun (s,k,h)=>s.sd.length≤64∧s.da.length≤4000
 r:=fun r=> .t (.sl (r.map qA))
 R:=fun (s,k,h) r=>r.length≤32
theorem jA1 {g:EF qLm}{s:Sn}{k h:Int}(hp:s.sd.length≤64∧s.da.length≤4000) : ∃ (r:List UInt8),(r.length≤32)∧qLm.fs g [.t (snA s),.t (.int .i64 k),.t (.int .i64 h)] []=some (.t (.sl (r.map qA)),[]):=qLm.eq g (s,k,h) hp
theorem jL5 {s:Sn}{k h:Int}(r:List UInt8)(hR:r.length≤32)(hV:vv = .t (.sl (r.map qA)))(hO:oo=[]):qLm.K (s,k,h) vv oo:=⟨r,hR,hV,hO⟩
def qIw:ECt where
 α:=List UInt8×Pu×List UInt8×List UInt8
 β:=Pu×Sn×Int
 aS:=fun (s,p,au,da)=>[.t (.sl (s.map qA)),.t (puA p),.t (.sl (au.map qA)),.t (.sl (da.map qA))]
 pre:=fun (s,p,au,da)=>s.length≤64∧p.po.length≤4000∧au.length≤4000∧da.length≤4000
 r:=fun (y,z,e)=> .tup [.t (puA y),.t (snA z),.t (.int .i64 e)]
 R:=fun (s,p,au,da) (y,z,e)=>e=0→y.Ok∧z.Ok
theorem zQ5 {g:EF qIw}{s:List UInt8}{p:Pu}{au da:List UInt8}(hp:s.length≤64∧p.po.length≤4000∧au.length≤4000∧da.length≤4000) : ∃ (y:Pu) (z:Sn) (e:Int),(e=0→y.Ok∧z.Ok)∧qIw.fs g [.t (.sl (s.map qA)),.t (puA p),.t (.sl (au.map qA)),.t (.sl (da.map qA))] []=some (.tup [.t (puA y),.t (snA z),.t (.int .i64 e)],[]):=by
 obtain⟨y,h1,h2⟩:=qIw.eq g (s,p,au,da) hp;exact⟨y.1,y.2.1,y.2.2,h1,h2⟩
theorem zEj {s:List UInt8}{p:Pu}{au da:List UInt8}(y:Pu)(z:Sn)(e:Int)(hR:e=0→y.Ok∧z.Ok)(hV:vv = .tup [.t (puA y),.t (snA z),.t (.int .i64 e)])(hO:oo=[]):qIw.K (s,p,au,da) vv oo:=⟨(y,z,e),hR,hV,hO⟩
def qK5:ECt where
 α:=Sn×List UInt8
 β:=List UInt8
 aS:=fun (s,nm)=>[.t (snA s),.t (.sl (nm.map qA))]
 pre:=fun (s,nm)=>s.sd.length≤64∧nm.length≤100000
 r:=fun r=> .t (.sl (r.map qA))
 R:=fun (s,nm) r=>r.length=32
theorem zZv {g:EF qK5}{s:Sn}{nm:List UInt8}(hp:s.sd.length≤64∧nm.length≤100000) : ∃ (r:List UInt8),(r.length=32)∧qK5.fs g [.t (snA s),.t (.sl (nm.map qA))] []=some (.t (.sl (r.map qA)),[]):=qK5.eq g (s,nm) hp
theorem jOs {s:Sn}{nm:List UInt8}(r:List UInt8)(hR:r.length=32)(hV:vv = .t (.sl (r.map qA)))(hO:oo=[]):qK5.K (s,nm) vv oo:=⟨r,hR,hV,hO⟩
def qLi:ECt where
 α:=List UInt8×List UInt8×List UInt8
 β:=List UInt8
 aS:=fun (k,no,b)=>[.t (.sl (k.map qA)),.t (.sl (no.map qA)),.t (.sl (b.map qA))]
 pre:=fun (k,no,b)=>k.length≤64∧no.length≤64∧b.length≤1024
 r:=fun r=> .sl 0 0 r.length
 outs:=fun r=>[.live 1 ((r.map qA).map V.t) true false]
 R:=fun (k,no,b) r=>r.length=b.length
theorem jAu {g:EF qLi}{k no b:List UInt8}(hp:k.length≤64∧no.length≤64∧b.length≤1024) : ∃ (r:List UInt8),(r.length=b.length)∧qLi.fs g [.t (.sl (k.map qA)),.t (.sl (no.map qA)),.t (.sl (b.map qA))] []=some (.sl 0 0 r.length,[.live 1 ((r.map qA).map V.t) true false]):=qLi.eq g (k,no,b) hp
theorem jQa {k no b:List UInt8}(r:List UInt8)(hR:r.length=b.length)(hV:vv = .sl 0 0 r.length)(hO:oo=[.live 1 ((r.map qA).map V.t) true false]):qLi.K (k,no,b) vv oo:=⟨r,hR,hV,hO⟩
def qO1:ECt where
 α:=List UInt8×List UInt8×List UInt8×List UInt8
 β:=List UInt8
 aS:=fun (k,no,ad,p)=>[.t (.sl (k.map qA)),.t (.sl (no.map qA)),.t (.sl (ad.map qA)),.t (.sl (p.map qA))]
 pre:=fun (k,no,ad,p)=>k.length≤64∧no.length≤64∧ad.length≤4000∧1≤p.length∧p.length≤1000
 r:=fun r=> .sl 0 0 r.length
 outs:=fun r=>[.live 1 ((r.map qA).map V.t) true false]
 R:=fun (k,no,ad,p) r=>1≤r.length∧r.length≤1200
theorem jK8 {g:EF qO1}{k no ad p:List UInt8}(hp:k.length≤64∧no.length≤64∧ad.length≤4000∧1≤p.length∧p.length≤1000) : ∃ (r:List UInt8),(1≤r.length∧r.length≤1200)∧qO1.fs g [.t (.sl (k.map qA)),.t (.sl (no.map qA)),.t (.sl (ad.map qA)),.t (.sl (p.map qA))] []=some (.sl 0 0 r.length,[.live 1 ((r.map qA).map V.t) true false]):=qO1.eq g (k,no,ad,p) hp
theorem jP4 {k no ad p:List UInt8}(r:List UInt8)(hR:1≤r.length∧r.length≤1200)(hV:vv = .sl 0 0 r.length)(hO:oo=[.live 1 ((r.map qA).map V.t) true false]):qO1.K (k,no,ad,p) vv oo:=⟨r,hR,hV,hO⟩
def qLe:ECt where
 α:=Sn×Pu×Sn
 β:=List UInt8
 aS:=fun (s,p,z)=>[.t (snA s),.t (puA p),.t (snA z)]
 pre:=fun (s,p,z)=>s.Ok∧p.Ok∧z.Ok
 r:=fun r=> .sl 0 0 r.length
 outs:=fun r=>[.live 1 ((r.map qA).map V.t) true false]
 R:=fun (s,p,z) r=>1≤r.length∧r.length≤1200
theorem jAc {g:EF qLe}{s:Sn}{p:Pu}{z:Sn}(hp:s.Ok∧p.Ok∧z.Ok) : ∃ (r:List UInt8),(1≤r.length∧r.length≤1200)∧qLe.fs g [.t (snA s),.t (puA p),.t (snA z)] []=some (.sl 0 0 r.length,[.live 1 ((r.map qA).map V.t) true false]):=qLe.eq g (s,p,z) hp
theorem jPe {s:Sn}{p:Pu}{z:Sn}(r:List UInt8)(hR:1≤r.length∧r.length≤1200)(hV:vv = .sl 0 0 r.length)(hO:oo=[.live 1 ((r.map qA).map V.t) true false]):qLe.K (s,p,z) vv oo:=⟨r,hR,hV,hO⟩
def qOp:ECt where
 α:=List UInt8×List UInt8×List UInt8
 β:=List UInt8×Int
 aS:=fun (k,ad,b)=>[.t (.sl (k.map qA)),.t (.sl (ad.map qA)),.t (.sl (b.map qA))]
 pre:=fun (k,ad,b)=>k.length≤64∧ad.length≤4000∧b.length≤4000
 r:=fun (r,e)=> .tup [.t (.sl (r.map qA)),.t (.int .i64 e)]
 R:=fun (k,ad,b) (r,e)=>r.length≤1024
theorem jJx {g:EF qOp}{k ad b:List UInt8}(hp:k.length≤64∧ad.length≤4000∧b.length≤4000) : ∃ (r:List UInt8) (e:Int),(r.length≤1024)∧qOp.fs g [.t (.sl (k.map qA)),.t (.sl (ad.map qA)),.t (.sl (b.map qA))] []=some (.tup [.t (.sl (r.map qA)),.t (.int .i64 e)],[]):=by
 obtain⟨y,h1,h2⟩:=qOp.eq g (k,ad,b) hp;exact⟨y.1,y.2,h1,h2⟩
theorem jDk {k ad b:List UInt8}(r:List UInt8)(e:Int)(hR:r.length≤1024)(hV:vv = .tup [.t (.sl (r.map qA)),.t (.int .i64 e)])(hO:oo=[]):qOp.K (k,ad,b) vv oo:=⟨(r,e),hR,hV,hO⟩
def qOo:ECt where
 α:=Sn×Pu×List UInt8
 β:=Sn×Int
 aS:=fun (s,p,b)=>[.t (snA s),.t (puA p),.t (.sl (b.map qA))]
 pre:=fun (s,p,b)=>s.Ok∧p.Ok∧b.length≤4000
 r:=fun (z,e)=> .tup [.t (snA z),.t (.int .i64 e)]
 R:=fun (s,p,b) (z,e)=>e=0→z.Ok
theorem jJw {g:EF qOo}{s:Sn}{p:Pu}{b:List UInt8}(hp:s.Ok∧p.Ok∧b.length≤4000) : ∃ (z:Sn) (e:Int),(e=0→z.Ok)∧qOo.fs g [.t (snA s),.t (puA p),.t (.sl (b.map qA))] []=some (.tup [.t (snA z),.t (.int .i64 e)],[]):=by
 obtain⟨y,h1,h2⟩:=qOo.eq g (s,p,b) hp;exact⟨y.1,y.2,h1,h2⟩
theorem zWc {s:Sn}{p:Pu}{b:List UInt8}(z:Sn)(e:Int)(hR:e=0→z.Ok)(hV:vv = .tup [.t (snA z),.t (.int .i64 e)])(hO:oo=[]):qOo.K (s,p,b) vv oo:=⟨(z,e),hR,hV,hO⟩
def qOg:ECt where
 α:=Unit
 β:=List UInt8
 aS:=fun _=>[]
 pre:=fun _=>True
 r:=fun r=> .t (.sl (r.map qA))
 R:=fun _ r=>r.length=4
 inj:=fun _ _ _ _=>rfl
theorem jJg {g:EF qOg}  : ∃ (r:List UInt8),(r.length=4)∧qOg.fs g [] []=some (.t (.sl (r.map qA)),[]):=qOg.eq g () trivial
theorem jO3  (r:List UInt8)(hR:r.length=4)(hV:vv = .t (.sl (r.map qA)))(hO:oo=[]):qOg.K () vv oo:=⟨r,hR,hV,hO⟩
def qM7:ECt where
 α:=Att
 β:=List UInt8
 aS:=fun a=>[.t (zUe a)]
 pre:=fun a=>a.key.length≤4000∧a.no.length≤4000∧a.dg.length≤4000
 r:=fun r=> .t (.sl (r.map qA))
 R:=fun a r=>r.length≤20000
 inj:=by rintro a a' e _;simp only[zAy,jOb,jVs] at e;obtain rfl:=e;rfl
theorem jGo {g:EF qM7}{a:Att}(hp:a.key.length≤4000∧a.no.length≤4000∧a.dg.length≤4000) : ∃ (r:List UInt8),(r.length≤20000)∧qM7.fs g [.t (zUe a)] []=some (.t (.sl (r.map qA)),[]):=qM7.eq g a hp
theorem jGn {a:Att}(r:List UInt8)(hR:r.length≤20000)(hV:vv = .t (.sl (r.map qA)))(hO:oo=[]):qM7.K a vv oo:=⟨r,hR,hV,hO⟩
def zSm:Ses:=⟨0,[],[],0,0,0,0,false⟩
def zNb (s:St)(h:Int):Int:=if h<768∨3≤h-768 then -1 else if (s.ses.getD (h-768).toNat zSm).kd=0 then -1 else h-768
def qI4:ECt where
 α:=St×Int
 β:=Int
 aS:=fun (s,h)=>[.t (stA s),.t (.int .i64 h)]
 pre:=fun (s,h)=>s.ses.length=3∧tmI h
 r:=fun k=> .t (.int .i64 k)
 R:=fun (s,h) k=>(k = -1∨(0≤k∧k≤2∧h=768+k))∧k=zNb s h
theorem zS3 {g:EF qI4}{s:St}{h:Int}(hp:s.ses.length=3∧tmI h) : ∃ (k:Int),((k = -1∨(0≤k∧k≤2∧h=768+k))∧k=zNb s h)∧qI4.fs g [.t (stA s),.t (.int .i64 h)] []=some (.t (.int .i64 k),[]):=qI4.eq g (s,h) hp
theorem zX1 {s:St}{h:Int}(k:Int)(hR:(k = -1∨(0≤k∧k≤2∧h=768+k))∧k=zNb s h)(hV:vv = .t (.int .i64 k))(hO:oo=[]):qI4.K (s,h) vv oo:=⟨k,hR,hV,hO⟩
def qB5:ECt where
 α:=St×Int×Ses
 β:=St
 aS:=fun (s,k,x)=>[.t (stA s),.t (.int .i64 k),.t (jL x)]
 pre:=fun (s,k,x)=>s.ses.length=3∧0≤k∧k≤2
 r:=fun r'=> .t (stA r')
 R:=fun (s,k,x) r'=>r' = { s with ses:=s.ses.set k.toNat x }
theorem qZx {g:EF qB5}{s:St}{k:Int}{x:Ses}(hp:s.ses.length=3∧0≤k∧k≤2):qB5.fs g [.t (stA s),.t (.int .i64 k),.t (jL x)] []=some (.t (stA ({ s with ses:=s.ses.set k.toNat x })),[]):=fnQ qB5 (s,k,x) hp
theorem jPf {s:St}{k:Int}{x:Ses}(hV:vv = .t (stA ({ s with ses:=s.ses.set k.toNat x })))(hO:oo=[]):qB5.K (s,k,x) vv oo:=⟨_,rfl,hV,hO⟩
def qOn:ECt where
 α:=St×Int
 β:=St×Int×Int
 aS:=fun (s,k)=>[.t (stA s),.t (.int .i64 k)]
 pre:=fun (s,k)=>s.Ok∧s.cn 1000000
 r:=fun (t,h,e)=> .tup [.t (stA t),.t (.int .i64 h),.t (.int .i64 e)]
 R:=fun (s,k) (t,h,e)=>e=0→s.Go 1 t∧tmI h
theorem jJv {g:EF qOn}{s:St}{k:Int}(hp:s.Ok∧s.cn 1000000) : ∃ (t:St) (h e:Int),(e=0→s.Go 1 t∧tmI h)∧qOn.fs g [.t (stA s),.t (.int .i64 k)] []=some (.tup [.t (stA t),.t (.int .i64 h),.t (.int .i64 e)],[]):=by
 obtain⟨y,h1,h2⟩:=qOn.eq g (s,k) hp;exact⟨y.1,y.2.1,y.2.2,h1,h2⟩
theorem zWb {s:St}{k:Int}(t:St)(h e:Int)(hR:e=0→s.Go 1 t∧tmI h)(hV:vv = .tup [.t (stA t),.t (.int .i64 h),.t (.int .i64 e)])(hO:oo=[]):qOn.K (s,k) vv oo:=⟨(t,h,e),hR,hV,hO⟩
def qCr:ECt where
 α:=St×Int
 β:=Ses×Int
 aS:=fun (s,h)=>[.t (stA s),.t (.int .i64 h)]
 pre:=fun (s,h)=>s.Ok∧tmI h
 r:=fun (x,e)=> .tup [.t (jL x),.t (.int .i64 e)]
 R:=fun (s,h) (x,e)=>x.Ok∧(e=0→(768≤h∧h≤770)∧0≤zNb s h)
theorem qQi {g:EF qCr}{s:St}{h:Int}(hp:s.Ok∧tmI h) : ∃ (x:Ses) (e:Int),(x.Ok∧(e=0→(768≤h∧h≤770)∧0≤zNb s h))∧qCr.fs g [.t (stA s),.t (.int .i64 h)] []=some (.tup [.t (jL x),.t (.int .i64 e)],[]):=by
 obtain⟨y,h1,h2⟩:=qCr.eq g (s,h) hp;exact⟨y.1,y.2,h1,h2⟩
theorem jH0 {s:St}{h:Int}(x:Ses)(e:Int)(hR:x.Ok∧(e=0→(768≤h∧h≤770)∧0≤zNb s h))(hV:vv = .tup [.t (jL x),.t (.int .i64 e)])(hO:oo=[]):qCr.K (s,h) vv oo:=⟨(x,e),hR,hV,hO⟩
def qKw:ECt where
 α:=St×Int
 β:=St×Int
 aS:=fun (s,h)=>[.t (stA s),.t (.int .i64 h)]
 pre:=fun (s,h)=>s.Ok∧tmI h
 r:=fun (t,e)=> .tup [.t (stA t),.t (.int .i64 e)]
 R:=fun (s,h) (t,e)=>(e=0→s.Go 0 t)∧(0≤zNb s h→e=0)
theorem zY6 {g:EF qKw}{s:St}{h:Int}(hp:s.Ok∧tmI h) : ∃ (t:St) (e:Int),((e=0→s.Go 0 t)∧(0≤zNb s h→e=0))∧qKw.fs g [.t (stA s),.t (.int .i64 h)] []=some (.tup [.t (stA t),.t (.int .i64 e)],[]):=by
 obtain⟨y,h1,h2⟩:=qKw.eq g (s,h) hp;exact⟨y.1,y.2,h1,h2⟩
theorem jHh {s:St}{h:Int}(t:St)(e:Int)(hR:(e=0→s.Go 0 t)∧(0≤zNb s h→e=0))(hV:vv = .tup [.t (stA t),.t (.int .i64 e)])(hO:oo=[]):qKw.K (s,h) vv oo:=⟨(t,e),hR,hV,hO⟩
def qIy:ECt where
 α:=St×Int
 β:=Int
 aS:=fun (s,h)=>[.t (stA s),.t (.int .i64 h)]
 pre:=fun (s,h)=>s.ses.length=3∧tmI h
 r:=fun k=> .t (.int .i64 k)
 R:=fun (s,h) k=>k = -1∨(0≤k∧k≤2)
theorem zRk {g:EF qIy}{s:St}{h:Int}(hp:s.ses.length=3∧tmI h) : ∃ (k:Int),(k = -1∨(0≤k∧k≤2))∧qIy.fs g [.t (stA s),.t (.int .i64 h)] []=some (.t (.int .i64 k),[]):=qIy.eq g (s,h) hp
theorem jDv {s:St}{h:Int}(k:Int)(hR:k = -1∨(0≤k∧k≤2))(hV:vv = .t (.int .i64 k))(hO:oo=[]):qIy.K (s,h) vv oo:=⟨k,hR,hV,hO⟩
def qOy:ECt where
 α:=St×Ses×Asr
 β:=Ses×Asr×Int
 aS:=fun (s,x,a)=>[.t (stA s),.t (jL x),.t (vN a)]
 pre:=fun (s,x,a)=>s.Ok∧x.Ok∧a.B
 r:=fun (y,b,e)=> .tup [.t (jL y),.t (vN b),.t (.int .i64 e)]
 R:=fun (s,x,a) (y,b,e)=>y.Ok∧b.B
theorem jKo {g:EF qOy}{s:St}{x:Ses}{a:Asr}(hp:s.Ok∧x.Ok∧a.B) : ∃ (y:Ses) (b:Asr) (e:Int),(y.Ok∧b.B)∧qOy.fs g [.t (stA s),.t (jL x),.t (vN a)] []=some (.tup [.t (jL y),.t (vN b),.t (.int .i64 e)],[]):=by
 obtain⟨y,h1,h2⟩:=qOy.eq g (s,x,a) hp;exact⟨y.1,y.2.1,y.2.2,h1,h2⟩
theorem qWn {s:St}{x:Ses}{a:Asr}(y:Ses)(b:Asr)(e:Int)(hR:y.Ok∧b.B)(hV:vv = .tup [.t (jL y),.t (vN b),.t (.int .i64 e)])(hO:oo=[]):qOy.K (s,x,a) vv oo:=⟨(y,b,e),hR,hV,hO⟩
def qNw:ECt where
 α:=St×Asr
 β:=Int
 aS:=fun (s,a)=>[.t (stA s),.t (vN a)]
 pre:=fun (s,a)=>s.Ok∧s.cn 1000000∧a.B
 r:=fun e=> .t (.int .i64 e)
 R:=fun (s,a) e=>True
theorem jIr {g:EF qNw}{s:St}{a:Asr}(hp:s.Ok∧s.cn 1000000∧a.B) : ∃ (e:Int),(True)∧qNw.fs g [.t (stA s),.t (vN a)] []=some (.t (.int .i64 e),[]):=qNw.eq g (s,a) hp
theorem jIq {s:St}{a:Asr}(e:Int)(hR:True)(hV:vv = .t (.int .i64 e))(hO:oo=[]):qNw.K (s,a) vv oo:=⟨e,hR,hV,hO⟩
def qIs:ECt where
 α:=List Int×Int
 β:=Bool
 aS:=fun (l,n)=>[.t (.sl (l.map iT)),.t (.int .i64 n)]
 pre:=fun (l,n)=>l.length≤1000000
 r:=fun b=> .t (.bool b)
 R:=fun (l,n) b=>True
theorem zKu {g:EF qIs}{l:List Int}{n:Int}(hp:l.length≤1000000) : ∃ (b:Bool),(True)∧qIs.fs g [.t (.sl (l.map iT)),.t (.int .i64 n)] []=some (.t (.bool b),[]):=qIs.eq g (l,n) hp
theorem jH8 {l:List Int}{n:Int}(b:Bool)(hR:True)(hV:vv = .t (.bool b))(hO:oo=[]):qIs.K (l,n) vv oo:=⟨b,hR,hV,hO⟩
def qNi:ECt where
 α:=Int×Int×Int
 β:=Bool
 aS:=fun (o,a,b)=>[.t (.int .i64 o),.t (.int .i64 a),.t (.int .i64 b)]
 pre:=fun (o,a,b)=>True
 r:=fun r=> .t (.bool r)
 R:=fun (o,a,b) r=>True
theorem jHl {g:EF qNi}{o a b:Int} : ∃ (r:Bool),(True)∧qNi.fs g [.t (.int .i64 o),.t (.int .i64 a),.t (.int .i64 b)] []=some (.t (.bool r),[]):=qNi.eq g (o,a,b) trivial
theorem jN4 {o a b:Int}(r:Bool)(hR:True)(hV:vv = .t (.bool r))(hO:oo=[]):qNi.K (o,a,b) vv oo:=⟨r,hR,hV,hO⟩
def qPf:ECt where
 α:=Asr
 β:=Int
 aS:=fun a=>[.t (vN a)]
 pre:=fun a=>a.B
 r:=fun e=> .t (.int .i64 e)
 R:=fun a e=>True
theorem jM5 {g:EF qPf}{a:Asr}(hp:a.B) : ∃ (e:Int),(True)∧qPf.fs g [.t (vN a)] []=some (.t (.int .i64 e),[]):=qPf.eq g a hp
theorem zTp {a:Asr}(e:Int)(hR:True)(hV:vv = .t (.int .i64 e))(hO:oo=[]):qPf.K a vv oo:=⟨e,hR,hV,hO⟩
def qKr:ECt where
 α:=St×Int×Asr
 β:=St×Int
 aS:=fun (s,h,a)=>[.t (stA s),.t (.int .i64 h),.t (vN a)]
 pre:=fun (s,h,a)=>s.Ok∧s.cn 1000000∧a.B∧tmI h
 r:=fun (t,e)=> .tup [.t (stA t),.t (.int .i64 e)]
 R:=fun (s,h,a) (t,e)=>e=0→s.Go 0 t
theorem jG0 {g:EF qKr}{s:St}{h:Int}{a:Asr}(hp:s.Ok∧s.cn 1000000∧a.B∧tmI h) : ∃ (t:St) (e:Int),(e=0→s.Go 0 t)∧qKr.fs g [.t (stA s),.t (.int .i64 h),.t (vN a)] []=some (.tup [.t (stA t),.t (.int .i64 e)],[]):=by
 obtain⟨y,h1,h2⟩:=qKr.eq g (s,h,a) hp;exact⟨y.1,y.2,h1,h2⟩
theorem kZ {s:St}{h:Int}{a:Asr}(t:St)(e:Int)(hR:e=0→s.Go 0 t)(hV:vv = .tup [.t (stA t),.t (.int .i64 e)])(hO:oo=[]):qKr.K (s,h,a) vv oo:=⟨(t,e),hR,hV,hO⟩
def qO0:ECt where
 α:=St×Int×List UInt8×List UInt8×Int
 β:=St×Int
 aS:=fun (s,h,nm,rf,n)=>[.t (stA s),.t (.int .i64 h),.t (.sl (nm.map qA)),.t (.sl (rf.map qA)),.t (.int .i64 n)]
 pre:=fun (s,h,nm,rf,n)=>s.Ok∧nm.length≤4000∧rf.length≤4000∧tmI h
 r:=fun (t,e)=> .tup [.t (stA t),.t (.int .i64 e)]
 R:=fun (s,h,nm,rf,n) (t,e)=>e=0→s.Go 0 t
theorem jK4 {g:EF qO0}{s:St}{h:Int}{nm rf:List UInt8}{n:Int}(hp:s.Ok∧nm.length≤4000∧rf.length≤4000∧tmI h) : ∃ (t:St) (e:Int),(e=0→s.Go 0 t)∧qO0.fs g [.t (stA s),.t (.int .i64 h),.t (.sl (nm.map qA)),.t (.sl (rf.map qA)),.t (.int .i64 n)] []=some (.tup [.t (stA t),.t (.int .i64 e)],[]):=by
 obtain⟨y,h1,h2⟩:=qO0.eq g (s,h,nm,rf,n) hp;exact⟨y.1,y.2,h1,h2⟩
theorem qWu {s:St}{h:Int}{nm rf:List UInt8}{n:Int}(t:St)(e:Int)(hR:e=0→s.Go 0 t)(hV:vv = .tup [.t (stA t),.t (.int .i64 e)])(hO:oo=[]):qO0.K (s,h,nm,rf,n) vv oo:=⟨(t,e),hR,hV,hO⟩
def qKq:ECt where
 α:=List UInt8×List UInt8
 β:=List UInt8
 aS:=fun (d,rf)=>[.t (.sl (d.map qA)),.t (.sl (rf.map qA))]
 pre:=fun (d,rf)=>d.length≤4000∧rf.length≤4000
 r:=fun r=> .t (.sl (r.map qA))
 R:=fun (d,rf) r=>r.length=32
theorem zYx {g:EF qKq}{d rf:List UInt8}(hp:d.length≤4000∧rf.length≤4000) : ∃ (r:List UInt8),(r.length=32)∧qKq.fs g [.t (.sl (d.map qA)),.t (.sl (rf.map qA))] []=some (.t (.sl (r.map qA)),[]):=qKq.eq g (d,rf) hp
theorem jNq {d rf:List UInt8}(r:List UInt8)(hR:r.length=32)(hV:vv = .t (.sl (r.map qA)))(hO:oo=[]):qKq.K (d,rf) vv oo:=⟨r,hR,hV,hO⟩
def qM9:ECt where
 α:=St×Int×Pu×List UInt8×List UInt8
 β:=St×Int
 aS:=fun (s,h,k,rf,sg)=>[.t (stA s),.t (.int .i64 h),.t (puA k),.t (.sl (rf.map qA)),.t (.sl (sg.map qA))]
 pre:=fun (s,h,k,rf,sg)=>s.Ok∧k.Ok∧rf.length≤4000∧sg.length≤4000∧tmI h
 r:=fun (t,e)=> .tup [.t (stA t),.t (.int .i64 e)]
 R:=fun (s,h,k,rf,sg) (t,e)=>e=0→s.Go 0 t
theorem jGw {g:EF qM9}{s:St}{h:Int}{k:Pu}{rf sg:List UInt8}(hp:s.Ok∧k.Ok∧rf.length≤4000∧sg.length≤4000∧tmI h) : ∃ (t:St) (e:Int),(e=0→s.Go 0 t)∧qM9.fs g [.t (stA s),.t (.int .i64 h),.t (puA k),.t (.sl (rf.map qA)),.t (.sl (sg.map qA))] []=some (.tup [.t (stA t),.t (.int .i64 e)],[]):=by
 obtain⟨y,h1,h2⟩:=qM9.eq g (s,h,k,rf,sg) hp;exact⟨y.1,y.2,h1,h2⟩
theorem qVh {s:St}{h:Int}{k:Pu}{rf sg:List UInt8}(t:St)(e:Int)(hR:e=0→s.Go 0 t)(hV:vv = .tup [.t (stA t),.t (.int .i64 e)])(hO:oo=[]):qM9.K (s,h,k,rf,sg) vv oo:=⟨(t,e),hR,hV,hO⟩
def qKu:ECt where
 α:=List (List UInt8)×Rq
 β:=List UInt8
 aS:=fun (l,q)=>[.t (.sl (l.map bsT)),.t (rqA q)]
 pre:=fun (l,q)=>(l.length≤8 ∧ ∀ x∈l,x.length≤32)∧q.B
 r:=fun r=> .t (.sl (r.map qA))
 R:=fun (l,q) r=>r.length=32
theorem zO2 {g:EF qKu}{l:List (List UInt8)}{q:Rq}(hp:(l.length≤8 ∧ ∀ x∈l,x.length≤32)∧q.B) : ∃ (r:List UInt8),(r.length=32)∧qKu.fs g [.t (.sl (l.map bsT)),.t (rqA q)] []=some (.t (.sl (r.map qA)),[]):=qKu.eq g (l,q) hp
theorem jNz {l:List (List UInt8)}{q:Rq}(r:List UInt8)(hR:r.length=32)(hV:vv = .t (.sl (r.map qA)))(hO:oo=[]):qKu.K (l,q) vv oo:=⟨r,hR,hV,hO⟩
def qKx:ECt where
 α:=List UInt8×List UInt8×List UInt8×List UInt8
 β:=List UInt8
 aS:=fun (v,d,m,c)=>[.t (.sl (v.map qA)),.t (.sl (d.map qA)),.t (.sl (m.map qA)),.t (.sl (c.map qA))]
 pre:=fun (v,d,m,c)=>v.length≤64∧d.length≤4000∧m.length≤4000∧c.length≤4000
 r:=fun r=> .t (.sl (r.map qA))
 R:=fun (v,d,m,c) r=>r.length=32
theorem zO6 {g:EF qKx}{v d m c:List UInt8}(hp:v.length≤64∧d.length≤4000∧m.length≤4000∧c.length≤4000) : ∃ (r:List UInt8),(r.length=32)∧qKx.fs g [.t (.sl (v.map qA)),.t (.sl (d.map qA)),.t (.sl (m.map qA)),.t (.sl (c.map qA))] []=some (.t (.sl (r.map qA)),[]):=qKx.eq g (v,d,m,c) hp
theorem jN2 {v d m c:List UInt8}(r:List UInt8)(hR:r.length=32)(hV:vv = .t (.sl (r.map qA)))(hO:oo=[]):qKx.K (v,d,m,c) vv oo:=⟨r,hR,hV,hO⟩
def qK8:ECt where
 α:=St×Rq
 β:=List (List UInt8)
 aS:=fun (s,q)=>[.t (stA s),.t (rqA q)]
 pre:=fun (s,q)=>s.Ok∧q.hs.length≤8
 r:=fun l=> .t (.sl (l.map bsT))
 R:=fun (s,q) l=>l.length≤8 ∧ ∀ x∈l,x.length≤32
theorem zZ4 {g:EF qK8}{s:St}{q:Rq}(hp:s.Ok∧q.hs.length≤8) : ∃ (l:List (List UInt8)),(l.length≤8 ∧ ∀ x∈l,x.length≤32)∧qK8.fs g [.t (stA s),.t (rqA q)] []=some (.t (.sl (l.map bsT)),[]):=qK8.eq g (s,q) hp
theorem jO8 {s:St}{q:Rq}(l:List (List UInt8))(hR:l.length≤8 ∧ ∀ x∈l,x.length≤32)(hV:vv = .t (.sl (l.map bsT)))(hO:oo=[]):qK8.K (s,q) vv oo:=⟨l,hR,hV,hO⟩
def qOk:ECt where
 α:=St×Rq
 β:=List (List UInt8)
 aS:=fun (s,q)=>[.t (stA s),.t (rqA q)]
 pre:=fun (s,q)=>s.Ok∧q.hs.length≤8
 r:=fun l=> .t (.sl (l.map bsT))
 R:=fun (s,q) l=>l.length≤8 ∧ ∀ x∈l,x.length≤32
theorem zZ3 {g:EF qOk}{s:St}{q:Rq}(hp:s.Ok∧q.hs.length≤8) : ∃ (l:List (List UInt8)),(l.length≤8 ∧ ∀ x∈l,x.length≤32)∧qOk.fs g [.t (stA s),.t (rqA q)] []=some (.t (.sl (l.map bsT)),[]):=qOk.eq g (s,q) hp
theorem jO7 {s:St}{q:Rq}(l:List (List UInt8))(hR:l.length≤8 ∧ ∀ x∈l,x.length≤32)(hV:vv = .t (.sl (l.map bsT)))(hO:oo=[]):qOk.K (s,q) vv oo:=⟨l,hR,hV,hO⟩
def qLg:ECt where
 α:=Int
 β:=Bool
 aS:=fun c=>[.t (.int .i64 c)]
 pre:=fun c=>True
 r:=fun b=> .t (.bool b)
 R:=fun c b=>True
theorem jAh {g:EF qLg}{c:Int} : ∃ (b:Bool),(True)∧qLg.fs g [.t (.int .i64 c)] []=some (.t (.bool b),[]):=qLg.eq g c trivial
theorem jPj {c:Int}(b:Bool)(hR:True)(hV:vv = .t (.bool b))(hO:oo=[]):qLg.K c vv oo:=⟨b,hR,hV,hO⟩
def qLb:ECt where
 α:=Bool×Int×Int
 β:=Int
 aS:=fun (r,a,b)=>[.t (.bool r),.t (.int .i64 a),.t (.int .i64 b)]
 pre:=fun (r,a,b)=>True
 r:=fun n=> .t (.int .i64 n)
 R:=fun (r,a,b) n=>True
theorem zRh {g:EF qLb}{r:Bool}{a b:Int} : ∃ (n:Int),(True)∧qLb.fs g [.t (.bool r),.t (.int .i64 a),.t (.int .i64 b)] []=some (.t (.int .i64 n),[]):=qLb.eq g (r,a,b) trivial
theorem jPb {r:Bool}{a b:Int}(n:Int)(hR:True)(hV:vv = .t (.int .i64 n))(hO:oo=[]):qLb.K (r,a,b) vv oo:=⟨n,hR,hV,hO⟩
def qOt:ECt where
 α:=St×Rq
 β:=Bool
 aS:=fun (s,q)=>[.t (stA s),.t (rqA q)]
 pre:=fun (s,q)=>s.Ok∧1≤q.hs.length
 r:=fun b=> .t (.bool b)
 R:=fun (s,q) b=>True
theorem jJ5 {g:EF qOt}{s:St}{q:Rq}(hp:s.Ok∧1≤q.hs.length) : ∃ (b:Bool),(True)∧qOt.fs g [.t (stA s),.t (rqA q)] []=some (.t (.bool b),[]):=qOt.eq g (s,q) hp
theorem zMx {s:St}{q:Rq}(b:Bool)(hR:True)(hV:vv = .t (.bool b))(hO:oo=[]):qOt.K (s,q) vv oo:=⟨b,hR,hV,hO⟩
def qOa:ECt where
 α:=St×Int
 β:=Bool
 aS:=fun (s,h)=>[.t (stA s),.t (.int .i64 h)]
 pre:=fun (s,h)=>s.Ok
 r:=fun b=> .t (.bool b)
 R:=fun (s,h) b=>True
theorem jI9 {g:EF qOa}{s:St}{h:Int}(hp:s.Ok) : ∃ (b:Bool),(True)∧qOa.fs g [.t (stA s),.t (.int .i64 h)] []=some (.t (.bool b),[]):=qOa.eq g (s,h) hp
theorem jI8 {s:St}{h:Int}(b:Bool)(hR:True)(hV:vv = .t (.bool b))(hO:oo=[]):qOa.K (s,h) vv oo:=⟨b,hR,hV,hO⟩
def qPe:ECt where
 α:=St×Int×Bool
 β:=St×Int
 aS:=fun (s,h,ok)=>[.t (stA s),.t (.int .i64 h),.t (.bool ok)]
 pre:=fun (s,h,ok)=>s.Ok
 r:=fun (t,e)=> .tup [.t (stA t),.t (.int .i64 e)]
 R:=fun (s,h,ok) (t,e) => ∃ l:Lk,l.Ok∧t=s.lkd l
theorem jA4 {g:EF qPe}{s:St}{h:Int}{ok:Bool}(hp:s.Ok) : ∃ (t:St) (e:Int),(∃ l:Lk,l.Ok∧t=s.lkd l)∧qPe.fs g [.t (stA s),.t (.int .i64 h),.t (.bool ok)] []=some (.tup [.t (stA t),.t (.int .i64 e)],[]):=by
 obtain⟨y,h1,h2⟩:=qPe.eq g (s,h,ok) hp;exact⟨y.1,y.2,h1,h2⟩
theorem zYg {s:St}{h:Int}{ok:Bool}(t:St)(e:Int)(hR : ∃ l:Lk,l.Ok∧t=s.lkd l)(hV:vv = .tup [.t (stA t),.t (.int .i64 e)])(hO:oo=[]):qPe.K (s,h,ok) vv oo:=⟨(t,e),hR,hV,hO⟩
def qNd:ECt where
 α:=St×Int×Rq×Ses
 β:=Bool×Int
 aS:=fun (s,lo,q,x)=>[.t (stA s),.t (.int .i64 lo),.t (rqA q),.t (jL x)]
 pre:=fun (s,lo,q,x)=>s.Ok∧(0≤lo∧lo≤4)∧1≤q.hs.length∧x.Ok
 r:=fun (b,e)=> .tup [.t (.bool b),.t (.int .i64 e)]
 R:=fun (s,lo,q,x) (b,e)=>True
theorem jHe {g:EF qNd}{s:St}{lo:Int}{q:Rq}{x:Ses}(hp:s.Ok∧(0≤lo∧lo≤4)∧1≤q.hs.length∧x.Ok) : ∃ (b:Bool) (e:Int),(True)∧qNd.fs g [.t (stA s),.t (.int .i64 lo),.t (rqA q),.t (jL x)] []=some (.tup [.t (.bool b),.t (.int .i64 e)],[]):=by
 obtain⟨y,h1,h2⟩:=qNd.eq g (s,lo,q,x) hp;exact⟨y.1,y.2,h1,h2⟩
theorem jHd {s:St}{lo:Int}{q:Rq}{x:Ses}(b:Bool)(e:Int)(hR:True)(hV:vv = .tup [.t (.bool b),.t (.int .i64 e)])(hO:oo=[]):qNd.K (s,lo,q,x) vv oo:=⟨(b,e),hR,hV,hO⟩
def qNe:ECt where
 α:=St×Int×Rq
 β:=St×Int
 aS:=fun (s,lo,q)=>[.t (stA s),.t (.int .i64 lo),.t (rqA q)]
 pre:=fun (s,lo,q)=>s.Ok∧(0≤lo∧lo≤4)∧1≤q.hs.length∧q.au.length=1∧q.B∧q.Ok
 r:=fun (t,e)=> .tup [.t (stA t),.t (.int .i64 e)]
 R:=fun (s,lo,q) (t,e) => ∃ l:Lk,l.Ok∧t=s.lkd l
theorem zY5 {g:EF qNe}{s:St}{lo:Int}{q:Rq}(hp:s.Ok∧(0≤lo∧lo≤4)∧1≤q.hs.length∧q.au.length=1∧q.B∧q.Ok) : ∃ (t:St) (e:Int),(∃ l:Lk,l.Ok∧t=s.lkd l)∧qNe.fs g [.t (stA s),.t (.int .i64 lo),.t (rqA q)] []=some (.tup [.t (stA t),.t (.int .i64 e)],[]):=by
 obtain⟨y,h1,h2⟩:=qNe.eq g (s,lo,q) hp;exact⟨y.1,y.2,h1,h2⟩
theorem qTu {s:St}{lo:Int}{q:Rq}(t:St)(e:Int)(hR : ∃ l:Lk,l.Ok∧t=s.lkd l)(hV:vv = .tup [.t (stA t),.t (.int .i64 e)])(hO:oo=[]):qNe.K (s,lo,q) vv oo:=⟨(t,e),hR,hV,hO⟩
def qNo:ECt where
 α:=St×Rq
 β:=St×List (List UInt8)
 aS:=fun (s,q)=>[.t (stA s),.t (rqA q)]
 pre:=fun (s,q)=>s.Ok∧s.cn 2000000∧q.au.length=1∧q.Ok
 r:=fun (t,l)=> .tup [.t (stA t),.t (.sl (l.map bsT))]
 R:=fun (s,q) (t,l)=>s.Go 1 t
theorem zZl {g:EF qNo}{s:St}{q:Rq}(hp:s.Ok∧s.cn 2000000∧q.au.length=1∧q.Ok) : ∃ (t:St) (l:List (List UInt8)),(s.Go 1 t)∧qNo.fs g [.t (stA s),.t (rqA q)] []=some (.tup [.t (stA t),.t (.sl (l.map bsT))],[]):=by
 obtain⟨y,h1,h2⟩:=qNo.eq g (s,q) hp;exact⟨y.1,y.2,h1,h2⟩
theorem zPz {s:St}{q:Rq}(t:St)(l:List (List UInt8))(hR:s.Go 1 t)(hV:vv = .tup [.t (stA t),.t (.sl (l.map bsT))])(hO:oo=[]):qNo.K (s,q) vv oo:=⟨(t,l),hR,hV,hO⟩
def qLk:ECt where
 α:=Rq
 β:=Pu
 aS:=fun q=>[.t (rqA q)]
 pre:=fun q=>3≤q.ns.length∧1≤q.bl.length ∧ ∀ x∈q.bl,x.length≤1024
 r:=fun p=> .t (puA p)
 R:=fun q p=>p.po.length≤1024∧p.un=[]
theorem jAy {g:EF qLk}{q:Rq}(hp:3≤q.ns.length∧1≤q.bl.length ∧ ∀ x∈q.bl,x.length≤1024) : ∃ (p:Pu),(p.po.length≤1024∧p.un=[])∧qLk.fs g [.t (rqA q)] []=some (.t (puA p),[]):=qLk.eq g q hp
theorem jQi {q:Rq}(p:Pu)(hR:p.po.length≤1024∧p.un=[])(hV:vv = .t (puA p))(hO:oo=[]):qLk.K q vv oo:=⟨p,hR,hV,hO⟩
def qA9:ECt where
 α:=St×Int
 β:=St×Rs
 aS:=fun (s,e)=>[.t (stA s),.t (.int .i64 e)]
 pre:=fun (s,e)=>True
 r:=fun (t,r)=> .tup [.t (stA t),.t (rsA r)]
 R:=fun (s,e) (t,r)=>t=s
theorem jKm {g:EF qA9}{s:St}{e:Int} : ∃ (t:St) (r:Rs),(t=s)∧qA9.fs g [.t (stA s),.t (.int .i64 e)] []=some (.tup [.t (stA t),.t (rsA r)],[]):=by
 obtain⟨y,h1,h2⟩:=qA9.eq g (s,e) trivial;exact⟨y.1,y.2,h1,h2⟩
theorem jPn {s:St}{e:Int}(t:St)(r:Rs)(hR:t=s)(hV:vv = .tup [.t (stA t),.t (rsA r)])(hO:oo=[]):qA9.K (s,e) vv oo:=⟨(t,r),hR,hV,hO⟩
def qK1:ECt where
 α:=St
 β:=Int
 aS:=fun s=>[.t (stA s)]
 pre:=fun s=>s.obs.length=3
 r:=fun k=> .t (.int .i64 k)
 R:=fun s k=>k = -1∨(0≤k∧k≤2)
theorem zZn {g:EF qK1}{s:St}(hp:s.obs.length=3) : ∃ (k:Int),(k = -1∨(0≤k∧k≤2))∧qK1.fs g [.t (stA s)] []=some (.t (.int .i64 k),[]):=qK1.eq g s hp
theorem jH1 {s:St}(k:Int)(hR:k = -1∨(0≤k∧k≤2))(hV:vv = .t (.int .i64 k))(hO:oo=[]):qK1.K s vv oo:=⟨k,hR,hV,hO⟩
def qIz:ECt where
 α:=St×Int×Obj
 β:=St
 aS:=fun (s,k,x)=>[.t (stA s),.t (.int .i64 k),.t (wI x)]
 pre:=fun (s,k,x)=>s.obs.length=3∧0≤k∧k≤2
 r:=fun r'=> .t (stA r')
 R:=fun (s,k,x) r'=>r' = { s with obs:=s.obs.set k.toNat x }
theorem zRm {g:EF qIz}{s:St}{k:Int}{x:Obj}(hp:s.obs.length=3∧0≤k∧k≤2):qIz.fs g [.t (stA s),.t (.int .i64 k),.t (wI x)] []=some (.t (stA ({ s with obs:=s.obs.set k.toNat x })),[]):=fnQ qIz (s,k,x) hp
theorem jPg {s:St}{k:Int}{x:Obj}(hV:vv = .t (stA ({ s with obs:=s.obs.set k.toNat x })))(hO:oo=[]):qIz.K (s,k,x) vv oo:=⟨_,rfl,hV,hO⟩
def qFe:ECt where
 α:=St×Rq
 β:=Obj
 aS:=fun (s,q)=>[.t (stA s),.t (rqA q)]
 pre:=fun (s,q)=>s.Ok∧1≤q.hs.length∧0≤slP s.obs q.h0 0
 r:=fun x=> .t (wI x)
 R:=fun (s,q) x=>x.Ok
theorem zEo {g:EF qFe}{s:St}{q:Rq}(hp:s.Ok∧1≤q.hs.length∧0≤slP s.obs q.h0 0) : ∃ (x:Obj),(x.Ok)∧qFe.fs g [.t (stA s),.t (rqA q)] []=some (.t (wI x),[]):=qFe.eq g (s,q) hp
theorem jJp {s:St}{q:Rq}(x:Obj)(hR:x.Ok)(hV:vv = .t (wI x))(hO:oo=[]):qFe.K (s,q) vv oo:=⟨x,hR,hV,hO⟩
def qOu:ECt where
 α:=St×Rq
 β:=St×Rs
 aS:=fun (s,q)=>[.t (stA s),.t (rqA q)]
 pre:=fun (s,q)=>(s.Ok∧s.cn 1000000)∧q.Ok∧q.Al s∧q.co=9
 r:=fun (t,r)=> .tup [.t (stA t),.t (rsA r)]
 R:=fun (s,q) (t,r)=>s.Go 3 t
theorem jJ6 {g:EF qOu}{s:St}{q:Rq}(hp:(s.Ok∧s.cn 1000000)∧q.Ok∧q.Al s∧q.co=9) : ∃ (t:St) (r:Rs),(s.Go 3 t)∧qOu.fs g [.t (stA s),.t (rqA q)] []=some (.tup [.t (stA t),.t (rsA r)],[]):=by
 obtain⟨y,h1,h2⟩:=qOu.eq g (s,q) hp;exact⟨y.1,y.2,h1,h2⟩
theorem jDt {s:St}{q:Rq}(t:St)(r:Rs)(hR:s.Go 3 t)(hV:vv = .tup [.t (stA t),.t (rsA r)])(hO:oo=[]):qOu.K (s,q) vv oo:=⟨(t,r),hR,hV,hO⟩
def qNj:ECt where
 α:=St×Rq
 β:=St×Rs
 aS:=fun (s,q)=>[.t (stA s),.t (rqA q)]
 pre:=fun (s,q)=>(s.Ok∧s.cn 1000000)∧q.Ok∧q.Al s∧q.co=10
 r:=fun (t,r)=> .tup [.t (stA t),.t (rsA r)]
 R:=fun (s,q) (t,r)=>s.Go 3 t
theorem jHm {g:EF qNj}{s:St}{q:Rq}(hp:(s.Ok∧s.cn 1000000)∧q.Ok∧q.Al s∧q.co=10) : ∃ (t:St) (r:Rs),(s.Go 3 t)∧qNj.fs g [.t (stA s),.t (rqA q)] []=some (.tup [.t (stA t),.t (rsA r)],[]):=by
 obtain⟨y,h1,h2⟩:=qNj.eq g (s,q) hp;exact⟨y.1,y.2,h1,h2⟩
theorem jBy {s:St}{q:Rq}(t:St)(r:Rs)(hR:s.Go 3 t)(hV:vv = .tup [.t (stA t),.t (rsA r)])(hO:oo=[]):qNj.K (s,q) vv oo:=⟨(t,r),hR,hV,hO⟩
def qOe:ECt where
 α:=St×Rq
 β:=St×Rs
 aS:=fun (s,q)=>[.t (stA s),.t (rqA q)]
 pre:=fun (s,q)=>(s.Ok∧s.cn 1000000)∧q.Ok∧q.Al s∧q.co=11
 r:=fun (t,r)=> .tup [.t (stA t),.t (rsA r)]
 R:=fun (s,q) (t,r)=>s.Go 3 t
theorem jJf {g:EF qOe}{s:St}{q:Rq}(hp:(s.Ok∧s.cn 1000000)∧q.Ok∧q.Al s∧q.co=11) : ∃ (t:St) (r:Rs),(s.Go 3 t)∧qOe.fs g [.t (stA s),.t (rqA q)] []=some (.tup [.t (stA t),.t (rsA r)],[]):=by
 obtain⟨y,h1,h2⟩:=qOe.eq g (s,q) hp;exact⟨y.1,y.2,h1,h2⟩
theorem zQ0 {s:St}{q:Rq}(t:St)(r:Rs)(hR:s.Go 3 t)(hV:vv = .tup [.t (stA t),.t (rsA r)])(hO:oo=[]):qOe.K (s,q) vv oo:=⟨(t,r),hR,hV,hO⟩
def qNp:ECt where
 α:=St×Rq
 β:=St×Rs
 aS:=fun (s,q)=>[.t (stA s),.t (rqA q)]
 pre:=fun (s,q)=>(s.Ok∧s.cn 1000000)∧q.Ok∧q.co=12
 r:=fun (t,r)=> .tup [.t (stA t),.t (rsA r)]
 R:=fun (s,q) (t,r)=>s.Go 3 t
theorem jHz {g:EF qNp}{s:St}{q:Rq}(hp:(s.Ok∧s.cn 1000000)∧q.Ok∧q.co=12) : ∃ (t:St) (r:Rs),(s.Go 3 t)∧qNp.fs g [.t (stA s),.t (rqA q)] []=some (.tup [.t (stA t),.t (rsA r)],[]):=by
 obtain⟨y,h1,h2⟩:=qNp.eq g (s,q) hp;exact⟨y.1,y.2,h1,h2⟩
theorem jCf {s:St}{q:Rq}(t:St)(r:Rs)(hR:s.Go 3 t)(hV:vv = .tup [.t (stA t),.t (rsA r)])(hO:oo=[]):qNp.K (s,q) vv oo:=⟨(t,r),hR,hV,hO⟩
def qPc:ECt where
 α:=St×Rq
 β:=St×Rs
 aS:=fun (s,q)=>[.t (stA s),.t (rqA q)]
 pre:=fun (s,q)=>(s.Ok∧s.cn 1000000)∧q.Ok∧q.Al s∧q.co=13
 r:=fun (t,r)=> .tup [.t (stA t),.t (rsA r)]
 R:=fun (s,q) (t,r)=>s.Go 3 t
theorem jL3 {g:EF qPc}{s:St}{q:Rq}(hp:(s.Ok∧s.cn 1000000)∧q.Ok∧q.Al s∧q.co=13) : ∃ (t:St) (r:Rs),(s.Go 3 t)∧qPc.fs g [.t (stA s),.t (rqA q)] []=some (.tup [.t (stA t),.t (rsA r)],[]):=by
 obtain⟨y,h1,h2⟩:=qPc.eq g (s,q) hp;exact⟨y.1,y.2,h1,h2⟩
theorem jL2 {s:St}{q:Rq}(t:St)(r:Rs)(hR:s.Go 3 t)(hV:vv = .tup [.t (stA t),.t (rsA r)])(hO:oo=[]):qPc.K (s,q) vv oo:=⟨(t,r),hR,hV,hO⟩
def qN6:ECt where
 α:=St×Obj
 β:=St×Int×Int
 aS:=fun (s,x)=>[.t (stA s),.t (wI x)]
 pre:=fun (s,x)=>s.Ok∧x.Ok
 r:=fun (t,n,e)=> .tup [.t (stA t),.t (.int .i64 n),.t (.int .i64 e)]
 R:=fun (s,x) (t,n,e)=>e=0→s.Go 0 t
theorem jI4 {g:EF qN6}{s:St}{x:Obj}(hp:s.Ok∧x.Ok) : ∃ (t:St) (n e:Int),(e=0→s.Go 0 t)∧qN6.fs g [.t (stA s),.t (wI x)] []=some (.tup [.t (stA t),.t (.int .i64 n),.t (.int .i64 e)],[]):=by
 obtain⟨y,h1,h2⟩:=qN6.eq g (s,x) hp;exact⟨y.1,y.2.1,y.2.2,h1,h2⟩
theorem zVq {s:St}{x:Obj}(t:St)(n e:Int)(hR:e=0→s.Go 0 t)(hV:vv = .tup [.t (stA t),.t (.int .i64 n),.t (.int .i64 e)])(hO:oo=[]):qN6.K (s,x) vv oo:=⟨(t,n,e),hR,hV,hO⟩
def qLh:ECt where
 α:=St×Obj×List UInt8
 β:=St×List UInt8×Int
 aS:=fun (s,x,b)=>[.t (stA s),.t (wI x),.t (.sl (b.map qA))]
 pre:=fun (s,x,b)=>s.Ok∧x.Ok∧b.length≤20000
 r:=fun (t,r,e)=> .tup [.t (stA t),.t (.sl (r.map qA)),.t (.int .i64 e)]
 R:=fun (s,x,b) (t,r,e)=>e=0→s.Go 0 t
theorem jAs {g:EF qLh}{s:St}{x:Obj}{b:List UInt8}(hp:s.Ok∧x.Ok∧b.length≤20000) : ∃ (t:St) (r:List UInt8) (e:Int),(e=0→s.Go 0 t)∧qLh.fs g [.t (stA s),.t (wI x),.t (.sl (b.map qA))] []=some (.tup [.t (stA t),.t (.sl (r.map qA)),.t (.int .i64 e)],[]):=by
 obtain⟨y,h1,h2⟩:=qLh.eq g (s,x,b) hp;exact⟨y.1,y.2.1,y.2.2,h1,h2⟩
theorem jLa {s:St}{x:Obj}{b:List UInt8}(t:St)(r:List UInt8)(e:Int)(hR:e=0→s.Go 0 t)(hV:vv = .tup [.t (stA t),.t (.sl (r.map qA)),.t (.int .i64 e)])(hO:oo=[]):qLh.K (s,x,b) vv oo:=⟨(t,r,e),hR,hV,hO⟩
def qO2:ECt where
 α:=St×Rq
 β:=St×Rs
 aS:=fun (s,q)=>[.t (stA s),.t (rqA q)]
 pre:=fun (s,q)=>(s.Ok∧s.cn 1000000)∧q.Ok∧q.Al s∧q.co=14
 r:=fun (t,r)=> .tup [.t (stA t),.t (rsA r)]
 R:=fun (s,q) (t,r)=>s.Go 3 t
theorem jK9 {g:EF qO2}{s:St}{q:Rq}(hp:(s.Ok∧s.cn 1000000)∧q.Ok∧q.Al s∧q.co=14) : ∃ (t:St) (r:Rs),(s.Go 3 t)∧qO2.fs g [.t (stA s),.t (rqA q)] []=some (.tup [.t (stA t),.t (rsA r)],[]):=by
 obtain⟨y,h1,h2⟩:=qO2.eq g (s,q) hp;exact⟨y.1,y.2,h1,h2⟩
theorem zSs {s:St}{q:Rq}(t:St)(r:Rs)(hR:s.Go 3 t)(hV:vv = .tup [.t (stA t),.t (rsA r)])(hO:oo=[]):qO2.K (s,q) vv oo:=⟨(t,r),hR,hV,hO⟩
def qOx:ECt where
 α:=St×Rq
 β:=St×Rs
 aS:=fun (s,q)=>[.t (stA s),.t (rqA q)]
 pre:=fun (s,q)=>(s.Ok∧s.cn 1000000)∧q.Ok∧q.Al s∧q.co=15
 r:=fun (t,r)=> .tup [.t (stA t),.t (rsA r)]
 R:=fun (s,q) (t,r)=>s.Go 3 t
theorem jJ9 {g:EF qOx}{s:St}{q:Rq}(hp:(s.Ok∧s.cn 1000000)∧q.Ok∧q.Al s∧q.co=15) : ∃ (t:St) (r:Rs),(s.Go 3 t)∧qOx.fs g [.t (stA s),.t (rqA q)] []=some (.tup [.t (stA t),.t (rsA r)],[]):=by
 obtain⟨y,h1,h2⟩:=qOx.eq g (s,q) hp;exact⟨y.1,y.2,h1,h2⟩
theorem zMz {s:St}{q:Rq}(t:St)(r:Rs)(hR:s.Go 3 t)(hV:vv = .tup [.t (stA t),.t (rsA r)])(hO:oo=[]):qOx.K (s,q) vv oo:=⟨(t,r),hR,hV,hO⟩
def qNs:ECt where
 α:=Int×Int
 β:=Bool
 aS:=fun (a,b)=>[.t (.int .i64 a),.t (.int .i64 b)]
 pre:=fun (a,b)=>True
 r:=fun r=> .t (.bool r)
 R:=fun (a,b) r=>r=true→b=a∨a = -1∧0≤b∧b≤8
theorem jH4 {g:EF qNs}{a b:Int} : ∃ (r:Bool),(r=true→b=a∨a = -1∧0≤b∧b≤8)∧qNs.fs g [.t (.int .i64 a),.t (.int .i64 b)] []=some (.t (.bool r),[]):=qNs.eq g (a,b) trivial
theorem jOf {a b:Int}(r:Bool)(hR:r=true→b=a∨a = -1∧0≤b∧b≤8)(hV:vv = .t (.bool r))(hO:oo=[]):qNs.K (a,b) vv oo:=⟨r,hR,hV,hO⟩
def qOi:ECt where
 α:=Int
 β:=Bool
 aS:=fun h=>[.t (.int .i64 h)]
 pre:=fun h=>True
 r:=fun r=> .t (.bool r)
 R:=fun h r=>r=true→0≤h∧h≤65535
theorem zZ1 {g:EF qOi}{h:Int} : ∃ (r:Bool),(r=true→0≤h∧h≤65535)∧qOi.fs g [.t (.int .i64 h)] []=some (.t (.bool r),[]):=qOi.eq g h trivial
theorem jO5 {h:Int}(r:Bool)(hR:r=true→0≤h∧h≤65535)(hV:vv = .t (.bool r))(hO:oo=[]):qOi.K h vv oo:=⟨r,hR,hV,hO⟩
def qNq:ECt where
 α:=Rq
 β:=List UInt8
 aS:=fun q=>[.t (rqA q)]
 pre:=fun q=>q.B
 r:=fun b=> .t (.sl (b.map qA))
 R:=fun q b=>True
theorem jH2 {g:EF qNq}{q:Rq}(hp:q.B) : ∃ (b:List UInt8),(True)∧qNq.fs g [.t (rqA q)] []=some (.t (.sl (b.map qA)),[]):=qNq.eq g q hp
theorem jOe {q:Rq}(b:List UInt8)(hR:True)(hV:vv = .t (.sl (b.map qA)))(hO:oo=[]):qNq.K q vv oo:=⟨b,hR,hV,hO⟩
def qIr:ECt where
 α:=Rq
 β:=Int
 aS:=fun q=>[.t (rqA q)]
 pre:=fun q=>q.B
 r:=fun e=> .t (.int .i64 e)
 R:=fun q e=>e=0→q.Ok
theorem jBq {g:EF qIr}{q:Rq}(hp:q.B) : ∃ (e:Int),(e=0→q.Ok)∧qIr.fs g [.t (rqA q)] []=some (.t (.int .i64 e),[]):=qIr.eq g q hp
theorem qKm {q:Rq}(e:Int)(hR:e=0→q.Ok)(hV:vv = .t (.int .i64 e))(hO:oo=[]):qIr.K q vv oo:=⟨e,hR,hV,hO⟩
def qM8:ECt where
 α:=St×Rq
 β:=Bool
 aS:=fun (s,q)=>[.t (stA s),.t (rqA q)]
 pre:=fun (s,q)=>s.Ok∧q.Ok
 r:=fun b=> .t (.bool b)
 R:=fun (s,q) b=>b=true→q.Al s
theorem jGp {g:EF qM8}{s:St}{q:Rq}(hp:s.Ok∧q.Ok) : ∃ (b:Bool),(b=true→q.Al s)∧qM8.fs g [.t (stA s),.t (rqA q)] []=some (.t (.bool b),[]):=qM8.eq g (s,q) hp
theorem qMc {s:St}{q:Rq}(b:Bool)(hR:b=true→q.Al s)(hV:vv = .t (.bool b))(hO:oo=[]):qM8.K (s,q) vv oo:=⟨b,hR,hV,hO⟩
def kW:ECt where
 α:=St×Int
 β:=St×Rs
 aS:=fun (s,e)=>[.t (stA s),.t (.int .i64 e)]
 pre:=fun (s,e)=>True
 r:=fun (t,r)=> .tup [.t (stA t),.t (rsA r)]
 R:=fun (s,e) (t,r)=>t=s
theorem jKn {g:EF kW}{s:St}{e:Int} : ∃ (t:St) (r:Rs),(t=s)∧kW.fs g [.t (stA s),.t (.int .i64 e)] []=some (.tup [.t (stA t),.t (rsA r)],[]):=by
 obtain⟨y,h1,h2⟩:=kW.eq g (s,e) trivial;exact⟨y.1,y.2,h1,h2⟩
theorem jPo {s:St}{e:Int}(t:St)(r:Rs)(hR:t=s)(hV:vv = .tup [.t (stA t),.t (rsA r)])(hO:oo=[]):kW.K (s,e) vv oo:=⟨(t,r),hR,hV,hO⟩
def qB4:ECt where
 α:=St×St×Int
 β:=St×Rs
 aS:=fun (s,t,e)=>[.t (stA s),.t (stA t),.t (.int .i64 e)]
 pre:=fun (s,t,e)=>True
 r:=fun (v,r)=> .tup [.t (stA v),.t (rsA r)]
 R:=fun (s,t,e) (v,r)=>(e=0→v=t)∧(e≠0→v=s)
theorem zZ9 {g:EF qB4}{s t:St}{e:Int} : ∃ (v:St) (r:Rs),((e=0→v=t)∧(e≠0→v=s))∧qB4.fs g [.t (stA s),.t (stA t),.t (.int .i64 e)] []=some (.tup [.t (stA v),.t (rsA r)],[]):=by
 obtain⟨y,h1,h2⟩:=qB4.eq g (s,t,e) trivial;exact⟨y.1,y.2,h1,h2⟩
theorem jJ1 {s t:St}{e:Int}(v:St)(r:Rs)(hR:(e=0→v=t)∧(e≠0→v=s))(hV:vv = .tup [.t (stA v),.t (rsA r)])(hO:oo=[]):qB4.K (s,t,e) vv oo:=⟨(v,r),hR,hV,hO⟩
def qNg:ECt where
 α:=St
 β:=St×Rs
 aS:=fun s=>[.t (stA s)]
 pre:=fun s=>True
 r:=fun (t,r)=> .tup [.t (stA t),.t (rsA r)]
 R:=fun s (t,r)=>t=s
theorem jHj {g:EF qNg}{s:St} : ∃ (t:St) (r:Rs),(t=s)∧qNg.fs g [.t (stA s)] []=some (.tup [.t (stA t),.t (rsA r)],[]):=by
 obtain⟨y,h1,h2⟩:=qNg.eq g s trivial;exact⟨y.1,y.2,h1,h2⟩
theorem jHi {s:St}(t:St)(r:Rs)(hR:t=s)(hV:vv = .tup [.t (stA t),.t (rsA r)])(hO:oo=[]):qNg.K s vv oo:=⟨(t,r),hR,hV,hO⟩
def qOh:ECt where
 α:=St×Int×Rq
 β:=St×Rs
 aS:=fun (s,lo,q)=>[.t (stA s),.t (.int .i64 lo),.t (rqA q)]
 pre:=fun (s,lo,q)=>(s.Ok∧s.cn 1000000)∧q.Ok∧(q.co=5∨q.co=6∨q.co=7∨q.co=8)
 r:=fun (t,r)=> .tup [.t (stA t),.t (rsA r)]
 R:=fun (s,lo,q) (t,r)=>s.Go 3 t
theorem jJj {g:EF qOh}{s:St}{lo:Int}{q:Rq}(hp:(s.Ok∧s.cn 1000000)∧q.Ok∧(q.co=5∨q.co=6∨q.co=7∨q.co=8)) : ∃ (t:St) (r:Rs),(s.Go 3 t)∧qOh.fs g [.t (stA s),.t (.int .i64 lo),.t (rqA q)] []=some (.tup [.t (stA t),.t (rsA r)],[]):=by
 obtain⟨y,h1,h2⟩:=qOh.eq g (s,lo,q) hp;exact⟨y.1,y.2,h1,h2⟩
theorem zEl {s:St}{lo:Int}{q:Rq}(t:St)(r:Rs)(hR:s.Go 3 t)(hV:vv = .tup [.t (stA t),.t (rsA r)])(hO:oo=[]):qOh.K (s,lo,q) vv oo:=⟨(t,r),hR,hV,hO⟩
def qNa:ECt where
 α:=St×Rq
 β:=St×Rs
 aS:=fun (s,q)=>[.t (stA s),.t (rqA q)]
 pre:=fun (s,q)=>(s.Ok∧s.cn 1000000)∧q.Ok∧q.co=17
 r:=fun (t,r)=> .tup [.t (stA t),.t (rsA r)]
 R:=fun (s,q) (t,r)=>s.Go 3 t
theorem jGy {g:EF qNa}{s:St}{q:Rq}(hp:(s.Ok∧s.cn 1000000)∧q.Ok∧q.co=17) : ∃ (t:St) (r:Rs),(s.Go 3 t)∧qNa.fs g [.t (stA s),.t (rqA q)] []=some (.tup [.t (stA t),.t (rsA r)],[]):=by
 obtain⟨y,h1,h2⟩:=qNa.eq g (s,q) hp;exact⟨y.1,y.2,h1,h2⟩
theorem zDo {s:St}{q:Rq}(t:St)(r:Rs)(hR:s.Go 3 t)(hV:vv = .tup [.t (stA t),.t (rsA r)])(hO:oo=[]):qNa.K (s,q) vv oo:=⟨(t,r),hR,hV,hO⟩
def qO5:ECt where
 α:=St×Rq
 β:=St×Rs
 aS:=fun (s,q)=>[.t (stA s),.t (rqA q)]
 pre:=fun (s,q)=>(s.Ok∧s.cn 1000000)∧q.Ok∧(q.co=16∨q.co=17∨q.co=18∨q.co=19∨q.co=20)
 r:=fun (t,r)=> .tup [.t (stA t),.t (rsA r)]
 R:=fun (s,q) (t,r)=>s.Go 3 t
theorem jLl {g:EF qO5}{s:St}{q:Rq}(hp:(s.Ok∧s.cn 1000000)∧q.Ok∧(q.co=16∨q.co=17∨q.co=18∨q.co=19∨q.co=20)) : ∃ (t:St) (r:Rs),(s.Go 3 t)∧qO5.fs g [.t (stA s),.t (rqA q)] []=some (.tup [.t (stA t),.t (rsA r)],[]):=by
 obtain⟨y,h1,h2⟩:=qO5.eq g (s,q) hp;exact⟨y.1,y.2,h1,h2⟩
theorem qX2 {s:St}{q:Rq}(t:St)(r:Rs)(hR:s.Go 3 t)(hV:vv = .tup [.t (stA t),.t (rsA r)])(hO:oo=[]):qO5.K (s,q) vv oo:=⟨(t,r),hR,hV,hO⟩
def qOl:ECt where
 α:=St×Rq
 β:=St×Rs
 aS:=fun (s,q)=>[.t (stA s),.t (rqA q)]
 pre:=fun (s,q)=>(s.Ok∧s.cn 1000000)∧q.Ok∧q.Al s∧(q.co=9∨q.co=10∨q.co=11∨q.co=12∨q.co=13∨q.co=14∨q.co=15)
 r:=fun (t,r)=> .tup [.t (stA t),.t (rsA r)]
 R:=fun (s,q) (t,r)=>s.Go 3 t
theorem jJo {g:EF qOl}{s:St}{q:Rq}(hp:(s.Ok∧s.cn 1000000)∧q.Ok∧q.Al s∧(q.co=9∨q.co=10∨q.co=11∨q.co=12∨q.co=13∨q.co=14∨q.co=15)) : ∃ (t:St) (r:Rs),(s.Go 3 t)∧qOl.fs g [.t (stA s),.t (rqA q)] []=some (.tup [.t (stA t),.t (rsA r)],[]):=by
 obtain⟨y,h1,h2⟩:=qOl.eq g (s,q) hp;exact⟨y.1,y.2,h1,h2⟩
theorem zH4 {s:St}{q:Rq}(t:St)(r:Rs)(hR:s.Go 3 t)(hV:vv = .tup [.t (stA t),.t (rsA r)])(hO:oo=[]):qOl.K (s,q) vv oo:=⟨(t,r),hR,hV,hO⟩
def qNk:ECt where
 α:=St×Rq
 β:=St×Rs
 aS:=fun (s,q)=>[.t (stA s),.t (rqA q)]
 pre:=fun (s,q)=>(s.Ok∧s.cn 1000000)∧q.Ok∧q.co=21
 r:=fun (t,r)=> .tup [.t (stA t),.t (rsA r)]
 R:=fun (s,q) (t,r)=>s.Go 3 t
theorem jHq {g:EF qNk}{s:St}{q:Rq}(hp:(s.Ok∧s.cn 1000000)∧q.Ok∧q.co=21) : ∃ (t:St) (r:Rs),(s.Go 3 t)∧qNk.fs g [.t (stA s),.t (rqA q)] []=some (.tup [.t (stA t),.t (rsA r)],[]):=by
 obtain⟨y,h1,h2⟩:=qNk.eq g (s,q) hp;exact⟨y.1,y.2,h1,h2⟩
theorem zUz {s:St}{q:Rq}(t:St)(r:Rs)(hR:s.Go 3 t)(hV:vv = .tup [.t (stA t),.t (rsA r)])(hO:oo=[]):qNk.K (s,q) vv oo:=⟨(t,r),hR,hV,hO⟩
def qPh:ECt where
 α:=List Int×Int
 β:=List Int
 aS:=fun (l,n)=>[.t (.sl (l.map iT)),.t (.int .i64 n)]
 pre:=fun (l,n)=>l.length≤1000000
 r:=fun r=> .t (.sl (r.map iT))
 R:=fun (l,n) r=>r.length≤l.length
theorem jA9 {g:EF qPh}{l:List Int}{n:Int}(hp:l.length≤1000000) : ∃ (r:List Int),(r.length≤l.length)∧qPh.fs g [.t (.sl (l.map iT)),.t (.int .i64 n)] []=some (.t (.sl (r.map iT)),[]):=qPh.eq g (l,n) hp
theorem jQ1 {l:List Int}{n:Int}(r:List Int)(hR:r.length≤l.length)(hV:vv = .t (.sl (r.map iT)))(hO:oo=[]):qPh.K (l,n) vv oo:=⟨r,hR,hV,hO⟩
def qPb:ECt where
 α:=St×Rq
 β:=St×Rs
 aS:=fun (s,q)=>[.t (stA s),.t (rqA q)]
 pre:=fun (s,q)=>(s.Ok∧s.cn 1000000)∧q.Ok∧q.co=22
 r:=fun (t,r)=> .tup [.t (stA t),.t (rsA r)]
 R:=fun (s,q) (t,r)=>s.Go 3 t
theorem jL1 {g:EF qPb}{s:St}{q:Rq}(hp:(s.Ok∧s.cn 1000000)∧q.Ok∧q.co=22) : ∃ (t:St) (r:Rs),(s.Go 3 t)∧qPb.fs g [.t (stA s),.t (rqA q)] []=some (.tup [.t (stA t),.t (rsA r)],[]):=by
 obtain⟨y,h1,h2⟩:=qPb.eq g (s,q) hp;exact⟨y.1,y.2,h1,h2⟩
theorem jL0 {s:St}{q:Rq}(t:St)(r:Rs)(hR:s.Go 3 t)(hV:vv = .tup [.t (stA t),.t (rsA r)])(hO:oo=[]):qPb.K (s,q) vv oo:=⟨(t,r),hR,hV,hO⟩
def qPg:ECt where
 α:=List Int×Int
 β:=List Int
 aS:=fun (l,n)=>[.t (.sl (l.map iT)),.t (.int .i64 n)]
 pre:=fun (l,n)=>l.length≤1000000
 r:=fun r=> .t (.sl (r.map iT))
 R:=fun (l,n) r=>r.length≤l.length+1
theorem jA8 {g:EF qPg}{l:List Int}{n:Int}(hp:l.length≤1000000) : ∃ (r:List Int),(r.length≤l.length+1)∧qPg.fs g [.t (.sl (l.map iT)),.t (.int .i64 n)] []=some (.t (.sl (r.map iT)),[]):=qPg.eq g (l,n) hp
theorem jM8 {l:List Int}{n:Int}(r:List Int)(hR:r.length≤l.length+1)(hV:vv = .t (.sl (r.map iT)))(hO:oo=[]):qPg.K (l,n) vv oo:=⟨r,hR,hV,hO⟩
def qO6:ECt where
 α:=St×Rq
 β:=St×Rs
 aS:=fun (s,q)=>[.t (stA s),.t (rqA q)]
 pre:=fun (s,q)=>(s.Ok∧s.cn 1000000)∧q.Ok∧q.Al s∧23≤q.co∧q.co≤29
 r:=fun (t,r)=> .tup [.t (stA t),.t (rsA r)]
 R:=fun (s,q) (t,r)=>s.Go 3 t
theorem jLm {g:EF qO6}{s:St}{q:Rq}(hp:(s.Ok∧s.cn 1000000)∧q.Ok∧q.Al s∧23≤q.co∧q.co≤29) : ∃ (t:St) (r:Rs),(s.Go 3 t)∧qO6.fs g [.t (stA s),.t (rqA q)] []=some (.tup [.t (stA t),.t (rsA r)],[]):=by
 obtain⟨y,h1,h2⟩:=qO6.eq g (s,q) hp;exact⟨y.1,y.2,h1,h2⟩
theorem qLz {s:St}{q:Rq}(t:St)(r:Rs)(hR:s.Go 3 t)(hV:vv = .tup [.t (stA t),.t (rsA r)])(hO:oo=[]):qO6.K (s,q) vv oo:=⟨(t,r),hR,hV,hO⟩
def qNf:ECt where
 α:=St
 β:=St×Rs
 aS:=fun s=>[.t (stA s)]
 pre:=fun s=>s.Ok∧s.cn 1000000
 r:=fun (t,r)=> .tup [.t (stA t),.t (rsA r)]
 R:=fun s (t,r)=>s.Go 3 t
theorem jHg {g:EF qNf}{s:St}(hp:s.Ok∧s.cn 1000000) : ∃ (t:St) (r:Rs),(s.Go 3 t)∧qNf.fs g [.t (stA s)] []=some (.tup [.t (stA t),.t (rsA r)],[]):=by
 obtain⟨y,h1,h2⟩:=qNf.eq g s hp;exact⟨y.1,y.2,h1,h2⟩
theorem jN1 {s:St}(t:St)(r:Rs)(hR:s.Go 3 t)(hV:vv = .tup [.t (stA t),.t (rsA r)])(hO:oo=[]):qNf.K s vv oo:=⟨(t,r),hR,hV,hO⟩
def qIq:ECt where
 α:=St×Rq
 β:=St×Rs
 aS:=fun (s,q)=>[.t (stA s),.t (rqA q)]
 pre:=fun (s,q)=>(s.Ok∧s.cn 1000000)∧q.Ok∧q.Al s∧q.co=30
 r:=fun (t,r)=> .tup [.t (stA t),.t (rsA r)]
 R:=fun (s,q) (t,r)=>s.Go 3 t
theorem jBp {g:EF qIq}{s:St}{q:Rq}(hp:(s.Ok∧s.cn 1000000)∧q.Ok∧q.Al s∧q.co=30) : ∃ (t:St) (r:Rs),(s.Go 3 t)∧qIq.fs g [.t (stA s),.t (rqA q)] []=some (.tup [.t (stA t),.t (rsA r)],[]):=by
 obtain⟨y,h1,h2⟩:=qIq.eq g (s,q) hp;exact⟨y.1,y.2,h1,h2⟩
theorem zY4 {s:St}{q:Rq}(t:St)(r:Rs)(hR:s.Go 3 t)(hV:vv = .tup [.t (stA t),.t (rsA r)])(hO:oo=[]):qIq.K (s,q) vv oo:=⟨(t,r),hR,hV,hO⟩
def qKt:ECt where
 α:=St×Int×Rq
 β:=St×Rs
 aS:=fun (s,lo,q)=>[.t (stA s),.t (.int .i64 lo),.t (rqA q)]
 pre:=fun (s,lo,q)=>(s.Ok∧s.cn 1000000)∧q.Ok∧q.Al s
 r:=fun (t,r)=> .tup [.t (stA t),.t (rsA r)]
 R:=fun (s,lo,q) (t,r)=>s.Go 3 t
theorem jG6 {g:EF qKt}{s:St}{lo:Int}{q:Rq}(hp:(s.Ok∧s.cn 1000000)∧q.Ok∧q.Al s) : ∃ (t:St) (r:Rs),(s.Go 3 t)∧qKt.fs g [.t (stA s),.t (.int .i64 lo),.t (rqA q)] []=some (.tup [.t (stA t),.t (rsA r)],[]):=by
 obtain⟨y,h1,h2⟩:=qKt.eq g (s,lo,q) hp;exact⟨y.1,y.2,h1,h2⟩
theorem qP5 {s:St}{lo:Int}{q:Rq}(t:St)(r:Rs)(hR:s.Go 3 t)(hV:vv = .tup [.t (stA t),.t (rsA r)])(hO:oo=[]):qKt.K (s,lo,q) vv oo:=⟨(t,r),hR,hV,hO⟩
def qNm:ECt where
 α:=St×Int×Rq
 β:=St×Rs
 aS:=fun (s,lo,q)=>[.t (stA s),.t (.int .i64 lo),.t (rqA q)]
 pre:=fun (s,lo,q)=>(s.Ok∧s.cn 1000000)∧q.B
 r:=fun (t,r)=> .tup [.t (stA t),.t (rsA r)]
 R:=fun (s,lo,q) (t,r)=>s.Go 4 t
theorem jHv {g:EF qNm}{s:St}{lo:Int}{q:Rq}(hp:(s.Ok∧s.cn 1000000)∧q.B) : ∃ (t:St) (r:Rs),(s.Go 4 t)∧qNm.fs g [.t (stA s),.t (.int .i64 lo),.t (rqA q)] []=some (.tup [.t (stA t),.t (rsA r)],[]):=by
 obtain⟨y,h1,h2⟩:=qNm.eq g (s,lo,q) hp;exact⟨y.1,y.2,h1,h2⟩
theorem qJt {s:St}{lo:Int}{q:Rq}(t:St)(r:Rs)(hR:s.Go 4 t)(hV:vv = .tup [.t (stA t),.t (rsA r)])(hO:oo=[]):qNm.K (s,lo,q) vv oo:=⟨(t,r),hR,hV,hO⟩
abbrev nnI (n:Int):Prop:=0≤n∧n≤1099511627776
def qDn:ECt where
 α:=St×Int×Int
 β:=Int
 aS:=fun (s,n,k)=>[.t (stA s),.t (.int .i64 n),.t (.int .i64 k)]
 pre:=fun (s,n,k)=>s.Ok∧nnI n
 r:=fun h=> .t (.int .i64 h)
 R:=fun (s,n,k) h=>0≤h∧h≤65535
theorem qV7 {g:EF qDn}{s:St}{n k:Int}(hp:s.Ok∧nnI n) : ∃ (h:Int),(0≤h∧h≤65535)∧qDn.fs g [.t (stA s),.t (.int .i64 n),.t (.int .i64 k)] []=some (.t (.int .i64 h),[]):=qDn.eq g (s,n,k) hp
theorem jDh {s:St}{n k:Int}(h:Int)(hR:0≤h∧h≤65535)(hV:vv = .t (.int .i64 h))(hO:oo=[]):qDn.K (s,n,k) vv oo:=⟨h,hR,hV,hO⟩
def qB3:ECt where
 α:=St×Int
 β:=Int
 aS:=fun (s,n)=>[.t (stA s),.t (.int .i64 n)]
 pre:=fun (s,n)=>s.Ok∧nnI n
 r:=fun h=> .t (.int .i64 h)
 R:=fun (s,n) h=>0≤h∧h≤65535
theorem zKv {g:EF qB3}{s:St}{n:Int}(hp:s.Ok∧nnI n) : ∃ (h:Int),(0≤h∧h≤65535)∧qB3.fs g [.t (stA s),.t (.int .i64 n)] []=some (.t (.int .i64 h),[]):=qB3.eq g (s,n) hp
theorem jCr {s:St}{n:Int}(h:Int)(hR:0≤h∧h≤65535)(hV:vv = .t (.int .i64 h))(hO:oo=[]):qB3.K (s,n) vv oo:=⟨h,hR,hV,hO⟩
def qBa:ECt where
 α:=St×Int×Int
 β:=Int
 aS:=fun (s,n,k)=>[.t (stA s),.t (.int .i64 n),.t (.int .i64 k)]
 pre:=fun (s,n,k)=>s.Ok∧nnI n
 r:=fun h=> .t (.int .i64 h)
 R:=fun (s,n,k) h=>768≤h∧h≤770
theorem qMs {g:EF qBa}{s:St}{n k:Int}(hp:s.Ok∧nnI n) : ∃ (h:Int),(768≤h∧h≤770)∧qBa.fs g [.t (stA s),.t (.int .i64 n),.t (.int .i64 k)] []=some (.t (.int .i64 h),[]):=qBa.eq g (s,n,k) hp
theorem jFa {s:St}{n k:Int}(h:Int)(hR:768≤h∧h≤770)(hV:vv = .t (.int .i64 h))(hO:oo=[]):qBa.K (s,n,k) vv oo:=⟨h,hR,hV,hO⟩
def qFc:ECt where
 α:=St×Int
 β:=Int
 aS:=fun (s,n)=>[.t (stA s),.t (.int .i64 n)]
 pre:=fun (s,n)=>s.Ok∧nnI n
 r:=fun h=> .t (.int .i64 h)
 R:=fun (s,n) h=>0≤h∧h≤65535
theorem jHu {g:EF qFc}{s:St}{n:Int}(hp:s.Ok∧nnI n) : ∃ (h:Int),(0≤h∧h≤65535)∧qFc.fs g [.t (stA s),.t (.int .i64 n)] []=some (.t (.int .i64 h),[]):=qFc.eq g (s,n) hp
theorem jB8 {s:St}{n:Int}(h:Int)(hR:0≤h∧h≤65535)(hV:vv = .t (.int .i64 h))(hO:oo=[]):qFc.K (s,n) vv oo:=⟨h,hR,hV,hO⟩
def qFa:ECt where
 α:=St×Rq×Int×List UInt8
 β:=Rq
 aS:=fun (s,q,m,b)=>[.t (stA s),.t (rqA q),.t (.int .i64 m),.t (.sl (b.map qA))]
 pre:=fun (s,q,m,b)=>s.Ok∧(q.B∧1≤q.hs.length)∧nnI m∧b.length≤60
 r:=fun r=> .t (rqA r)
 R:=fun (s,q,m,b) r=>r.B
theorem qAt {g:EF qFa}{s:St}{q:Rq}{m:Int}{b:List UInt8}(hp:s.Ok∧(q.B∧1≤q.hs.length)∧nnI m∧b.length≤60) : ∃ (r:Rq),(r.B)∧qFa.fs g [.t (stA s),.t (rqA q),.t (.int .i64 m),.t (.sl (b.map qA))] []=some (.t (rqA r),[]):=qFa.eq g (s,q,m,b) hp
theorem qVi {s:St}{q:Rq}{m:Int}{b:List UInt8}(r:Rq)(hR:r.B)(hV:vv = .t (rqA r))(hO:oo=[]):qFa.K (s,q,m,b) vv oo:=⟨r,hR,hV,hO⟩
def qLc:ECt where
 α:=St×Int×List UInt8
 β:=List UInt8
 aS:=fun (s,n,b)=>[.t (stA s),.t (.int .i64 n),.t (.sl (b.map qA))]
 pre:=fun (s,n,b)=>s.Ok∧nnI n∧b.length≤60
 r:=fun r=> .t (.sl (r.map qA))
 R:=fun (s,n,b) r=>r.length≤32
theorem jAa {g:EF qLc}{s:St}{n:Int}{b:List UInt8}(hp:s.Ok∧nnI n∧b.length≤60) : ∃ (r:List UInt8),(r.length≤32)∧qLc.fs g [.t (stA s),.t (.int .i64 n),.t (.sl (b.map qA))] []=some (.t (.sl (r.map qA)),[]):=qLc.eq g (s,n,b) hp
theorem zRi {s:St}{n:Int}{b:List UInt8}(r:List UInt8)(hR:r.length≤32)(hV:vv = .t (.sl (r.map qA)))(hO:oo=[]):qLc.K (s,n,b) vv oo:=⟨r,hR,hV,hO⟩
def qDq:ECt where
 α:=St×Int×List UInt8
 β:=List Int×List (List UInt8)
 aS:=fun (s,n,b)=>[.t (stA s),.t (.int .i64 n),.t (.sl (b.map qA))]
 pre:=fun (s,n,b)=>s.Ok∧nnI n∧b.length≤60
 r:=fun (l,m)=> .tup [.t (.sl (l.map iT)),.t (.sl (m.map bsT))]
 R:=fun (s,n,b) (l,m)=>l.length=3∧m.length=3 ∧ ∀ x∈m,x.length≤60
theorem zTd {g:EF qDq}{s:St}{n:Int}{b:List UInt8}(hp:s.Ok∧nnI n∧b.length≤60) : ∃ (l:List Int) (m:List (List UInt8)),(l.length=3∧m.length=3 ∧ ∀ x∈m,x.length≤60)∧qDq.fs g [.t (stA s),.t (.int .i64 n),.t (.sl (b.map qA))] []=some (.tup [.t (.sl (l.map iT)),.t (.sl (m.map bsT))],[]):=by
 obtain⟨y,h1,h2⟩:=qDq.eq g (s,n,b) hp;exact⟨y.1,y.2,h1,h2⟩
theorem zBu {s:St}{n:Int}{b:List UInt8}(l:List Int)(m:List (List UInt8))(hR:l.length=3∧m.length=3 ∧ ∀ x∈m,x.length≤60)(hV:vv = .tup [.t (.sl (l.map iT)),.t (.sl (m.map bsT))])(hO:oo=[]):qDq.K (s,n,b) vv oo:=⟨(l,m),hR,hV,hO⟩
def qFb:ECt where
 α:=St×Int×List UInt8
 β:=List Int×List (List UInt8)
 aS:=fun (s,n,b)=>[.t (stA s),.t (.int .i64 n),.t (.sl (b.map qA))]
 pre:=fun (s,n,b)=>s.Ok∧nnI n∧b.length≤60
 r:=fun (l,m)=> .tup [.t (.sl (l.map iT)),.t (.sl (m.map bsT))]
 R:=fun (s,n,b) (l,m)=>l.length≤8∧m.length≤8 ∧ ∀ x∈m,x.length≤60
theorem jHp {g:EF qFb}{s:St}{n:Int}{b:List UInt8}(hp:s.Ok∧nnI n∧b.length≤60) : ∃ (l:List Int) (m:List (List UInt8)),(l.length≤8∧m.length≤8 ∧ ∀ x∈m,x.length≤60)∧qFb.fs g [.t (stA s),.t (.int .i64 n),.t (.sl (b.map qA))] []=some (.tup [.t (.sl (l.map iT)),.t (.sl (m.map bsT))],[]):=by
 obtain⟨y,h1,h2⟩:=qFb.eq g (s,n,b) hp;exact⟨y.1,y.2,h1,h2⟩
theorem jN7 {s:St}{n:Int}{b:List UInt8}(l:List Int)(m:List (List UInt8))(hR:l.length≤8∧m.length≤8 ∧ ∀ x∈m,x.length≤60)(hV:vv = .tup [.t (.sl (l.map iT)),.t (.sl (m.map bsT))])(hO:oo=[]):qFb.K (s,n,b) vv oo:=⟨(l,m),hR,hV,hO⟩
def qE9:ECt where
 α:=St×Int×Int×List UInt8
 β:=List Int×List (List UInt8)
 aS:=fun (s,n,m,b)=>[.t (stA s),.t (.int .i64 n),.t (.int .i64 m),.t (.sl (b.map qA))]
 pre:=fun (s,n,m,b)=>s.Ok∧nnI n∧nnI m∧b.length≤60
 r:=fun (l,r)=> .tup [.t (.sl (l.map iT)),.t (.sl (r.map bsT))]
 R:=fun (s,n,m,b) (l,r)=>l.length≤8∧r.length≤8 ∧ ∀ x∈r,x.length≤60
theorem jGx {g:EF qE9}{s:St}{n m:Int}{b:List UInt8}(hp:s.Ok∧nnI n∧nnI m∧b.length≤60) : ∃ (l:List Int) (r:List (List UInt8)),(l.length≤8∧r.length≤8 ∧ ∀ x∈r,x.length≤60)∧qE9.fs g [.t (stA s),.t (.int .i64 n),.t (.int .i64 m),.t (.sl (b.map qA))] []=some (.tup [.t (.sl (l.map iT)),.t (.sl (r.map bsT))],[]):=by
 obtain⟨y,h1,h2⟩:=qE9.eq g (s,n,m,b) hp;exact⟨y.1,y.2,h1,h2⟩
theorem qD5 {s:St}{n m:Int}{b:List UInt8}(l:List Int)(r:List (List UInt8))(hR:l.length≤8∧r.length≤8 ∧ ∀ x∈r,x.length≤60)(hV:vv = .tup [.t (.sl (l.map iT)),.t (.sl (r.map bsT))])(hO:oo=[]):qE9.K (s,n,m,b) vv oo:=⟨(l,r),hR,hV,hO⟩
def qFd:ECt where
 α:=St×Int×Int×List UInt8
 β:=List (List UInt8)
 aS:=fun (s,h,n,b)=>[.t (stA s),.t (.int .i64 h),.t (.int .i64 n),.t (.sl (b.map qA))]
 pre:=fun (s,h,n,b)=>s.Ok∧nnI n∧b.length≤60
 r:=fun m=> .t (.sl (m.map bsT))
 R:=fun (s,h,n,b) m=>m.length≤8 ∧ ∀ x∈m,x.length≤2000
theorem jI3 {g:EF qFd}{s:St}{h n:Int}{b:List UInt8}(hp:s.Ok∧nnI n∧b.length≤60) : ∃ (m:List (List UInt8)),(m.length≤8 ∧ ∀ x∈m,x.length≤2000)∧qFd.fs g [.t (stA s),.t (.int .i64 h),.t (.int .i64 n),.t (.sl (b.map qA))] []=some (.t (.sl (m.map bsT)),[]):=qFd.eq g (s,h,n,b) hp
theorem zVp {s:St}{h n:Int}{b:List UInt8}(m:List (List UInt8))(hR:m.length≤8 ∧ ∀ x∈m,x.length≤2000)(hV:vv = .t (.sl (m.map bsT)))(hO:oo=[]):qFd.K (s,h,n,b) vv oo:=⟨m,hR,hV,hO⟩
def qE8:ECt where
 α:=St×Int×List UInt8
 β:=List Int×List (List UInt8)
 aS:=fun (s,n,b)=>[.t (stA s),.t (.int .i64 n),.t (.sl (b.map qA))]
 pre:=fun (s,n,b)=>s.Ok∧nnI n∧b.length≤60
 r:=fun (l,m)=> .tup [.t (.sl (l.map iT)),.t (.sl (m.map bsT))]
 R:=fun (s,n,b) (l,m)=>l.length≤8∧m.length≤8 ∧ ∀ x∈m,x.length≤2000
theorem jGv {g:EF qE8}{s:St}{n:Int}{b:List UInt8}(hp:s.Ok∧nnI n∧b.length≤60) : ∃ (l:List Int) (m:List (List UInt8)),(l.length≤8∧m.length≤8 ∧ ∀ x∈m,x.length≤2000)∧qE8.fs g [.t (stA s),.t (.int .i64 n),.t (.sl (b.map qA))] []=some (.tup [.t (.sl (l.map iT)),.t (.sl (m.map bsT))],[]):=by
 obtain⟨y,h1,h2⟩:=qE8.eq g (s,n,b) hp;exact⟨y.1,y.2,h1,h2⟩
theorem jGu {s:St}{n:Int}{b:List UInt8}(l:List Int)(m:List (List UInt8))(hR:l.length≤8∧m.length≤8 ∧ ∀ x∈m,x.length≤2000)(hV:vv = .tup [.t (.sl (l.map iT)),.t (.sl (m.map bsT))])(hO:oo=[]):qE8.K (s,n,b) vv oo:=⟨(l,m),hR,hV,hO⟩
def qFf:ECt where
 α:=St×Int×Int×List UInt8
 β:=Rq
 aS:=fun (s,k,n,b)=>[.t (stA s),.t (.int .i64 k),.t (.int .i64 n),.t (.sl (b.map qA))]
 pre:=fun (s,k,n,b)=>s.Ok∧nnI k∧nnI n∧b.length≤60
 r:=fun q=> .t (rqA q)
 R:=fun (s,k,n,b) q=>q.B∧1≤q.hs.length
theorem qTl {g:EF qFf}{s:St}{k n:Int}{b:List UInt8}(hp:s.Ok∧nnI k∧nnI n∧b.length≤60) : ∃ (q:Rq),(q.B∧1≤q.hs.length)∧qFf.fs g [.t (stA s),.t (.int .i64 k),.t (.int .i64 n),.t (.sl (b.map qA))] []=some (.t (rqA q),[]):=qFf.eq g (s,k,n,b) hp
theorem qEa {s:St}{k n:Int}{b:List UInt8}(q:Rq)(hR:q.B∧1≤q.hs.length)(hV:vv = .t (rqA q))(hO:oo=[]):qFf.K (s,k,n,b) vv oo:=⟨q,hR,hV,hO⟩
def qFg:ECt where
 α:=St×Int×Int×Int×List UInt8
 β:=Rq
 aS:=fun (s,k,n,m,b)=>[.t (stA s),.t (.int .i64 k),.t (.int .i64 n),.t (.int .i64 m),.t (.sl (b.map qA))]
 pre:=fun (s,k,n,m,b)=>s.Ok∧(nnI k∧nnI n∧nnI m)∧b.length≤4000000000
 r:=fun q=> .t (rqA q)
 R:=fun (s,k,n,m,b) q=>q.B
theorem jKt {g:EF qFg}{s:St}{k n m:Int}{b:List UInt8}(hp:s.Ok∧(nnI k∧nnI n∧nnI m)∧b.length≤4000000000) : ∃ (q:Rq),(q.B)∧qFg.fs g [.t (stA s),.t (.int .i64 k),.t (.int .i64 n),.t (.int .i64 m),.t (.sl (b.map qA))] []=some (.t (rqA q),[]):=qFg.eq g (s,k,n,m,b) hp
theorem qAj {s:St}{k n m:Int}{b:List UInt8}(q:Rq)(hR:q.B)(hV:vv = .t (rqA q))(hO:oo=[]):qFg.K (s,k,n,m,b) vv oo:=⟨q,hR,hV,hO⟩
def qLp:ECt where
 α:=St
 β:=St
 aS:=fun s=>[.t (stA s)]
 pre:=fun s=>s.Ok∧s.cn 1000000
 r:=fun t=> .t (stA t)
 R:=fun s t=>s.Go 1 t∧t.on=true
theorem jA6 {g:EF qLp}{s:St}(hp:s.Ok∧s.cn 1000000) : ∃ (t:St),(s.Go 1 t∧t.on=true)∧qLp.fs g [.t (stA s)] []=some (.t (stA t),[]):=qLp.eq g s hp
theorem jM4 {s:St}(t:St)(hR:s.Go 1 t∧t.on=true)(hV:vv = .t (stA t))(hO:oo=[]):qLp.K s vv oo:=⟨t,hR,hV,hO⟩
def qO8:ECt where
 α:=St×Int×Int×Int×List UInt8
 β:=St
 aS:=fun (s,k,n,m,b)=>[.t (stA s),.t (.int .i64 k),.t (.int .i64 n),.t (.int .i64 m),.t (.sl (b.map qA))]
 pre:=fun (s,k,n,m,b)=>(s.Ok∧s.cn 100000)∧((0≤k∧k≤255)∧(0≤n∧n≤255)∧0≤m∧m≤255)∧b.length≤3000000000
 r:=fun t=> .t (stA t)
 R:=fun (s,k,n,m,b) t=>s.Go 6 t
theorem jLp {g:EF qO8}{s:St}{k n m:Int}{b:List UInt8}(hp:(s.Ok∧s.cn 100000)∧((0≤k∧k≤255)∧(0≤n∧n≤255)∧0≤m∧m≤255)∧b.length≤3000000000) : ∃ (t:St),(s.Go 6 t)∧qO8.fs g [.t (stA s),.t (.int .i64 k),.t (.int .i64 n),.t (.int .i64 m),.t (.sl (b.map qA))] []=some (.t (stA t),[]):=qO8.eq g (s,k,n,m,b) hp
theorem jFe {s:St}{k n m:Int}{b:List UInt8}(t:St)(hR:s.Go 6 t)(hV:vv = .t (stA t))(hO:oo=[]):qO8.K (s,k,n,m,b) vv oo:=⟨t,hR,hV,hO⟩
def qOs:ECt where
 α:=St×List UInt8×List UInt8×Int
 β:=St
 aS:=fun (s,cs,b,n)=>[.t (stA s),.t (.sl (cs.map qA)),.t (.sl (b.map qA)),.t (.int .i64 n)]
 pre:=fun (s,cs,b,n)=>(s.Ok∧s.cn 10)∧cs.length≤9223372036854775807∧b.length≤3000000000∧(0≤n∧n≤100)
 r:=fun t=> .t (stA t)
 R:=fun (s,cs,b,n) t=>(t.Ok∧t.cn 5000)∧t.on=true
theorem jJ4 {g:EF qOs}{s:St}{cs b:List UInt8}{n:Int}(hp:(s.Ok∧s.cn 10)∧cs.length≤9223372036854775807∧b.length≤3000000000∧(0≤n∧n≤100)) : ∃ (t:St),((t.Ok∧t.cn 5000)∧t.on=true)∧qOs.fs g [.t (stA s),.t (.sl (cs.map qA)),.t (.sl (b.map qA)),.t (.int .i64 n)] []=some (.t (stA t),[]):=qOs.eq g (s,cs,b,n) hp
theorem jJ3 {s:St}{cs b:List UInt8}{n:Int}(t:St)(hR:(t.Ok∧t.cn 5000)∧t.on=true)(hV:vv = .t (stA t))(hO:oo=[]):qOs.K (s,cs,b,n) vv oo:=⟨t,hR,hV,hO⟩
def qKz:ECt where
 α:=Int×List UInt8×List UInt8
 β:=St
 aS:=fun (a,cs,b)=>[.t (.int .i64 a),.t (.sl (cs.map qA)),.t (.sl (b.map qA))]
 pre:=fun (a,cs,b)=>cs.length≤9223372036854775807∧b.length≤3000000000
 r:=fun t=> .t (stA t)
 R:=fun (a,cs,b) t=>(t.Ok∧t.cn 5000)∧t.on=true
theorem zZf {g:EF qKz}{a:Int}{cs b:List UInt8}(hp:cs.length≤9223372036854775807∧b.length≤3000000000) : ∃ (t:St),((t.Ok∧t.cn 5000)∧t.on=true)∧qKz.fs g [.t (.int .i64 a),.t (.sl (cs.map qA)),.t (.sl (b.map qA))] []=some (.t (stA t),[]):=qKz.eq g (a,cs,b) hp
theorem jOa {a:Int}{cs b:List UInt8}(t:St)(hR:(t.Ok∧t.cn 5000)∧t.on=true)(hV:vv = .t (stA t))(hO:oo=[]):qKz.K (a,cs,b) vv oo:=⟨t,hR,hV,hO⟩
end Go.Eng
end
