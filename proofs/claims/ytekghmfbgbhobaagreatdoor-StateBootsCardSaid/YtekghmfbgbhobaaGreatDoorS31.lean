/- A part of an abstract machine, its walks, their tie. -/
import Derived.Test.YtekghmfbgbhobaaGreatDoorS30
set_option linter.all false
section
set_option maxHeartbeats 64000000
set_option maxRecDepth 20000
namespace Go.Eng
variable {vv:V} {oo:List Ob}
structure Sl2 where
 a:Int
 b:Int
 deriving Inhabited
structure Att where
 key:List UInt8
 no:List UInt8
 res:Int
 rst:Int
 clk:Int
 safe:Bool
 u:Int
 s0:Int
 s1:Int
 dg:List UInt8
 deriving Inhabited
structure Rr where
 bk:List zE
 u:Int
 deriving Inhabited
def zVu (x:Sl2):T:= .agg [.int .i64 x.a,.int .i64 x.b]
def zPv (x:Att):T:= .agg [.sl (x.key.map qA),.sl (x.no.map qA),.int .i64 x.res,.int .i64 x.rst,.int .i64 x.clk,.bool x.safe,.int .i64 x.u,.int .i64 x.s0,.int .i64 x.s1,.sl (x.dg.map qA)]
def rrA (x:Rr):T:= .agg [.sl (x.bk.map vM),.int .i64 x.u]
theorem jF2:EI zVu:=qB8 (by rintro⟨⟩ ⟨⟩ h;simp only[zVu,qXx] at h;obtain⟨rfl,rfl⟩:=h;rfl)
theorem jBu:EI zPv:=qB8 (by rintro⟨⟩ ⟨⟩ h;simp only[zPv,qXx] at h;obtain⟨rfl,rfl,rfl,rfl,rfl,rfl,rfl,rfl,rfl,rfl⟩:=h;rfl)
theorem jKe:EI rrA:=qB8 (by rintro⟨⟩ ⟨⟩ h;simp only[rrA,qXx] at h;obtain⟨rfl,rfl⟩:=h;rfl)
theorem jPl:EI zVu∧EI zPv∧EI rrA:=⟨jF2,jBu,jKe⟩
def Asr.B (a:Asr):Prop:=a.dg.length≤4000∧a.od.length≤4000∧a.nm.length≤4000∧a.rf.length≤4000∧a.br.length≤8 ∧ ∀ x∈a.br,x.length≤4000
def Rq.B (q:Rq):Prop:=q.hs.length≤8∧q.au.length≤8∧q.ns.length≤8∧q.bl.length≤8∧(∀ x∈q.bl,x.length≤4000) ∧ ∀ a∈q.au,a.no.length≤4000∧a.va.length≤4000
def jH8:List (Int×Int×Int×Int):=[(-2,0,0,0),(0,0,1,0),(0,0,1,0),(-2,0,0,0),(0,0,0,0),(0,0,2,0),(0,0,1,2),(0,0,1,1),(0,0,1,0),
 (1,1,3,3),(1,1,3,3),(1,1,0,2),(0,0,1,0),(1,1,0,0),(1,1,0,1),(1,1,2,1),(0,0,1,0),(0,0,6,-1),(1,1,2,1),(0,0,1,3),(0,0,1,0),
 (1,1,4,2),(1,1,1,0),(2,1,1,1),(2,1,2,0),(2,1,0,0),(2,1,0,1),(2,1,0,1),(2,1,0,0),(2,1,0,0),(1,1,0,1),(1,1,0,0),(1,1,0,0),(1,1,3,0)]
def qFh (c:Int):Int×Int×Int×Int:=if c<0∨34≤c then (-2,0,0,0) else jH8.getD c.toNat (-2,0,0,0)
structure Rq.Ok (q:Rq):Prop where
 co:(0≤q.co∧q.co<34)∧(qFh q.co).1 ≠ -2
 hs:(q.hs.length:Int)=(qFh q.co).1 ∧ ∀ x∈q.hs,0≤x∧x≤65535
 au:(q.au.length:Int)=(qFh q.co).2.1 ∧ ∀ a∈q.au,tmI a.s∧a.no.length≤128∧a.va.length≤128
 ns:(q.ns.length:Int)=(qFh q.co).2.2.1 ∧ ∀ x∈q.ns,tmI x
 bl:((q.bl.length:Int)=(qFh q.co).2.2.2∨(qFh q.co).2.2.2 = -1∧q.bl.length≤8) ∧ ∀ x∈q.bl,x.length≤1024
def Rq.h0 (q:Rq):Int:=q.hs.getD 0 0
def Rq.h1 (q:Rq):Int:=q.hs.getD 1 0
def Rq.Al (q:Rq)(s:St):Prop:=(q.co=9→0≤q.h0∧q.h0≤2)∧(q.co=10∨q.co=11∨q.co=13∨q.co=14∨q.co=15→0≤slP s.obs q.h0 0)∧(q.co=30→0≤q.h0∧q.h0≤3)∧(23≤q.co∧q.co≤29→0≤ixP s.a.ix q.h1 0)
def St.Go (k:Int)(s t:St):Prop:=t.Ok∧s.up k t
def St.lkd (s:St)(l:Lk):St := { s with a := { s.a with lk:=l } }
def qI6:ECt where
 α:=List UInt8
 β:=List Int
 aS:=fun m=>[.t (.sl (m.map qA))]
 pre:=fun m=>m.length≤100000
 r:=fun r=> .t (.sl (r.map iT))
 R:=fun m r=>r.length=35 ∧ ∀ x∈r,0≤x∧x≤15
theorem zUj {g:EF qI6}{m:List UInt8}(hp:m.length≤100000) : ∃ (r:List Int),(r.length=35 ∧ ∀ x∈r,0≤x∧x≤15)∧qI6.fs g [.t (.sl (m.map qA))] []=some (.t (.sl (r.map iT)),[]):=qI6.eq g m hp
theorem jIu {m:List UInt8}(r:List Int)(hR:r.length=35 ∧ ∀ x∈r,0≤x∧x≤15)(hV:vv = .t (.sl (r.map iT)))(hO:oo=[]):qI6.K m vv oo:=⟨r,hR,hV,hO⟩
def qCn:ECt where
 α:=Int×Int×Int×Int×List UInt8
 β:=List UInt8
 aS:=fun (l,c,a,b,x)=>[.t (.int .i64 l),.t (.int .i64 c),.t (.int .i64 a),.t (.int .i64 b),.t (.sl (x.map qA))]
 pre:=fun (l,c,a,b,x)=>x.length=16∧0≤a∧b≤15
 r:=fun r=> .t (.sl (r.map qA))
 R:=fun (l,c,a,b,x) r=>r.length=16
theorem zE6 {g:EF qCn}{l c a b:Int}{x:List UInt8}(hp:x.length=16∧0≤a∧b≤15) : ∃ (r:List UInt8),(r.length=16)∧qCn.fs g [.t (.int .i64 l),.t (.int .i64 c),.t (.int .i64 a),.t (.int .i64 b),.t (.sl (x.map qA))] []=some (.t (.sl (r.map qA)),[]):=qCn.eq g (l,c,a,b,x) hp
theorem jGa {l c a b:Int}{x:List UInt8}(r:List UInt8)(hR:r.length=16)(hV:vv = .t (.sl (r.map qA)))(hO:oo=[]):qCn.K (l,c,a,b,x) vv oo:=⟨r,hR,hV,hO⟩
def qJq:ECt where
 α:=List UInt8×Int×Int
 β:=List UInt8
 aS:=fun (s,l,c)=>[.t (.sl (s.map qA)),.t (.int .i64 l),.t (.int .i64 c)]
 pre:=fun (s,l,c)=>s.length≤64
 r:=fun r=> .t (.sl (r.map qA))
 R:=fun (s,l,c) r=>r.length=16
theorem zVx {g:EF qJq}{s:List UInt8}{l c:Int}(hp:s.length≤64) : ∃ (r:List UInt8),(r.length=16)∧qJq.fs g [.t (.sl (s.map qA)),.t (.int .i64 l),.t (.int .i64 c)] []=some (.t (.sl (r.map qA)),[]):=qJq.eq g (s,l,c) hp
theorem jKz {s:List UInt8}{l c:Int}(r:List UInt8)(hR:r.length=16)(hV:vv = .t (.sl (r.map qA)))(hO:oo=[]):qJq.K (s,l,c) vv oo:=⟨r,hR,hV,hO⟩
def qJg:ECt where
 α:=Int×List UInt8
 β:=List UInt8
 aS:=fun (l,e)=>[.t (.int .i64 l),.t (.sl (e.map qA))]
 pre:=fun (l,e)=>e.length≤1000
 r:=fun r=> .t (.sl (r.map qA))
 R:=fun (l,e) r=>r.length=16
theorem zVd {g:EF qJg}{l:Int}{e:List UInt8}(hp:e.length≤1000) : ∃ (r:List UInt8),(r.length=16)∧qJg.fs g [.t (.int .i64 l),.t (.sl (e.map qA))] []=some (.t (.sl (r.map qA)),[]):=qJg.eq g (l,e) hp
theorem jJv {l:Int}{e:List UInt8}(r:List UInt8)(hR:r.length=16)(hV:vv = .t (.sl (r.map qA)))(hO:oo=[]):qJg.K (l,e) vv oo:=⟨r,hR,hV,hO⟩
def qMx:ECt where
 α:=List UInt8×Int
 β:=List UInt8
 aS:=fun (s,l)=>[.t (.sl (s.map qA)),.t (.int .i64 l)]
 pre:=fun (s,l)=>s.length≤64
 r:=fun r=> .t (.sl (r.map qA))
 R:=fun (s,l) r=>r.length≤16
theorem jEg {g:EF qMx}{s:List UInt8}{l:Int}(hp:s.length≤64) : ∃ (r:List UInt8),(r.length≤16)∧qMx.fs g [.t (.sl (s.map qA)),.t (.int .i64 l)] []=some (.t (.sl (r.map qA)),[]):=qMx.eq g (s,l) hp
theorem zYf {s:List UInt8}{l:Int}(r:List UInt8)(hR:r.length≤16)(hV:vv = .t (.sl (r.map qA)))(hO:oo=[]):qMx.K (s,l) vv oo:=⟨r,hR,hV,hO⟩
def qM2:ECt where
 α:=List UInt8×Int×List UInt8
 β:=List UInt8
 aS:=fun (s,l,m)=>[.t (.sl (s.map qA)),.t (.int .i64 l),.t (.sl (m.map qA))]
 pre:=fun (s,l,m)=>s.length≤64∧m.length≤100000
 r:=fun r=> .t (.sl (r.map qA))
 R:=fun (s,l,m) r=>r.length≤560
theorem jEm {g:EF qM2}{s:List UInt8}{l:Int}{m:List UInt8}(hp:s.length≤64∧m.length≤100000) : ∃ (r:List UInt8),(r.length≤560)∧qM2.fs g [.t (.sl (s.map qA)),.t (.int .i64 l),.t (.sl (m.map qA))] []=some (.t (.sl (r.map qA)),[]):=qM2.eq g (s,l,m) hp
theorem zYj {s:List UInt8}{l:Int}{m:List UInt8}(r:List UInt8)(hR:r.length≤560)(hV:vv = .t (.sl (r.map qA)))(hO:oo=[]):qM2.K (s,l,m) vv oo:=⟨r,hR,hV,hO⟩
def qM1:ECt where
 α:=Int×List UInt8×List UInt8
 β:=List UInt8×Bool
 aS:=fun (l,m,sg)=>[.t (.int .i64 l),.t (.sl (m.map qA)),.t (.sl (sg.map qA))]
 pre:=fun (l,m,sg)=>m.length≤100000∧sg.length≤100000
 r:=fun (r,b)=> .tup [.t (.sl (r.map qA)),.t (.bool b)]
 R:=fun (l,m,sg) (r,b)=>r.length≤16
theorem jEl {g:EF qM1}{l:Int}{m sg:List UInt8}(hp:m.length≤100000∧sg.length≤100000) : ∃ (r:List UInt8) (b:Bool),(r.length≤16)∧qM1.fs g [.t (.int .i64 l),.t (.sl (m.map qA)),.t (.sl (sg.map qA))] []=some (.tup [.t (.sl (r.map qA)),.t (.bool b)],[]):=by
 obtain⟨y,h1,h2⟩:=qM1.eq g (l,m,sg) hp;exact⟨y.1,y.2,h1,h2⟩
theorem zRs {l:Int}{m sg:List UInt8}(r:List UInt8)(b:Bool)(hR:r.length≤16)(hV:vv = .tup [.t (.sl (r.map qA)),.t (.bool b)])(hO:oo=[]):qM1.K (l,m,sg) vv oo:=⟨(r,b),hR,hV,hO⟩
def qI7:ECt where
 α:=Int
 β:=Bool
 aS:=fun n=>[.t (.int .i64 n)]
 pre:=fun n=>True
 r:=fun r'=> .t (.bool r')
 R:=fun n r'=>r'=decide (n=1∨n=2∨n=4∨n=8)
theorem zUt {g:EF qI7}{n:Int}:qI7.fs g [.t (.int .i64 n)] []=some (.t (.bool (decide (n=1∨n=2∨n=4∨n=8))),[]):=fnQ qI7 n trivial
theorem zLg {n:Int}(hV:vv = .t (.bool (decide (n=1∨n=2∨n=4∨n=8))))(hO:oo=[]):qI7.K n vv oo:=⟨_,rfl,hV,hO⟩
def qJb:ECt where
 α:=Int×Int×List UInt8×List UInt8
 β:=List UInt8
 aS:=fun (h,i,x,y)=>[.t (.int .i64 h),.t (.int .i64 i),.t (.sl (x.map qA)),.t (.sl (y.map qA))]
 pre:=fun (h,i,x,y)=>x.length≤1000∧y.length≤1000
 r:=fun r=> .t (.sl (r.map qA))
 R:=fun (h,i,x,y) r=>r.length=16
theorem zL7 {g:EF qJb}{h i:Int}{x y:List UInt8}(hp:x.length≤1000∧y.length≤1000) : ∃ (r:List UInt8),(r.length=16)∧qJb.fs g [.t (.int .i64 h),.t (.int .i64 i),.t (.sl (x.map qA)),.t (.sl (y.map qA))] []=some (.t (.sl (r.map qA)),[]):=qJb.eq g (h,i,x,y) hp
theorem jJc {h i:Int}{x y:List UInt8}(r:List UInt8)(hR:r.length=16)(hV:vv = .t (.sl (r.map qA)))(hO:oo=[]):qJb.K (h,i,x,y) vv oo:=⟨r,hR,hV,hO⟩
def qJs:ECt where
 α:=Int×List (List UInt8)
 β:=List (List UInt8)
 aS:=fun (h,l)=>[.t (.int .i64 h),.t (.sl (l.map bsT))]
 pre:=fun (h,l)=>l.length≤8 ∧ ∀ x∈l,x.length≤16
 r:=fun r=> .t (.sl (r.map bsT))
 R:=fun (h,l) r=>r.length=l.length/2 ∧ ∀ x∈r,x.length≤16
theorem zV1 {g:EF qJs}{h:Int}{l:List (List UInt8)}(hp:l.length≤8 ∧ ∀ x∈l,x.length≤16) : ∃ (r:List (List UInt8)),(r.length=l.length/2 ∧ ∀ x∈r,x.length≤16)∧qJs.fs g [.t (.int .i64 h),.t (.sl (l.map bsT))] []=some (.t (.sl (r.map bsT)),[]):=qJs.eq g (h,l) hp
theorem jK8 {h:Int}{l:List (List UInt8)}(r:List (List UInt8))(hR:r.length=l.length/2 ∧ ∀ x∈r,x.length≤16)(hV:vv = .t (.sl (r.map bsT)))(hO:oo=[]):qJs.K (h,l) vv oo:=⟨r,hR,hV,hO⟩
def qNb:ECt where
 α:=List (List UInt8)
 β:=List UInt8
 aS:=fun l=>[.t (.sl (l.map bsT))]
 pre:=fun l=>l.length≤8 ∧ ∀ x∈l,x.length≤16
 r:=fun r=> .t (.sl (r.map qA))
 R:=fun l r=>r.length≤16
theorem jFc {g:EF qNb}{l:List (List UInt8)}(hp:l.length≤8 ∧ ∀ x∈l,x.length≤16) : ∃ (r:List UInt8),(r.length≤16)∧qNb.fs g [.t (.sl (l.map bsT))] []=some (.t (.sl (r.map qA)),[]):=qNb.eq g l hp
theorem jFb {l:List (List UInt8)}(r:List UInt8)(hR:r.length≤16)(hV:vv = .t (.sl (r.map qA)))(hO:oo=[]):qNb.K l vv oo:=⟨r,hR,hV,hO⟩
def qM6:ECt where
 α:=Int×List (List UInt8)
 β:=List (List UInt8)
 aS:=fun (i,l)=>[.t (.int .i64 i),.t (.sl (l.map bsT))]
 pre:=fun (i,l)=>l.length≤8 ∧ ∀ x∈l,x.length≤16
 r:=fun r=> .t (.sl (r.map bsT))
 R:=fun (i,l) r=>r.length≤3 ∧ ∀ x∈r,x.length≤16
theorem jEt {g:EF qM6}{i:Int}{l:List (List UInt8)}(hp:l.length≤8 ∧ ∀ x∈l,x.length≤16) : ∃ (r:List (List UInt8)),(r.length≤3 ∧ ∀ x∈r,x.length≤16)∧qM6.fs g [.t (.int .i64 i),.t (.sl (l.map bsT))] []=some (.t (.sl (r.map bsT)),[]):=qM6.eq g (i,l) hp
theorem zRv {i:Int}{l:List (List UInt8)}(r:List (List UInt8))(hR:r.length≤3 ∧ ∀ x∈r,x.length≤16)(hV:vv = .t (.sl (r.map bsT)))(hO:oo=[]):qM6.K (i,l) vv oo:=⟨r,hR,hV,hO⟩
def qI3:ECt where
 α:=List UInt8×Int×List (List UInt8)
 β:=List UInt8
 aS:=fun (x,i,p)=>[.t (.sl (x.map qA)),.t (.int .i64 i),.t (.sl (p.map bsT))]
 pre:=fun (x,i,p)=>x.length≤16 ∧ ∀ x∈p,x.length≤16
 r:=fun r=> .t (.sl (r.map qA))
 R:=fun (x,i,p) r=>r.length≤16
theorem jB8 {g:EF qI3}{x:List UInt8}{i:Int}{p:List (List UInt8)}(hp:x.length≤16 ∧ ∀ x∈p,x.length≤16) : ∃ (r:List UInt8),(r.length≤16)∧qI3.fs g [.t (.sl (x.map qA)),.t (.int .i64 i),.t (.sl (p.map bsT))] []=some (.t (.sl (r.map qA)),[]):=qI3.eq g (x,i,p) hp
theorem zD4 {x:List UInt8}{i:Int}{p:List (List UInt8)}(r:List UInt8)(hR:r.length≤16)(hV:vv = .t (.sl (r.map qA)))(hO:oo=[]):qI3.K (x,i,p) vv oo:=⟨r,hR,hV,hO⟩
def qJe:ECt where
 α:=List UInt8×Int
 β:=List UInt8
 aS:=fun (s,h)=>[.t (.sl (s.map qA)),.t (.int .i64 h)]
 pre:=fun (s,h)=>s.length≤64
 r:=fun r=> .t (.sl (r.map qA))
 R:=fun (s,h) r=>r.length=32
theorem zU3 {g:EF qJe}{s:List UInt8}{h:Int}(hp:s.length≤64) : ∃ (r:List UInt8),(r.length=32)∧qJe.fs g [.t (.sl (s.map qA)),.t (.int .i64 h)] []=some (.t (.sl (r.map qA)),[]):=qJe.eq g (s,h) hp
theorem jJn {s:List UInt8}{h:Int}(r:List UInt8)(hR:r.length=32)(hV:vv = .t (.sl (r.map qA)))(hO:oo=[]):qJe.K (s,h) vv oo:=⟨r,hR,hV,hO⟩
def qHb:ECt where
 α:=List UInt8×Int
 β:=List (List UInt8)
 aS:=fun (s,h)=>[.t (.sl (s.map qA)),.t (.int .i64 h)]
 pre:=fun (s,h)=>s.length≤64∧0≤h∧h≤3
 r:=fun r=> .t (.sl (r.map bsT))
 R:=fun (s,h) r=>r.length≤8 ∧ ∀ x∈r,x.length≤16
theorem zU5 {g:EF qHb}{s:List UInt8}{h:Int}(hp:s.length≤64∧0≤h∧h≤3) : ∃ (r:List (List UInt8)),(r.length≤8 ∧ ∀ x∈r,x.length≤16)∧qHb.fs g [.t (.sl (s.map qA)),.t (.int .i64 h)] []=some (.t (.sl (r.map bsT)),[]):=qHb.eq g (s,h) hp
theorem jJo {s:List UInt8}{h:Int}(r:List (List UInt8))(hR:r.length≤8 ∧ ∀ x∈r,x.length≤16)(hV:vv = .t (.sl (r.map bsT)))(hO:oo=[]):qHb.K (s,h) vv oo:=⟨r,hR,hV,hO⟩
def qJh:ECt where
 α:=List UInt8×Int
 β:=List UInt8
 aS:=fun (s,h)=>[.t (.sl (s.map qA)),.t (.int .i64 h)]
 pre:=fun (s,h)=>s.length≤64
 r:=fun r=> .t (.sl (r.map qA))
 R:=fun (s,h) r=>r.length≤17
theorem zVe {g:EF qJh}{s:List UInt8}{h:Int}(hp:s.length≤64) : ∃ (r:List UInt8),(r.length≤17)∧qJh.fs g [.t (.sl (s.map qA)),.t (.int .i64 h)] []=some (.t (.sl (r.map qA)),[]):=qJh.eq g (s,h) hp
theorem zYn {s:List UInt8}{h:Int}(r:List UInt8)(hR:r.length≤17)(hV:vv = .t (.sl (r.map qA)))(hO:oo=[]):qJh.K (s,h) vv oo:=⟨r,hR,hV,hO⟩
def qHh:ECt where
 α:=List UInt8×Int×Int×List UInt8
 β:=List UInt8
 aS:=fun (s,h,l,m)=>[.t (.sl (s.map qA)),.t (.int .i64 h),.t (.int .i64 l),.t (.sl (m.map qA))]
 pre:=fun (s,h,l,m)=>s.length≤64∧m.length≤100000
 r:=fun r=> .t (.sl (r.map qA))
 R:=fun (s,h,l,m) r=>r.length≤1000
theorem zN6 {g:EF qHh}{s:List UInt8}{h l:Int}{m:List UInt8}(hp:s.length≤64∧m.length≤100000) : ∃ (r:List UInt8),(r.length≤1000)∧qHh.fs g [.t (.sl (s.map qA)),.t (.int .i64 h),.t (.int .i64 l),.t (.sl (m.map qA))] []=some (.t (.sl (r.map qA)),[]):=qHh.eq g (s,h,l,m) hp
theorem zBt {s:List UInt8}{h l:Int}{m:List UInt8}(r:List UInt8)(hR:r.length≤1000)(hV:vv = .t (.sl (r.map qA)))(hO:oo=[]):qHh.K (s,h,l,m) vv oo:=⟨r,hR,hV,hO⟩
def qNs:ECt where
 α:=List UInt8×List UInt8×List UInt8
 β:=Int×Bool
 aS:=fun (p,m,sg)=>[.t (.sl (p.map qA)),.t (.sl (m.map qA)),.t (.sl (sg.map qA))]
 pre:=fun (p,m,sg)=>p.length≤4000∧m.length≤100000∧sg.length≤4000
 r:=fun (n,b)=> .tup [.t (.int .i64 n),.t (.bool b)]
 R:=fun (p,m,sg) (n,b)=>True
theorem jHc {g:EF qNs}{p m sg:List UInt8}(hp:p.length≤4000∧m.length≤100000∧sg.length≤4000) : ∃ (n:Int) (b:Bool),(True)∧qNs.fs g [.t (.sl (p.map qA)),.t (.sl (m.map qA)),.t (.sl (sg.map qA))] []=some (.tup [.t (.int .i64 n),.t (.bool b)],[]):=by
 obtain⟨y,h1,h2⟩:=qNs.eq g (p,m,sg) hp;exact⟨y.1,y.2,h1,h2⟩
theorem zJr {p m sg:List UInt8}(n:Int)(b:Bool)(hR:True)(hV:vv = .tup [.t (.int .i64 n),.t (.bool b)])(hO:oo=[]):qNs.K (p,m,sg) vv oo:=⟨(n,b),hR,hV,hO⟩
def qMu:ECt where
 α:=List UInt8×List UInt8
 β:=Int
 aS:=fun (a,b)=>[.t (.sl (a.map qA)),.t (.sl (b.map qA))]
 pre:=fun (a,b)=>a.length≤4000∧b.length≤4000
 r:=fun e=> .t (.int .i64 e)
 R:=fun (a,b) e=>True
theorem zU8 {g:EF qMu}{a b:List UInt8}(hp:a.length≤4000∧b.length≤4000) : ∃ (e:Int),(True)∧qMu.fs g [.t (.sl (a.map qA)),.t (.sl (b.map qA))] []=some (.t (.int .i64 e),[]):=qMu.eq g (a,b) hp
theorem jJs {a b:List UInt8}(e:Int)(hR:True)(hV:vv = .t (.int .i64 e))(hO:oo=[]):qMu.K (a,b) vv oo:=⟨e,hR,hV,hO⟩
def qNh:ECt where
 α:=Sl2
 β:=Bool
 aS:=fun x=>[.t (zVu x)]
 pre:=fun x=>True
 r:=fun b=> .t (.bool b)
 R:=fun x b=>True
 inj:=by rintro x x' e _;simp only[qXx,jIx,jPl] at e;obtain rfl:=e;rfl
theorem jF4 {g:EF qNh}{x:Sl2} : ∃ (b:Bool),(True)∧qNh.fs g [.t (zVu x)] []=some (.t (.bool b),[]):=qNh.eq g x trivial
theorem jKs {x:Sl2}(b:Bool)(hR:True)(hV:vv = .t (.bool b))(hO:oo=[]):qNh.K x vv oo:=⟨b,hR,hV,hO⟩
def qLo:ECt where
 α:=List (List UInt8)
 β:=Bool
 aS:=fun l=>[.t (.sl (l.map bsT))]
 pre:=fun l=>l.length≤8 ∧ ∀ x∈l,x.length≤4000
 r:=fun b=> .t (.bool b)
 R:=fun l b=>True
theorem jB1 {g:EF qLo}{l:List (List UInt8)}(hp:l.length≤8 ∧ ∀ x∈l,x.length≤4000) : ∃ (b:Bool),(True)∧qLo.fs g [.t (.sl (l.map bsT))] []=some (.t (.bool b),[]):=qLo.eq g l hp
theorem zWo {l:List (List UInt8)}(b:Bool)(hR:True)(hV:vv = .t (.bool b))(hO:oo=[]):qLo.K l vv oo:=⟨b,hR,hV,hO⟩
def qG6:ECt where
 α:=Asr
 β:=Int
 aS:=fun a=>[.t (yX a)]
 pre:=fun a=>a.B
 r:=fun e=> .t (.int .i64 e)
 R:=fun a e=>True
theorem zGi {g:EF qG6}{a:Asr}(hp:a.B) : ∃ (e:Int),(True)∧qG6.fs g [.t (yX a)] []=some (.t (.int .i64 e),[]):=qG6.eq g a hp
theorem jIa {a:Asr}(e:Int)(hR:True)(hV:vv = .t (.int .i64 e))(hO:oo=[]):qG6.K a vv oo:=⟨e,hR,hV,hO⟩
def qL3:ECt where
 α:=List UInt8×Asr
 β:=List UInt8
 aS:=fun (d,a)=>[.t (.sl (d.map qA)),.t (yX a)]
 pre:=fun (d,a)=>d.length≤4000∧a.B
 r:=fun r=> .sl 0 0 r.length
 outs:=fun r=>[.live 1 ((r.map qA).map V.t) true false]
 R:=fun (d,a) r=>r.length≤200000
theorem jCt {g:EF qL3}{d:List UInt8}{a:Asr}(hp:d.length≤4000∧a.B) : ∃ (r:List UInt8),(r.length≤200000)∧qL3.fs g [.t (.sl (d.map qA)),.t (yX a)] []=some (.sl 0 0 r.length,[.live 1 ((r.map qA).map V.t) true false]):=qL3.eq g (d,a) hp
theorem qXz {d:List UInt8}{a:Asr}(r:List UInt8)(hR:r.length≤200000)(hV:vv = .sl 0 0 r.length)(hO:oo=[.live 1 ((r.map qA).map V.t) true false]):qL3.K (d,a) vv oo:=⟨r,hR,hV,hO⟩
def qFc:ECt where
 α:=List UInt8×Asr
 β:=List UInt8
 aS:=fun (d,a)=>[.t (.sl (d.map qA)),.t (yX a)]
 pre:=fun (d,a)=>d.length≤4000∧a.B
 r:=fun r=> .t (.sl (r.map qA))
 R:=fun (d,a) r=>r.length≤32
theorem zAo {g:EF qFc}{d:List UInt8}{a:Asr}(hp:d.length≤4000∧a.B) : ∃ (r:List UInt8),(r.length≤32)∧qFc.fs g [.t (.sl (d.map qA)),.t (yX a)] []=some (.t (.sl (r.map qA)),[]):=qFc.eq g (d,a) hp
theorem jCn {d:List UInt8}{a:Asr}(r:List UInt8)(hR:r.length≤32)(hV:vv = .t (.sl (r.map qA)))(hO:oo=[]):qFc.K (d,a) vv oo:=⟨r,hR,hV,hO⟩
def qLx:ECt where
 α:=List Asr
 β:=List UInt8
 aS:=fun l=>[.t (.sl (l.map yX))]
 pre:=fun l=>l.length≤8 ∧ ∀ a∈l,a.B
 r:=fun r=> .t (.sl (r.map qA))
 R:=fun l r=>r.length≤32
theorem zUm {g:EF qLx}{l:List Asr}(hp:l.length≤8 ∧ ∀ a∈l,a.B) : ∃ (r:List UInt8),(r.length≤32)∧qLx.fs g [.t (.sl (l.map yX))] []=some (.t (.sl (r.map qA)),[]):=qLx.eq g l hp
theorem jCi {l:List Asr}(r:List UInt8)(hR:r.length≤32)(hV:vv = .t (.sl (r.map qA)))(hO:oo=[]):qLx.K l vv oo:=⟨r,hR,hV,hO⟩
def qJt:ECt where
 α:=Sn×Int×Int
 β:=List UInt8
 aS:=fun (s,k,h)=>[.t (snA s),.t (.int .i64 k),.t (.int .i64 h)]
 pre:=fun (s,k,h)=>s.sd.length≤64∧s.da.length≤4000
 r:=fun r=> .t (.sl (r.map qA))
 R:=fun (s,k,h) r=>r.length≤32
theorem zV2 {g:EF qJt}{s:Sn}{k h:Int}(hp:s.sd.length≤64∧s.da.length≤4000) : ∃ (r:List UInt8),(r.length≤32)∧qJt.fs g [.t (snA s),.t (.int .i64 k),.t (.int .i64 h)] []=some (.t (.sl (r.map qA)),[]):=qJt.eq g (s,k,h) hp
theorem jGq {s:Sn}{k h:Int}(r:List UInt8)(hR:r.length≤32)(hV:vv = .t (.sl (r.map qA)))(hO:oo=[]):qJt.K (s,k,h) vv oo:=⟨r,hR,hV,hO⟩
def qHc:ECt where
 α:=List UInt8×Pu×List UInt8×List UInt8
 β:=Pu×Sn×Int
 aS:=fun (s,p,au,da)=>[.t (.sl (s.map qA)),.t (puA p),.t (.sl (au.map qA)),.t (.sl (da.map qA))]
 pre:=fun (s,p,au,da)=>s.length≤64∧p.po.length≤4000∧au.length≤4000∧da.length≤4000
 r:=fun (y,z,e)=> .tup [.t (puA y),.t (snA z),.t (.int .i64 e)]
 R:=fun (s,p,au,da) (y,z,e)=>e=0→y.Ok∧z.Ok
theorem zMl {g:EF qHc}{s:List UInt8}{p:Pu}{au da:List UInt8}(hp:s.length≤64∧p.po.length≤4000∧au.length≤4000∧da.length≤4000) : ∃ (y:Pu) (z:Sn) (e:Int),(e=0→y.Ok∧z.Ok)∧qHc.fs g [.t (.sl (s.map qA)),.t (puA p),.t (.sl (au.map qA)),.t (.sl (da.map qA))] []=some (.tup [.t (puA y),.t (snA z),.t (.int .i64 e)],[]):=by
 obtain⟨y,h1,h2⟩:=qHc.eq g (s,p,au,da) hp;exact⟨y.1,y.2.1,y.2.2,h1,h2⟩
theorem zA5 {s:List UInt8}{p:Pu}{au da:List UInt8}(y:Pu)(z:Sn)(e:Int)(hR:e=0→y.Ok∧z.Ok)(hV:vv = .tup [.t (puA y),.t (snA z),.t (.int .i64 e)])(hO:oo=[]):qHc.K (s,p,au,da) vv oo:=⟨(y,z,e),hR,hV,hO⟩
def qJc:ECt where
 α:=Sn×List UInt8
 β:=List UInt8
 aS:=fun (s,nm)=>[.t (snA s),.t (.sl (nm.map qA))]
 pre:=fun (s,nm)=>s.sd.length≤64∧nm.length≤100000
 r:=fun r=> .t (.sl (r.map qA))
 R:=fun (s,nm) r=>r.length=32
theorem zU1 {g:EF qJc}{s:Sn}{nm:List UInt8}(hp:s.sd.length≤64∧nm.length≤100000) : ∃ (r:List UInt8),(r.length=32)∧qJc.fs g [.t (snA s),.t (.sl (nm.map qA))] []=some (.t (.sl (r.map qA)),[]):=qJc.eq g (s,nm) hp
theorem jJe {s:Sn}{nm:List UInt8}(r:List UInt8)(hR:r.length=32)(hV:vv = .t (.sl (r.map qA)))(hO:oo=[]):qJc.K (s,nm) vv oo:=⟨r,hR,hV,hO⟩
def qJp:ECt where
 α:=List UInt8×List UInt8×List UInt8
 β:=List UInt8
 aS:=fun (k,no,b)=>[.t (.sl (k.map qA)),.t (.sl (no.map qA)),.t (.sl (b.map qA))]
 pre:=fun (k,no,b)=>k.length≤64∧no.length≤64∧b.length≤1024
 r:=fun r=> .sl 0 0 r.length
 outs:=fun r=>[.live 1 ((r.map qA).map V.t) true false]
 R:=fun (k,no,b) r=>r.length=b.length
theorem zVv {g:EF qJp}{k no b:List UInt8}(hp:k.length≤64∧no.length≤64∧b.length≤1024) : ∃ (r:List UInt8),(r.length=b.length)∧qJp.fs g [.t (.sl (k.map qA)),.t (.sl (no.map qA)),.t (.sl (b.map qA))] []=some (.sl 0 0 r.length,[.live 1 ((r.map qA).map V.t) true false]):=qJp.eq g (k,no,b) hp
theorem jKt {k no b:List UInt8}(r:List UInt8)(hR:r.length=b.length)(hV:vv = .sl 0 0 r.length)(hO:oo=[.live 1 ((r.map qA).map V.t) true false]):qJp.K (k,no,b) vv oo:=⟨r,hR,hV,hO⟩
def qNe:ECt where
 α:=List UInt8×List UInt8×List UInt8×List UInt8
 β:=List UInt8
 aS:=fun (k,no,ad,p)=>[.t (.sl (k.map qA)),.t (.sl (no.map qA)),.t (.sl (ad.map qA)),.t (.sl (p.map qA))]
 pre:=fun (k,no,ad,p)=>k.length≤64∧no.length≤64∧ad.length≤4000∧1≤p.length∧p.length≤1000
 r:=fun r=> .sl 0 0 r.length
 outs:=fun r=>[.live 1 ((r.map qA).map V.t) true false]
 R:=fun (k,no,ad,p) r=>1≤r.length∧r.length≤1200
theorem jFr {g:EF qNe}{k no ad p:List UInt8}(hp:k.length≤64∧no.length≤64∧ad.length≤4000∧1≤p.length∧p.length≤1000) : ∃ (r:List UInt8),(1≤r.length∧r.length≤1200)∧qNe.fs g [.t (.sl (k.map qA)),.t (.sl (no.map qA)),.t (.sl (ad.map qA)),.t (.sl (p.map qA))] []=some (.sl 0 0 r.length,[.live 1 ((r.map qA).map V.t) true false]):=qNe.eq g (k,no,ad,p) hp
theorem jKn {k no ad p:List UInt8}(r:List UInt8)(hR:1≤r.length∧r.length≤1200)(hV:vv = .sl 0 0 r.length)(hO:oo=[.live 1 ((r.map qA).map V.t) true false]):qNe.K (k,no,ad,p) vv oo:=⟨r,hR,hV,hO⟩
def qJl:ECt where
 α:=Sn×Pu×Sn
 β:=List UInt8
 aS:=fun (s,p,z)=>[.t (snA s),.t (puA p),.t (snA z)]
 pre:=fun (s,p,z)=>s.Ok∧p.Ok∧z.Ok
 r:=fun r=> .sl 0 0 r.length
 outs:=fun r=>[.live 1 ((r.map qA).map V.t) true false]
 R:=fun (s,p,z) r=>1≤r.length∧r.length≤1200
theorem zVi {g:EF qJl}{s:Sn}{p:Pu}{z:Sn}(hp:s.Ok∧p.Ok∧z.Ok) : ∃ (r:List UInt8),(1≤r.length∧r.length≤1200)∧qJl.fs g [.t (snA s),.t (puA p),.t (snA z)] []=some (.sl 0 0 r.length,[.live 1 ((r.map qA).map V.t) true false]):=qJl.eq g (s,p,z) hp
theorem jJz {s:Sn}{p:Pu}{z:Sn}(r:List UInt8)(hR:1≤r.length∧r.length≤1200)(hV:vv = .sl 0 0 r.length)(hO:oo=[.live 1 ((r.map qA).map V.t) true false]):qJl.K (s,p,z) vv oo:=⟨r,hR,hV,hO⟩
def qM0:ECt where
 α:=List UInt8×List UInt8×List UInt8
 β:=List UInt8×Int
 aS:=fun (k,ad,b)=>[.t (.sl (k.map qA)),.t (.sl (ad.map qA)),.t (.sl (b.map qA))]
 pre:=fun (k,ad,b)=>k.length≤64∧ad.length≤4000∧b.length≤4000
 r:=fun (r,e)=> .tup [.t (.sl (r.map qA)),.t (.int .i64 e)]
 R:=fun (k,ad,b) (r,e)=>r.length≤1024
theorem jEj {g:EF qM0}{k ad b:List UInt8}(hp:k.length≤64∧ad.length≤4000∧b.length≤4000) : ∃ (r:List UInt8) (e:Int),(r.length≤1024)∧qM0.fs g [.t (.sl (k.map qA)),.t (.sl (ad.map qA)),.t (.sl (b.map qA))] []=some (.tup [.t (.sl (r.map qA)),.t (.int .i64 e)],[]):=by
 obtain⟨y,h1,h2⟩:=qM0.eq g (k,ad,b) hp;exact⟨y.1,y.2,h1,h2⟩
theorem zYg {k ad b:List UInt8}(r:List UInt8)(e:Int)(hR:r.length≤1024)(hV:vv = .tup [.t (.sl (r.map qA)),.t (.int .i64 e)])(hO:oo=[]):qM0.K (k,ad,b) vv oo:=⟨(r,e),hR,hV,hO⟩
def qMz:ECt where
 α:=Sn×Pu×List UInt8
 β:=Sn×Int
 aS:=fun (s,p,b)=>[.t (snA s),.t (puA p),.t (.sl (b.map qA))]
 pre:=fun (s,p,b)=>s.Ok∧p.Ok∧b.length≤4000
 r:=fun (z,e)=> .tup [.t (snA z),.t (.int .i64 e)]
 R:=fun (s,p,b) (z,e)=>e=0→z.Ok
theorem jEi {g:EF qMz}{s:Sn}{p:Pu}{b:List UInt8}(hp:s.Ok∧p.Ok∧b.length≤4000) : ∃ (z:Sn) (e:Int),(e=0→z.Ok)∧qMz.fs g [.t (snA s),.t (puA p),.t (.sl (b.map qA))] []=some (.tup [.t (snA z),.t (.int .i64 e)],[]):=by
 obtain⟨y,h1,h2⟩:=qMz.eq g (s,p,b) hp;exact⟨y.1,y.2,h1,h2⟩
theorem zRr {s:Sn}{p:Pu}{b:List UInt8}(z:Sn)(e:Int)(hR:e=0→z.Ok)(hV:vv = .tup [.t (snA z),.t (.int .i64 e)])(hO:oo=[]):qMz.K (s,p,b) vv oo:=⟨(z,e),hR,hV,hO⟩
def qMr:ECt where
 α:=Unit
 β:=List UInt8
 aS:=fun _=>[]
 pre:=fun _=>True
 r:=fun r=> .t (.sl (r.map qA))
 R:=fun _ r=>r.length=4
 inj:=fun _ _ _ _=>rfl
theorem jD3 {g:EF qMr}  : ∃ (r:List UInt8),(r.length=4)∧qMr.fs g [] []=some (.t (.sl (r.map qA)),[]):=qMr.eq g () trivial
theorem jJp  (r:List UInt8)(hR:r.length=4)(hV:vv = .t (.sl (r.map qA)))(hO:oo=[]):qMr.K () vv oo:=⟨r,hR,hV,hO⟩
def qLk:ECt where
 α:=Att
 β:=List UInt8
 aS:=fun a=>[.t (zPv a)]
 pre:=fun a=>a.key.length≤4000∧a.no.length≤4000∧a.dg.length≤4000
 r:=fun r=> .t (.sl (r.map qA))
 R:=fun a r=>r.length≤20000
 inj:=by rintro a a' e _;simp only[qXx,jIx,jPl] at e;obtain rfl:=e;rfl
theorem jBh {g:EF qLk}{a:Att}(hp:a.key.length≤4000∧a.no.length≤4000∧a.dg.length≤4000) : ∃ (r:List UInt8),(r.length≤20000)∧qLk.fs g [.t (zPv a)] []=some (.t (.sl (r.map qA)),[]):=qLk.eq g a hp
theorem jBg {a:Att}(r:List UInt8)(hR:r.length≤20000)(hV:vv = .t (.sl (r.map qA)))(hO:oo=[]):qLk.K a vv oo:=⟨r,hR,hV,hO⟩
def zN1:Ses:=⟨0,[],[],0,0,0,0,false⟩
def zI4 (s:St)(h:Int):Int:=if h<768∨3≤h-768 then -1 else if (s.ses.getD (h-768).toNat zN1).kd=0 then -1 else h-768
def qHj:ECt where
 α:=St×Int
 β:=Int
 aS:=fun (s,h)=>[.t (stA s),.t (.int .i64 h)]
 pre:=fun (s,h)=>s.ses.length=3∧tmI h
 r:=fun k=> .t (.int .i64 k)
 R:=fun (s,h) k=>(k = -1∨(0≤k∧k≤2∧h=768+k))∧k=zI4 s h
theorem zOf {g:EF qHj}{s:St}{h:Int}(hp:s.ses.length=3∧tmI h) : ∃ (k:Int),((k = -1∨(0≤k∧k≤2∧h=768+k))∧k=zI4 s h)∧qHj.fs g [.t (stA s),.t (.int .i64 h)] []=some (.t (.int .i64 k),[]):=qHj.eq g (s,h) hp
theorem zTe {s:St}{h:Int}(k:Int)(hR:(k = -1∨(0≤k∧k≤2∧h=768+k))∧k=zI4 s h)(hV:vv = .t (.int .i64 k))(hO:oo=[]):qHj.K (s,h) vv oo:=⟨k,hR,hV,hO⟩
def qAv:ECt where
 α:=St×Int×Ses
 β:=St
 aS:=fun (s,k,x)=>[.t (stA s),.t (.int .i64 k),.t (zZ x)]
 pre:=fun (s,k,x)=>s.ses.length=3∧0≤k∧k≤2
 r:=fun r'=> .t (stA r')
 R:=fun (s,k,x) r'=>r' = { s with ses:=s.ses.set k.toNat x }
theorem qW2 {g:EF qAv}{s:St}{k:Int}{x:Ses}(hp:s.ses.length=3∧0≤k∧k≤2):qAv.fs g [.t (stA s),.t (.int .i64 k),.t (zZ x)] []=some (.t (stA ({ s with ses:=s.ses.set k.toNat x })),[]):=fnQ qAv (s,k,x) hp
theorem jJ0 {s:St}{k:Int}{x:Ses}(hV:vv = .t (stA ({ s with ses:=s.ses.set k.toNat x })))(hO:oo=[]):qAv.K (s,k,x) vv oo:=⟨_,rfl,hV,hO⟩
def qMy:ECt where
 α:=St×Int
 β:=St×Int×Int
 aS:=fun (s,k)=>[.t (stA s),.t (.int .i64 k)]
 pre:=fun (s,k)=>s.Ok∧s.cn 1000000
 r:=fun (t,h,e)=> .tup [.t (stA t),.t (.int .i64 h),.t (.int .i64 e)]
 R:=fun (s,k) (t,h,e)=>e=0→s.Go 1 t∧tmI h
theorem jEh {g:EF qMy}{s:St}{k:Int}(hp:s.Ok∧s.cn 1000000) : ∃ (t:St) (h e:Int),(e=0→s.Go 1 t∧tmI h)∧qMy.fs g [.t (stA s),.t (.int .i64 k)] []=some (.tup [.t (stA t),.t (.int .i64 h),.t (.int .i64 e)],[]):=by
 obtain⟨y,h1,h2⟩:=qMy.eq g (s,k) hp;exact⟨y.1,y.2.1,y.2.2,h1,h2⟩
theorem zRq {s:St}{k:Int}(t:St)(h e:Int)(hR:e=0→s.Go 1 t∧tmI h)(hV:vv = .tup [.t (stA t),.t (.int .i64 h),.t (.int .i64 e)])(hO:oo=[]):qMy.K (s,k) vv oo:=⟨(t,h,e),hR,hV,hO⟩
def qBc:ECt where
 α:=St×Int
 β:=Ses×Int
 aS:=fun (s,h)=>[.t (stA s),.t (.int .i64 h)]
 pre:=fun (s,h)=>s.Ok∧tmI h
 r:=fun (x,e)=> .tup [.t (zZ x),.t (.int .i64 e)]
 R:=fun (s,h) (x,e)=>x.Ok∧(e=0→(768≤h∧h≤770)∧0≤zI4 s h)
theorem qOo {g:EF qBc}{s:St}{h:Int}(hp:s.Ok∧tmI h) : ∃ (x:Ses) (e:Int),(x.Ok∧(e=0→(768≤h∧h≤770)∧0≤zI4 s h))∧qBc.fs g [.t (stA s),.t (.int .i64 h)] []=some (.tup [.t (zZ x),.t (.int .i64 e)],[]):=by
 obtain⟨y,h1,h2⟩:=qBc.eq g (s,h) hp;exact⟨y.1,y.2,h1,h2⟩
theorem jCq {s:St}{h:Int}(x:Ses)(e:Int)(hR:x.Ok∧(e=0→(768≤h∧h≤770)∧0≤zI4 s h))(hV:vv = .tup [.t (zZ x),.t (.int .i64 e)])(hO:oo=[]):qBc.K (s,h) vv oo:=⟨(x,e),hR,hV,hO⟩
def qI4:ECt where
 α:=St×Int
 β:=St×Int
 aS:=fun (s,h)=>[.t (stA s),.t (.int .i64 h)]
 pre:=fun (s,h)=>s.Ok∧tmI h
 r:=fun (t,e)=> .tup [.t (stA t),.t (.int .i64 e)]
 R:=fun (s,h) (t,e)=>(e=0→s.Go 0 t)∧(0≤zI4 s h→e=0)
theorem zUf {g:EF qI4}{s:St}{h:Int}(hp:s.Ok∧tmI h) : ∃ (t:St) (e:Int),((e=0→s.Go 0 t)∧(0≤zI4 s h→e=0))∧qI4.fs g [.t (stA s),.t (.int .i64 h)] []=some (.tup [.t (stA t),.t (.int .i64 e)],[]):=by
 obtain⟨y,h1,h2⟩:=qI4.eq g (s,h) hp;exact⟨y.1,y.2,h1,h2⟩
theorem jCa {s:St}{h:Int}(t:St)(e:Int)(hR:(e=0→s.Go 0 t)∧(0≤zI4 s h→e=0))(hV:vv = .tup [.t (stA t),.t (.int .i64 e)])(hO:oo=[]):qI4.K (s,h) vv oo:=⟨(t,e),hR,hV,hO⟩
def qHe:ECt where
 α:=St×Int
 β:=Int
 aS:=fun (s,h)=>[.t (stA s),.t (.int .i64 h)]
 pre:=fun (s,h)=>s.ses.length=3∧tmI h
 r:=fun k=> .t (.int .i64 k)
 R:=fun (s,h) k=>k = -1∨(0≤k∧k≤2)
theorem zMy {g:EF qHe}{s:St}{h:Int}(hp:s.ses.length=3∧tmI h) : ∃ (k:Int),(k = -1∨(0≤k∧k≤2))∧qHe.fs g [.t (stA s),.t (.int .i64 h)] []=some (.t (.int .i64 k),[]):=qHe.eq g (s,h) hp
theorem zYr {s:St}{h:Int}(k:Int)(hR:k = -1∨(0≤k∧k≤2))(hV:vv = .t (.int .i64 k))(hO:oo=[]):qHe.K (s,h) vv oo:=⟨k,hR,hV,hO⟩
def qNa:ECt where
 α:=St×Ses×Asr
 β:=Ses×Asr×Int
 aS:=fun (s,x,a)=>[.t (stA s),.t (zZ x),.t (yX a)]
 pre:=fun (s,x,a)=>s.Ok∧x.Ok∧a.B
 r:=fun (y,b,e)=> .tup [.t (zZ y),.t (yX b),.t (.int .i64 e)]
 R:=fun (s,x,a) (y,b,e)=>y.Ok∧b.B
theorem jE8 {g:EF qNa}{s:St}{x:Ses}{a:Asr}(hp:s.Ok∧x.Ok∧a.B) : ∃ (y:Ses) (b:Asr) (e:Int),(y.Ok∧b.B)∧qNa.fs g [.t (stA s),.t (zZ x),.t (yX a)] []=some (.tup [.t (zZ y),.t (yX b),.t (.int .i64 e)],[]):=by
 obtain⟨y,h1,h2⟩:=qNa.eq g (s,x,a) hp;exact⟨y.1,y.2.1,y.2.2,h1,h2⟩
theorem qTr {s:St}{x:Ses}{a:Asr}(y:Ses)(b:Asr)(e:Int)(hR:y.Ok∧b.B)(hV:vv = .tup [.t (zZ y),.t (yX b),.t (.int .i64 e)])(hO:oo=[]):qNa.K (s,x,a) vv oo:=⟨(y,b,e),hR,hV,hO⟩
def qL7:ECt where
 α:=St×Asr
 β:=Int
 aS:=fun (s,a)=>[.t (stA s),.t (yX a)]
 pre:=fun (s,a)=>s.Ok∧s.cn 1000000∧a.B
 r:=fun e=> .t (.int .i64 e)
 R:=fun (s,a) e=>True
theorem jDd {g:EF qL7}{s:St}{a:Asr}(hp:s.Ok∧s.cn 1000000∧a.B) : ∃ (e:Int),(True)∧qL7.fs g [.t (stA s),.t (yX a)] []=some (.t (.int .i64 e),[]):=qL7.eq g (s,a) hp
theorem jDc {s:St}{a:Asr}(e:Int)(hR:True)(hV:vv = .t (.int .i64 e))(hO:oo=[]):qL7.K (s,a) vv oo:=⟨e,hR,hV,hO⟩
def qG9:ECt where
 α:=List Int×Int
 β:=Bool
 aS:=fun (l,n)=>[.t (.sl (l.map iT)),.t (.int .i64 n)]
 pre:=fun (l,n)=>l.length≤1000000
 r:=fun b=> .t (.bool b)
 R:=fun (l,n) b=>True
theorem zG0 {g:EF qG9}{l:List Int}{n:Int}(hp:l.length≤1000000) : ∃ (b:Bool),(True)∧qG9.fs g [.t (.sl (l.map iT)),.t (.int .i64 n)] []=some (.t (.bool b),[]):=qG9.eq g (l,n) hp
theorem jCy {l:List Int}{n:Int}(b:Bool)(hR:True)(hV:vv = .t (.bool b))(hO:oo=[]):qG9.K (l,n) vv oo:=⟨b,hR,hV,hO⟩
def qLu:ECt where
 α:=Int×Int×Int
 β:=Bool
 aS:=fun (o,a,b)=>[.t (.int .i64 o),.t (.int .i64 a),.t (.int .i64 b)]
 pre:=fun (o,a,b)=>True
 r:=fun r=> .t (.bool r)
 R:=fun (o,a,b) r=>True
theorem jCe {g:EF qLu}{o a b:Int} : ∃ (r:Bool),(True)∧qLu.fs g [.t (.int .i64 o),.t (.int .i64 a),.t (.int .i64 b)] []=some (.t (.bool r),[]):=qLu.eq g (o,a,b) trivial
theorem jIp {o a b:Int}(r:Bool)(hR:True)(hV:vv = .t (.bool r))(hO:oo=[]):qLu.K (o,a,b) vv oo:=⟨r,hR,hV,hO⟩
def qNu:ECt where
 α:=Asr
 β:=Int
 aS:=fun a=>[.t (yX a)]
 pre:=fun a=>a.B
 r:=fun e=> .t (.int .i64 e)
 R:=fun a e=>True
theorem jHq {g:EF qNu}{a:Asr}(hp:a.B) : ∃ (e:Int),(True)∧qNu.fs g [.t (yX a)] []=some (.t (.int .i64 e),[]):=qNu.eq g a hp
theorem zO6 {a:Asr}(e:Int)(hR:True)(hV:vv = .t (.int .i64 e))(hO:oo=[]):qNu.K a vv oo:=⟨e,hR,hV,hO⟩
def qI0:ECt where
 α:=St×Int×Asr
 β:=St×Int
 aS:=fun (s,h,a)=>[.t (stA s),.t (.int .i64 h),.t (yX a)]
 pre:=fun (s,h,a)=>s.Ok∧s.cn 1000000∧a.B∧tmI h
 r:=fun (t,e)=> .tup [.t (stA t),.t (.int .i64 e)]
 R:=fun (s,h,a) (t,e)=>e=0→s.Go 0 t
theorem jBt {g:EF qI0}{s:St}{h:Int}{a:Asr}(hp:s.Ok∧s.cn 1000000∧a.B∧tmI h) : ∃ (t:St) (e:Int),(e=0→s.Go 0 t)∧qI0.fs g [.t (stA s),.t (.int .i64 h),.t (yX a)] []=some (.tup [.t (stA t),.t (.int .i64 e)],[]):=by
 obtain⟨y,h1,h2⟩:=qI0.eq g (s,h,a) hp;exact⟨y.1,y.2,h1,h2⟩
theorem wU {s:St}{h:Int}{a:Asr}(t:St)(e:Int)(hR:e=0→s.Go 0 t)(hV:vv = .tup [.t (stA t),.t (.int .i64 e)])(hO:oo=[]):qI0.K (s,h,a) vv oo:=⟨(t,e),hR,hV,hO⟩
def qNd:ECt where
 α:=St×Int×List UInt8×List UInt8×Int
 β:=St×Int
 aS:=fun (s,h,nm,rf,n)=>[.t (stA s),.t (.int .i64 h),.t (.sl (nm.map qA)),.t (.sl (rf.map qA)),.t (.int .i64 n)]
 pre:=fun (s,h,nm,rf,n)=>s.Ok∧nm.length≤4000∧rf.length≤4000∧tmI h
 r:=fun (t,e)=> .tup [.t (stA t),.t (.int .i64 e)]
 R:=fun (s,h,nm,rf,n) (t,e)=>e=0→s.Go 0 t
theorem jFo {g:EF qNd}{s:St}{h:Int}{nm rf:List UInt8}{n:Int}(hp:s.Ok∧nm.length≤4000∧rf.length≤4000∧tmI h) : ∃ (t:St) (e:Int),(e=0→s.Go 0 t)∧qNd.fs g [.t (stA s),.t (.int .i64 h),.t (.sl (nm.map qA)),.t (.sl (rf.map qA)),.t (.int .i64 n)] []=some (.tup [.t (stA t),.t (.int .i64 e)],[]):=by
 obtain⟨y,h1,h2⟩:=qNd.eq g (s,h,nm,rf,n) hp;exact⟨y.1,y.2,h1,h2⟩
theorem qT0 {s:St}{h:Int}{nm rf:List UInt8}{n:Int}(t:St)(e:Int)(hR:e=0→s.Go 0 t)(hV:vv = .tup [.t (stA t),.t (.int .i64 e)])(hO:oo=[]):qNd.K (s,h,nm,rf,n) vv oo:=⟨(t,e),hR,hV,hO⟩
def qIz:ECt where
 α:=List UInt8×List UInt8
 β:=List UInt8
 aS:=fun (d,rf)=>[.t (.sl (d.map qA)),.t (.sl (rf.map qA))]
 pre:=fun (d,rf)=>d.length≤4000∧rf.length≤4000
 r:=fun r=> .t (.sl (r.map qA))
 R:=fun (d,rf) r=>r.length=32
theorem zUa {g:EF qIz}{d rf:List UInt8}(hp:d.length≤4000∧rf.length≤4000) : ∃ (r:List UInt8),(r.length=32)∧qIz.fs g [.t (.sl (d.map qA)),.t (.sl (rf.map qA))] []=some (.t (.sl (r.map qA)),[]):=qIz.eq g (d,rf) hp
theorem jId {d rf:List UInt8}(r:List UInt8)(hR:r.length=32)(hV:vv = .t (.sl (r.map qA)))(hO:oo=[]):qIz.K (d,rf) vv oo:=⟨r,hR,hV,hO⟩
def qLm:ECt where
 α:=St×Int×Pu×List UInt8×List UInt8
 β:=St×Int
 aS:=fun (s,h,k,rf,sg)=>[.t (stA s),.t (.int .i64 h),.t (puA k),.t (.sl (rf.map qA)),.t (.sl (sg.map qA))]
 pre:=fun (s,h,k,rf,sg)=>s.Ok∧k.Ok∧rf.length≤4000∧sg.length≤4000∧tmI h
 r:=fun (t,e)=> .tup [.t (stA t),.t (.int .i64 e)]
 R:=fun (s,h,k,rf,sg) (t,e)=>e=0→s.Go 0 t
theorem jBp {g:EF qLm}{s:St}{h:Int}{k:Pu}{rf sg:List UInt8}(hp:s.Ok∧k.Ok∧rf.length≤4000∧sg.length≤4000∧tmI h) : ∃ (t:St) (e:Int),(e=0→s.Go 0 t)∧qLm.fs g [.t (stA s),.t (.int .i64 h),.t (puA k),.t (.sl (rf.map qA)),.t (.sl (sg.map qA))] []=some (.tup [.t (stA t),.t (.int .i64 e)],[]):=by
 obtain⟨y,h1,h2⟩:=qLm.eq g (s,h,k,rf,sg) hp;exact⟨y.1,y.2,h1,h2⟩
theorem qSt {s:St}{h:Int}{k:Pu}{rf sg:List UInt8}(t:St)(e:Int)(hR:e=0→s.Go 0 t)(hV:vv = .tup [.t (stA t),.t (.int .i64 e)])(hO:oo=[]):qLm.K (s,h,k,rf,sg) vv oo:=⟨(t,e),hR,hV,hO⟩
def qI2:ECt where
 α:=List (List UInt8)×Rq
 β:=List UInt8
 aS:=fun (l,q)=>[.t (.sl (l.map bsT)),.t (rqA q)]
 pre:=fun (l,q)=>(l.length≤8 ∧ ∀ x∈l,x.length≤32)∧q.B
 r:=fun r=> .t (.sl (r.map qA))
 R:=fun (l,q) r=>r.length=32
theorem zKp {g:EF qI2}{l:List (List UInt8)}{q:Rq}(hp:(l.length≤8 ∧ ∀ x∈l,x.length≤32)∧q.B) : ∃ (r:List UInt8),(r.length=32)∧qI2.fs g [.t (.sl (l.map bsT)),.t (rqA q)] []=some (.t (.sl (r.map qA)),[]):=qI2.eq g (l,q) hp
theorem jIk {l:List (List UInt8)}{q:Rq}(r:List UInt8)(hR:r.length=32)(hV:vv = .t (.sl (r.map qA)))(hO:oo=[]):qI2.K (l,q) vv oo:=⟨r,hR,hV,hO⟩
def qI5:ECt where
 α:=List UInt8×List UInt8×List UInt8×List UInt8
 β:=List UInt8
 aS:=fun (v,d,m,c)=>[.t (.sl (v.map qA)),.t (.sl (d.map qA)),.t (.sl (m.map qA)),.t (.sl (c.map qA))]
 pre:=fun (v,d,m,c)=>v.length≤64∧d.length≤4000∧m.length≤4000∧c.length≤4000
 r:=fun r=> .t (.sl (r.map qA))
 R:=fun (v,d,m,c) r=>r.length=32
theorem zKt {g:EF qI5}{v d m c:List UInt8}(hp:v.length≤64∧d.length≤4000∧m.length≤4000∧c.length≤4000) : ∃ (r:List UInt8),(r.length=32)∧qI5.fs g [.t (.sl (v.map qA)),.t (.sl (d.map qA)),.t (.sl (m.map qA)),.t (.sl (c.map qA))] []=some (.t (.sl (r.map qA)),[]):=qI5.eq g (v,d,m,c) hp
theorem jIn {v d m c:List UInt8}(r:List UInt8)(hR:r.length=32)(hV:vv = .t (.sl (r.map qA)))(hO:oo=[]):qI5.K (v,d,m,c) vv oo:=⟨r,hR,hV,hO⟩
def qJf:ECt where
 α:=St×Rq
 β:=List (List UInt8)
 aS:=fun (s,q)=>[.t (stA s),.t (rqA q)]
 pre:=fun (s,q)=>s.Ok∧q.hs.length≤8
 r:=fun l=> .t (.sl (l.map bsT))
 R:=fun (s,q) l=>l.length≤8 ∧ ∀ x∈l,x.length≤32
theorem zVa {g:EF qJf}{s:St}{q:Rq}(hp:s.Ok∧q.hs.length≤8) : ∃ (l:List (List UInt8)),(l.length≤8 ∧ ∀ x∈l,x.length≤32)∧qJf.fs g [.t (stA s),.t (rqA q)] []=some (.t (.sl (l.map bsT)),[]):=qJf.eq g (s,q) hp
theorem jJu {s:St}{q:Rq}(l:List (List UInt8))(hR:l.length≤8 ∧ ∀ x∈l,x.length≤32)(hV:vv = .t (.sl (l.map bsT)))(hO:oo=[]):qJf.K (s,q) vv oo:=⟨l,hR,hV,hO⟩
def qMv:ECt where
 α:=St×Rq
 β:=List (List UInt8)
 aS:=fun (s,q)=>[.t (stA s),.t (rqA q)]
 pre:=fun (s,q)=>s.Ok∧q.hs.length≤8
 r:=fun l=> .t (.sl (l.map bsT))
 R:=fun (s,q) l=>l.length≤8 ∧ ∀ x∈l,x.length≤32
theorem zU9 {g:EF qMv}{s:St}{q:Rq}(hp:s.Ok∧q.hs.length≤8) : ∃ (l:List (List UInt8)),(l.length≤8 ∧ ∀ x∈l,x.length≤32)∧qMv.fs g [.t (stA s),.t (rqA q)] []=some (.t (.sl (l.map bsT)),[]):=qMv.eq g (s,q) hp
theorem jJt {s:St}{q:Rq}(l:List (List UInt8))(hR:l.length≤8 ∧ ∀ x∈l,x.length≤32)(hV:vv = .t (.sl (l.map bsT)))(hO:oo=[]):qMv.K (s,q) vv oo:=⟨l,hR,hV,hO⟩
def qJn:ECt where
 α:=Int
 β:=Bool
 aS:=fun c=>[.t (.int .i64 c)]
 pre:=fun c=>True
 r:=fun b=> .t (.bool b)
 R:=fun c b=>True
theorem zVk {g:EF qJn}{c:Int} : ∃ (b:Bool),(True)∧qJn.fs g [.t (.int .i64 c)] []=some (.t (.bool b),[]):=qJn.eq g c trivial
theorem jJ5 {c:Int}(b:Bool)(hR:True)(hV:vv = .t (.bool b))(hO:oo=[]):qJn.K c vv oo:=⟨b,hR,hV,hO⟩
def qJi:ECt where
 α:=Bool×Int×Int
 β:=Int
 aS:=fun (r,a,b)=>[.t (.bool r),.t (.int .i64 a),.t (.int .i64 b)]
 pre:=fun (r,a,b)=>True
 r:=fun n=> .t (.int .i64 n)
 R:=fun (r,a,b) n=>True
theorem zMv {g:EF qJi}{r:Bool}{a b:Int} : ∃ (n:Int),(True)∧qJi.fs g [.t (.bool r),.t (.int .i64 a),.t (.int .i64 b)] []=some (.t (.int .i64 n),[]):=qJi.eq g (r,a,b) trivial
theorem jJw {r:Bool}{a b:Int}(n:Int)(hR:True)(hV:vv = .t (.int .i64 n))(hO:oo=[]):qJi.K (r,a,b) vv oo:=⟨n,hR,hV,hO⟩
def qM4:ECt where
 α:=St×Rq
 β:=Bool
 aS:=fun (s,q)=>[.t (stA s),.t (rqA q)]
 pre:=fun (s,q)=>s.Ok∧1≤q.hs.length
 r:=fun b=> .t (.bool b)
 R:=fun (s,q) b=>True
theorem jEr {g:EF qM4}{s:St}{q:Rq}(hp:s.Ok∧1≤q.hs.length) : ∃ (b:Bool),(True)∧qM4.fs g [.t (stA s),.t (rqA q)] []=some (.t (.bool b),[]):=qM4.eq g (s,q) hp
theorem zIq {s:St}{q:Rq}(b:Bool)(hR:True)(hV:vv = .t (.bool b))(hO:oo=[]):qM4.K (s,q) vv oo:=⟨b,hR,hV,hO⟩
def qMl:ECt where
 α:=St×Int
 β:=Bool
 aS:=fun (s,h)=>[.t (stA s),.t (.int .i64 h)]
 pre:=fun (s,h)=>s.Ok
 r:=fun b=> .t (.bool b)
 R:=fun (s,h) b=>True
theorem jDw {g:EF qMl}{s:St}{h:Int}(hp:s.Ok) : ∃ (b:Bool),(True)∧qMl.fs g [.t (stA s),.t (.int .i64 h)] []=some (.t (.bool b),[]):=qMl.eq g (s,h) hp
theorem jDv {s:St}{h:Int}(b:Bool)(hR:True)(hV:vv = .t (.bool b))(hO:oo=[]):qMl.K (s,h) vv oo:=⟨b,hR,hV,hO⟩
def qNt:ECt where
 α:=St×Int×Bool
 β:=St×Int
 aS:=fun (s,h,ok)=>[.t (stA s),.t (.int .i64 h),.t (.bool ok)]
 pre:=fun (s,h,ok)=>s.Ok
 r:=fun (t,e)=> .tup [.t (stA t),.t (.int .i64 e)]
 R:=fun (s,h,ok) (t,e) => ∃ l:Lk,l.Ok∧t=s.lkd l
theorem zV5 {g:EF qNt}{s:St}{h:Int}{ok:Bool}(hp:s.Ok) : ∃ (t:St) (e:Int),(∃ l:Lk,l.Ok∧t=s.lkd l)∧qNt.fs g [.t (stA s),.t (.int .i64 h),.t (.bool ok)] []=some (.tup [.t (stA t),.t (.int .i64 e)],[]):=by
 obtain⟨y,h1,h2⟩:=qNt.eq g (s,h,ok) hp;exact⟨y.1,y.2,h1,h2⟩
theorem zTt {s:St}{h:Int}{ok:Bool}(t:St)(e:Int)(hR : ∃ l:Lk,l.Ok∧t=s.lkd l)(hV:vv = .tup [.t (stA t),.t (.int .i64 e)])(hO:oo=[]):qNt.K (s,h,ok) vv oo:=⟨(t,e),hR,hV,hO⟩
def qLp:ECt where
 α:=St×Int×Rq×Ses
 β:=Bool×Int
 aS:=fun (s,lo,q,x)=>[.t (stA s),.t (.int .i64 lo),.t (rqA q),.t (zZ x)]
 pre:=fun (s,lo,q,x)=>s.Ok∧(0≤lo∧lo≤4)∧1≤q.hs.length∧x.Ok
 r:=fun (b,e)=> .tup [.t (.bool b),.t (.int .i64 e)]
 R:=fun (s,lo,q,x) (b,e)=>True
theorem jB7 {g:EF qLp}{s:St}{lo:Int}{q:Rq}{x:Ses}(hp:s.Ok∧(0≤lo∧lo≤4)∧1≤q.hs.length∧x.Ok) : ∃ (b:Bool) (e:Int),(True)∧qLp.fs g [.t (stA s),.t (.int .i64 lo),.t (rqA q),.t (zZ x)] []=some (.tup [.t (.bool b),.t (.int .i64 e)],[]):=by
 obtain⟨y,h1,h2⟩:=qLp.eq g (s,lo,q,x) hp;exact⟨y.1,y.2,h1,h2⟩
theorem jB6 {s:St}{lo:Int}{q:Rq}{x:Ses}(b:Bool)(e:Int)(hR:True)(hV:vv = .tup [.t (.bool b),.t (.int .i64 e)])(hO:oo=[]):qLp.K (s,lo,q,x) vv oo:=⟨(b,e),hR,hV,hO⟩
def qLq:ECt where
 α:=St×Int×Rq
 β:=St×Int
 aS:=fun (s,lo,q)=>[.t (stA s),.t (.int .i64 lo),.t (rqA q)]
 pre:=fun (s,lo,q)=>s.Ok∧(0≤lo∧lo≤4)∧1≤q.hs.length∧q.au.length=1∧q.B∧q.Ok
 r:=fun (t,e)=> .tup [.t (stA t),.t (.int .i64 e)]
 R:=fun (s,lo,q) (t,e) => ∃ l:Lk,l.Ok∧t=s.lkd l
theorem zUe {g:EF qLq}{s:St}{lo:Int}{q:Rq}(hp:s.Ok∧(0≤lo∧lo≤4)∧1≤q.hs.length∧q.au.length=1∧q.B∧q.Ok) : ∃ (t:St) (e:Int),(∃ l:Lk,l.Ok∧t=s.lkd l)∧qLq.fs g [.t (stA s),.t (.int .i64 lo),.t (rqA q)] []=some (.tup [.t (stA t),.t (.int .i64 e)],[]):=by
 obtain⟨y,h1,h2⟩:=qLq.eq g (s,lo,q) hp;exact⟨y.1,y.2,h1,h2⟩
theorem qQ9 {s:St}{lo:Int}{q:Rq}(t:St)(e:Int)(hR : ∃ l:Lk,l.Ok∧t=s.lkd l)(hV:vv = .tup [.t (stA t),.t (.int .i64 e)])(hO:oo=[]):qLq.K (s,lo,q) vv oo:=⟨(t,e),hR,hV,hO⟩
def qL0:ECt where
 α:=St×Rq
 β:=St×List (List UInt8)
 aS:=fun (s,q)=>[.t (stA s),.t (rqA q)]
 pre:=fun (s,q)=>s.Ok∧s.cn 2000000∧q.au.length=1∧q.Ok
 r:=fun (t,l)=> .tup [.t (stA t),.t (.sl (l.map bsT))]
 R:=fun (s,q) (t,l)=>s.Go 1 t
theorem zUs {g:EF qL0}{s:St}{q:Rq}(hp:s.Ok∧s.cn 2000000∧q.au.length=1∧q.Ok) : ∃ (t:St) (l:List (List UInt8)),(s.Go 1 t)∧qL0.fs g [.t (stA s),.t (rqA q)] []=some (.tup [.t (stA t),.t (.sl (l.map bsT))],[]):=by
 obtain⟨y,h1,h2⟩:=qL0.eq g (s,q) hp;exact⟨y.1,y.2,h1,h2⟩
theorem zLf {s:St}{q:Rq}(t:St)(l:List (List UInt8))(hR:s.Go 1 t)(hV:vv = .tup [.t (stA t),.t (.sl (l.map bsT))])(hO:oo=[]):qL0.K (s,q) vv oo:=⟨(t,l),hR,hV,hO⟩
def qJr:ECt where
 α:=Rq
 β:=Pu
 aS:=fun q=>[.t (rqA q)]
 pre:=fun q=>3≤q.ns.length∧1≤q.bl.length ∧ ∀ x∈q.bl,x.length≤1024
 r:=fun p=> .t (puA p)
 R:=fun q p=>p.po.length≤1024∧p.un=[]
theorem zVz {g:EF qJr}{q:Rq}(hp:3≤q.ns.length∧1≤q.bl.length ∧ ∀ x∈q.bl,x.length≤1024) : ∃ (p:Pu),(p.po.length≤1024∧p.un=[])∧qJr.fs g [.t (rqA q)] []=some (.t (puA p),[]):=qJr.eq g q hp
theorem jK5 {q:Rq}(p:Pu)(hR:p.po.length≤1024∧p.un=[])(hV:vv = .t (puA p))(hO:oo=[]):qJr.K q vv oo:=⟨p,hR,hV,hO⟩
def xR:ECt where
 α:=St×Int
 β:=St×Rs
 aS:=fun (s,e)=>[.t (stA s),.t (.int .i64 e)]
 pre:=fun (s,e)=>True
 r:=fun (t,r)=> .tup [.t (stA t),.t (rsA r)]
 R:=fun (s,e) (t,r)=>t=s
theorem jE6 {g:EF xR}{s:St}{e:Int} : ∃ (t:St) (r:Rs),(t=s)∧xR.fs g [.t (stA s),.t (.int .i64 e)] []=some (.tup [.t (stA t),.t (rsA r)],[]):=by
 obtain⟨y,h1,h2⟩:=xR.eq g (s,e) trivial;exact⟨y.1,y.2,h1,h2⟩
theorem jJ9 {s:St}{e:Int}(t:St)(r:Rs)(hR:t=s)(hV:vv = .tup [.t (stA t),.t (rsA r)])(hO:oo=[]):xR.K (s,e) vv oo:=⟨(t,r),hR,hV,hO⟩
def qI8:ECt where
 α:=St
 β:=Int
 aS:=fun s=>[.t (stA s)]
 pre:=fun s=>s.obs.length=3
 r:=fun k=> .t (.int .i64 k)
 R:=fun s k=>k = -1∨(0≤k∧k≤2)
theorem zUu {g:EF qI8}{s:St}(hp:s.obs.length=3) : ∃ (k:Int),(k = -1∨(0≤k∧k≤2))∧qI8.fs g [.t (stA s)] []=some (.t (.int .i64 k),[]):=qI8.eq g s hp
theorem jCr {s:St}(k:Int)(hR:k = -1∨(0≤k∧k≤2))(hV:vv = .t (.int .i64 k))(hO:oo=[]):qI8.K s vv oo:=⟨k,hR,hV,hO⟩
def qHf:ECt where
 α:=St×Int×Obj
 β:=St
 aS:=fun (s,k,x)=>[.t (stA s),.t (.int .i64 k),.t (vF x)]
 pre:=fun (s,k,x)=>s.obs.length=3∧0≤k∧k≤2
 r:=fun r'=> .t (stA r')
 R:=fun (s,k,x) r'=>r' = { s with obs:=s.obs.set k.toNat x }
theorem zM0 {g:EF qHf}{s:St}{k:Int}{x:Obj}(hp:s.obs.length=3∧0≤k∧k≤2):qHf.fs g [.t (stA s),.t (.int .i64 k),.t (vF x)] []=some (.t (stA ({ s with obs:=s.obs.set k.toNat x })),[]):=fnQ qHf (s,k,x) hp
theorem jJ1 {s:St}{k:Int}{x:Obj}(hV:vv = .t (stA ({ s with obs:=s.obs.set k.toNat x })))(hO:oo=[]):qHf.K (s,k,x) vv oo:=⟨_,rfl,hV,hO⟩
def qDu:ECt where
 α:=St×Rq
 β:=Obj
 aS:=fun (s,q)=>[.t (stA s),.t (rqA q)]
 pre:=fun (s,q)=>s.Ok∧1≤q.hs.length∧0≤slP s.obs q.h0 0
 r:=fun x=> .t (vF x)
 R:=fun (s,q) x=>x.Ok
theorem zA9 {g:EF qDu}{s:St}{q:Rq}(hp:s.Ok∧1≤q.hs.length∧0≤slP s.obs q.h0 0) : ∃ (x:Obj),(x.Ok)∧qDu.fs g [.t (stA s),.t (rqA q)] []=some (.t (vF x),[]):=qDu.eq g (s,q) hp
theorem jEc {s:St}{q:Rq}(x:Obj)(hR:x.Ok)(hV:vv = .t (vF x))(hO:oo=[]):qDu.K (s,q) vv oo:=⟨x,hR,hV,hO⟩
def qM5:ECt where
 α:=St×Rq
 β:=St×Rs
 aS:=fun (s,q)=>[.t (stA s),.t (rqA q)]
 pre:=fun (s,q)=>(s.Ok∧s.cn 1000000)∧q.Ok∧q.Al s∧q.co=9
 r:=fun (t,r)=> .tup [.t (stA t),.t (rsA r)]
 R:=fun (s,q) (t,r)=>s.Go 3 t
theorem jEs {g:EF qM5}{s:St}{q:Rq}(hp:(s.Ok∧s.cn 1000000)∧q.Ok∧q.Al s∧q.co=9) : ∃ (t:St) (r:Rs),(s.Go 3 t)∧qM5.fs g [.t (stA s),.t (rqA q)] []=some (.tup [.t (stA t),.t (rsA r)],[]):=by
 obtain⟨y,h1,h2⟩:=qM5.eq g (s,q) hp;exact⟨y.1,y.2,h1,h2⟩
theorem zYp {s:St}{q:Rq}(t:St)(r:Rs)(hR:s.Go 3 t)(hV:vv = .tup [.t (stA t),.t (rsA r)])(hO:oo=[]):qM5.K (s,q) vv oo:=⟨(t,r),hR,hV,hO⟩
def qLv:ECt where
 α:=St×Rq
 β:=St×Rs
 aS:=fun (s,q)=>[.t (stA s),.t (rqA q)]
 pre:=fun (s,q)=>(s.Ok∧s.cn 1000000)∧q.Ok∧q.Al s∧q.co=10
 r:=fun (t,r)=> .tup [.t (stA t),.t (rsA r)]
 R:=fun (s,q) (t,r)=>s.Go 3 t
theorem jCf {g:EF qLv}{s:St}{q:Rq}(hp:(s.Ok∧s.cn 1000000)∧q.Ok∧q.Al s∧q.co=10) : ∃ (t:St) (r:Rs),(s.Go 3 t)∧qLv.fs g [.t (stA s),.t (rqA q)] []=some (.tup [.t (stA t),.t (rsA r)],[]):=by
 obtain⟨y,h1,h2⟩:=qLv.eq g (s,q) hp;exact⟨y.1,y.2,h1,h2⟩
theorem zW0 {s:St}{q:Rq}(t:St)(r:Rs)(hR:s.Go 3 t)(hV:vv = .tup [.t (stA t),.t (rsA r)])(hO:oo=[]):qLv.K (s,q) vv oo:=⟨(t,r),hR,hV,hO⟩
def qMp:ECt where
 α:=St×Rq
 β:=St×Rs
 aS:=fun (s,q)=>[.t (stA s),.t (rqA q)]
 pre:=fun (s,q)=>(s.Ok∧s.cn 1000000)∧q.Ok∧q.Al s∧q.co=11
 r:=fun (t,r)=> .tup [.t (stA t),.t (rsA r)]
 R:=fun (s,q) (t,r)=>s.Go 3 t
theorem jD2 {g:EF qMp}{s:St}{q:Rq}(hp:(s.Ok∧s.cn 1000000)∧q.Ok∧q.Al s∧q.co=11) : ∃ (t:St) (r:Rs),(s.Go 3 t)∧qMp.fs g [.t (stA s),.t (rqA q)] []=some (.tup [.t (stA t),.t (rsA r)],[]):=by
 obtain⟨y,h1,h2⟩:=qMp.eq g (s,q) hp;exact⟨y.1,y.2,h1,h2⟩
theorem zMf {s:St}{q:Rq}(t:St)(r:Rs)(hR:s.Go 3 t)(hV:vv = .tup [.t (stA t),.t (rsA r)])(hO:oo=[]):qMp.K (s,q) vv oo:=⟨(t,r),hR,hV,hO⟩
def qL1:ECt where
 α:=St×Rq
 β:=St×Rs
 aS:=fun (s,q)=>[.t (stA s),.t (rqA q)]
 pre:=fun (s,q)=>(s.Ok∧s.cn 1000000)∧q.Ok∧q.co=12
 r:=fun (t,r)=> .tup [.t (stA t),.t (rsA r)]
 R:=fun (s,q) (t,r)=>s.Go 3 t
theorem jCp {g:EF qL1}{s:St}{q:Rq}(hp:(s.Ok∧s.cn 1000000)∧q.Ok∧q.co=12) : ∃ (t:St) (r:Rs),(s.Go 3 t)∧qL1.fs g [.t (stA s),.t (rqA q)] []=some (.tup [.t (stA t),.t (rsA r)],[]):=by
 obtain⟨y,h1,h2⟩:=qL1.eq g (s,q) hp;exact⟨y.1,y.2,h1,h2⟩
theorem zXb {s:St}{q:Rq}(t:St)(r:Rs)(hR:s.Go 3 t)(hV:vv = .tup [.t (stA t),.t (rsA r)])(hO:oo=[]):qL1.K (s,q) vv oo:=⟨(t,r),hR,hV,hO⟩
def qNr:ECt where
 α:=St×Rq
 β:=St×Rs
 aS:=fun (s,q)=>[.t (stA s),.t (rqA q)]
 pre:=fun (s,q)=>(s.Ok∧s.cn 1000000)∧q.Ok∧q.Al s∧q.co=13
 r:=fun (t,r)=> .tup [.t (stA t),.t (rsA r)]
 R:=fun (s,q) (t,r)=>s.Go 3 t
theorem jGo {g:EF qNr}{s:St}{q:Rq}(hp:(s.Ok∧s.cn 1000000)∧q.Ok∧q.Al s∧q.co=13) : ∃ (t:St) (r:Rs),(s.Go 3 t)∧qNr.fs g [.t (stA s),.t (rqA q)] []=some (.tup [.t (stA t),.t (rsA r)],[]):=by
 obtain⟨y,h1,h2⟩:=qNr.eq g (s,q) hp;exact⟨y.1,y.2,h1,h2⟩
theorem jGn {s:St}{q:Rq}(t:St)(r:Rs)(hR:s.Go 3 t)(hV:vv = .tup [.t (stA t),.t (rsA r)])(hO:oo=[]):qNr.K (s,q) vv oo:=⟨(t,r),hR,hV,hO⟩
def qMh:ECt where
 α:=St×Obj
 β:=St×Int×Int
 aS:=fun (s,x)=>[.t (stA s),.t (vF x)]
 pre:=fun (s,x)=>s.Ok∧x.Ok
 r:=fun (t,n,e)=> .tup [.t (stA t),.t (.int .i64 n),.t (.int .i64 e)]
 R:=fun (s,x) (t,n,e)=>e=0→s.Go 0 t
theorem jDr {g:EF qMh}{s:St}{x:Obj}(hp:s.Ok∧x.Ok) : ∃ (t:St) (n e:Int),(e=0→s.Go 0 t)∧qMh.fs g [.t (stA s),.t (vF x)] []=some (.tup [.t (stA t),.t (.int .i64 n),.t (.int .i64 e)],[]):=by
 obtain⟨y,h1,h2⟩:=qMh.eq g (s,x) hp;exact⟨y.1,y.2.1,y.2.2,h1,h2⟩
theorem zQ5 {s:St}{x:Obj}(t:St)(n e:Int)(hR:e=0→s.Go 0 t)(hV:vv = .tup [.t (stA t),.t (.int .i64 n),.t (.int .i64 e)])(hO:oo=[]):qMh.K (s,x) vv oo:=⟨(t,n,e),hR,hV,hO⟩
def qJo:ECt where
 α:=St×Obj×List UInt8
 β:=St×List UInt8×Int
 aS:=fun (s,x,b)=>[.t (stA s),.t (vF x),.t (.sl (b.map qA))]
 pre:=fun (s,x,b)=>s.Ok∧x.Ok∧b.length≤20000
 r:=fun (t,r,e)=> .tup [.t (stA t),.t (.sl (r.map qA)),.t (.int .i64 e)]
 R:=fun (s,x,b) (t,r,e)=>e=0→s.Go 0 t
theorem zVs {g:EF qJo}{s:St}{x:Obj}{b:List UInt8}(hp:s.Ok∧x.Ok∧b.length≤20000) : ∃ (t:St) (r:List UInt8) (e:Int),(e=0→s.Go 0 t)∧qJo.fs g [.t (stA s),.t (vF x),.t (.sl (b.map qA))] []=some (.tup [.t (stA t),.t (.sl (r.map qA)),.t (.int .i64 e)],[]):=by
 obtain⟨y,h1,h2⟩:=qJo.eq g (s,x,b) hp;exact⟨y.1,y.2.1,y.2.2,h1,h2⟩
theorem jFt {s:St}{x:Obj}{b:List UInt8}(t:St)(r:List UInt8)(e:Int)(hR:e=0→s.Go 0 t)(hV:vv = .tup [.t (stA t),.t (.sl (r.map qA)),.t (.int .i64 e)])(hO:oo=[]):qJo.K (s,x,b) vv oo:=⟨(t,r,e),hR,hV,hO⟩
def qNf:ECt where
 α:=St×Rq
 β:=St×Rs
 aS:=fun (s,q)=>[.t (stA s),.t (rqA q)]
 pre:=fun (s,q)=>(s.Ok∧s.cn 1000000)∧q.Ok∧q.Al s∧q.co=14
 r:=fun (t,r)=> .tup [.t (stA t),.t (rsA r)]
 R:=fun (s,q) (t,r)=>s.Go 3 t
theorem jFs {g:EF qNf}{s:St}{q:Rq}(hp:(s.Ok∧s.cn 1000000)∧q.Ok∧q.Al s∧q.co=14) : ∃ (t:St) (r:Rs),(s.Go 3 t)∧qNf.fs g [.t (stA s),.t (rqA q)] []=some (.tup [.t (stA t),.t (rsA r)],[]):=by
 obtain⟨y,h1,h2⟩:=qNf.eq g (s,q) hp;exact⟨y.1,y.2,h1,h2⟩
theorem zN7 {s:St}{q:Rq}(t:St)(r:Rs)(hR:s.Go 3 t)(hV:vv = .tup [.t (stA t),.t (rsA r)])(hO:oo=[]):qNf.K (s,q) vv oo:=⟨(t,r),hR,hV,hO⟩
def qM9:ECt where
 α:=St×Rq
 β:=St×Rs
 aS:=fun (s,q)=>[.t (stA s),.t (rqA q)]
 pre:=fun (s,q)=>(s.Ok∧s.cn 1000000)∧q.Ok∧q.Al s∧q.co=15
 r:=fun (t,r)=> .tup [.t (stA t),.t (rsA r)]
 R:=fun (s,q) (t,r)=>s.Go 3 t
theorem jEw {g:EF qM9}{s:St}{q:Rq}(hp:(s.Ok∧s.cn 1000000)∧q.Ok∧q.Al s∧q.co=15) : ∃ (t:St) (r:Rs),(s.Go 3 t)∧qM9.fs g [.t (stA s),.t (rqA q)] []=some (.tup [.t (stA t),.t (rsA r)],[]):=by
 obtain⟨y,h1,h2⟩:=qM9.eq g (s,q) hp;exact⟨y.1,y.2,h1,h2⟩
theorem zIs {s:St}{q:Rq}(t:St)(r:Rs)(hR:s.Go 3 t)(hV:vv = .tup [.t (stA t),.t (rsA r)])(hO:oo=[]):qM9.K (s,q) vv oo:=⟨(t,r),hR,hV,hO⟩
def qL4:ECt where
 α:=Int×Int
 β:=Bool
 aS:=fun (a,b)=>[.t (.int .i64 a),.t (.int .i64 b)]
 pre:=fun (a,b)=>True
 r:=fun r=> .t (.bool r)
 R:=fun (a,b) r=>r=true→b=a∨a = -1∧0≤b∧b≤8
theorem jCu {g:EF qL4}{a b:Int} : ∃ (r:Bool),(r=true→b=a∨a = -1∧0≤b∧b≤8)∧qL4.fs g [.t (.int .i64 a),.t (.int .i64 b)] []=some (.t (.bool r),[]):=qL4.eq g (a,b) trivial
theorem jI1 {a b:Int}(r:Bool)(hR:r=true→b=a∨a = -1∧0≤b∧b≤8)(hV:vv = .t (.bool r))(hO:oo=[]):qL4.K (a,b) vv oo:=⟨r,hR,hV,hO⟩
def qMt:ECt where
 α:=Int
 β:=Bool
 aS:=fun h=>[.t (.int .i64 h)]
 pre:=fun h=>True
 r:=fun r=> .t (.bool r)
 R:=fun h r=>r=true→0≤h∧h≤65535
theorem zU7 {g:EF qMt}{h:Int} : ∃ (r:Bool),(r=true→0≤h∧h≤65535)∧qMt.fs g [.t (.int .i64 h)] []=some (.t (.bool r),[]):=qMt.eq g h trivial
theorem jJr {h:Int}(r:Bool)(hR:r=true→0≤h∧h≤65535)(hV:vv = .t (.bool r))(hO:oo=[]):qMt.K h vv oo:=⟨r,hR,hV,hO⟩
def qL2:ECt where
 α:=Rq
 β:=List UInt8
 aS:=fun q=>[.t (rqA q)]
 pre:=fun q=>q.B
 r:=fun b=> .t (.sl (b.map qA))
 R:=fun q b=>True
theorem jCs {g:EF qL2}{q:Rq}(hp:q.B) : ∃ (b:List UInt8),(True)∧qL2.fs g [.t (rqA q)] []=some (.t (.sl (b.map qA)),[]):=qL2.eq g q hp
theorem jI0 {q:Rq}(b:List UInt8)(hR:True)(hV:vv = .t (.sl (b.map qA)))(hO:oo=[]):qL2.K q vv oo:=⟨b,hR,hV,hO⟩
def qG8:ECt where
 α:=Rq
 β:=Int
 aS:=fun q=>[.t (rqA q)]
 pre:=fun q=>q.B
 r:=fun e=> .t (.int .i64 e)
 R:=fun q e=>e=0→q.Ok
theorem zWs {g:EF qG8}{q:Rq}(hp:q.B) : ∃ (e:Int),(e=0→q.Ok)∧qG8.fs g [.t (rqA q)] []=some (.t (.int .i64 e),[]):=qG8.eq g q hp
theorem qIx {q:Rq}(e:Int)(hR:e=0→q.Ok)(hV:vv = .t (.int .i64 e))(hO:oo=[]):qG8.K q vv oo:=⟨e,hR,hV,hO⟩
def qLl:ECt where
 α:=St×Rq
 β:=Bool
 aS:=fun (s,q)=>[.t (stA s),.t (rqA q)]
 pre:=fun (s,q)=>s.Ok∧q.Ok
 r:=fun b=> .t (.bool b)
 R:=fun (s,q) b=>b=true→q.Al s
theorem jBi {g:EF qLl}{s:St}{q:Rq}(hp:s.Ok∧q.Ok) : ∃ (b:Bool),(b=true→q.Al s)∧qLl.fs g [.t (stA s),.t (rqA q)] []=some (.t (.bool b),[]):=qLl.eq g (s,q) hp
theorem qKo {s:St}{q:Rq}(b:Bool)(hR:b=true→q.Al s)(hV:vv = .t (.bool b))(hO:oo=[]):qLl.K (s,q) vv oo:=⟨b,hR,hV,hO⟩
def wR:ECt where
 α:=St×Int
 β:=St×Rs
 aS:=fun (s,e)=>[.t (stA s),.t (.int .i64 e)]
 pre:=fun (s,e)=>True
 r:=fun (t,r)=> .tup [.t (stA t),.t (rsA r)]
 R:=fun (s,e) (t,r)=>t=s
theorem jE7 {g:EF wR}{s:St}{e:Int} : ∃ (t:St) (r:Rs),(t=s)∧wR.fs g [.t (stA s),.t (.int .i64 e)] []=some (.tup [.t (stA t),.t (rsA r)],[]):=by
 obtain⟨y,h1,h2⟩:=wR.eq g (s,e) trivial;exact⟨y.1,y.2,h1,h2⟩
theorem jKa {s:St}{e:Int}(t:St)(r:Rs)(hR:t=s)(hV:vv = .tup [.t (stA t),.t (rsA r)])(hO:oo=[]):wR.K (s,e) vv oo:=⟨(t,r),hR,hV,hO⟩
def qAu:ECt where
 α:=St×St×Int
 β:=St×Rs
 aS:=fun (s,t,e)=>[.t (stA s),.t (stA t),.t (.int .i64 e)]
 pre:=fun (s,t,e)=>True
 r:=fun (v,r)=> .tup [.t (stA v),.t (rsA r)]
 R:=fun (s,t,e) (v,r)=>(e=0→v=t)∧(e≠0→v=s)
theorem zVf {g:EF qAu}{s t:St}{e:Int} : ∃ (v:St) (r:Rs),((e=0→v=t)∧(e≠0→v=s))∧qAu.fs g [.t (stA s),.t (stA t),.t (.int .i64 e)] []=some (.tup [.t (stA v),.t (rsA r)],[]):=by
 obtain⟨y,h1,h2⟩:=qAu.eq g (s,t,e) trivial;exact⟨y.1,y.2,h1,h2⟩
theorem jEn {s t:St}{e:Int}(v:St)(r:Rs)(hR:(e=0→v=t)∧(e≠0→v=s))(hV:vv = .tup [.t (stA v),.t (rsA r)])(hO:oo=[]):qAu.K (s,t,e) vv oo:=⟨(v,r),hR,hV,hO⟩
def qLs:ECt where
 α:=St
 β:=St×Rs
 aS:=fun s=>[.t (stA s)]
 pre:=fun s=>True
 r:=fun (t,r)=> .tup [.t (stA t),.t (rsA r)]
 R:=fun s (t,r)=>t=s
theorem jCc {g:EF qLs}{s:St} : ∃ (t:St) (r:Rs),(t=s)∧qLs.fs g [.t (stA s)] []=some (.tup [.t (stA t),.t (rsA r)],[]):=by
 obtain⟨y,h1,h2⟩:=qLs.eq g s trivial;exact⟨y.1,y.2,h1,h2⟩
theorem jCb {s:St}(t:St)(r:Rs)(hR:t=s)(hV:vv = .tup [.t (stA t),.t (rsA r)])(hO:oo=[]):qLs.K s vv oo:=⟨(t,r),hR,hV,hO⟩
def qMs:ECt where
 α:=St×Int×Rq
 β:=St×Rs
 aS:=fun (s,lo,q)=>[.t (stA s),.t (.int .i64 lo),.t (rqA q)]
 pre:=fun (s,lo,q)=>(s.Ok∧s.cn 1000000)∧q.Ok∧(q.co=5∨q.co=6∨q.co=7∨q.co=8)
 r:=fun (t,r)=> .tup [.t (stA t),.t (rsA r)]
 R:=fun (s,lo,q) (t,r)=>s.Go 3 t
theorem jD6 {g:EF qMs}{s:St}{lo:Int}{q:Rq}(hp:(s.Ok∧s.cn 1000000)∧q.Ok∧(q.co=5∨q.co=6∨q.co=7∨q.co=8)) : ∃ (t:St) (r:Rs),(s.Go 3 t)∧qMs.fs g [.t (stA s),.t (.int .i64 lo),.t (rqA q)] []=some (.tup [.t (stA t),.t (rsA r)],[]):=by
 obtain⟨y,h1,h2⟩:=qMs.eq g (s,lo,q) hp;exact⟨y.1,y.2,h1,h2⟩
theorem zA6 {s:St}{lo:Int}{q:Rq}(t:St)(r:Rs)(hR:s.Go 3 t)(hV:vv = .tup [.t (stA t),.t (rsA r)])(hO:oo=[]):qMs.K (s,lo,q) vv oo:=⟨(t,r),hR,hV,hO⟩
def qLn:ECt where
 α:=St×Rq
 β:=St×Rs
 aS:=fun (s,q)=>[.t (stA s),.t (rqA q)]
 pre:=fun (s,q)=>(s.Ok∧s.cn 1000000)∧q.Ok∧q.co=17
 r:=fun (t,r)=> .tup [.t (stA t),.t (rsA r)]
 R:=fun (s,q) (t,r)=>s.Go 3 t
theorem jBr {g:EF qLn}{s:St}{q:Rq}(hp:(s.Ok∧s.cn 1000000)∧q.Ok∧q.co=17) : ∃ (t:St) (r:Rs),(s.Go 3 t)∧qLn.fs g [.t (stA s),.t (rqA q)] []=some (.tup [.t (stA t),.t (rsA r)],[]):=by
 obtain⟨y,h1,h2⟩:=qLn.eq g (s,q) hp;exact⟨y.1,y.2,h1,h2⟩
theorem zAd {s:St}{q:Rq}(t:St)(r:Rs)(hR:s.Go 3 t)(hV:vv = .tup [.t (stA t),.t (rsA r)])(hO:oo=[]):qLn.K (s,q) vv oo:=⟨(t,r),hR,hV,hO⟩
def qNk:ECt where
 α:=St×Rq
 β:=St×Rs
 aS:=fun (s,q)=>[.t (stA s),.t (rqA q)]
 pre:=fun (s,q)=>(s.Ok∧s.cn 1000000)∧q.Ok∧(q.co=16∨q.co=17∨q.co=18∨q.co=19∨q.co=20)
 r:=fun (t,r)=> .tup [.t (stA t),.t (rsA r)]
 R:=fun (s,q) (t,r)=>s.Go 3 t
theorem jF7 {g:EF qNk}{s:St}{q:Rq}(hp:(s.Ok∧s.cn 1000000)∧q.Ok∧(q.co=16∨q.co=17∨q.co=18∨q.co=19∨q.co=20)) : ∃ (t:St) (r:Rs),(s.Go 3 t)∧qNk.fs g [.t (stA s),.t (rqA q)] []=some (.tup [.t (stA t),.t (rsA r)],[]):=by
 obtain⟨y,h1,h2⟩:=qNk.eq g (s,q) hp;exact⟨y.1,y.2,h1,h2⟩
theorem qVb {s:St}{q:Rq}(t:St)(r:Rs)(hR:s.Go 3 t)(hV:vv = .tup [.t (stA t),.t (rsA r)])(hO:oo=[]):qNk.K (s,q) vv oo:=⟨(t,r),hR,hV,hO⟩
def qMw:ECt where
 α:=St×Rq
 β:=St×Rs
 aS:=fun (s,q)=>[.t (stA s),.t (rqA q)]
 pre:=fun (s,q)=>(s.Ok∧s.cn 1000000)∧q.Ok∧q.Al s∧(q.co=9∨q.co=10∨q.co=11∨q.co=12∨q.co=13∨q.co=14∨q.co=15)
 r:=fun (t,r)=> .tup [.t (stA t),.t (rsA r)]
 R:=fun (s,q) (t,r)=>s.Go 3 t
theorem jEb {g:EF qMw}{s:St}{q:Rq}(hp:(s.Ok∧s.cn 1000000)∧q.Ok∧q.Al s∧(q.co=9∨q.co=10∨q.co=11∨q.co=12∨q.co=13∨q.co=14∨q.co=15)) : ∃ (t:St) (r:Rs),(s.Go 3 t)∧qMw.fs g [.t (stA s),.t (rqA q)] []=some (.tup [.t (stA t),.t (rsA r)],[]):=by
 obtain⟨y,h1,h2⟩:=qMw.eq g (s,q) hp;exact⟨y.1,y.2,h1,h2⟩
theorem zEo {s:St}{q:Rq}(t:St)(r:Rs)(hR:s.Go 3 t)(hV:vv = .tup [.t (stA t),.t (rsA r)])(hO:oo=[]):qMw.K (s,q) vv oo:=⟨(t,r),hR,hV,hO⟩
def qLw:ECt where
 α:=St×Rq
 β:=St×Rs
 aS:=fun (s,q)=>[.t (stA s),.t (rqA q)]
 pre:=fun (s,q)=>(s.Ok∧s.cn 1000000)∧q.Ok∧q.co=21
 r:=fun (t,r)=> .tup [.t (stA t),.t (rsA r)]
 R:=fun (s,q) (t,r)=>s.Go 3 t
theorem jCh {g:EF qLw}{s:St}{q:Rq}(hp:(s.Ok∧s.cn 1000000)∧q.Ok∧q.co=21) : ∃ (t:St) (r:Rs),(s.Go 3 t)∧qLw.fs g [.t (stA s),.t (rqA q)] []=some (.tup [.t (stA t),.t (rsA r)],[]):=by
 obtain⟨y,h1,h2⟩:=qLw.eq g (s,q) hp;exact⟨y.1,y.2,h1,h2⟩
theorem zQf {s:St}{q:Rq}(t:St)(r:Rs)(hR:s.Go 3 t)(hV:vv = .tup [.t (stA t),.t (rsA r)])(hO:oo=[]):qLw.K (s,q) vv oo:=⟨(t,r),hR,hV,hO⟩
def qNw:ECt where
 α:=List Int×Int
 β:=List Int
 aS:=fun (l,n)=>[.t (.sl (l.map iT)),.t (.int .i64 n)]
 pre:=fun (l,n)=>l.length≤1000000
 r:=fun r=> .t (.sl (r.map iT))
 R:=fun (l,n) r=>r.length≤l.length
theorem zWa {g:EF qNw}{l:List Int}{n:Int}(hp:l.length≤1000000) : ∃ (r:List Int),(r.length≤l.length)∧qNw.fs g [.t (.sl (l.map iT)),.t (.int .i64 n)] []=some (.t (.sl (r.map iT)),[]):=qNw.eq g (l,n) hp
theorem jLo {l:List Int}{n:Int}(r:List Int)(hR:r.length≤l.length)(hV:vv = .t (.sl (r.map iT)))(hO:oo=[]):qNw.K (l,n) vv oo:=⟨r,hR,hV,hO⟩
def qNq:ECt where
 α:=St×Rq
 β:=St×Rs
 aS:=fun (s,q)=>[.t (stA s),.t (rqA q)]
 pre:=fun (s,q)=>(s.Ok∧s.cn 1000000)∧q.Ok∧q.co=22
 r:=fun (t,r)=> .tup [.t (stA t),.t (rsA r)]
 R:=fun (s,q) (t,r)=>s.Go 3 t
theorem jGm {g:EF qNq}{s:St}{q:Rq}(hp:(s.Ok∧s.cn 1000000)∧q.Ok∧q.co=22) : ∃ (t:St) (r:Rs),(s.Go 3 t)∧qNq.fs g [.t (stA s),.t (rqA q)] []=some (.tup [.t (stA t),.t (rsA r)],[]):=by
 obtain⟨y,h1,h2⟩:=qNq.eq g (s,q) hp;exact⟨y.1,y.2,h1,h2⟩
theorem jGl {s:St}{q:Rq}(t:St)(r:Rs)(hR:s.Go 3 t)(hV:vv = .tup [.t (stA t),.t (rsA r)])(hO:oo=[]):qNq.K (s,q) vv oo:=⟨(t,r),hR,hV,hO⟩
def qNv:ECt where
 α:=List Int×Int
 β:=List Int
 aS:=fun (l,n)=>[.t (.sl (l.map iT)),.t (.int .i64 n)]
 pre:=fun (l,n)=>l.length≤1000000
 r:=fun r=> .t (.sl (r.map iT))
 R:=fun (l,n) r=>r.length≤l.length+1
theorem zV9 {g:EF qNv}{l:List Int}{n:Int}(hp:l.length≤1000000) : ∃ (r:List Int),(r.length≤l.length+1)∧qNv.fs g [.t (.sl (l.map iT)),.t (.int .i64 n)] []=some (.t (.sl (r.map iT)),[]):=qNv.eq g (l,n) hp
theorem jHt {l:List Int}{n:Int}(r:List Int)(hR:r.length≤l.length+1)(hV:vv = .t (.sl (r.map iT)))(hO:oo=[]):qNv.K (l,n) vv oo:=⟨r,hR,hV,hO⟩
def qNl:ECt where
 α:=St×Rq
 β:=St×Rs
 aS:=fun (s,q)=>[.t (stA s),.t (rqA q)]
 pre:=fun (s,q)=>(s.Ok∧s.cn 1000000)∧q.Ok∧q.Al s∧23≤q.co∧q.co≤29
 r:=fun (t,r)=> .tup [.t (stA t),.t (rsA r)]
 R:=fun (s,q) (t,r)=>s.Go 3 t
theorem jF8 {g:EF qNl}{s:St}{q:Rq}(hp:(s.Ok∧s.cn 1000000)∧q.Ok∧q.Al s∧23≤q.co∧q.co≤29) : ∃ (t:St) (r:Rs),(s.Go 3 t)∧qNl.fs g [.t (stA s),.t (rqA q)] []=some (.tup [.t (stA t),.t (rsA r)],[]):=by
 obtain⟨y,h1,h2⟩:=qNl.eq g (s,q) hp;exact⟨y.1,y.2,h1,h2⟩
theorem qJ7 {s:St}{q:Rq}(t:St)(r:Rs)(hR:s.Go 3 t)(hV:vv = .tup [.t (stA t),.t (rsA r)])(hO:oo=[]):qNl.K (s,q) vv oo:=⟨(t,r),hR,hV,hO⟩
def qLr:ECt where
 α:=St
 β:=St×Rs
 aS:=fun s=>[.t (stA s)]
 pre:=fun s=>s.Ok∧s.cn 1000000
 r:=fun (t,r)=> .tup [.t (stA t),.t (rsA r)]
 R:=fun s (t,r)=>s.Go 3 t
theorem jB9 {g:EF qLr}{s:St}(hp:s.Ok∧s.cn 1000000) : ∃ (t:St) (r:Rs),(s.Go 3 t)∧qLr.fs g [.t (stA s)] []=some (.tup [.t (stA t),.t (rsA r)],[]):=by
 obtain⟨y,h1,h2⟩:=qLr.eq g s hp;exact⟨y.1,y.2,h1,h2⟩
theorem jIm {s:St}(t:St)(r:Rs)(hR:s.Go 3 t)(hV:vv = .tup [.t (stA t),.t (rsA r)])(hO:oo=[]):qLr.K s vv oo:=⟨(t,r),hR,hV,hO⟩
def qG7:ECt where
 α:=St×Rq
 β:=St×Rs
 aS:=fun (s,q)=>[.t (stA s),.t (rqA q)]
 pre:=fun (s,q)=>(s.Ok∧s.cn 1000000)∧q.Ok∧q.Al s∧q.co=30
 r:=fun (t,r)=> .tup [.t (stA t),.t (rsA r)]
 R:=fun (s,q) (t,r)=>s.Go 3 t
theorem zWr {g:EF qG7}{s:St}{q:Rq}(hp:(s.Ok∧s.cn 1000000)∧q.Ok∧q.Al s∧q.co=30) : ∃ (t:St) (r:Rs),(s.Go 3 t)∧qG7.fs g [.t (stA s),.t (rqA q)] []=some (.tup [.t (stA t),.t (rsA r)],[]):=by
 obtain⟨y,h1,h2⟩:=qG7.eq g (s,q) hp;exact⟨y.1,y.2,h1,h2⟩
theorem zUd {s:St}{q:Rq}(t:St)(r:Rs)(hR:s.Go 3 t)(hV:vv = .tup [.t (stA t),.t (rsA r)])(hO:oo=[]):qG7.K (s,q) vv oo:=⟨(t,r),hR,hV,hO⟩
def qI1:ECt where
 α:=St×Int×Rq
 β:=St×Rs
 aS:=fun (s,lo,q)=>[.t (stA s),.t (.int .i64 lo),.t (rqA q)]
 pre:=fun (s,lo,q)=>(s.Ok∧s.cn 1000000)∧q.Ok∧q.Al s
 r:=fun (t,r)=> .tup [.t (stA t),.t (rsA r)]
 R:=fun (s,lo,q) (t,r)=>s.Go 3 t
theorem jBz {g:EF qI1}{s:St}{lo:Int}{q:Rq}(hp:(s.Ok∧s.cn 1000000)∧q.Ok∧q.Al s) : ∃ (t:St) (r:Rs),(s.Go 3 t)∧qI1.fs g [.t (stA s),.t (.int .i64 lo),.t (rqA q)] []=some (.tup [.t (stA t),.t (rsA r)],[]):=by
 obtain⟨y,h1,h2⟩:=qI1.eq g (s,lo,q) hp;exact⟨y.1,y.2,h1,h2⟩
theorem qOe {s:St}{lo:Int}{q:Rq}(t:St)(r:Rs)(hR:s.Go 3 t)(hV:vv = .tup [.t (stA t),.t (rsA r)])(hO:oo=[]):qI1.K (s,lo,q) vv oo:=⟨(t,r),hR,hV,hO⟩
def qLy:ECt where
 α:=St×Int×Rq
 β:=St×Rs
 aS:=fun (s,lo,q)=>[.t (stA s),.t (.int .i64 lo),.t (rqA q)]
 pre:=fun (s,lo,q)=>(s.Ok∧s.cn 1000000)∧q.B
 r:=fun (t,r)=> .tup [.t (stA t),.t (rsA r)]
 R:=fun (s,lo,q) (t,r)=>s.Go 4 t
theorem jCl {g:EF qLy}{s:St}{lo:Int}{q:Rq}(hp:(s.Ok∧s.cn 1000000)∧q.B) : ∃ (t:St) (r:Rs),(s.Go 4 t)∧qLy.fs g [.t (stA s),.t (.int .i64 lo),.t (rqA q)] []=some (.tup [.t (stA t),.t (rsA r)],[]):=by
 obtain⟨y,h1,h2⟩:=qLy.eq g (s,lo,q) hp;exact⟨y.1,y.2,h1,h2⟩
theorem qH5 {s:St}{lo:Int}{q:Rq}(t:St)(r:Rs)(hR:s.Go 4 t)(hV:vv = .tup [.t (stA t),.t (rsA r)])(hO:oo=[]):qLy.K (s,lo,q) vv oo:=⟨(t,r),hR,hV,hO⟩
abbrev nnI (n:Int):Prop:=0≤n∧n≤1099511627776
def qB4:ECt where
 α:=St×Int×Int
 β:=Int
 aS:=fun (s,n,k)=>[.t (stA s),.t (.int .i64 n),.t (.int .i64 k)]
 pre:=fun (s,n,k)=>s.Ok∧nnI n
 r:=fun h=> .t (.int .i64 h)
 R:=fun (s,n,k) h=>0≤h∧h≤65535
theorem qTg {g:EF qB4}{s:St}{n k:Int}(hp:s.Ok∧nnI n) : ∃ (h:Int),(0≤h∧h≤65535)∧qB4.fs g [.t (stA s),.t (.int .i64 n),.t (.int .i64 k)] []=some (.t (.int .i64 h),[]):=qB4.eq g (s,n,k) hp
theorem zYd {s:St}{n k:Int}(h:Int)(hR:0≤h∧h≤65535)(hV:vv = .t (.int .i64 h))(hO:oo=[]):qB4.K (s,n,k) vv oo:=⟨h,hR,hV,hO⟩
def qAt:ECt where
 α:=St×Int
 β:=Int
 aS:=fun (s,n)=>[.t (stA s),.t (.int .i64 n)]
 pre:=fun (s,n)=>s.Ok∧nnI n
 r:=fun h=> .t (.int .i64 h)
 R:=fun (s,n) h=>0≤h∧h≤65535
theorem zG1 {g:EF qAt}{s:St}{n:Int}(hp:s.Ok∧nnI n) : ∃ (h:Int),(0≤h∧h≤65535)∧qAt.fs g [.t (stA s),.t (.int .i64 n)] []=some (.t (.int .i64 h),[]):=qAt.eq g (s,n) hp
theorem zXn {s:St}{n:Int}(h:Int)(hR:0≤h∧h≤65535)(hV:vv = .t (.int .i64 h))(hO:oo=[]):qAt.K (s,n) vv oo:=⟨h,hR,hV,hO⟩
def xS:ECt where
 α:=St×Int×Int
 β:=Int
 aS:=fun (s,n,k)=>[.t (stA s),.t (.int .i64 n),.t (.int .i64 k)]
 pre:=fun (s,n,k)=>s.Ok∧nnI n
 r:=fun h=> .t (.int .i64 h)
 R:=fun (s,n,k) h=>768≤h∧h≤770
theorem qK4 {g:EF xS}{s:St}{n k:Int}(hp:s.Ok∧nnI n) : ∃ (h:Int),(768≤h∧h≤770)∧xS.fs g [.t (stA s),.t (.int .i64 n),.t (.int .i64 k)] []=some (.t (.int .i64 h),[]):=xS.eq g (s,n,k) hp
theorem zZ4 {s:St}{n k:Int}(h:Int)(hR:768≤h∧h≤770)(hV:vv = .t (.int .i64 h))(hO:oo=[]):xS.K (s,n,k) vv oo:=⟨h,hR,hV,hO⟩
def qDs:ECt where
 α:=St×Int
 β:=Int
 aS:=fun (s,n)=>[.t (stA s),.t (.int .i64 n)]
 pre:=fun (s,n)=>s.Ok∧nnI n
 r:=fun h=> .t (.int .i64 h)
 R:=fun (s,n) h=>0≤h∧h≤65535
theorem jCk {g:EF qDs}{s:St}{n:Int}(hp:s.Ok∧nnI n) : ∃ (h:Int),(0≤h∧h≤65535)∧qDs.fs g [.t (stA s),.t (.int .i64 n)] []=some (.t (.int .i64 h),[]):=qDs.eq g (s,n) hp
theorem zW4 {s:St}{n:Int}(h:Int)(hR:0≤h∧h≤65535)(hV:vv = .t (.int .i64 h))(hO:oo=[]):qDs.K (s,n) vv oo:=⟨h,hR,hV,hO⟩
def qDq:ECt where
 α:=St×Rq×Int×List UInt8
 β:=Rq
 aS:=fun (s,q,m,b)=>[.t (stA s),.t (rqA q),.t (.int .i64 m),.t (.sl (b.map qA))]
 pre:=fun (s,q,m,b)=>s.Ok∧(q.B∧1≤q.hs.length)∧nnI m∧b.length≤60
 r:=fun r=> .t (rqA r)
 R:=fun (s,q,m,b) r=>r.B
theorem xC {g:EF qDq}{s:St}{q:Rq}{m:Int}{b:List UInt8}(hp:s.Ok∧(q.B∧1≤q.hs.length)∧nnI m∧b.length≤60) : ∃ (r:Rq),(r.B)∧qDq.fs g [.t (stA s),.t (rqA q),.t (.int .i64 m),.t (.sl (b.map qA))] []=some (.t (rqA r),[]):=qDq.eq g (s,q,m,b) hp
theorem qSu {s:St}{q:Rq}{m:Int}{b:List UInt8}(r:Rq)(hR:r.B)(hV:vv = .t (rqA r))(hO:oo=[]):qDq.K (s,q,m,b) vv oo:=⟨r,hR,hV,hO⟩
def qJj:ECt where
 α:=St×Int×List UInt8
 β:=List UInt8
 aS:=fun (s,n,b)=>[.t (stA s),.t (.int .i64 n),.t (.sl (b.map qA))]
 pre:=fun (s,n,b)=>s.Ok∧nnI n∧b.length≤60
 r:=fun r=> .t (.sl (r.map qA))
 R:=fun (s,n,b) r=>r.length≤32
theorem zVg {g:EF qJj}{s:St}{n:Int}{b:List UInt8}(hp:s.Ok∧nnI n∧b.length≤60) : ∃ (r:List UInt8),(r.length≤32)∧qJj.fs g [.t (stA s),.t (.int .i64 n),.t (.sl (b.map qA))] []=some (.t (.sl (r.map qA)),[]):=qJj.eq g (s,n,b) hp
theorem zMw {s:St}{n:Int}{b:List UInt8}(r:List UInt8)(hR:r.length≤32)(hV:vv = .t (.sl (r.map qA)))(hO:oo=[]):qJj.K (s,n,b) vv oo:=⟨r,hR,hV,hO⟩
def qB5:ECt where
 α:=St×Int×List UInt8
 β:=List Int×List (List UInt8)
 aS:=fun (s,n,b)=>[.t (stA s),.t (.int .i64 n),.t (.sl (b.map qA))]
 pre:=fun (s,n,b)=>s.Ok∧nnI n∧b.length≤60
 r:=fun (l,m)=> .tup [.t (.sl (l.map iT)),.t (.sl (m.map bsT))]
 R:=fun (s,n,b) (l,m)=>l.length=3∧m.length=3 ∧ ∀ x∈m,x.length≤60
theorem zOu {g:EF qB5}{s:St}{n:Int}{b:List UInt8}(hp:s.Ok∧nnI n∧b.length≤60) : ∃ (l:List Int) (m:List (List UInt8)),(l.length=3∧m.length=3 ∧ ∀ x∈m,x.length≤60)∧qB5.fs g [.t (stA s),.t (.int .i64 n),.t (.sl (b.map qA))] []=some (.tup [.t (.sl (l.map iT)),.t (.sl (m.map bsT))],[]):=by
 obtain⟨y,h1,h2⟩:=qB5.eq g (s,n,b) hp;exact⟨y.1,y.2,h1,h2⟩
theorem qYo {s:St}{n:Int}{b:List UInt8}(l:List Int)(m:List (List UInt8))(hR:l.length=3∧m.length=3 ∧ ∀ x∈m,x.length≤60)(hV:vv = .tup [.t (.sl (l.map iT)),.t (.sl (m.map bsT))])(hO:oo=[]):qB5.K (s,n,b) vv oo:=⟨(l,m),hR,hV,hO⟩
def qDr:ECt where
 α:=St×Int×List UInt8
 β:=List Int×List (List UInt8)
 aS:=fun (s,n,b)=>[.t (stA s),.t (.int .i64 n),.t (.sl (b.map qA))]
 pre:=fun (s,n,b)=>s.Ok∧nnI n∧b.length≤60
 r:=fun (l,m)=> .tup [.t (.sl (l.map iT)),.t (.sl (m.map bsT))]
 R:=fun (s,n,b) (l,m)=>l.length≤8∧m.length≤8 ∧ ∀ x∈m,x.length≤60
theorem jCg {g:EF qDr}{s:St}{n:Int}{b:List UInt8}(hp:s.Ok∧nnI n∧b.length≤60) : ∃ (l:List Int) (m:List (List UInt8)),(l.length≤8∧m.length≤8 ∧ ∀ x∈m,x.length≤60)∧qDr.fs g [.t (stA s),.t (.int .i64 n),.t (.sl (b.map qA))] []=some (.tup [.t (.sl (l.map iT)),.t (.sl (m.map bsT))],[]):=by
 obtain⟨y,h1,h2⟩:=qDr.eq g (s,n,b) hp;exact⟨y.1,y.2,h1,h2⟩
theorem jIt {s:St}{n:Int}{b:List UInt8}(l:List Int)(m:List (List UInt8))(hR:l.length≤8∧m.length≤8 ∧ ∀ x∈m,x.length≤60)(hV:vv = .tup [.t (.sl (l.map iT)),.t (.sl (m.map bsT))])(hO:oo=[]):qDr.K (s,n,b) vv oo:=⟨(l,m),hR,hV,hO⟩
def qDp:ECt where
 α:=St×Int×Int×List UInt8
 β:=List Int×List (List UInt8)
 aS:=fun (s,n,m,b)=>[.t (stA s),.t (.int .i64 n),.t (.int .i64 m),.t (.sl (b.map qA))]
 pre:=fun (s,n,m,b)=>s.Ok∧nnI n∧nnI m∧b.length≤60
 r:=fun (l,r)=> .tup [.t (.sl (l.map iT)),.t (.sl (r.map bsT))]
 R:=fun (s,n,m,b) (l,r)=>l.length≤8∧r.length≤8 ∧ ∀ x∈r,x.length≤60
theorem jBq {g:EF qDp}{s:St}{n m:Int}{b:List UInt8}(hp:s.Ok∧nnI n∧nnI m∧b.length≤60) : ∃ (l:List Int) (r:List (List UInt8)),(l.length≤8∧r.length≤8 ∧ ∀ x∈r,x.length≤60)∧qDp.fs g [.t (stA s),.t (.int .i64 n),.t (.int .i64 m),.t (.sl (b.map qA))] []=some (.tup [.t (.sl (l.map iT)),.t (.sl (r.map bsT))],[]):=by
 obtain⟨y,h1,h2⟩:=qDp.eq g (s,n,m,b) hp;exact⟨y.1,y.2,h1,h2⟩
theorem qCl {s:St}{n m:Int}{b:List UInt8}(l:List Int)(r:List (List UInt8))(hR:l.length≤8∧r.length≤8 ∧ ∀ x∈r,x.length≤60)(hV:vv = .tup [.t (.sl (l.map iT)),.t (.sl (r.map bsT))])(hO:oo=[]):qDp.K (s,n,m,b) vv oo:=⟨(l,r),hR,hV,hO⟩
def qDt:ECt where
 α:=St×Int×Int×List UInt8
 β:=List (List UInt8)
 aS:=fun (s,h,n,b)=>[.t (stA s),.t (.int .i64 h),.t (.int .i64 n),.t (.sl (b.map qA))]
 pre:=fun (s,h,n,b)=>s.Ok∧nnI n∧b.length≤60
 r:=fun m=> .t (.sl (m.map bsT))
 R:=fun (s,h,n,b) m=>m.length≤8 ∧ ∀ x∈m,x.length≤2000
theorem jDq {g:EF qDt}{s:St}{h n:Int}{b:List UInt8}(hp:s.Ok∧nnI n∧b.length≤60) : ∃ (m:List (List UInt8)),(m.length≤8 ∧ ∀ x∈m,x.length≤2000)∧qDt.fs g [.t (stA s),.t (.int .i64 h),.t (.int .i64 n),.t (.sl (b.map qA))] []=some (.t (.sl (m.map bsT)),[]):=qDt.eq g (s,h,n,b) hp
theorem zQ4 {s:St}{h n:Int}{b:List UInt8}(m:List (List UInt8))(hR:m.length≤8 ∧ ∀ x∈m,x.length≤2000)(hV:vv = .t (.sl (m.map bsT)))(hO:oo=[]):qDt.K (s,h,n,b) vv oo:=⟨m,hR,hV,hO⟩
def qDo:ECt where
 α:=St×Int×List UInt8
 β:=List Int×List (List UInt8)
 aS:=fun (s,n,b)=>[.t (stA s),.t (.int .i64 n),.t (.sl (b.map qA))]
 pre:=fun (s,n,b)=>s.Ok∧nnI n∧b.length≤60
 r:=fun (l,m)=> .tup [.t (.sl (l.map iT)),.t (.sl (m.map bsT))]
 R:=fun (s,n,b) (l,m)=>l.length≤8∧m.length≤8 ∧ ∀ x∈m,x.length≤2000
theorem jBo {g:EF qDo}{s:St}{n:Int}{b:List UInt8}(hp:s.Ok∧nnI n∧b.length≤60) : ∃ (l:List Int) (m:List (List UInt8)),(l.length≤8∧m.length≤8 ∧ ∀ x∈m,x.length≤2000)∧qDo.fs g [.t (stA s),.t (.int .i64 n),.t (.sl (b.map qA))] []=some (.tup [.t (.sl (l.map iT)),.t (.sl (m.map bsT))],[]):=by
 obtain⟨y,h1,h2⟩:=qDo.eq g (s,n,b) hp;exact⟨y.1,y.2,h1,h2⟩
theorem jBn {s:St}{n:Int}{b:List UInt8}(l:List Int)(m:List (List UInt8))(hR:l.length≤8∧m.length≤8 ∧ ∀ x∈m,x.length≤2000)(hV:vv = .tup [.t (.sl (l.map iT)),.t (.sl (m.map bsT))])(hO:oo=[]):qDo.K (s,n,b) vv oo:=⟨(l,m),hR,hV,hO⟩
def qDv:ECt where
 α:=St×Int×Int×List UInt8
 β:=Rq
 aS:=fun (s,k,n,b)=>[.t (stA s),.t (.int .i64 k),.t (.int .i64 n),.t (.sl (b.map qA))]
 pre:=fun (s,k,n,b)=>s.Ok∧nnI k∧nnI n∧b.length≤60
 r:=fun q=> .t (rqA q)
 R:=fun (s,k,n,b) q=>q.B∧1≤q.hs.length
theorem qQ2 {g:EF qDv}{s:St}{k n:Int}{b:List UInt8}(hp:s.Ok∧nnI k∧nnI n∧b.length≤60) : ∃ (q:Rq),(q.B∧1≤q.hs.length)∧qDv.fs g [.t (stA s),.t (.int .i64 k),.t (.int .i64 n),.t (.sl (b.map qA))] []=some (.t (rqA q),[]):=qDv.eq g (s,k,n,b) hp
theorem qCs {s:St}{k n:Int}{b:List UInt8}(q:Rq)(hR:q.B∧1≤q.hs.length)(hV:vv = .t (rqA q))(hO:oo=[]):qDv.K (s,k,n,b) vv oo:=⟨q,hR,hV,hO⟩
def qDw:ECt where
 α:=St×Int×Int×Int×List UInt8
 β:=Rq
 aS:=fun (s,k,n,m,b)=>[.t (stA s),.t (.int .i64 k),.t (.int .i64 n),.t (.int .i64 m),.t (.sl (b.map qA))]
 pre:=fun (s,k,n,m,b)=>s.Ok∧(nnI k∧nnI n∧nnI m)∧b.length≤4000000000
 r:=fun q=> .t (rqA q)
 R:=fun (s,k,n,m,b) q=>q.B
theorem jFd {g:EF qDw}{s:St}{k n m:Int}{b:List UInt8}(hp:s.Ok∧(nnI k∧nnI n∧nnI m)∧b.length≤4000000000) : ∃ (q:Rq),(q.B)∧qDw.fs g [.t (stA s),.t (.int .i64 k),.t (.int .i64 n),.t (.int .i64 m),.t (.sl (b.map qA))] []=some (.t (rqA q),[]):=qDw.eq g (s,k,n,m,b) hp
theorem kU {s:St}{k n m:Int}{b:List UInt8}(q:Rq)(hR:q.B)(hV:vv = .t (rqA q))(hO:oo=[]):qDw.K (s,k,n,m,b) vv oo:=⟨q,hR,hV,hO⟩
def qJw:ECt where
 α:=St
 β:=St
 aS:=fun s=>[.t (stA s)]
 pre:=fun s=>s.Ok∧s.cn 1000000
 r:=fun t=> .t (stA t)
 R:=fun s t=>s.Go 1 t∧t.on=true
theorem zV7 {g:EF qJw}{s:St}(hp:s.Ok∧s.cn 1000000) : ∃ (t:St),(s.Go 1 t∧t.on=true)∧qJw.fs g [.t (stA s)] []=some (.t (stA t),[]):=qJw.eq g s hp
theorem jHp {s:St}(t:St)(hR:s.Go 1 t∧t.on=true)(hV:vv = .t (stA t))(hO:oo=[]):qJw.K s vv oo:=⟨t,hR,hV,hO⟩
def qNn:ECt where
 α:=St×Int×Int×Int×List UInt8
 β:=St
 aS:=fun (s,k,n,m,b)=>[.t (stA s),.t (.int .i64 k),.t (.int .i64 n),.t (.int .i64 m),.t (.sl (b.map qA))]
 pre:=fun (s,k,n,m,b)=>(s.Ok∧s.cn 100000)∧((0≤k∧k≤255)∧(0≤n∧n≤255)∧0≤m∧m≤255)∧b.length≤3000000000
 r:=fun t=> .t (stA t)
 R:=fun (s,k,n,m,b) t=>s.Go 6 t
theorem jGb {g:EF qNn}{s:St}{k n m:Int}{b:List UInt8}(hp:(s.Ok∧s.cn 100000)∧((0≤k∧k≤255)∧(0≤n∧n≤255)∧0≤m∧m≤255)∧b.length≤3000000000) : ∃ (t:St),(s.Go 6 t)∧qNn.fs g [.t (stA s),.t (.int .i64 k),.t (.int .i64 n),.t (.int .i64 m),.t (.sl (b.map qA))] []=some (.t (stA t),[]):=qNn.eq g (s,k,n,m,b) hp
theorem zZ8 {s:St}{k n m:Int}{b:List UInt8}(t:St)(hR:s.Go 6 t)(hV:vv = .t (stA t))(hO:oo=[]):qNn.K (s,k,n,m,b) vv oo:=⟨t,hR,hV,hO⟩
def qM3:ECt where
 α:=St×List UInt8×List UInt8×Int
 β:=St
 aS:=fun (s,cs,b,n)=>[.t (stA s),.t (.sl (cs.map qA)),.t (.sl (b.map qA)),.t (.int .i64 n)]
 pre:=fun (s,cs,b,n)=>(s.Ok∧s.cn 10)∧cs.length≤9223372036854775807∧b.length≤3000000000∧(0≤n∧n≤100)
 r:=fun t=> .t (stA t)
 R:=fun (s,cs,b,n) t=>(t.Ok∧t.cn 5000)∧t.on=true
theorem jEq {g:EF qM3}{s:St}{cs b:List UInt8}{n:Int}(hp:(s.Ok∧s.cn 10)∧cs.length≤9223372036854775807∧b.length≤3000000000∧(0≤n∧n≤100)) : ∃ (t:St),((t.Ok∧t.cn 5000)∧t.on=true)∧qM3.fs g [.t (stA s),.t (.sl (cs.map qA)),.t (.sl (b.map qA)),.t (.int .i64 n)] []=some (.t (stA t),[]):=qM3.eq g (s,cs,b,n) hp
theorem jEp {s:St}{cs b:List UInt8}{n:Int}(t:St)(hR:(t.Ok∧t.cn 5000)∧t.on=true)(hV:vv = .t (stA t))(hO:oo=[]):qM3.K (s,cs,b,n) vv oo:=⟨t,hR,hV,hO⟩
def qFb:ECt where
 α:=Int×List UInt8×List UInt8
 β:=St
 aS:=fun (a,cs,b)=>[.t (.int .i64 a),.t (.sl (cs.map qA)),.t (.sl (b.map qA))]
 pre:=fun (a,cs,b)=>cs.length≤9223372036854775807∧b.length≤3000000000
 r:=fun t=> .t (stA t)
 R:=fun (a,cs,b) t=>(t.Ok∧t.cn 5000)∧t.on=true
theorem zGy {g:EF qFb}{a:Int}{cs b:List UInt8}(hp:cs.length≤9223372036854775807∧b.length≤3000000000) : ∃ (t:St),((t.Ok∧t.cn 5000)∧t.on=true)∧qFb.fs g [.t (.int .i64 a),.t (.sl (cs.map qA)),.t (.sl (b.map qA))] []=some (.t (stA t),[]):=qFb.eq g (a,cs,b) hp
theorem jIw {a:Int}{cs b:List UInt8}(t:St)(hR:(t.Ok∧t.cn 5000)∧t.on=true)(hV:vv = .t (stA t))(hO:oo=[]):qFb.K (a,cs,b) vv oo:=⟨t,hR,hV,hO⟩
end Go.Eng
end
