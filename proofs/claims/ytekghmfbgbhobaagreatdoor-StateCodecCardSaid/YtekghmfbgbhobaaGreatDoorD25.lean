/- A part of an abstract machine, its walks, their tie. -/
import Derived.Test.YtekghmfbgbhobaaGreatDoorD24
set_option linter.all false
section
set_option maxHeartbeats 64000000
set_option maxRecDepth 20000
namespace Go.Eng
variable {vv:V} {oo:List Ob}
structure Sl2 where
 a:Int
 b:Int
 deriving Inhabited
structure Att where
 key:List UInt8
 no:List UInt8
 res:Int
 rst:Int
 clk:Int
 safe:Bool
 u:Int
 s0:Int
 s1:Int
 dg:List UInt8
 deriving Inhabited
structure Rr where
 bk:List zB
 u:Int
 deriving Inhabited
def jAo (x:Sl2):T:= .agg [.int .i64 x.a,.int .i64 x.b]
def zT9 (x:Att):T:= .agg [.sl (x.key.map qA),.sl (x.no.map qA),.int .i64 x.res,.int .i64 x.rst,.int .i64 x.clk,.bool x.safe,.int .i64 x.u,.int .i64 x.s0,.int .i64 x.s1,.sl (x.dg.map qA)]
def rrA (x:Rr):T:= .agg [.sl (x.bk.map yS),.int .i64 x.u]
theorem jLd:EI jAo:=qDq (by rintro⟨⟩ ⟨⟩ h;simp only[jAo,zAt] at h;obtain⟨rfl,rfl⟩:=h;rfl)
theorem jGx:EI zT9:=qDq (by rintro⟨⟩ ⟨⟩ h;simp only[zT9,zAt] at h;obtain⟨rfl,rfl,rfl,rfl,rfl,rfl,rfl,rfl,rfl,rfl⟩:=h;rfl)
theorem jPo:EI rrA:=qDq (by rintro⟨⟩ ⟨⟩ h;simp only[rrA,zAt] at h;obtain⟨rfl,rfl⟩:=h;rfl)
theorem jVn:EI jAo∧EI zT9∧EI rrA:=⟨jLd,jGx,jPo⟩
def Asr.B (a:Asr):Prop:=a.dg.length≤4000∧a.od.length≤4000∧a.nm.length≤4000∧a.rf.length≤4000∧a.br.length≤8 ∧ ∀ x∈a.br,x.length≤4000
def Rq.B (q:Rq):Prop:=q.hs.length≤8∧q.au.length≤8∧q.ns.length≤8∧q.bl.length≤8∧(∀ x∈q.bl,x.length≤4000) ∧ ∀ a∈q.au,a.no.length≤4000∧a.va.length≤4000
def jNg:List (Int×Int×Int×Int):=[(-2,0,0,0),(0,0,1,0),(0,0,1,0),(-2,0,0,0),(0,0,0,0),(0,0,2,0),(0,0,1,2),(0,0,1,1),(0,0,1,0),
 (1,1,3,3),(1,1,3,3),(1,1,0,2),(0,0,1,0),(1,1,0,0),(1,1,0,1),(1,1,2,1),(0,0,1,0),(0,0,6,-1),(1,1,2,1),(0,0,1,3),(0,0,1,0),
 (1,1,4,2),(1,1,1,0),(2,1,1,1),(2,1,2,0),(2,1,0,0),(2,1,0,1),(2,1,0,1),(2,1,0,0),(2,1,0,0),(1,1,0,1),(1,1,0,0),(1,1,0,0),(1,1,3,0)]
def qG2 (c:Int):Int×Int×Int×Int:=if c<0∨34≤c then (-2,0,0,0) else jNg.getD c.toNat (-2,0,0,0)
structure Rq.Ok (q:Rq):Prop where
 co:(0≤q.co∧q.co<34)∧(qG2 q.co).1 ≠ -2
 hs:(q.hs.length:Int)=(qG2 q.co).1 ∧ ∀ x∈q.hs,0≤x∧x≤65535
 au:(q.au.length:Int)=(qG2 q.co).2.1 ∧ ∀ a∈q.au,tmI a.s∧a.no.length≤128∧a.va.length≤128
 ns:(q.ns.length:Int)=(qG2 q.co).2.2.1 ∧ ∀ x∈q.ns,tmI x
 bl:((q.bl.length:Int)=(qG2 q.co).2.2.2∨(qG2 q.co).2.2.2 = -1∧q.bl.length≤8) ∧ ∀ x∈q.bl,x.length≤1024
def Rq.h0 (q:Rq):Int:=q.hs.getD 0 0
def Rq.h1 (q:Rq):Int:=q.hs.getD 1 0
def Rq.Al (q:Rq)(s:St):Prop:=(q.co=9→0≤q.h0∧q.h0≤2)∧(q.co=10∨q.co=11∨q.co=13∨q.co=14∨q.co=15→0≤slP s.obs q.h0 0)∧(q.co=30→0≤q.h0∧q.h0≤3)∧(23≤q.co∧q.co≤29→0≤ixP s.a.ix q.h1 0)
def St.Go (k:Int)(s t:St):Prop:=t.Ok∧s.up k t
def St.lkd (s:St)(l:Lk):St := { s with a := { s.a with lk:=l } }
def qKt:ECt where
 α:=List UInt8
 β:=List Int
 aS:=fun m=>[.t (.sl (m.map qA))]
 pre:=fun m=>m.length≤100000
 r:=fun r=> .t (.sl (r.map iT))
 R:=fun m r=>r.length=35 ∧ ∀ x∈r,0≤x∧x≤15
theorem zY6 {g:EF qKt}{m:List UInt8}(hp:m.length≤100000) : ∃ (r:List Int),(r.length=35 ∧ ∀ x∈r,0≤x∧x≤15)∧qKt.fs g [.t (.sl (m.map qA))] []=some (.t (.sl (r.map iT)),[]):=qKt.eq g m hp
theorem jN3 {m:List UInt8}(r:List Int)(hR:r.length=35 ∧ ∀ x∈r,0≤x∧x≤15)(hV:vv = .t (.sl (r.map iT)))(hO:oo=[]):qKt.K m vv oo:=⟨r,hR,hV,hO⟩
def qD4:ECt where
 α:=Int×Int×Int×Int×List UInt8
 β:=List UInt8
 aS:=fun (l,c,a,b,x)=>[.t (.int .i64 l),.t (.int .i64 c),.t (.int .i64 a),.t (.int .i64 b),.t (.sl (x.map qA))]
 pre:=fun (l,c,a,b,x)=>x.length=16∧0≤a∧b≤15
 r:=fun r=> .t (.sl (r.map qA))
 R:=fun (l,c,a,b,x) r=>r.length=16
theorem zIj {g:EF qD4}{l c a b:Int}{x:List UInt8}(hp:x.length=16∧0≤a∧b≤15) : ∃ (r:List UInt8),(r.length=16)∧qD4.fs g [.t (.int .i64 l),.t (.int .i64 c),.t (.int .i64 a),.t (.int .i64 b),.t (.sl (x.map qA))] []=some (.t (.sl (r.map qA)),[]):=qD4.eq g (l,c,a,b,x) hp
theorem jLj {l c a b:Int}{x:List UInt8}(r:List UInt8)(hR:r.length=16)(hV:vv = .t (.sl (r.map qA)))(hO:oo=[]):qD4.K (l,c,a,b,x) vv oo:=⟨r,hR,hV,hO⟩
def qLe:ECt where
 α:=List UInt8×Int×Int
 β:=List UInt8
 aS:=fun (s,l,c)=>[.t (.sl (s.map qA)),.t (.int .i64 l),.t (.int .i64 c)]
 pre:=fun (s,l,c)=>s.length≤64
 r:=fun r=> .t (.sl (r.map qA))
 R:=fun (s,l,c) r=>r.length=16
theorem jAr {g:EF qLe}{s:List UInt8}{l c:Int}(hp:s.length≤64) : ∃ (r:List UInt8),(r.length=16)∧qLe.fs g [.t (.sl (s.map qA)),.t (.int .i64 l),.t (.int .i64 c)] []=some (.t (.sl (r.map qA)),[]):=qLe.eq g (s,l,c) hp
theorem jP8 {s:List UInt8}{l c:Int}(r:List UInt8)(hR:r.length=16)(hV:vv = .t (.sl (r.map qA)))(hO:oo=[]):qLe.K (s,l,c) vv oo:=⟨r,hR,hV,hO⟩
def qK4:ECt where
 α:=Int×List UInt8
 β:=List UInt8
 aS:=fun (l,e)=>[.t (.int .i64 l),.t (.sl (e.map qA))]
 pre:=fun (l,e)=>e.length≤1000
 r:=fun r=> .t (.sl (r.map qA))
 R:=fun (l,e) r=>r.length=16
theorem zZ2 {g:EF qK4}{l:Int}{e:List UInt8}(hp:e.length≤1000) : ∃ (r:List UInt8),(r.length=16)∧qK4.fs g [.t (.int .i64 l),.t (.sl (e.map qA))] []=some (.t (.sl (r.map qA)),[]):=qK4.eq g (l,e) hp
theorem jO5 {l:Int}{e:List UInt8}(r:List UInt8)(hR:r.length=16)(hV:vv = .t (.sl (r.map qA)))(hO:oo=[]):qK4.K (l,e) vv oo:=⟨r,hR,hV,hO⟩
def qOh:ECt where
 α:=List UInt8×Int
 β:=List UInt8
 aS:=fun (s,l)=>[.t (.sl (s.map qA)),.t (.int .i64 l)]
 pre:=fun (s,l)=>s.length≤64
 r:=fun r=> .t (.sl (r.map qA))
 R:=fun (s,l) r=>r.length≤16
theorem jJp {g:EF qOh}{s:List UInt8}{l:Int}(hp:s.length≤64) : ∃ (r:List UInt8),(r.length≤16)∧qOh.fs g [.t (.sl (s.map qA)),.t (.int .i64 l)] []=some (.t (.sl (r.map qA)),[]):=qOh.eq g (s,l) hp
theorem jDe {s:List UInt8}{l:Int}(r:List UInt8)(hR:r.length≤16)(hV:vv = .t (.sl (r.map qA)))(hO:oo=[]):qOh.K (s,l) vv oo:=⟨r,hR,hV,hO⟩
def qOm:ECt where
 α:=List UInt8×Int×List UInt8
 β:=List UInt8
 aS:=fun (s,l,m)=>[.t (.sl (s.map qA)),.t (.int .i64 l),.t (.sl (m.map qA))]
 pre:=fun (s,l,m)=>s.length≤64∧m.length≤100000
 r:=fun r=> .t (.sl (r.map qA))
 R:=fun (s,l,m) r=>r.length≤560
theorem jJv {g:EF qOm}{s:List UInt8}{l:Int}{m:List UInt8}(hp:s.length≤64∧m.length≤100000) : ∃ (r:List UInt8),(r.length≤560)∧qOm.fs g [.t (.sl (s.map qA)),.t (.int .i64 l),.t (.sl (m.map qA))] []=some (.t (.sl (r.map qA)),[]):=qOm.eq g (s,l,m) hp
theorem jDi {s:List UInt8}{l:Int}{m:List UInt8}(r:List UInt8)(hR:r.length≤560)(hV:vv = .t (.sl (r.map qA)))(hO:oo=[]):qOm.K (s,l,m) vv oo:=⟨r,hR,hV,hO⟩
def qOl:ECt where
 α:=Int×List UInt8×List UInt8
 β:=List UInt8×Bool
 aS:=fun (l,m,sg)=>[.t (.int .i64 l),.t (.sl (m.map qA)),.t (.sl (sg.map qA))]
 pre:=fun (l,m,sg)=>m.length≤100000∧sg.length≤100000
 r:=fun (r,b)=> .tup [.t (.sl (r.map qA)),.t (.bool b)]
 R:=fun (l,m,sg) (r,b)=>r.length≤16
theorem jJu {g:EF qOl}{l:Int}{m sg:List UInt8}(hp:m.length≤100000∧sg.length≤100000) : ∃ (r:List UInt8) (b:Bool),(r.length≤16)∧qOl.fs g [.t (.int .i64 l),.t (.sl (m.map qA)),.t (.sl (sg.map qA))] []=some (.tup [.t (.sl (r.map qA)),.t (.bool b)],[]):=by
 obtain⟨y,h1,h2⟩:=qOl.eq g (l,m,sg) hp;exact⟨y.1,y.2,h1,h2⟩
theorem zV8 {l:Int}{m sg:List UInt8}(r:List UInt8)(b:Bool)(hR:r.length≤16)(hV:vv = .tup [.t (.sl (r.map qA)),.t (.bool b)])(hO:oo=[]):qOl.K (l,m,sg) vv oo:=⟨(r,b),hR,hV,hO⟩
def qKv:ECt where
 α:=Int
 β:=Bool
 aS:=fun n=>[.t (.int .i64 n)]
 pre:=fun n=>True
 r:=fun r'=> .t (.bool r')
 R:=fun n r'=>r'=decide (n=1∨n=2∨n=4∨n=8)
theorem zZh {g:EF qKv}{n:Int}:qKv.fs g [.t (.int .i64 n)] []=some (.t (.bool (decide (n=1∨n=2∨n=4∨n=8))),[]):=fnQ qKv n trivial
theorem zPv {n:Int}(hV:vv = .t (.bool (decide (n=1∨n=2∨n=4∨n=8))))(hO:oo=[]):qKv.K n vv oo:=⟨_,rfl,hV,hO⟩
def qKz:ECt where
 α:=Int×Int×List UInt8×List UInt8
 β:=List UInt8
 aS:=fun (h,i,x,y)=>[.t (.int .i64 h),.t (.int .i64 i),.t (.sl (x.map qA)),.t (.sl (y.map qA))]
 pre:=fun (h,i,x,y)=>x.length≤1000∧y.length≤1000
 r:=fun r=> .t (.sl (r.map qA))
 R:=fun (h,i,x,y) r=>r.length=16
theorem zQo {g:EF qKz}{h i:Int}{x y:List UInt8}(hp:x.length≤1000∧y.length≤1000) : ∃ (r:List UInt8),(r.length=16)∧qKz.fs g [.t (.int .i64 h),.t (.int .i64 i),.t (.sl (x.map qA)),.t (.sl (y.map qA))] []=some (.t (.sl (r.map qA)),[]):=qKz.eq g (h,i,x,y) hp
theorem jOl {h i:Int}{x y:List UInt8}(r:List UInt8)(hR:r.length=16)(hV:vv = .t (.sl (r.map qA)))(hO:oo=[]):qKz.K (h,i,x,y) vv oo:=⟨r,hR,hV,hO⟩
def qLg:ECt where
 α:=Int×List (List UInt8)
 β:=List (List UInt8)
 aS:=fun (h,l)=>[.t (.int .i64 h),.t (.sl (l.map bsT))]
 pre:=fun (h,l)=>l.length≤8 ∧ ∀ x∈l,x.length≤16
 r:=fun r=> .t (.sl (r.map bsT))
 R:=fun (h,l) r=>r.length=l.length/2 ∧ ∀ x∈r,x.length≤16
theorem jAv {g:EF qLg}{h:Int}{l:List (List UInt8)}(hp:l.length≤8 ∧ ∀ x∈l,x.length≤16) : ∃ (r:List (List UInt8)),(r.length=l.length/2 ∧ ∀ x∈r,x.length≤16)∧qLg.fs g [.t (.int .i64 h),.t (.sl (l.map bsT))] []=some (.t (.sl (r.map bsT)),[]):=qLg.eq g (h,l) hp
theorem jQg {h:Int}{l:List (List UInt8)}(r:List (List UInt8))(hR:r.length=l.length/2 ∧ ∀ x∈r,x.length≤16)(hV:vv = .t (.sl (r.map bsT)))(hO:oo=[]):qLg.K (h,l) vv oo:=⟨r,hR,hV,hO⟩
def qOu:ECt where
 α:=List (List UInt8)
 β:=List UInt8
 aS:=fun l=>[.t (.sl (l.map bsT))]
 pre:=fun l=>l.length≤8 ∧ ∀ x∈l,x.length≤16
 r:=fun r=> .t (.sl (r.map qA))
 R:=fun l r=>r.length≤16
theorem jKn {g:EF qOu}{l:List (List UInt8)}(hp:l.length≤8 ∧ ∀ x∈l,x.length≤16) : ∃ (r:List UInt8),(r.length≤16)∧qOu.fs g [.t (.sl (l.map bsT))] []=some (.t (.sl (r.map qA)),[]):=qOu.eq g l hp
theorem jKm {l:List (List UInt8)}(r:List UInt8)(hR:r.length≤16)(hV:vv = .t (.sl (r.map qA)))(hO:oo=[]):qOu.K l vv oo:=⟨r,hR,hV,hO⟩
def qOq:ECt where
 α:=Int×List (List UInt8)
 β:=List (List UInt8)
 aS:=fun (i,l)=>[.t (.int .i64 i),.t (.sl (l.map bsT))]
 pre:=fun (i,l)=>l.length≤8 ∧ ∀ x∈l,x.length≤16
 r:=fun r=> .t (.sl (r.map bsT))
 R:=fun (i,l) r=>r.length≤3 ∧ ∀ x∈r,x.length≤16
theorem jJ2 {g:EF qOq}{i:Int}{l:List (List UInt8)}(hp:l.length≤8 ∧ ∀ x∈l,x.length≤16) : ∃ (r:List (List UInt8)),(r.length≤3 ∧ ∀ x∈r,x.length≤16)∧qOq.fs g [.t (.int .i64 i),.t (.sl (l.map bsT))] []=some (.t (.sl (r.map bsT)),[]):=qOq.eq g (i,l) hp
theorem zWb {i:Int}{l:List (List UInt8)}(r:List (List UInt8))(hR:r.length≤3 ∧ ∀ x∈r,x.length≤16)(hV:vv = .t (.sl (r.map bsT)))(hO:oo=[]):qOq.K (i,l) vv oo:=⟨r,hR,hV,hO⟩
def qKq:ECt where
 α:=List UInt8×Int×List (List UInt8)
 β:=List UInt8
 aS:=fun (x,i,p)=>[.t (.sl (x.map qA)),.t (.int .i64 i),.t (.sl (p.map bsT))]
 pre:=fun (x,i,p)=>x.length≤16 ∧ ∀ x∈p,x.length≤16
 r:=fun r=> .t (.sl (r.map qA))
 R:=fun (x,i,p) r=>r.length≤16
theorem jHa {g:EF qKq}{x:List UInt8}{i:Int}{p:List (List UInt8)}(hp:x.length≤16 ∧ ∀ x∈p,x.length≤16) : ∃ (r:List UInt8),(r.length≤16)∧qKq.fs g [.t (.sl (x.map qA)),.t (.int .i64 i),.t (.sl (p.map bsT))] []=some (.t (.sl (r.map qA)),[]):=qKq.eq g (x,i,p) hp
theorem zHc {x:List UInt8}{i:Int}{p:List (List UInt8)}(r:List UInt8)(hR:r.length≤16)(hV:vv = .t (.sl (r.map qA)))(hO:oo=[]):qKq.K (x,i,p) vv oo:=⟨r,hR,hV,hO⟩
def qK2:ECt where
 α:=List UInt8×Int
 β:=List UInt8
 aS:=fun (s,h)=>[.t (.sl (s.map qA)),.t (.int .i64 h)]
 pre:=fun (s,h)=>s.length≤64
 r:=fun r=> .t (.sl (r.map qA))
 R:=fun (s,h) r=>r.length=32
theorem zZs {g:EF qK2}{s:List UInt8}{h:Int}(hp:s.length≤64) : ∃ (r:List UInt8),(r.length=32)∧qK2.fs g [.t (.sl (s.map qA)),.t (.int .i64 h)] []=some (.t (.sl (r.map qA)),[]):=qK2.eq g (s,h) hp
theorem jOv {s:List UInt8}{h:Int}(r:List UInt8)(hR:r.length=32)(hV:vv = .t (.sl (r.map qA)))(hO:oo=[]):qK2.K (s,h) vv oo:=⟨r,hR,hV,hO⟩
def qIq:ECt where
 α:=List UInt8×Int
 β:=List (List UInt8)
 aS:=fun (s,h)=>[.t (.sl (s.map qA)),.t (.int .i64 h)]
 pre:=fun (s,h)=>s.length≤64∧0≤h∧h≤3
 r:=fun r=> .t (.sl (r.map bsT))
 R:=fun (s,h) r=>r.length≤8 ∧ ∀ x∈r,x.length≤16
theorem zZu {g:EF qIq}{s:List UInt8}{h:Int}(hp:s.length≤64∧0≤h∧h≤3) : ∃ (r:List (List UInt8)),(r.length≤8 ∧ ∀ x∈r,x.length≤16)∧qIq.fs g [.t (.sl (s.map qA)),.t (.int .i64 h)] []=some (.t (.sl (r.map bsT)),[]):=qIq.eq g (s,h) hp
theorem jOx {s:List UInt8}{h:Int}(r:List (List UInt8))(hR:r.length≤8 ∧ ∀ x∈r,x.length≤16)(hV:vv = .t (.sl (r.map bsT)))(hO:oo=[]):qIq.K (s,h) vv oo:=⟨r,hR,hV,hO⟩
def qK5:ECt where
 α:=List UInt8×Int
 β:=List UInt8
 aS:=fun (s,h)=>[.t (.sl (s.map qA)),.t (.int .i64 h)]
 pre:=fun (s,h)=>s.length≤64
 r:=fun r=> .t (.sl (r.map qA))
 R:=fun (s,h) r=>r.length≤17
theorem zZ3 {g:EF qK5}{s:List UInt8}{h:Int}(hp:s.length≤64) : ∃ (r:List UInt8),(r.length≤17)∧qK5.fs g [.t (.sl (s.map qA)),.t (.int .i64 h)] []=some (.t (.sl (r.map qA)),[]):=qK5.eq g (s,h) hp
theorem jDm {s:List UInt8}{h:Int}(r:List UInt8)(hR:r.length≤17)(hV:vv = .t (.sl (r.map qA)))(hO:oo=[]):qK5.K (s,h) vv oo:=⟨r,hR,hV,hO⟩
def qIw:ECt where
 α:=List UInt8×Int×Int×List UInt8
 β:=List UInt8
 aS:=fun (s,h,l,m)=>[.t (.sl (s.map qA)),.t (.int .i64 h),.t (.int .i64 l),.t (.sl (m.map qA))]
 pre:=fun (s,h,l,m)=>s.length≤64∧m.length≤100000
 r:=fun r=> .t (.sl (r.map qA))
 R:=fun (s,h,l,m) r=>r.length≤1000
theorem zSm {g:EF qIw}{s:List UInt8}{h l:Int}{m:List UInt8}(hp:s.length≤64∧m.length≤100000) : ∃ (r:List UInt8),(r.length≤1000)∧qIw.fs g [.t (.sl (s.map qA)),.t (.int .i64 h),.t (.int .i64 l),.t (.sl (m.map qA))] []=some (.t (.sl (r.map qA)),[]):=qIw.eq g (s,h,l,m) hp
theorem zE4 {s:List UInt8}{h l:Int}{m:List UInt8}(r:List UInt8)(hR:r.length≤1000)(hV:vv = .t (.sl (r.map qA)))(hO:oo=[]):qIw.K (s,h,l,m) vv oo:=⟨r,hR,hV,hO⟩
def qO8:ECt where
 α:=List UInt8×List UInt8×List UInt8
 β:=Int×Bool
 aS:=fun (p,m,sg)=>[.t (.sl (p.map qA)),.t (.sl (m.map qA)),.t (.sl (sg.map qA))]
 pre:=fun (p,m,sg)=>p.length≤4000∧m.length≤100000∧sg.length≤4000
 r:=fun (n,b)=> .tup [.t (.int .i64 n),.t (.bool b)]
 R:=fun (p,m,sg) (n,b)=>True
theorem jMm {g:EF qO8}{p m sg:List UInt8}(hp:p.length≤4000∧m.length≤100000∧sg.length≤4000) : ∃ (n:Int) (b:Bool),(True)∧qO8.fs g [.t (.sl (p.map qA)),.t (.sl (m.map qA)),.t (.sl (sg.map qA))] []=some (.tup [.t (.int .i64 n),.t (.bool b)],[]):=by
 obtain⟨y,h1,h2⟩:=qO8.eq g (p,m,sg) hp;exact⟨y.1,y.2,h1,h2⟩
theorem zNv {p m sg:List UInt8}(n:Int)(b:Bool)(hR:True)(hV:vv = .tup [.t (.int .i64 n),.t (.bool b)])(hO:oo=[]):qO8.K (p,m,sg) vv oo:=⟨(n,b),hR,hV,hO⟩
def qOe:ECt where
 α:=List UInt8×List UInt8
 β:=Int
 aS:=fun (a,b)=>[.t (.sl (a.map qA)),.t (.sl (b.map qA))]
 pre:=fun (a,b)=>a.length≤4000∧b.length≤4000
 r:=fun e=> .t (.int .i64 e)
 R:=fun (a,b) e=>True
theorem zZx {g:EF qOe}{a b:List UInt8}(hp:a.length≤4000∧b.length≤4000) : ∃ (e:Int),(True)∧qOe.fs g [.t (.sl (a.map qA)),.t (.sl (b.map qA))] []=some (.t (.int .i64 e),[]):=qOe.eq g (a,b) hp
theorem jO1 {a b:List UInt8}(e:Int)(hR:True)(hV:vv = .t (.int .i64 e))(hO:oo=[]):qOe.K (a,b) vv oo:=⟨e,hR,hV,hO⟩
def qOz:ECt where
 α:=Sl2
 β:=Bool
 aS:=fun x=>[.t (jAo x)]
 pre:=fun x=>True
 r:=fun b=> .t (.bool b)
 R:=fun x b=>True
 inj:=by rintro x x' e _;simp only[zAt,jN6,jVn] at e;obtain rfl:=e;rfl
theorem jLf {g:EF qOz}{x:Sl2} : ∃ (b:Bool),(True)∧qOz.fs g [.t (jAo x)] []=some (.t (.bool b),[]):=qOz.eq g x trivial
theorem jP4 {x:Sl2}(b:Bool)(hR:True)(hV:vv = .t (.bool b))(hO:oo=[]):qOz.K x vv oo:=⟨b,hR,hV,hO⟩
def qM7:ECt where
 α:=List (List UInt8)
 β:=Bool
 aS:=fun l=>[.t (.sl (l.map bsT))]
 pre:=fun l=>l.length≤8 ∧ ∀ x∈l,x.length≤4000
 r:=fun b=> .t (.bool b)
 R:=fun l b=>True
theorem jG3 {g:EF qM7}{l:List (List UInt8)}(hp:l.length≤8 ∧ ∀ x∈l,x.length≤4000) : ∃ (b:Bool),(True)∧qM7.fs g [.t (.sl (l.map bsT))] []=some (.t (.bool b),[]):=qM7.eq g l hp
theorem jBh {l:List (List UInt8)}(b:Bool)(hR:True)(hV:vv = .t (.bool b))(hO:oo=[]):qM7.K l vv oo:=⟨b,hR,hV,hO⟩
def qIk:ECt where
 α:=Asr
 β:=Int
 aS:=fun a=>[.t (vN a)]
 pre:=fun a=>a.B
 r:=fun e=> .t (.int .i64 e)
 R:=fun a e=>True
theorem zJ2 {g:EF qIk}{a:Asr}(hp:a.B) : ∃ (e:Int),(True)∧qIk.fs g [.t (vN a)] []=some (.t (.int .i64 e),[]):=qIk.eq g a hp
theorem jNi {a:Asr}(e:Int)(hR:True)(hV:vv = .t (.int .i64 e))(hO:oo=[]):qIk.K a vv oo:=⟨e,hR,hV,hO⟩
def qNm:ECt where
 α:=List UInt8×Asr
 β:=List UInt8
 aS:=fun (d,a)=>[.t (.sl (d.map qA)),.t (vN a)]
 pre:=fun (d,a)=>d.length≤4000∧a.B
 r:=fun r=> .sl 0 0 r.length
 outs:=fun r=>[.live 1 ((r.map qA).map V.t) true false]
 R:=fun (d,a) r=>r.length≤200000
theorem jHy {g:EF qNm}{d:List UInt8}{a:Asr}(hp:d.length≤4000∧a.B) : ∃ (r:List UInt8),(r.length≤200000)∧qNm.fs g [.t (.sl (d.map qA)),.t (vN a)] []=some (.sl 0 0 r.length,[.live 1 ((r.map qA).map V.t) true false]):=qNm.eq g (d,a) hp
theorem zAx {d:List UInt8}{a:Asr}(r:List UInt8)(hR:r.length≤200000)(hV:vv = .sl 0 0 r.length)(hO:oo=[.live 1 ((r.map qA).map V.t) true false]):qNm.K (d,a) vv oo:=⟨r,hR,hV,hO⟩
def qGw:ECt where
 α:=List UInt8×Asr
 β:=List UInt8
 aS:=fun (d,a)=>[.t (.sl (d.map qA)),.t (vN a)]
 pre:=fun (d,a)=>d.length≤4000∧a.B
 r:=fun r=> .t (.sl (r.map qA))
 R:=fun (d,a) r=>r.length≤32
theorem zDu {g:EF qGw}{d:List UInt8}{a:Asr}(hp:d.length≤4000∧a.B) : ∃ (r:List UInt8),(r.length≤32)∧qGw.fs g [.t (.sl (d.map qA)),.t (vN a)] []=some (.t (.sl (r.map qA)),[]):=qGw.eq g (d,a) hp
theorem jHs {d:List UInt8}{a:Asr}(r:List UInt8)(hR:r.length≤32)(hV:vv = .t (.sl (r.map qA)))(hO:oo=[]):qGw.K (d,a) vv oo:=⟨r,hR,hV,hO⟩
def qNg:ECt where
 α:=List Asr
 β:=List UInt8
 aS:=fun l=>[.t (.sl (l.map vN))]
 pre:=fun l=>l.length≤8 ∧ ∀ a∈l,a.B
 r:=fun r=> .t (.sl (r.map qA))
 R:=fun l r=>r.length≤32
theorem zY9 {g:EF qNg}{l:List Asr}(hp:l.length≤8 ∧ ∀ a∈l,a.B) : ∃ (r:List UInt8),(r.length≤32)∧qNg.fs g [.t (.sl (l.map vN))] []=some (.t (.sl (r.map qA)),[]):=qNg.eq g l hp
theorem jHm {l:List Asr}(r:List UInt8)(hR:r.length≤32)(hV:vv = .t (.sl (r.map qA)))(hO:oo=[]):qNg.K l vv oo:=⟨r,hR,hV,hO⟩
def qLh:ECt where
 α:=Sn×Int×Int
 β:=List UInt8
 aS:=fun (s,k,h)=>[.t (snA s),.t (.int .i64 k),.t (.int .i64 h)]
 pre:=fun (s,k,h)=>s.sd.length≤64∧s.da.length≤4000
 r:=fun r=> .t (.sl (r.map qA))
 R:=fun (s,k,h) r=>r.length≤32
theorem jAw {g:EF qLh}{s:Sn}{k h:Int}(hp:s.sd.length≤64∧s.da.length≤4000) : ∃ (r:List UInt8),(r.length≤32)∧qLh.fs g [.t (snA s),.t (.int .i64 k),.t (.int .i64 h)] []=some (.t (.sl (r.map qA)),[]):=qLh.eq g (s,k,h) hp
theorem jL0 {s:Sn}{k h:Int}(r:List UInt8)(hR:r.length≤32)(hV:vv = .t (.sl (r.map qA)))(hO:oo=[]):qLh.K (s,k,h) vv oo:=⟨r,hR,hV,hO⟩
def qIr:ECt where
 α:=List UInt8×Pu×List UInt8×List UInt8
 β:=Pu×Sn×Int
 aS:=fun (s,p,au,da)=>[.t (.sl (s.map qA)),.t (puA p),.t (.sl (au.map qA)),.t (.sl (da.map qA))]
 pre:=fun (s,p,au,da)=>s.length≤64∧p.po.length≤4000∧au.length≤4000∧da.length≤4000
 r:=fun (y,z,e)=> .tup [.t (puA y),.t (snA z),.t (.int .i64 e)]
 R:=fun (s,p,au,da) (y,z,e)=>e=0→y.Ok∧z.Ok
theorem zQ0 {g:EF qIr}{s:List UInt8}{p:Pu}{au da:List UInt8}(hp:s.length≤64∧p.po.length≤4000∧au.length≤4000∧da.length≤4000) : ∃ (y:Pu) (z:Sn) (e:Int),(e=0→y.Ok∧z.Ok)∧qIr.fs g [.t (.sl (s.map qA)),.t (puA p),.t (.sl (au.map qA)),.t (.sl (da.map qA))] []=some (.tup [.t (puA y),.t (snA z),.t (.int .i64 e)],[]):=by
 obtain⟨y,h1,h2⟩:=qIr.eq g (s,p,au,da) hp;exact⟨y.1,y.2.1,y.2.2,h1,h2⟩
theorem zEe {s:List UInt8}{p:Pu}{au da:List UInt8}(y:Pu)(z:Sn)(e:Int)(hR:e=0→y.Ok∧z.Ok)(hV:vv = .tup [.t (puA y),.t (snA z),.t (.int .i64 e)])(hO:oo=[]):qIr.K (s,p,au,da) vv oo:=⟨(y,z,e),hR,hV,hO⟩
def qK0:ECt where
 α:=Sn×List UInt8
 β:=List UInt8
 aS:=fun (s,nm)=>[.t (snA s),.t (.sl (nm.map qA))]
 pre:=fun (s,nm)=>s.sd.length≤64∧nm.length≤100000
 r:=fun r=> .t (.sl (r.map qA))
 R:=fun (s,nm) r=>r.length=32
theorem zZq {g:EF qK0}{s:Sn}{nm:List UInt8}(hp:s.sd.length≤64∧nm.length≤100000) : ∃ (r:List UInt8),(r.length=32)∧qK0.fs g [.t (snA s),.t (.sl (nm.map qA))] []=some (.t (.sl (r.map qA)),[]):=qK0.eq g (s,nm) hp
theorem jOn {s:Sn}{nm:List UInt8}(r:List UInt8)(hR:r.length=32)(hV:vv = .t (.sl (r.map qA)))(hO:oo=[]):qK0.K (s,nm) vv oo:=⟨r,hR,hV,hO⟩
def qLd:ECt where
 α:=List UInt8×List UInt8×List UInt8
 β:=List UInt8
 aS:=fun (k,no,b)=>[.t (.sl (k.map qA)),.t (.sl (no.map qA)),.t (.sl (b.map qA))]
 pre:=fun (k,no,b)=>k.length≤64∧no.length≤64∧b.length≤1024
 r:=fun r=> .sl 0 0 r.length
 outs:=fun r=>[.live 1 ((r.map qA).map V.t) true false]
 R:=fun (k,no,b) r=>r.length=b.length
theorem jAp {g:EF qLd}{k no b:List UInt8}(hp:k.length≤64∧no.length≤64∧b.length≤1024) : ∃ (r:List UInt8),(r.length=b.length)∧qLd.fs g [.t (.sl (k.map qA)),.t (.sl (no.map qA)),.t (.sl (b.map qA))] []=some (.sl 0 0 r.length,[.live 1 ((r.map qA).map V.t) true false]):=qLd.eq g (k,no,b) hp
theorem jP5 {k no b:List UInt8}(r:List UInt8)(hR:r.length=b.length)(hV:vv = .sl 0 0 r.length)(hO:oo=[.live 1 ((r.map qA).map V.t) true false]):qLd.K (k,no,b) vv oo:=⟨r,hR,hV,hO⟩
def qOw:ECt where
 α:=List UInt8×List UInt8×List UInt8×List UInt8
 β:=List UInt8
 aS:=fun (k,no,ad,p)=>[.t (.sl (k.map qA)),.t (.sl (no.map qA)),.t (.sl (ad.map qA)),.t (.sl (p.map qA))]
 pre:=fun (k,no,ad,p)=>k.length≤64∧no.length≤64∧ad.length≤4000∧1≤p.length∧p.length≤1000
 r:=fun r=> .sl 0 0 r.length
 outs:=fun r=>[.live 1 ((r.map qA).map V.t) true false]
 R:=fun (k,no,ad,p) r=>1≤r.length∧r.length≤1200
theorem jK3 {g:EF qOw}{k no ad p:List UInt8}(hp:k.length≤64∧no.length≤64∧ad.length≤4000∧1≤p.length∧p.length≤1000) : ∃ (r:List UInt8),(1≤r.length∧r.length≤1200)∧qOw.fs g [.t (.sl (k.map qA)),.t (.sl (no.map qA)),.t (.sl (ad.map qA)),.t (.sl (p.map qA))] []=some (.sl 0 0 r.length,[.live 1 ((r.map qA).map V.t) true false]):=qOw.eq g (k,no,ad,p) hp
theorem jPz {k no ad p:List UInt8}(r:List UInt8)(hR:1≤r.length∧r.length≤1200)(hV:vv = .sl 0 0 r.length)(hO:oo=[.live 1 ((r.map qA).map V.t) true false]):qOw.K (k,no,ad,p) vv oo:=⟨r,hR,hV,hO⟩
def qK9:ECt where
 α:=Sn×Pu×Sn
 β:=List UInt8
 aS:=fun (s,p,z)=>[.t (snA s),.t (puA p),.t (snA z)]
 pre:=fun (s,p,z)=>s.Ok∧p.Ok∧z.Ok
 r:=fun r=> .sl 0 0 r.length
 outs:=fun r=>[.live 1 ((r.map qA).map V.t) true false]
 R:=fun (s,p,z) r=>1≤r.length∧r.length≤1200
theorem zZ7 {g:EF qK9}{s:Sn}{p:Pu}{z:Sn}(hp:s.Ok∧p.Ok∧z.Ok) : ∃ (r:List UInt8),(1≤r.length∧r.length≤1200)∧qK9.fs g [.t (snA s),.t (puA p),.t (snA z)] []=some (.sl 0 0 r.length,[.live 1 ((r.map qA).map V.t) true false]):=qK9.eq g (s,p,z) hp
theorem jO9 {s:Sn}{p:Pu}{z:Sn}(r:List UInt8)(hR:1≤r.length∧r.length≤1200)(hV:vv = .sl 0 0 r.length)(hO:oo=[.live 1 ((r.map qA).map V.t) true false]):qK9.K (s,p,z) vv oo:=⟨r,hR,hV,hO⟩
def qOk:ECt where
 α:=List UInt8×List UInt8×List UInt8
 β:=List UInt8×Int
 aS:=fun (k,ad,b)=>[.t (.sl (k.map qA)),.t (.sl (ad.map qA)),.t (.sl (b.map qA))]
 pre:=fun (k,ad,b)=>k.length≤64∧ad.length≤4000∧b.length≤4000
 r:=fun (r,e)=> .tup [.t (.sl (r.map qA)),.t (.int .i64 e)]
 R:=fun (k,ad,b) (r,e)=>r.length≤1024
theorem jJs {g:EF qOk}{k ad b:List UInt8}(hp:k.length≤64∧ad.length≤4000∧b.length≤4000) : ∃ (r:List UInt8) (e:Int),(r.length≤1024)∧qOk.fs g [.t (.sl (k.map qA)),.t (.sl (ad.map qA)),.t (.sl (b.map qA))] []=some (.tup [.t (.sl (r.map qA)),.t (.int .i64 e)],[]):=by
 obtain⟨y,h1,h2⟩:=qOk.eq g (k,ad,b) hp;exact⟨y.1,y.2,h1,h2⟩
theorem jDf {k ad b:List UInt8}(r:List UInt8)(e:Int)(hR:r.length≤1024)(hV:vv = .tup [.t (.sl (r.map qA)),.t (.int .i64 e)])(hO:oo=[]):qOk.K (k,ad,b) vv oo:=⟨(r,e),hR,hV,hO⟩
def qOj:ECt where
 α:=Sn×Pu×List UInt8
 β:=Sn×Int
 aS:=fun (s,p,b)=>[.t (snA s),.t (puA p),.t (.sl (b.map qA))]
 pre:=fun (s,p,b)=>s.Ok∧p.Ok∧b.length≤4000
 r:=fun (z,e)=> .tup [.t (snA z),.t (.int .i64 e)]
 R:=fun (s,p,b) (z,e)=>e=0→z.Ok
theorem jJr {g:EF qOj}{s:Sn}{p:Pu}{b:List UInt8}(hp:s.Ok∧p.Ok∧b.length≤4000) : ∃ (z:Sn) (e:Int),(e=0→z.Ok)∧qOj.fs g [.t (snA s),.t (puA p),.t (.sl (b.map qA))] []=some (.tup [.t (snA z),.t (.int .i64 e)],[]):=by
 obtain⟨y,h1,h2⟩:=qOj.eq g (s,p,b) hp;exact⟨y.1,y.2,h1,h2⟩
theorem zV7 {s:Sn}{p:Pu}{b:List UInt8}(z:Sn)(e:Int)(hR:e=0→z.Ok)(hV:vv = .tup [.t (snA z),.t (.int .i64 e)])(hO:oo=[]):qOj.K (s,p,b) vv oo:=⟨(z,e),hR,hV,hO⟩
def qOb:ECt where
 α:=Unit
 β:=List UInt8
 aS:=fun _=>[]
 pre:=fun _=>True
 r:=fun r=> .t (.sl (r.map qA))
 R:=fun _ r=>r.length=4
 inj:=fun _ _ _ _=>rfl
theorem jJb {g:EF qOb}  : ∃ (r:List UInt8),(r.length=4)∧qOb.fs g [] []=some (.t (.sl (r.map qA)),[]):=qOb.eq g () trivial
theorem jOy  (r:List UInt8)(hR:r.length=4)(hV:vv = .t (.sl (r.map qA)))(hO:oo=[]):qOb.K () vv oo:=⟨r,hR,hV,hO⟩
def qM2:ECt where
 α:=Att
 β:=List UInt8
 aS:=fun a=>[.t (zT9 a)]
 pre:=fun a=>a.key.length≤4000∧a.no.length≤4000∧a.dg.length≤4000
 r:=fun r=> .t (.sl (r.map qA))
 R:=fun a r=>r.length≤20000
 inj:=by rintro a a' e _;simp only[zAt,jN6,jVn] at e;obtain rfl:=e;rfl
theorem jGj {g:EF qM2}{a:Att}(hp:a.key.length≤4000∧a.no.length≤4000∧a.dg.length≤4000) : ∃ (r:List UInt8),(r.length≤20000)∧qM2.fs g [.t (zT9 a)] []=some (.t (.sl (r.map qA)),[]):=qM2.eq g a hp
theorem jGi {a:Att}(r:List UInt8)(hR:r.length≤20000)(hV:vv = .t (.sl (r.map qA)))(hO:oo=[]):qM2.K a vv oo:=⟨r,hR,hV,hO⟩
def zSh:Ses:=⟨0,[],[],0,0,0,0,false⟩
def zM6 (s:St)(h:Int):Int:=if h<768∨3≤h-768 then -1 else if (s.ses.getD (h-768).toNat zSh).kd=0 then -1 else h-768
def qIz:ECt where
 α:=St×Int
 β:=Int
 aS:=fun (s,h)=>[.t (stA s),.t (.int .i64 h)]
 pre:=fun (s,h)=>s.ses.length=3∧tmI h
 r:=fun k=> .t (.int .i64 k)
 R:=fun (s,h) k=>(k = -1∨(0≤k∧k≤2∧h=768+k))∧k=zM6 s h
theorem zSy {g:EF qIz}{s:St}{h:Int}(hp:s.ses.length=3∧tmI h) : ∃ (k:Int),((k = -1∨(0≤k∧k≤2∧h=768+k))∧k=zM6 s h)∧qIz.fs g [.t (stA s),.t (.int .i64 h)] []=some (.t (.int .i64 k),[]):=qIz.eq g (s,h) hp
theorem zXw {s:St}{h:Int}(k:Int)(hR:(k = -1∨(0≤k∧k≤2∧h=768+k))∧k=zM6 s h)(hV:vv = .t (.int .i64 k))(hO:oo=[]):qIz.K (s,h) vv oo:=⟨k,hR,hV,hO⟩
def qB2:ECt where
 α:=St×Int×Ses
 β:=St
 aS:=fun (s,k,x)=>[.t (stA s),.t (.int .i64 k),.t (jL x)]
 pre:=fun (s,k,x)=>s.ses.length=3∧0≤k∧k≤2
 r:=fun r'=> .t (stA r')
 R:=fun (s,k,x) r'=>r' = { s with ses:=s.ses.set k.toNat x }
theorem qZs {g:EF qB2}{s:St}{k:Int}{x:Ses}(hp:s.ses.length=3∧0≤k∧k≤2):qB2.fs g [.t (stA s),.t (.int .i64 k),.t (jL x)] []=some (.t (stA ({ s with ses:=s.ses.set k.toNat x })),[]):=fnQ qB2 (s,k,x) hp
theorem jPa {s:St}{k:Int}{x:Ses}(hV:vv = .t (stA ({ s with ses:=s.ses.set k.toNat x })))(hO:oo=[]):qB2.K (s,k,x) vv oo:=⟨_,rfl,hV,hO⟩
def qOi:ECt where
 α:=St×Int
 β:=St×Int×Int
 aS:=fun (s,k)=>[.t (stA s),.t (.int .i64 k)]
 pre:=fun (s,k)=>s.Ok∧s.cn 1000000
 r:=fun (t,h,e)=> .tup [.t (stA t),.t (.int .i64 h),.t (.int .i64 e)]
 R:=fun (s,k) (t,h,e)=>e=0→s.Go 1 t∧tmI h
theorem jJq {g:EF qOi}{s:St}{k:Int}(hp:s.Ok∧s.cn 1000000) : ∃ (t:St) (h e:Int),(e=0→s.Go 1 t∧tmI h)∧qOi.fs g [.t (stA s),.t (.int .i64 k)] []=some (.tup [.t (stA t),.t (.int .i64 h),.t (.int .i64 e)],[]):=by
 obtain⟨y,h1,h2⟩:=qOi.eq g (s,k) hp;exact⟨y.1,y.2.1,y.2.2,h1,h2⟩
theorem zV6 {s:St}{k:Int}(t:St)(h e:Int)(hR:e=0→s.Go 1 t∧tmI h)(hV:vv = .tup [.t (stA t),.t (.int .i64 h),.t (.int .i64 e)])(hO:oo=[]):qOi.K (s,k) vv oo:=⟨(t,h,e),hR,hV,hO⟩
def qCo:ECt where
 α:=St×Int
 β:=Ses×Int
 aS:=fun (s,h)=>[.t (stA s),.t (.int .i64 h)]
 pre:=fun (s,h)=>s.Ok∧tmI h
 r:=fun (x,e)=> .tup [.t (jL x),.t (.int .i64 e)]
 R:=fun (s,h) (x,e)=>x.Ok∧(e=0→(768≤h∧h≤770)∧0≤zM6 s h)
theorem qQd {g:EF qCo}{s:St}{h:Int}(hp:s.Ok∧tmI h) : ∃ (x:Ses) (e:Int),(x.Ok∧(e=0→(768≤h∧h≤770)∧0≤zM6 s h))∧qCo.fs g [.t (stA s),.t (.int .i64 h)] []=some (.tup [.t (jL x),.t (.int .i64 e)],[]):=by
 obtain⟨y,h1,h2⟩:=qCo.eq g (s,h) hp;exact⟨y.1,y.2,h1,h2⟩
theorem jHv {s:St}{h:Int}(x:Ses)(e:Int)(hR:x.Ok∧(e=0→(768≤h∧h≤770)∧0≤zM6 s h))(hV:vv = .tup [.t (jL x),.t (.int .i64 e)])(hO:oo=[]):qCo.K (s,h) vv oo:=⟨(x,e),hR,hV,hO⟩
def qKr:ECt where
 α:=St×Int
 β:=St×Int
 aS:=fun (s,h)=>[.t (stA s),.t (.int .i64 h)]
 pre:=fun (s,h)=>s.Ok∧tmI h
 r:=fun (t,e)=> .tup [.t (stA t),.t (.int .i64 e)]
 R:=fun (s,h) (t,e)=>(e=0→s.Go 0 t)∧(0≤zM6 s h→e=0)
theorem zY1 {g:EF qKr}{s:St}{h:Int}(hp:s.Ok∧tmI h) : ∃ (t:St) (e:Int),((e=0→s.Go 0 t)∧(0≤zM6 s h→e=0))∧qKr.fs g [.t (stA s),.t (.int .i64 h)] []=some (.tup [.t (stA t),.t (.int .i64 e)],[]):=by
 obtain⟨y,h1,h2⟩:=qKr.eq g (s,h) hp;exact⟨y.1,y.2,h1,h2⟩
theorem jHc {s:St}{h:Int}(t:St)(e:Int)(hR:(e=0→s.Go 0 t)∧(0≤zM6 s h→e=0))(hV:vv = .tup [.t (stA t),.t (.int .i64 e)])(hO:oo=[]):qKr.K (s,h) vv oo:=⟨(t,e),hR,hV,hO⟩
def qIt:ECt where
 α:=St×Int
 β:=Int
 aS:=fun (s,h)=>[.t (stA s),.t (.int .i64 h)]
 pre:=fun (s,h)=>s.ses.length=3∧tmI h
 r:=fun k=> .t (.int .i64 k)
 R:=fun (s,h) k=>k = -1∨(0≤k∧k≤2)
theorem zRf {g:EF qIt}{s:St}{h:Int}(hp:s.ses.length=3∧tmI h) : ∃ (k:Int),(k = -1∨(0≤k∧k≤2))∧qIt.fs g [.t (stA s),.t (.int .i64 h)] []=some (.t (.int .i64 k),[]):=qIt.eq g (s,h) hp
theorem jDq {s:St}{h:Int}(k:Int)(hR:k = -1∨(0≤k∧k≤2))(hV:vv = .t (.int .i64 k))(hO:oo=[]):qIt.K (s,h) vv oo:=⟨k,hR,hV,hO⟩
def qOt:ECt where
 α:=St×Ses×Asr
 β:=Ses×Asr×Int
 aS:=fun (s,x,a)=>[.t (stA s),.t (jL x),.t (vN a)]
 pre:=fun (s,x,a)=>s.Ok∧x.Ok∧a.B
 r:=fun (y,b,e)=> .tup [.t (jL y),.t (vN b),.t (.int .i64 e)]
 R:=fun (s,x,a) (y,b,e)=>y.Ok∧b.B
theorem jKj {g:EF qOt}{s:St}{x:Ses}{a:Asr}(hp:s.Ok∧x.Ok∧a.B) : ∃ (y:Ses) (b:Asr) (e:Int),(y.Ok∧b.B)∧qOt.fs g [.t (stA s),.t (jL x),.t (vN a)] []=some (.tup [.t (jL y),.t (vN b),.t (.int .i64 e)],[]):=by
 obtain⟨y,h1,h2⟩:=qOt.eq g (s,x,a) hp;exact⟨y.1,y.2.1,y.2.2,h1,h2⟩
theorem qWi {s:St}{x:Ses}{a:Asr}(y:Ses)(b:Asr)(e:Int)(hR:y.Ok∧b.B)(hV:vv = .tup [.t (jL y),.t (vN b),.t (.int .i64 e)])(hO:oo=[]):qOt.K (s,x,a) vv oo:=⟨(y,b,e),hR,hV,hO⟩
def qNr:ECt where
 α:=St×Asr
 β:=Int
 aS:=fun (s,a)=>[.t (stA s),.t (vN a)]
 pre:=fun (s,a)=>s.Ok∧s.cn 1000000∧a.B
 r:=fun e=> .t (.int .i64 e)
 R:=fun (s,a) e=>True
theorem jIm {g:EF qNr}{s:St}{a:Asr}(hp:s.Ok∧s.cn 1000000∧a.B) : ∃ (e:Int),(True)∧qNr.fs g [.t (stA s),.t (vN a)] []=some (.t (.int .i64 e),[]):=qNr.eq g (s,a) hp
theorem jIl {s:St}{a:Asr}(e:Int)(hR:True)(hV:vv = .t (.int .i64 e))(hO:oo=[]):qNr.K (s,a) vv oo:=⟨e,hR,hV,hO⟩
def qIn:ECt where
 α:=List Int×Int
 β:=Bool
 aS:=fun (l,n)=>[.t (.sl (l.map iT)),.t (.int .i64 n)]
 pre:=fun (l,n)=>l.length≤1000000
 r:=fun b=> .t (.bool b)
 R:=fun (l,n) b=>True
theorem zKp {g:EF qIn}{l:List Int}{n:Int}(hp:l.length≤1000000) : ∃ (b:Bool),(True)∧qIn.fs g [.t (.sl (l.map iT)),.t (.int .i64 n)] []=some (.t (.bool b),[]):=qIn.eq g (l,n) hp
theorem jH3 {l:List Int}{n:Int}(b:Bool)(hR:True)(hV:vv = .t (.bool b))(hO:oo=[]):qIn.K (l,n) vv oo:=⟨b,hR,hV,hO⟩
def qNd:ECt where
 α:=Int×Int×Int
 β:=Bool
 aS:=fun (o,a,b)=>[.t (.int .i64 o),.t (.int .i64 a),.t (.int .i64 b)]
 pre:=fun (o,a,b)=>True
 r:=fun r=> .t (.bool r)
 R:=fun (o,a,b) r=>True
theorem jHg {g:EF qNd}{o a b:Int} : ∃ (r:Bool),(True)∧qNd.fs g [.t (.int .i64 o),.t (.int .i64 a),.t (.int .i64 b)] []=some (.t (.bool r),[]):=qNd.eq g (o,a,b) trivial
theorem jNz {o a b:Int}(r:Bool)(hR:True)(hV:vv = .t (.bool r))(hO:oo=[]):qNd.K (o,a,b) vv oo:=⟨r,hR,hV,hO⟩
def qPa:ECt where
 α:=Asr
 β:=Int
 aS:=fun a=>[.t (vN a)]
 pre:=fun a=>a.B
 r:=fun e=> .t (.int .i64 e)
 R:=fun a e=>True
theorem jM0 {g:EF qPa}{a:Asr}(hp:a.B) : ∃ (e:Int),(True)∧qPa.fs g [.t (vN a)] []=some (.t (.int .i64 e),[]):=qPa.eq g a hp
theorem zTk {a:Asr}(e:Int)(hR:True)(hV:vv = .t (.int .i64 e))(hO:oo=[]):qPa.K a vv oo:=⟨e,hR,hV,hO⟩
def qKm:ECt where
 α:=St×Int×Asr
 β:=St×Int
 aS:=fun (s,h,a)=>[.t (stA s),.t (.int .i64 h),.t (vN a)]
 pre:=fun (s,h,a)=>s.Ok∧s.cn 1000000∧a.B∧tmI h
 r:=fun (t,e)=> .tup [.t (stA t),.t (.int .i64 e)]
 R:=fun (s,h,a) (t,e)=>e=0→s.Go 0 t
theorem jGv {g:EF qKm}{s:St}{h:Int}{a:Asr}(hp:s.Ok∧s.cn 1000000∧a.B∧tmI h) : ∃ (t:St) (e:Int),(e=0→s.Go 0 t)∧qKm.fs g [.t (stA s),.t (.int .i64 h),.t (vN a)] []=some (.tup [.t (stA t),.t (.int .i64 e)],[]):=by
 obtain⟨y,h1,h2⟩:=qKm.eq g (s,h,a) hp;exact⟨y.1,y.2,h1,h2⟩
theorem kX {s:St}{h:Int}{a:Asr}(t:St)(e:Int)(hR:e=0→s.Go 0 t)(hV:vv = .tup [.t (stA t),.t (.int .i64 e)])(hO:oo=[]):qKm.K (s,h,a) vv oo:=⟨(t,e),hR,hV,hO⟩
def qOv:ECt where
 α:=St×Int×List UInt8×List UInt8×Int
 β:=St×Int
 aS:=fun (s,h,nm,rf,n)=>[.t (stA s),.t (.int .i64 h),.t (.sl (nm.map qA)),.t (.sl (rf.map qA)),.t (.int .i64 n)]
 pre:=fun (s,h,nm,rf,n)=>s.Ok∧nm.length≤4000∧rf.length≤4000∧tmI h
 r:=fun (t,e)=> .tup [.t (stA t),.t (.int .i64 e)]
 R:=fun (s,h,nm,rf,n) (t,e)=>e=0→s.Go 0 t
theorem jKz {g:EF qOv}{s:St}{h:Int}{nm rf:List UInt8}{n:Int}(hp:s.Ok∧nm.length≤4000∧rf.length≤4000∧tmI h) : ∃ (t:St) (e:Int),(e=0→s.Go 0 t)∧qOv.fs g [.t (stA s),.t (.int .i64 h),.t (.sl (nm.map qA)),.t (.sl (rf.map qA)),.t (.int .i64 n)] []=some (.tup [.t (stA t),.t (.int .i64 e)],[]):=by
 obtain⟨y,h1,h2⟩:=qOv.eq g (s,h,nm,rf,n) hp;exact⟨y.1,y.2,h1,h2⟩
theorem qWp {s:St}{h:Int}{nm rf:List UInt8}{n:Int}(t:St)(e:Int)(hR:e=0→s.Go 0 t)(hV:vv = .tup [.t (stA t),.t (.int .i64 e)])(hO:oo=[]):qOv.K (s,h,nm,rf,n) vv oo:=⟨(t,e),hR,hV,hO⟩
def qKl:ECt where
 α:=List UInt8×List UInt8
 β:=List UInt8
 aS:=fun (d,rf)=>[.t (.sl (d.map qA)),.t (.sl (rf.map qA))]
 pre:=fun (d,rf)=>d.length≤4000∧rf.length≤4000
 r:=fun r=> .t (.sl (r.map qA))
 R:=fun (d,rf) r=>r.length=32
theorem zYs {g:EF qKl}{d rf:List UInt8}(hp:d.length≤4000∧rf.length≤4000) : ∃ (r:List UInt8),(r.length=32)∧qKl.fs g [.t (.sl (d.map qA)),.t (.sl (rf.map qA))] []=some (.t (.sl (r.map qA)),[]):=qKl.eq g (d,rf) hp
theorem jNl {d rf:List UInt8}(r:List UInt8)(hR:r.length=32)(hV:vv = .t (.sl (r.map qA)))(hO:oo=[]):qKl.K (d,rf) vv oo:=⟨r,hR,hV,hO⟩
def qM4:ECt where
 α:=St×Int×Pu×List UInt8×List UInt8
 β:=St×Int
 aS:=fun (s,h,k,rf,sg)=>[.t (stA s),.t (.int .i64 h),.t (puA k),.t (.sl (rf.map qA)),.t (.sl (sg.map qA))]
 pre:=fun (s,h,k,rf,sg)=>s.Ok∧k.Ok∧rf.length≤4000∧sg.length≤4000∧tmI h
 r:=fun (t,e)=> .tup [.t (stA t),.t (.int .i64 e)]
 R:=fun (s,h,k,rf,sg) (t,e)=>e=0→s.Go 0 t
theorem jGr {g:EF qM4}{s:St}{h:Int}{k:Pu}{rf sg:List UInt8}(hp:s.Ok∧k.Ok∧rf.length≤4000∧sg.length≤4000∧tmI h) : ∃ (t:St) (e:Int),(e=0→s.Go 0 t)∧qM4.fs g [.t (stA s),.t (.int .i64 h),.t (puA k),.t (.sl (rf.map qA)),.t (.sl (sg.map qA))] []=some (.tup [.t (stA t),.t (.int .i64 e)],[]):=by
 obtain⟨y,h1,h2⟩:=qM4.eq g (s,h,k,rf,sg) hp;exact⟨y.1,y.2,h1,h2⟩
theorem qVc {s:St}{h:Int}{k:Pu}{rf sg:List UInt8}(t:St)(e:Int)(hR:e=0→s.Go 0 t)(hV:vv = .tup [.t (stA t),.t (.int .i64 e)])(hO:oo=[]):qM4.K (s,h,k,rf,sg) vv oo:=⟨(t,e),hR,hV,hO⟩
def qKp:ECt where
 α:=List (List UInt8)×Rq
 β:=List UInt8
 aS:=fun (l,q)=>[.t (.sl (l.map bsT)),.t (rqA q)]
 pre:=fun (l,q)=>(l.length≤8 ∧ ∀ x∈l,x.length≤32)∧q.B
 r:=fun r=> .t (.sl (r.map qA))
 R:=fun (l,q) r=>r.length=32
theorem zOx {g:EF qKp}{l:List (List UInt8)}{q:Rq}(hp:(l.length≤8 ∧ ∀ x∈l,x.length≤32)∧q.B) : ∃ (r:List UInt8),(r.length=32)∧qKp.fs g [.t (.sl (l.map bsT)),.t (rqA q)] []=some (.t (.sl (r.map qA)),[]):=qKp.eq g (l,q) hp
theorem jNu {l:List (List UInt8)}{q:Rq}(r:List UInt8)(hR:r.length=32)(hV:vv = .t (.sl (r.map qA)))(hO:oo=[]):qKp.K (l,q) vv oo:=⟨r,hR,hV,hO⟩
def qKs:ECt where
 α:=List UInt8×List UInt8×List UInt8×List UInt8
 β:=List UInt8
 aS:=fun (v,d,m,c)=>[.t (.sl (v.map qA)),.t (.sl (d.map qA)),.t (.sl (m.map qA)),.t (.sl (c.map qA))]
 pre:=fun (v,d,m,c)=>v.length≤64∧d.length≤4000∧m.length≤4000∧c.length≤4000
 r:=fun r=> .t (.sl (r.map qA))
 R:=fun (v,d,m,c) r=>r.length=32
theorem zO1 {g:EF qKs}{v d m c:List UInt8}(hp:v.length≤64∧d.length≤4000∧m.length≤4000∧c.length≤4000) : ∃ (r:List UInt8),(r.length=32)∧qKs.fs g [.t (.sl (v.map qA)),.t (.sl (d.map qA)),.t (.sl (m.map qA)),.t (.sl (c.map qA))] []=some (.t (.sl (r.map qA)),[]):=qKs.eq g (v,d,m,c) hp
theorem jNx {v d m c:List UInt8}(r:List UInt8)(hR:r.length=32)(hV:vv = .t (.sl (r.map qA)))(hO:oo=[]):qKs.K (v,d,m,c) vv oo:=⟨r,hR,hV,hO⟩
def qK3:ECt where
 α:=St×Rq
 β:=List (List UInt8)
 aS:=fun (s,q)=>[.t (stA s),.t (rqA q)]
 pre:=fun (s,q)=>s.Ok∧q.hs.length≤8
 r:=fun l=> .t (.sl (l.map bsT))
 R:=fun (s,q) l=>l.length≤8 ∧ ∀ x∈l,x.length≤32
theorem zZz {g:EF qK3}{s:St}{q:Rq}(hp:s.Ok∧q.hs.length≤8) : ∃ (l:List (List UInt8)),(l.length≤8 ∧ ∀ x∈l,x.length≤32)∧qK3.fs g [.t (stA s),.t (rqA q)] []=some (.t (.sl (l.map bsT)),[]):=qK3.eq g (s,q) hp
theorem jO3 {s:St}{q:Rq}(l:List (List UInt8))(hR:l.length≤8 ∧ ∀ x∈l,x.length≤32)(hV:vv = .t (.sl (l.map bsT)))(hO:oo=[]):qK3.K (s,q) vv oo:=⟨l,hR,hV,hO⟩
def qOf:ECt where
 α:=St×Rq
 β:=List (List UInt8)
 aS:=fun (s,q)=>[.t (stA s),.t (rqA q)]
 pre:=fun (s,q)=>s.Ok∧q.hs.length≤8
 r:=fun l=> .t (.sl (l.map bsT))
 R:=fun (s,q) l=>l.length≤8 ∧ ∀ x∈l,x.length≤32
theorem zZy {g:EF qOf}{s:St}{q:Rq}(hp:s.Ok∧q.hs.length≤8) : ∃ (l:List (List UInt8)),(l.length≤8 ∧ ∀ x∈l,x.length≤32)∧qOf.fs g [.t (stA s),.t (rqA q)] []=some (.t (.sl (l.map bsT)),[]):=qOf.eq g (s,q) hp
theorem jO2 {s:St}{q:Rq}(l:List (List UInt8))(hR:l.length≤8 ∧ ∀ x∈l,x.length≤32)(hV:vv = .t (.sl (l.map bsT)))(hO:oo=[]):qOf.K (s,q) vv oo:=⟨l,hR,hV,hO⟩
def qLb:ECt where
 α:=Int
 β:=Bool
 aS:=fun c=>[.t (.int .i64 c)]
 pre:=fun c=>True
 r:=fun b=> .t (.bool b)
 R:=fun c b=>True
theorem jAc {g:EF qLb}{c:Int} : ∃ (b:Bool),(True)∧qLb.fs g [.t (.int .i64 c)] []=some (.t (.bool b),[]):=qLb.eq g c trivial
theorem jPe {c:Int}(b:Bool)(hR:True)(hV:vv = .t (.bool b))(hO:oo=[]):qLb.K c vv oo:=⟨b,hR,hV,hO⟩
def qK6:ECt where
 α:=Bool×Int×Int
 β:=Int
 aS:=fun (r,a,b)=>[.t (.bool r),.t (.int .i64 a),.t (.int .i64 b)]
 pre:=fun (r,a,b)=>True
 r:=fun n=> .t (.int .i64 n)
 R:=fun (r,a,b) n=>True
theorem zRc {g:EF qK6}{r:Bool}{a b:Int} : ∃ (n:Int),(True)∧qK6.fs g [.t (.bool r),.t (.int .i64 a),.t (.int .i64 b)] []=some (.t (.int .i64 n),[]):=qK6.eq g (r,a,b) trivial
theorem jO6 {r:Bool}{a b:Int}(n:Int)(hR:True)(hV:vv = .t (.int .i64 n))(hO:oo=[]):qK6.K (r,a,b) vv oo:=⟨n,hR,hV,hO⟩
def qOo:ECt where
 α:=St×Rq
 β:=Bool
 aS:=fun (s,q)=>[.t (stA s),.t (rqA q)]
 pre:=fun (s,q)=>s.Ok∧1≤q.hs.length
 r:=fun b=> .t (.bool b)
 R:=fun (s,q) b=>True
theorem jJ0 {g:EF qOo}{s:St}{q:Rq}(hp:s.Ok∧1≤q.hs.length) : ∃ (b:Bool),(True)∧qOo.fs g [.t (stA s),.t (rqA q)] []=some (.t (.bool b),[]):=qOo.eq g (s,q) hp
theorem zMs {s:St}{q:Rq}(b:Bool)(hR:True)(hV:vv = .t (.bool b))(hO:oo=[]):qOo.K (s,q) vv oo:=⟨b,hR,hV,hO⟩
def qN5:ECt where
 α:=St×Int
 β:=Bool
 aS:=fun (s,h)=>[.t (stA s),.t (.int .i64 h)]
 pre:=fun (s,h)=>s.Ok
 r:=fun b=> .t (.bool b)
 R:=fun (s,h) b=>True
theorem jI4 {g:EF qN5}{s:St}{h:Int}(hp:s.Ok) : ∃ (b:Bool),(True)∧qN5.fs g [.t (stA s),.t (.int .i64 h)] []=some (.t (.bool b),[]):=qN5.eq g (s,h) hp
theorem jI3 {s:St}{h:Int}(b:Bool)(hR:True)(hV:vv = .t (.bool b))(hO:oo=[]):qN5.K (s,h) vv oo:=⟨b,hR,hV,hO⟩
def qO9:ECt where
 α:=St×Int×Bool
 β:=St×Int
 aS:=fun (s,h,ok)=>[.t (stA s),.t (.int .i64 h),.t (.bool ok)]
 pre:=fun (s,h,ok)=>s.Ok
 r:=fun (t,e)=> .tup [.t (stA t),.t (.int .i64 e)]
 R:=fun (s,h,ok) (t,e) => ∃ l:Lk,l.Ok∧t=s.lkd l
theorem jAz {g:EF qO9}{s:St}{h:Int}{ok:Bool}(hp:s.Ok) : ∃ (t:St) (e:Int),(∃ l:Lk,l.Ok∧t=s.lkd l)∧qO9.fs g [.t (stA s),.t (.int .i64 h),.t (.bool ok)] []=some (.tup [.t (stA t),.t (.int .i64 e)],[]):=by
 obtain⟨y,h1,h2⟩:=qO9.eq g (s,h,ok) hp;exact⟨y.1,y.2,h1,h2⟩
theorem zYb {s:St}{h:Int}{ok:Bool}(t:St)(e:Int)(hR : ∃ l:Lk,l.Ok∧t=s.lkd l)(hV:vv = .tup [.t (stA t),.t (.int .i64 e)])(hO:oo=[]):qO9.K (s,h,ok) vv oo:=⟨(t,e),hR,hV,hO⟩
def qM8:ECt where
 α:=St×Int×Rq×Ses
 β:=Bool×Int
 aS:=fun (s,lo,q,x)=>[.t (stA s),.t (.int .i64 lo),.t (rqA q),.t (jL x)]
 pre:=fun (s,lo,q,x)=>s.Ok∧(0≤lo∧lo≤4)∧1≤q.hs.length∧x.Ok
 r:=fun (b,e)=> .tup [.t (.bool b),.t (.int .i64 e)]
 R:=fun (s,lo,q,x) (b,e)=>True
theorem jG9 {g:EF qM8}{s:St}{lo:Int}{q:Rq}{x:Ses}(hp:s.Ok∧(0≤lo∧lo≤4)∧1≤q.hs.length∧x.Ok) : ∃ (b:Bool) (e:Int),(True)∧qM8.fs g [.t (stA s),.t (.int .i64 lo),.t (rqA q),.t (jL x)] []=some (.tup [.t (.bool b),.t (.int .i64 e)],[]):=by
 obtain⟨y,h1,h2⟩:=qM8.eq g (s,lo,q,x) hp;exact⟨y.1,y.2,h1,h2⟩
theorem jG8 {s:St}{lo:Int}{q:Rq}{x:Ses}(b:Bool)(e:Int)(hR:True)(hV:vv = .tup [.t (.bool b),.t (.int .i64 e)])(hO:oo=[]):qM8.K (s,lo,q,x) vv oo:=⟨(b,e),hR,hV,hO⟩
def qM9:ECt where
 α:=St×Int×Rq
 β:=St×Int
 aS:=fun (s,lo,q)=>[.t (stA s),.t (.int .i64 lo),.t (rqA q)]
 pre:=fun (s,lo,q)=>s.Ok∧(0≤lo∧lo≤4)∧1≤q.hs.length∧q.au.length=1∧q.B∧q.Ok
 r:=fun (t,e)=> .tup [.t (stA t),.t (.int .i64 e)]
 R:=fun (s,lo,q) (t,e) => ∃ l:Lk,l.Ok∧t=s.lkd l
theorem zY0 {g:EF qM9}{s:St}{lo:Int}{q:Rq}(hp:s.Ok∧(0≤lo∧lo≤4)∧1≤q.hs.length∧q.au.length=1∧q.B∧q.Ok) : ∃ (t:St) (e:Int),(∃ l:Lk,l.Ok∧t=s.lkd l)∧qM9.fs g [.t (stA s),.t (.int .i64 lo),.t (rqA q)] []=some (.tup [.t (stA t),.t (.int .i64 e)],[]):=by
 obtain⟨y,h1,h2⟩:=qM9.eq g (s,lo,q) hp;exact⟨y.1,y.2,h1,h2⟩
theorem qTp {s:St}{lo:Int}{q:Rq}(t:St)(e:Int)(hR : ∃ l:Lk,l.Ok∧t=s.lkd l)(hV:vv = .tup [.t (stA t),.t (.int .i64 e)])(hO:oo=[]):qM9.K (s,lo,q) vv oo:=⟨(t,e),hR,hV,hO⟩
def qNj:ECt where
 α:=St×Rq
 β:=St×List (List UInt8)
 aS:=fun (s,q)=>[.t (stA s),.t (rqA q)]
 pre:=fun (s,q)=>s.Ok∧s.cn 2000000∧q.au.length=1∧q.Ok
 r:=fun (t,l)=> .tup [.t (stA t),.t (.sl (l.map bsT))]
 R:=fun (s,q) (t,l)=>s.Go 1 t
theorem zZg {g:EF qNj}{s:St}{q:Rq}(hp:s.Ok∧s.cn 2000000∧q.au.length=1∧q.Ok) : ∃ (t:St) (l:List (List UInt8)),(s.Go 1 t)∧qNj.fs g [.t (stA s),.t (rqA q)] []=some (.tup [.t (stA t),.t (.sl (l.map bsT))],[]):=by
 obtain⟨y,h1,h2⟩:=qNj.eq g (s,q) hp;exact⟨y.1,y.2,h1,h2⟩
theorem zPu {s:St}{q:Rq}(t:St)(l:List (List UInt8))(hR:s.Go 1 t)(hV:vv = .tup [.t (stA t),.t (.sl (l.map bsT))])(hO:oo=[]):qNj.K (s,q) vv oo:=⟨(t,l),hR,hV,hO⟩
def qLf:ECt where
 α:=Rq
 β:=Pu
 aS:=fun q=>[.t (rqA q)]
 pre:=fun q=>3≤q.ns.length∧1≤q.bl.length ∧ ∀ x∈q.bl,x.length≤1024
 r:=fun p=> .t (puA p)
 R:=fun q p=>p.po.length≤1024∧p.un=[]
theorem jAt {g:EF qLf}{q:Rq}(hp:3≤q.ns.length∧1≤q.bl.length ∧ ∀ x∈q.bl,x.length≤1024) : ∃ (p:Pu),(p.po.length≤1024∧p.un=[])∧qLf.fs g [.t (rqA q)] []=some (.t (puA p),[]):=qLf.eq g q hp
theorem jQd {q:Rq}(p:Pu)(hR:p.po.length≤1024∧p.un=[])(hV:vv = .t (puA p))(hO:oo=[]):qLf.K q vv oo:=⟨p,hR,hV,hO⟩
def qA6:ECt where
 α:=St×Int
 β:=St×Rs
 aS:=fun (s,e)=>[.t (stA s),.t (.int .i64 e)]
 pre:=fun (s,e)=>True
 r:=fun (t,r)=> .tup [.t (stA t),.t (rsA r)]
 R:=fun (s,e) (t,r)=>t=s
theorem jKh {g:EF qA6}{s:St}{e:Int} : ∃ (t:St) (r:Rs),(t=s)∧qA6.fs g [.t (stA s),.t (.int .i64 e)] []=some (.tup [.t (stA t),.t (rsA r)],[]):=by
 obtain⟨y,h1,h2⟩:=qA6.eq g (s,e) trivial;exact⟨y.1,y.2,h1,h2⟩
theorem jPi {s:St}{e:Int}(t:St)(r:Rs)(hR:t=s)(hV:vv = .tup [.t (stA t),.t (rsA r)])(hO:oo=[]):qA6.K (s,e) vv oo:=⟨(t,r),hR,hV,hO⟩
def qKw:ECt where
 α:=St
 β:=Int
 aS:=fun s=>[.t (stA s)]
 pre:=fun s=>s.obs.length=3
 r:=fun k=> .t (.int .i64 k)
 R:=fun s k=>k = -1∨(0≤k∧k≤2)
theorem zZi {g:EF qKw}{s:St}(hp:s.obs.length=3) : ∃ (k:Int),(k = -1∨(0≤k∧k≤2))∧qKw.fs g [.t (stA s)] []=some (.t (.int .i64 k),[]):=qKw.eq g s hp
theorem jHw {s:St}(k:Int)(hR:k = -1∨(0≤k∧k≤2))(hV:vv = .t (.int .i64 k))(hO:oo=[]):qKw.K s vv oo:=⟨k,hR,hV,hO⟩
def qIu:ECt where
 α:=St×Int×Obj
 β:=St
 aS:=fun (s,k,x)=>[.t (stA s),.t (.int .i64 k),.t (wI x)]
 pre:=fun (s,k,x)=>s.obs.length=3∧0≤k∧k≤2
 r:=fun r'=> .t (stA r')
 R:=fun (s,k,x) r'=>r' = { s with obs:=s.obs.set k.toNat x }
theorem zRh {g:EF qIu}{s:St}{k:Int}{x:Obj}(hp:s.obs.length=3∧0≤k∧k≤2):qIu.fs g [.t (stA s),.t (.int .i64 k),.t (wI x)] []=some (.t (stA ({ s with obs:=s.obs.set k.toNat x })),[]):=fnQ qIu (s,k,x) hp
theorem jPb {s:St}{k:Int}{x:Obj}(hV:vv = .t (stA ({ s with obs:=s.obs.set k.toNat x })))(hO:oo=[]):qIu.K (s,k,x) vv oo:=⟨_,rfl,hV,hO⟩
def qFa:ECt where
 α:=St×Rq
 β:=Obj
 aS:=fun (s,q)=>[.t (stA s),.t (rqA q)]
 pre:=fun (s,q)=>s.Ok∧1≤q.hs.length∧0≤slP s.obs q.h0 0
 r:=fun x=> .t (wI x)
 R:=fun (s,q) x=>x.Ok
theorem zEj {g:EF qFa}{s:St}{q:Rq}(hp:s.Ok∧1≤q.hs.length∧0≤slP s.obs q.h0 0) : ∃ (x:Obj),(x.Ok)∧qFa.fs g [.t (stA s),.t (rqA q)] []=some (.t (wI x),[]):=qFa.eq g (s,q) hp
theorem jJk {s:St}{q:Rq}(x:Obj)(hR:x.Ok)(hV:vv = .t (wI x))(hO:oo=[]):qFa.K (s,q) vv oo:=⟨x,hR,hV,hO⟩
def qOp:ECt where
 α:=St×Rq
 β:=St×Rs
 aS:=fun (s,q)=>[.t (stA s),.t (rqA q)]
 pre:=fun (s,q)=>(s.Ok∧s.cn 1000000)∧q.Ok∧q.Al s∧q.co=9
 r:=fun (t,r)=> .tup [.t (stA t),.t (rsA r)]
 R:=fun (s,q) (t,r)=>s.Go 3 t
theorem jJ1 {g:EF qOp}{s:St}{q:Rq}(hp:(s.Ok∧s.cn 1000000)∧q.Ok∧q.Al s∧q.co=9) : ∃ (t:St) (r:Rs),(s.Go 3 t)∧qOp.fs g [.t (stA s),.t (rqA q)] []=some (.tup [.t (stA t),.t (rsA r)],[]):=by
 obtain⟨y,h1,h2⟩:=qOp.eq g (s,q) hp;exact⟨y.1,y.2,h1,h2⟩
theorem jDo {s:St}{q:Rq}(t:St)(r:Rs)(hR:s.Go 3 t)(hV:vv = .tup [.t (stA t),.t (rsA r)])(hO:oo=[]):qOp.K (s,q) vv oo:=⟨(t,r),hR,hV,hO⟩
def qNe:ECt where
 α:=St×Rq
 β:=St×Rs
 aS:=fun (s,q)=>[.t (stA s),.t (rqA q)]
 pre:=fun (s,q)=>(s.Ok∧s.cn 1000000)∧q.Ok∧q.Al s∧q.co=10
 r:=fun (t,r)=> .tup [.t (stA t),.t (rsA r)]
 R:=fun (s,q) (t,r)=>s.Go 3 t
theorem jHh {g:EF qNe}{s:St}{q:Rq}(hp:(s.Ok∧s.cn 1000000)∧q.Ok∧q.Al s∧q.co=10) : ∃ (t:St) (r:Rs),(s.Go 3 t)∧qNe.fs g [.t (stA s),.t (rqA q)] []=some (.tup [.t (stA t),.t (rsA r)],[]):=by
 obtain⟨y,h1,h2⟩:=qNe.eq g (s,q) hp;exact⟨y.1,y.2,h1,h2⟩
theorem jBt {s:St}{q:Rq}(t:St)(r:Rs)(hR:s.Go 3 t)(hV:vv = .tup [.t (stA t),.t (rsA r)])(hO:oo=[]):qNe.K (s,q) vv oo:=⟨(t,r),hR,hV,hO⟩
def qN9:ECt where
 α:=St×Rq
 β:=St×Rs
 aS:=fun (s,q)=>[.t (stA s),.t (rqA q)]
 pre:=fun (s,q)=>(s.Ok∧s.cn 1000000)∧q.Ok∧q.Al s∧q.co=11
 r:=fun (t,r)=> .tup [.t (stA t),.t (rsA r)]
 R:=fun (s,q) (t,r)=>s.Go 3 t
theorem jJa {g:EF qN9}{s:St}{q:Rq}(hp:(s.Ok∧s.cn 1000000)∧q.Ok∧q.Al s∧q.co=11) : ∃ (t:St) (r:Rs),(s.Go 3 t)∧qN9.fs g [.t (stA s),.t (rqA q)] []=some (.tup [.t (stA t),.t (rsA r)],[]):=by
 obtain⟨y,h1,h2⟩:=qN9.eq g (s,q) hp;exact⟨y.1,y.2,h1,h2⟩
theorem zQv {s:St}{q:Rq}(t:St)(r:Rs)(hR:s.Go 3 t)(hV:vv = .tup [.t (stA t),.t (rsA r)])(hO:oo=[]):qN9.K (s,q) vv oo:=⟨(t,r),hR,hV,hO⟩
def qNk:ECt where
 α:=St×Rq
 β:=St×Rs
 aS:=fun (s,q)=>[.t (stA s),.t (rqA q)]
 pre:=fun (s,q)=>(s.Ok∧s.cn 1000000)∧q.Ok∧q.co=12
 r:=fun (t,r)=> .tup [.t (stA t),.t (rsA r)]
 R:=fun (s,q) (t,r)=>s.Go 3 t
theorem jHu {g:EF qNk}{s:St}{q:Rq}(hp:(s.Ok∧s.cn 1000000)∧q.Ok∧q.co=12) : ∃ (t:St) (r:Rs),(s.Go 3 t)∧qNk.fs g [.t (stA s),.t (rqA q)] []=some (.tup [.t (stA t),.t (rsA r)],[]):=by
 obtain⟨y,h1,h2⟩:=qNk.eq g (s,q) hp;exact⟨y.1,y.2,h1,h2⟩
theorem jCa {s:St}{q:Rq}(t:St)(r:Rs)(hR:s.Go 3 t)(hV:vv = .tup [.t (stA t),.t (rsA r)])(hO:oo=[]):qNk.K (s,q) vv oo:=⟨(t,r),hR,hV,hO⟩
def qO7:ECt where
 α:=St×Rq
 β:=St×Rs
 aS:=fun (s,q)=>[.t (stA s),.t (rqA q)]
 pre:=fun (s,q)=>(s.Ok∧s.cn 1000000)∧q.Ok∧q.Al s∧q.co=13
 r:=fun (t,r)=> .tup [.t (stA t),.t (rsA r)]
 R:=fun (s,q) (t,r)=>s.Go 3 t
theorem jLy {g:EF qO7}{s:St}{q:Rq}(hp:(s.Ok∧s.cn 1000000)∧q.Ok∧q.Al s∧q.co=13) : ∃ (t:St) (r:Rs),(s.Go 3 t)∧qO7.fs g [.t (stA s),.t (rqA q)] []=some (.tup [.t (stA t),.t (rsA r)],[]):=by
 obtain⟨y,h1,h2⟩:=qO7.eq g (s,q) hp;exact⟨y.1,y.2,h1,h2⟩
theorem jLx {s:St}{q:Rq}(t:St)(r:Rs)(hR:s.Go 3 t)(hV:vv = .tup [.t (stA t),.t (rsA r)])(hO:oo=[]):qO7.K (s,q) vv oo:=⟨(t,r),hR,hV,hO⟩
def qN1:ECt where
 α:=St×Obj
 β:=St×Int×Int
 aS:=fun (s,x)=>[.t (stA s),.t (wI x)]
 pre:=fun (s,x)=>s.Ok∧x.Ok
 r:=fun (t,n,e)=> .tup [.t (stA t),.t (.int .i64 n),.t (.int .i64 e)]
 R:=fun (s,x) (t,n,e)=>e=0→s.Go 0 t
theorem jIz {g:EF qN1}{s:St}{x:Obj}(hp:s.Ok∧x.Ok) : ∃ (t:St) (n e:Int),(e=0→s.Go 0 t)∧qN1.fs g [.t (stA s),.t (wI x)] []=some (.tup [.t (stA t),.t (.int .i64 n),.t (.int .i64 e)],[]):=by
 obtain⟨y,h1,h2⟩:=qN1.eq g (s,x) hp;exact⟨y.1,y.2.1,y.2.2,h1,h2⟩
theorem zVl {s:St}{x:Obj}(t:St)(n e:Int)(hR:e=0→s.Go 0 t)(hV:vv = .tup [.t (stA t),.t (.int .i64 n),.t (.int .i64 e)])(hO:oo=[]):qN1.K (s,x) vv oo:=⟨(t,n,e),hR,hV,hO⟩
def qLc:ECt where
 α:=St×Obj×List UInt8
 β:=St×List UInt8×Int
 aS:=fun (s,x,b)=>[.t (stA s),.t (wI x),.t (.sl (b.map qA))]
 pre:=fun (s,x,b)=>s.Ok∧x.Ok∧b.length≤20000
 r:=fun (t,r,e)=> .tup [.t (stA t),.t (.sl (r.map qA)),.t (.int .i64 e)]
 R:=fun (s,x,b) (t,r,e)=>e=0→s.Go 0 t
theorem jAn {g:EF qLc}{s:St}{x:Obj}{b:List UInt8}(hp:s.Ok∧x.Ok∧b.length≤20000) : ∃ (t:St) (r:List UInt8) (e:Int),(e=0→s.Go 0 t)∧qLc.fs g [.t (stA s),.t (wI x),.t (.sl (b.map qA))] []=some (.tup [.t (stA t),.t (.sl (r.map qA)),.t (.int .i64 e)],[]):=by
 obtain⟨y,h1,h2⟩:=qLc.eq g (s,x,b) hp;exact⟨y.1,y.2.1,y.2.2,h1,h2⟩
theorem jK5 {s:St}{x:Obj}{b:List UInt8}(t:St)(r:List UInt8)(e:Int)(hR:e=0→s.Go 0 t)(hV:vv = .tup [.t (stA t),.t (.sl (r.map qA)),.t (.int .i64 e)])(hO:oo=[]):qLc.K (s,x,b) vv oo:=⟨(t,r,e),hR,hV,hO⟩
def qOx:ECt where
 α:=St×Rq
 β:=St×Rs
 aS:=fun (s,q)=>[.t (stA s),.t (rqA q)]
 pre:=fun (s,q)=>(s.Ok∧s.cn 1000000)∧q.Ok∧q.Al s∧q.co=14
 r:=fun (t,r)=> .tup [.t (stA t),.t (rsA r)]
 R:=fun (s,q) (t,r)=>s.Go 3 t
theorem jK4 {g:EF qOx}{s:St}{q:Rq}(hp:(s.Ok∧s.cn 1000000)∧q.Ok∧q.Al s∧q.co=14) : ∃ (t:St) (r:Rs),(s.Go 3 t)∧qOx.fs g [.t (stA s),.t (rqA q)] []=some (.tup [.t (stA t),.t (rsA r)],[]):=by
 obtain⟨y,h1,h2⟩:=qOx.eq g (s,q) hp;exact⟨y.1,y.2,h1,h2⟩
theorem zSn {s:St}{q:Rq}(t:St)(r:Rs)(hR:s.Go 3 t)(hV:vv = .tup [.t (stA t),.t (rsA r)])(hO:oo=[]):qOx.K (s,q) vv oo:=⟨(t,r),hR,hV,hO⟩
def qOs:ECt where
 α:=St×Rq
 β:=St×Rs
 aS:=fun (s,q)=>[.t (stA s),.t (rqA q)]
 pre:=fun (s,q)=>(s.Ok∧s.cn 1000000)∧q.Ok∧q.Al s∧q.co=15
 r:=fun (t,r)=> .tup [.t (stA t),.t (rsA r)]
 R:=fun (s,q) (t,r)=>s.Go 3 t
theorem jJ4 {g:EF qOs}{s:St}{q:Rq}(hp:(s.Ok∧s.cn 1000000)∧q.Ok∧q.Al s∧q.co=15) : ∃ (t:St) (r:Rs),(s.Go 3 t)∧qOs.fs g [.t (stA s),.t (rqA q)] []=some (.tup [.t (stA t),.t (rsA r)],[]):=by
 obtain⟨y,h1,h2⟩:=qOs.eq g (s,q) hp;exact⟨y.1,y.2,h1,h2⟩
theorem zMu {s:St}{q:Rq}(t:St)(r:Rs)(hR:s.Go 3 t)(hV:vv = .tup [.t (stA t),.t (rsA r)])(hO:oo=[]):qOs.K (s,q) vv oo:=⟨(t,r),hR,hV,hO⟩
def qNn:ECt where
 α:=Int×Int
 β:=Bool
 aS:=fun (a,b)=>[.t (.int .i64 a),.t (.int .i64 b)]
 pre:=fun (a,b)=>True
 r:=fun r=> .t (.bool r)
 R:=fun (a,b) r=>r=true→b=a∨a = -1∧0≤b∧b≤8
theorem jHz {g:EF qNn}{a b:Int} : ∃ (r:Bool),(r=true→b=a∨a = -1∧0≤b∧b≤8)∧qNn.fs g [.t (.int .i64 a),.t (.int .i64 b)] []=some (.t (.bool r),[]):=qNn.eq g (a,b) trivial
theorem jOa {a b:Int}(r:Bool)(hR:r=true→b=a∨a = -1∧0≤b∧b≤8)(hV:vv = .t (.bool r))(hO:oo=[]):qNn.K (a,b) vv oo:=⟨r,hR,hV,hO⟩
def qOd:ECt where
 α:=Int
 β:=Bool
 aS:=fun h=>[.t (.int .i64 h)]
 pre:=fun h=>True
 r:=fun r=> .t (.bool r)
 R:=fun h r=>r=true→0≤h∧h≤65535
theorem zZw {g:EF qOd}{h:Int} : ∃ (r:Bool),(r=true→0≤h∧h≤65535)∧qOd.fs g [.t (.int .i64 h)] []=some (.t (.bool r),[]):=qOd.eq g h trivial
theorem jO0 {h:Int}(r:Bool)(hR:r=true→0≤h∧h≤65535)(hV:vv = .t (.bool r))(hO:oo=[]):qOd.K h vv oo:=⟨r,hR,hV,hO⟩
def qNl:ECt where
 α:=Rq
 β:=List UInt8
 aS:=fun q=>[.t (rqA q)]
 pre:=fun q=>q.B
 r:=fun b=> .t (.sl (b.map qA))
 R:=fun q b=>True
theorem jHx {g:EF qNl}{q:Rq}(hp:q.B) : ∃ (b:List UInt8),(True)∧qNl.fs g [.t (rqA q)] []=some (.t (.sl (b.map qA)),[]):=qNl.eq g q hp
theorem jN9 {q:Rq}(b:List UInt8)(hR:True)(hV:vv = .t (.sl (b.map qA)))(hO:oo=[]):qNl.K q vv oo:=⟨b,hR,hV,hO⟩
def qIm:ECt where
 α:=Rq
 β:=Int
 aS:=fun q=>[.t (rqA q)]
 pre:=fun q=>q.B
 r:=fun e=> .t (.int .i64 e)
 R:=fun q e=>e=0→q.Ok
theorem jBl {g:EF qIm}{q:Rq}(hp:q.B) : ∃ (e:Int),(e=0→q.Ok)∧qIm.fs g [.t (rqA q)] []=some (.t (.int .i64 e),[]):=qIm.eq g q hp
theorem qKh {q:Rq}(e:Int)(hR:e=0→q.Ok)(hV:vv = .t (.int .i64 e))(hO:oo=[]):qIm.K q vv oo:=⟨e,hR,hV,hO⟩
def qM3:ECt where
 α:=St×Rq
 β:=Bool
 aS:=fun (s,q)=>[.t (stA s),.t (rqA q)]
 pre:=fun (s,q)=>s.Ok∧q.Ok
 r:=fun b=> .t (.bool b)
 R:=fun (s,q) b=>b=true→q.Al s
theorem jGk {g:EF qM3}{s:St}{q:Rq}(hp:s.Ok∧q.Ok) : ∃ (b:Bool),(b=true→q.Al s)∧qM3.fs g [.t (stA s),.t (rqA q)] []=some (.t (.bool b),[]):=qM3.eq g (s,q) hp
theorem qL7 {s:St}{q:Rq}(b:Bool)(hR:b=true→q.Al s)(hV:vv = .t (.bool b))(hO:oo=[]):qM3.K (s,q) vv oo:=⟨b,hR,hV,hO⟩
def kU:ECt where
 α:=St×Int
 β:=St×Rs
 aS:=fun (s,e)=>[.t (stA s),.t (.int .i64 e)]
 pre:=fun (s,e)=>True
 r:=fun (t,r)=> .tup [.t (stA t),.t (rsA r)]
 R:=fun (s,e) (t,r)=>t=s
theorem jKi {g:EF kU}{s:St}{e:Int} : ∃ (t:St) (r:Rs),(t=s)∧kU.fs g [.t (stA s),.t (.int .i64 e)] []=some (.tup [.t (stA t),.t (rsA r)],[]):=by
 obtain⟨y,h1,h2⟩:=kU.eq g (s,e) trivial;exact⟨y.1,y.2,h1,h2⟩
theorem jPj {s:St}{e:Int}(t:St)(r:Rs)(hR:t=s)(hV:vv = .tup [.t (stA t),.t (rsA r)])(hO:oo=[]):kU.K (s,e) vv oo:=⟨(t,r),hR,hV,hO⟩
def qB1:ECt where
 α:=St×St×Int
 β:=St×Rs
 aS:=fun (s,t,e)=>[.t (stA s),.t (stA t),.t (.int .i64 e)]
 pre:=fun (s,t,e)=>True
 r:=fun (v,r)=> .tup [.t (stA v),.t (rsA r)]
 R:=fun (s,t,e) (v,r)=>(e=0→v=t)∧(e≠0→v=s)
theorem zZ4 {g:EF qB1}{s t:St}{e:Int} : ∃ (v:St) (r:Rs),((e=0→v=t)∧(e≠0→v=s))∧qB1.fs g [.t (stA s),.t (stA t),.t (.int .i64 e)] []=some (.tup [.t (stA v),.t (rsA r)],[]):=by
 obtain⟨y,h1,h2⟩:=qB1.eq g (s,t,e) trivial;exact⟨y.1,y.2,h1,h2⟩
theorem jJw {s t:St}{e:Int}(v:St)(r:Rs)(hR:(e=0→v=t)∧(e≠0→v=s))(hV:vv = .tup [.t (stA v),.t (rsA r)])(hO:oo=[]):qB1.K (s,t,e) vv oo:=⟨(v,r),hR,hV,hO⟩
def qNb:ECt where
 α:=St
 β:=St×Rs
 aS:=fun s=>[.t (stA s)]
 pre:=fun s=>True
 r:=fun (t,r)=> .tup [.t (stA t),.t (rsA r)]
 R:=fun s (t,r)=>t=s
theorem jHe {g:EF qNb}{s:St} : ∃ (t:St) (r:Rs),(t=s)∧qNb.fs g [.t (stA s)] []=some (.tup [.t (stA t),.t (rsA r)],[]):=by
 obtain⟨y,h1,h2⟩:=qNb.eq g s trivial;exact⟨y.1,y.2,h1,h2⟩
theorem jHd {s:St}(t:St)(r:Rs)(hR:t=s)(hV:vv = .tup [.t (stA t),.t (rsA r)])(hO:oo=[]):qNb.K s vv oo:=⟨(t,r),hR,hV,hO⟩
def qOc:ECt where
 α:=St×Int×Rq
 β:=St×Rs
 aS:=fun (s,lo,q)=>[.t (stA s),.t (.int .i64 lo),.t (rqA q)]
 pre:=fun (s,lo,q)=>(s.Ok∧s.cn 1000000)∧q.Ok∧(q.co=5∨q.co=6∨q.co=7∨q.co=8)
 r:=fun (t,r)=> .tup [.t (stA t),.t (rsA r)]
 R:=fun (s,lo,q) (t,r)=>s.Go 3 t
theorem jJe {g:EF qOc}{s:St}{lo:Int}{q:Rq}(hp:(s.Ok∧s.cn 1000000)∧q.Ok∧(q.co=5∨q.co=6∨q.co=7∨q.co=8)) : ∃ (t:St) (r:Rs),(s.Go 3 t)∧qOc.fs g [.t (stA s),.t (.int .i64 lo),.t (rqA q)] []=some (.tup [.t (stA t),.t (rsA r)],[]):=by
 obtain⟨y,h1,h2⟩:=qOc.eq g (s,lo,q) hp;exact⟨y.1,y.2,h1,h2⟩
theorem zEg {s:St}{lo:Int}{q:Rq}(t:St)(r:Rs)(hR:s.Go 3 t)(hV:vv = .tup [.t (stA t),.t (rsA r)])(hO:oo=[]):qOc.K (s,lo,q) vv oo:=⟨(t,r),hR,hV,hO⟩
def qM5:ECt where
 α:=St×Rq
 β:=St×Rs
 aS:=fun (s,q)=>[.t (stA s),.t (rqA q)]
 pre:=fun (s,q)=>(s.Ok∧s.cn 1000000)∧q.Ok∧q.co=17
 r:=fun (t,r)=> .tup [.t (stA t),.t (rsA r)]
 R:=fun (s,q) (t,r)=>s.Go 3 t
theorem jGt {g:EF qM5}{s:St}{q:Rq}(hp:(s.Ok∧s.cn 1000000)∧q.Ok∧q.co=17) : ∃ (t:St) (r:Rs),(s.Go 3 t)∧qM5.fs g [.t (stA s),.t (rqA q)] []=some (.tup [.t (stA t),.t (rsA r)],[]):=by
 obtain⟨y,h1,h2⟩:=qM5.eq g (s,q) hp;exact⟨y.1,y.2,h1,h2⟩
theorem zDj {s:St}{q:Rq}(t:St)(r:Rs)(hR:s.Go 3 t)(hV:vv = .tup [.t (stA t),.t (rsA r)])(hO:oo=[]):qM5.K (s,q) vv oo:=⟨(t,r),hR,hV,hO⟩
def qO0:ECt where
 α:=St×Rq
 β:=St×Rs
 aS:=fun (s,q)=>[.t (stA s),.t (rqA q)]
 pre:=fun (s,q)=>(s.Ok∧s.cn 1000000)∧q.Ok∧(q.co=16∨q.co=17∨q.co=18∨q.co=19∨q.co=20)
 r:=fun (t,r)=> .tup [.t (stA t),.t (rsA r)]
 R:=fun (s,q) (t,r)=>s.Go 3 t
theorem jLg {g:EF qO0}{s:St}{q:Rq}(hp:(s.Ok∧s.cn 1000000)∧q.Ok∧(q.co=16∨q.co=17∨q.co=18∨q.co=19∨q.co=20)) : ∃ (t:St) (r:Rs),(s.Go 3 t)∧qO0.fs g [.t (stA s),.t (rqA q)] []=some (.tup [.t (stA t),.t (rsA r)],[]):=by
 obtain⟨y,h1,h2⟩:=qO0.eq g (s,q) hp;exact⟨y.1,y.2,h1,h2⟩
theorem qXx {s:St}{q:Rq}(t:St)(r:Rs)(hR:s.Go 3 t)(hV:vv = .tup [.t (stA t),.t (rsA r)])(hO:oo=[]):qO0.K (s,q) vv oo:=⟨(t,r),hR,hV,hO⟩
def qOg:ECt where
 α:=St×Rq
 β:=St×Rs
 aS:=fun (s,q)=>[.t (stA s),.t (rqA q)]
 pre:=fun (s,q)=>(s.Ok∧s.cn 1000000)∧q.Ok∧q.Al s∧(q.co=9∨q.co=10∨q.co=11∨q.co=12∨q.co=13∨q.co=14∨q.co=15)
 r:=fun (t,r)=> .tup [.t (stA t),.t (rsA r)]
 R:=fun (s,q) (t,r)=>s.Go 3 t
theorem jJj {g:EF qOg}{s:St}{q:Rq}(hp:(s.Ok∧s.cn 1000000)∧q.Ok∧q.Al s∧(q.co=9∨q.co=10∨q.co=11∨q.co=12∨q.co=13∨q.co=14∨q.co=15)) : ∃ (t:St) (r:Rs),(s.Go 3 t)∧qOg.fs g [.t (stA s),.t (rqA q)] []=some (.tup [.t (stA t),.t (rsA r)],[]):=by
 obtain⟨y,h1,h2⟩:=qOg.eq g (s,q) hp;exact⟨y.1,y.2,h1,h2⟩
theorem zHz {s:St}{q:Rq}(t:St)(r:Rs)(hR:s.Go 3 t)(hV:vv = .tup [.t (stA t),.t (rsA r)])(hO:oo=[]):qOg.K (s,q) vv oo:=⟨(t,r),hR,hV,hO⟩
def qNf:ECt where
 α:=St×Rq
 β:=St×Rs
 aS:=fun (s,q)=>[.t (stA s),.t (rqA q)]
 pre:=fun (s,q)=>(s.Ok∧s.cn 1000000)∧q.Ok∧q.co=21
 r:=fun (t,r)=> .tup [.t (stA t),.t (rsA r)]
 R:=fun (s,q) (t,r)=>s.Go 3 t
theorem jHl {g:EF qNf}{s:St}{q:Rq}(hp:(s.Ok∧s.cn 1000000)∧q.Ok∧q.co=21) : ∃ (t:St) (r:Rs),(s.Go 3 t)∧qNf.fs g [.t (stA s),.t (rqA q)] []=some (.tup [.t (stA t),.t (rsA r)],[]):=by
 obtain⟨y,h1,h2⟩:=qNf.eq g (s,q) hp;exact⟨y.1,y.2,h1,h2⟩
theorem zUu {s:St}{q:Rq}(t:St)(r:Rs)(hR:s.Go 3 t)(hV:vv = .tup [.t (stA t),.t (rsA r)])(hO:oo=[]):qNf.K (s,q) vv oo:=⟨(t,r),hR,hV,hO⟩
def qPc:ECt where
 α:=List Int×Int
 β:=List Int
 aS:=fun (l,n)=>[.t (.sl (l.map iT)),.t (.int .i64 n)]
 pre:=fun (l,n)=>l.length≤1000000
 r:=fun r=> .t (.sl (r.map iT))
 R:=fun (l,n) r=>r.length≤l.length
theorem jA4 {g:EF qPc}{l:List Int}{n:Int}(hp:l.length≤1000000) : ∃ (r:List Int),(r.length≤l.length)∧qPc.fs g [.t (.sl (l.map iT)),.t (.int .i64 n)] []=some (.t (.sl (r.map iT)),[]):=qPc.eq g (l,n) hp
theorem jQw {l:List Int}{n:Int}(r:List Int)(hR:r.length≤l.length)(hV:vv = .t (.sl (r.map iT)))(hO:oo=[]):qPc.K (l,n) vv oo:=⟨r,hR,hV,hO⟩
def qO6:ECt where
 α:=St×Rq
 β:=St×Rs
 aS:=fun (s,q)=>[.t (stA s),.t (rqA q)]
 pre:=fun (s,q)=>(s.Ok∧s.cn 1000000)∧q.Ok∧q.co=22
 r:=fun (t,r)=> .tup [.t (stA t),.t (rsA r)]
 R:=fun (s,q) (t,r)=>s.Go 3 t
theorem jLw {g:EF qO6}{s:St}{q:Rq}(hp:(s.Ok∧s.cn 1000000)∧q.Ok∧q.co=22) : ∃ (t:St) (r:Rs),(s.Go 3 t)∧qO6.fs g [.t (stA s),.t (rqA q)] []=some (.tup [.t (stA t),.t (rsA r)],[]):=by
 obtain⟨y,h1,h2⟩:=qO6.eq g (s,q) hp;exact⟨y.1,y.2,h1,h2⟩
theorem jLv {s:St}{q:Rq}(t:St)(r:Rs)(hR:s.Go 3 t)(hV:vv = .tup [.t (stA t),.t (rsA r)])(hO:oo=[]):qO6.K (s,q) vv oo:=⟨(t,r),hR,hV,hO⟩
def qPb:ECt where
 α:=List Int×Int
 β:=List Int
 aS:=fun (l,n)=>[.t (.sl (l.map iT)),.t (.int .i64 n)]
 pre:=fun (l,n)=>l.length≤1000000
 r:=fun r=> .t (.sl (r.map iT))
 R:=fun (l,n) r=>r.length≤l.length+1
theorem jA3 {g:EF qPb}{l:List Int}{n:Int}(hp:l.length≤1000000) : ∃ (r:List Int),(r.length≤l.length+1)∧qPb.fs g [.t (.sl (l.map iT)),.t (.int .i64 n)] []=some (.t (.sl (r.map iT)),[]):=qPb.eq g (l,n) hp
theorem jM3 {l:List Int}{n:Int}(r:List Int)(hR:r.length≤l.length+1)(hV:vv = .t (.sl (r.map iT)))(hO:oo=[]):qPb.K (l,n) vv oo:=⟨r,hR,hV,hO⟩
def qO1:ECt where
 α:=St×Rq
 β:=St×Rs
 aS:=fun (s,q)=>[.t (stA s),.t (rqA q)]
 pre:=fun (s,q)=>(s.Ok∧s.cn 1000000)∧q.Ok∧q.Al s∧23≤q.co∧q.co≤29
 r:=fun (t,r)=> .tup [.t (stA t),.t (rsA r)]
 R:=fun (s,q) (t,r)=>s.Go 3 t
theorem jLh {g:EF qO1}{s:St}{q:Rq}(hp:(s.Ok∧s.cn 1000000)∧q.Ok∧q.Al s∧23≤q.co∧q.co≤29) : ∃ (t:St) (r:Rs),(s.Go 3 t)∧qO1.fs g [.t (stA s),.t (rqA q)] []=some (.tup [.t (stA t),.t (rsA r)],[]):=by
 obtain⟨y,h1,h2⟩:=qO1.eq g (s,q) hp;exact⟨y.1,y.2,h1,h2⟩
theorem qLu {s:St}{q:Rq}(t:St)(r:Rs)(hR:s.Go 3 t)(hV:vv = .tup [.t (stA t),.t (rsA r)])(hO:oo=[]):qO1.K (s,q) vv oo:=⟨(t,r),hR,hV,hO⟩
def qNa:ECt where
 α:=St
 β:=St×Rs
 aS:=fun s=>[.t (stA s)]
 pre:=fun s=>s.Ok∧s.cn 1000000
 r:=fun (t,r)=> .tup [.t (stA t),.t (rsA r)]
 R:=fun s (t,r)=>s.Go 3 t
theorem jHb {g:EF qNa}{s:St}(hp:s.Ok∧s.cn 1000000) : ∃ (t:St) (r:Rs),(s.Go 3 t)∧qNa.fs g [.t (stA s)] []=some (.tup [.t (stA t),.t (rsA r)],[]):=by
 obtain⟨y,h1,h2⟩:=qNa.eq g s hp;exact⟨y.1,y.2,h1,h2⟩
theorem jNw {s:St}(t:St)(r:Rs)(hR:s.Go 3 t)(hV:vv = .tup [.t (stA t),.t (rsA r)])(hO:oo=[]):qNa.K s vv oo:=⟨(t,r),hR,hV,hO⟩
def qIl:ECt where
 α:=St×Rq
 β:=St×Rs
 aS:=fun (s,q)=>[.t (stA s),.t (rqA q)]
 pre:=fun (s,q)=>(s.Ok∧s.cn 1000000)∧q.Ok∧q.Al s∧q.co=30
 r:=fun (t,r)=> .tup [.t (stA t),.t (rsA r)]
 R:=fun (s,q) (t,r)=>s.Go 3 t
theorem jBk {g:EF qIl}{s:St}{q:Rq}(hp:(s.Ok∧s.cn 1000000)∧q.Ok∧q.Al s∧q.co=30) : ∃ (t:St) (r:Rs),(s.Go 3 t)∧qIl.fs g [.t (stA s),.t (rqA q)] []=some (.tup [.t (stA t),.t (rsA r)],[]):=by
 obtain⟨y,h1,h2⟩:=qIl.eq g (s,q) hp;exact⟨y.1,y.2,h1,h2⟩
theorem zYz {s:St}{q:Rq}(t:St)(r:Rs)(hR:s.Go 3 t)(hV:vv = .tup [.t (stA t),.t (rsA r)])(hO:oo=[]):qIl.K (s,q) vv oo:=⟨(t,r),hR,hV,hO⟩
def qKo:ECt where
 α:=St×Int×Rq
 β:=St×Rs
 aS:=fun (s,lo,q)=>[.t (stA s),.t (.int .i64 lo),.t (rqA q)]
 pre:=fun (s,lo,q)=>(s.Ok∧s.cn 1000000)∧q.Ok∧q.Al s
 r:=fun (t,r)=> .tup [.t (stA t),.t (rsA r)]
 R:=fun (s,lo,q) (t,r)=>s.Go 3 t
theorem jG1 {g:EF qKo}{s:St}{lo:Int}{q:Rq}(hp:(s.Ok∧s.cn 1000000)∧q.Ok∧q.Al s) : ∃ (t:St) (r:Rs),(s.Go 3 t)∧qKo.fs g [.t (stA s),.t (.int .i64 lo),.t (rqA q)] []=some (.tup [.t (stA t),.t (rsA r)],[]):=by
 obtain⟨y,h1,h2⟩:=qKo.eq g (s,lo,q) hp;exact⟨y.1,y.2,h1,h2⟩
theorem qP0 {s:St}{lo:Int}{q:Rq}(t:St)(r:Rs)(hR:s.Go 3 t)(hV:vv = .tup [.t (stA t),.t (rsA r)])(hO:oo=[]):qKo.K (s,lo,q) vv oo:=⟨(t,r),hR,hV,hO⟩
def qNh:ECt where
 α:=St×Int×Rq
 β:=St×Rs
 aS:=fun (s,lo,q)=>[.t (stA s),.t (.int .i64 lo),.t (rqA q)]
 pre:=fun (s,lo,q)=>(s.Ok∧s.cn 1000000)∧q.B
 r:=fun (t,r)=> .tup [.t (stA t),.t (rsA r)]
 R:=fun (s,lo,q) (t,r)=>s.Go 4 t
theorem jHq {g:EF qNh}{s:St}{lo:Int}{q:Rq}(hp:(s.Ok∧s.cn 1000000)∧q.B) : ∃ (t:St) (r:Rs),(s.Go 4 t)∧qNh.fs g [.t (stA s),.t (.int .i64 lo),.t (rqA q)] []=some (.tup [.t (stA t),.t (rsA r)],[]):=by
 obtain⟨y,h1,h2⟩:=qNh.eq g (s,lo,q) hp;exact⟨y.1,y.2,h1,h2⟩
theorem qJo {s:St}{lo:Int}{q:Rq}(t:St)(r:Rs)(hR:s.Go 4 t)(hV:vv = .tup [.t (stA t),.t (rsA r)])(hO:oo=[]):qNh.K (s,lo,q) vv oo:=⟨(t,r),hR,hV,hO⟩
abbrev nnI (n:Int):Prop:=0≤n∧n≤1099511627776
def qDk:ECt where
 α:=St×Int×Int
 β:=Int
 aS:=fun (s,n,k)=>[.t (stA s),.t (.int .i64 n),.t (.int .i64 k)]
 pre:=fun (s,n,k)=>s.Ok∧nnI n
 r:=fun h=> .t (.int .i64 h)
 R:=fun (s,n,k) h=>0≤h∧h≤65535
theorem qV2 {g:EF qDk}{s:St}{n k:Int}(hp:s.Ok∧nnI n) : ∃ (h:Int),(0≤h∧h≤65535)∧qDk.fs g [.t (stA s),.t (.int .i64 n),.t (.int .i64 k)] []=some (.t (.int .i64 h),[]):=qDk.eq g (s,n,k) hp
theorem jDc {s:St}{n k:Int}(h:Int)(hR:0≤h∧h≤65535)(hV:vv = .t (.int .i64 h))(hO:oo=[]):qDk.K (s,n,k) vv oo:=⟨h,hR,hV,hO⟩
def qB0:ECt where
 α:=St×Int
 β:=Int
 aS:=fun (s,n)=>[.t (stA s),.t (.int .i64 n)]
 pre:=fun (s,n)=>s.Ok∧nnI n
 r:=fun h=> .t (.int .i64 h)
 R:=fun (s,n) h=>0≤h∧h≤65535
theorem zKq {g:EF qB0}{s:St}{n:Int}(hp:s.Ok∧nnI n) : ∃ (h:Int),(0≤h∧h≤65535)∧qB0.fs g [.t (stA s),.t (.int .i64 n)] []=some (.t (.int .i64 h),[]):=qB0.eq g (s,n) hp
theorem jCm {s:St}{n:Int}(h:Int)(hR:0≤h∧h≤65535)(hV:vv = .t (.int .i64 h))(hO:oo=[]):qB0.K (s,n) vv oo:=⟨h,hR,hV,hO⟩
def qA7:ECt where
 α:=St×Int×Int
 β:=Int
 aS:=fun (s,n,k)=>[.t (stA s),.t (.int .i64 n),.t (.int .i64 k)]
 pre:=fun (s,n,k)=>s.Ok∧nnI n
 r:=fun h=> .t (.int .i64 h)
 R:=fun (s,n,k) h=>768≤h∧h≤770
theorem qMn {g:EF qA7}{s:St}{n k:Int}(hp:s.Ok∧nnI n) : ∃ (h:Int),(768≤h∧h≤770)∧qA7.fs g [.t (stA s),.t (.int .i64 n),.t (.int .i64 k)] []=some (.t (.int .i64 h),[]):=qA7.eq g (s,n,k) hp
theorem jE5 {s:St}{n k:Int}(h:Int)(hR:768≤h∧h≤770)(hV:vv = .t (.int .i64 h))(hO:oo=[]):qA7.K (s,n,k) vv oo:=⟨h,hR,hV,hO⟩
def qE8:ECt where
 α:=St×Int
 β:=Int
 aS:=fun (s,n)=>[.t (stA s),.t (.int .i64 n)]
 pre:=fun (s,n)=>s.Ok∧nnI n
 r:=fun h=> .t (.int .i64 h)
 R:=fun (s,n) h=>0≤h∧h≤65535
theorem jHp {g:EF qE8}{s:St}{n:Int}(hp:s.Ok∧nnI n) : ∃ (h:Int),(0≤h∧h≤65535)∧qE8.fs g [.t (stA s),.t (.int .i64 n)] []=some (.t (.int .i64 h),[]):=qE8.eq g (s,n) hp
theorem jB3 {s:St}{n:Int}(h:Int)(hR:0≤h∧h≤65535)(hV:vv = .t (.int .i64 h))(hO:oo=[]):qE8.K (s,n) vv oo:=⟨h,hR,hV,hO⟩
def qE6:ECt where
 α:=St×Rq×Int×List UInt8
 β:=Rq
 aS:=fun (s,q,m,b)=>[.t (stA s),.t (rqA q),.t (.int .i64 m),.t (.sl (b.map qA))]
 pre:=fun (s,q,m,b)=>s.Ok∧(q.B∧1≤q.hs.length)∧nnI m∧b.length≤60
 r:=fun r=> .t (rqA r)
 R:=fun (s,q,m,b) r=>r.B
theorem qAr {g:EF qE6}{s:St}{q:Rq}{m:Int}{b:List UInt8}(hp:s.Ok∧(q.B∧1≤q.hs.length)∧nnI m∧b.length≤60) : ∃ (r:Rq),(r.B)∧qE6.fs g [.t (stA s),.t (rqA q),.t (.int .i64 m),.t (.sl (b.map qA))] []=some (.t (rqA r),[]):=qE6.eq g (s,q,m,b) hp
theorem qVd {s:St}{q:Rq}{m:Int}{b:List UInt8}(r:Rq)(hR:r.B)(hV:vv = .t (rqA r))(hO:oo=[]):qE6.K (s,q,m,b) vv oo:=⟨r,hR,hV,hO⟩
def qK7:ECt where
 α:=St×Int×List UInt8
 β:=List UInt8
 aS:=fun (s,n,b)=>[.t (stA s),.t (.int .i64 n),.t (.sl (b.map qA))]
 pre:=fun (s,n,b)=>s.Ok∧nnI n∧b.length≤60
 r:=fun r=> .t (.sl (r.map qA))
 R:=fun (s,n,b) r=>r.length≤32
theorem zZ5 {g:EF qK7}{s:St}{n:Int}{b:List UInt8}(hp:s.Ok∧nnI n∧b.length≤60) : ∃ (r:List UInt8),(r.length≤32)∧qK7.fs g [.t (stA s),.t (.int .i64 n),.t (.sl (b.map qA))] []=some (.t (.sl (r.map qA)),[]):=qK7.eq g (s,n,b) hp
theorem zRd {s:St}{n:Int}{b:List UInt8}(r:List UInt8)(hR:r.length≤32)(hV:vv = .t (.sl (r.map qA)))(hO:oo=[]):qK7.K (s,n,b) vv oo:=⟨r,hR,hV,hO⟩
def qDn:ECt where
 α:=St×Int×List UInt8
 β:=List Int×List (List UInt8)
 aS:=fun (s,n,b)=>[.t (stA s),.t (.int .i64 n),.t (.sl (b.map qA))]
 pre:=fun (s,n,b)=>s.Ok∧nnI n∧b.length≤60
 r:=fun (l,m)=> .tup [.t (.sl (l.map iT)),.t (.sl (m.map bsT))]
 R:=fun (s,n,b) (l,m)=>l.length=3∧m.length=3 ∧ ∀ x∈m,x.length≤60
theorem zS8 {g:EF qDn}{s:St}{n:Int}{b:List UInt8}(hp:s.Ok∧nnI n∧b.length≤60) : ∃ (l:List Int) (m:List (List UInt8)),(l.length=3∧m.length=3 ∧ ∀ x∈m,x.length≤60)∧qDn.fs g [.t (stA s),.t (.int .i64 n),.t (.sl (b.map qA))] []=some (.tup [.t (.sl (l.map iT)),.t (.sl (m.map bsT))],[]):=by
 obtain⟨y,h1,h2⟩:=qDn.eq g (s,n,b) hp;exact⟨y.1,y.2,h1,h2⟩
theorem zBp {s:St}{n:Int}{b:List UInt8}(l:List Int)(m:List (List UInt8))(hR:l.length=3∧m.length=3 ∧ ∀ x∈m,x.length≤60)(hV:vv = .tup [.t (.sl (l.map iT)),.t (.sl (m.map bsT))])(hO:oo=[]):qDn.K (s,n,b) vv oo:=⟨(l,m),hR,hV,hO⟩
def qE7:ECt where
 α:=St×Int×List UInt8
 β:=List Int×List (List UInt8)
 aS:=fun (s,n,b)=>[.t (stA s),.t (.int .i64 n),.t (.sl (b.map qA))]
 pre:=fun (s,n,b)=>s.Ok∧nnI n∧b.length≤60
 r:=fun (l,m)=> .tup [.t (.sl (l.map iT)),.t (.sl (m.map bsT))]
 R:=fun (s,n,b) (l,m)=>l.length≤8∧m.length≤8 ∧ ∀ x∈m,x.length≤60
theorem jHk {g:EF qE7}{s:St}{n:Int}{b:List UInt8}(hp:s.Ok∧nnI n∧b.length≤60) : ∃ (l:List Int) (m:List (List UInt8)),(l.length≤8∧m.length≤8 ∧ ∀ x∈m,x.length≤60)∧qE7.fs g [.t (stA s),.t (.int .i64 n),.t (.sl (b.map qA))] []=some (.tup [.t (.sl (l.map iT)),.t (.sl (m.map bsT))],[]):=by
 obtain⟨y,h1,h2⟩:=qE7.eq g (s,n,b) hp;exact⟨y.1,y.2,h1,h2⟩
theorem jN2 {s:St}{n:Int}{b:List UInt8}(l:List Int)(m:List (List UInt8))(hR:l.length≤8∧m.length≤8 ∧ ∀ x∈m,x.length≤60)(hV:vv = .tup [.t (.sl (l.map iT)),.t (.sl (m.map bsT))])(hO:oo=[]):qE7.K (s,n,b) vv oo:=⟨(l,m),hR,hV,hO⟩
def qE5:ECt where
 α:=St×Int×Int×List UInt8
 β:=List Int×List (List UInt8)
 aS:=fun (s,n,m,b)=>[.t (stA s),.t (.int .i64 n),.t (.int .i64 m),.t (.sl (b.map qA))]
 pre:=fun (s,n,m,b)=>s.Ok∧nnI n∧nnI m∧b.length≤60
 r:=fun (l,r)=> .tup [.t (.sl (l.map iT)),.t (.sl (r.map bsT))]
 R:=fun (s,n,m,b) (l,r)=>l.length≤8∧r.length≤8 ∧ ∀ x∈r,x.length≤60
theorem jGs {g:EF qE5}{s:St}{n m:Int}{b:List UInt8}(hp:s.Ok∧nnI n∧nnI m∧b.length≤60) : ∃ (l:List Int) (r:List (List UInt8)),(l.length≤8∧r.length≤8 ∧ ∀ x∈r,x.length≤60)∧qE5.fs g [.t (stA s),.t (.int .i64 n),.t (.int .i64 m),.t (.sl (b.map qA))] []=some (.tup [.t (.sl (l.map iT)),.t (.sl (r.map bsT))],[]):=by
 obtain⟨y,h1,h2⟩:=qE5.eq g (s,n,m,b) hp;exact⟨y.1,y.2,h1,h2⟩
theorem qD2 {s:St}{n m:Int}{b:List UInt8}(l:List Int)(r:List (List UInt8))(hR:l.length≤8∧r.length≤8 ∧ ∀ x∈r,x.length≤60)(hV:vv = .tup [.t (.sl (l.map iT)),.t (.sl (r.map bsT))])(hO:oo=[]):qE5.K (s,n,m,b) vv oo:=⟨(l,r),hR,hV,hO⟩
def qE9:ECt where
 α:=St×Int×Int×List UInt8
 β:=List (List UInt8)
 aS:=fun (s,h,n,b)=>[.t (stA s),.t (.int .i64 h),.t (.int .i64 n),.t (.sl (b.map qA))]
 pre:=fun (s,h,n,b)=>s.Ok∧nnI n∧b.length≤60
 r:=fun m=> .t (.sl (m.map bsT))
 R:=fun (s,h,n,b) m=>m.length≤8 ∧ ∀ x∈m,x.length≤2000
theorem jIy {g:EF qE9}{s:St}{h n:Int}{b:List UInt8}(hp:s.Ok∧nnI n∧b.length≤60) : ∃ (m:List (List UInt8)),(m.length≤8 ∧ ∀ x∈m,x.length≤2000)∧qE9.fs g [.t (stA s),.t (.int .i64 h),.t (.int .i64 n),.t (.sl (b.map qA))] []=some (.t (.sl (m.map bsT)),[]):=qE9.eq g (s,h,n,b) hp
theorem zVk {s:St}{h n:Int}{b:List UInt8}(m:List (List UInt8))(hR:m.length≤8 ∧ ∀ x∈m,x.length≤2000)(hV:vv = .t (.sl (m.map bsT)))(hO:oo=[]):qE9.K (s,h,n,b) vv oo:=⟨m,hR,hV,hO⟩
def qE4:ECt where
 α:=St×Int×List UInt8
 β:=List Int×List (List UInt8)
 aS:=fun (s,n,b)=>[.t (stA s),.t (.int .i64 n),.t (.sl (b.map qA))]
 pre:=fun (s,n,b)=>s.Ok∧nnI n∧b.length≤60
 r:=fun (l,m)=> .tup [.t (.sl (l.map iT)),.t (.sl (m.map bsT))]
 R:=fun (s,n,b) (l,m)=>l.length≤8∧m.length≤8 ∧ ∀ x∈m,x.length≤2000
theorem jGq {g:EF qE4}{s:St}{n:Int}{b:List UInt8}(hp:s.Ok∧nnI n∧b.length≤60) : ∃ (l:List Int) (m:List (List UInt8)),(l.length≤8∧m.length≤8 ∧ ∀ x∈m,x.length≤2000)∧qE4.fs g [.t (stA s),.t (.int .i64 n),.t (.sl (b.map qA))] []=some (.tup [.t (.sl (l.map iT)),.t (.sl (m.map bsT))],[]):=by
 obtain⟨y,h1,h2⟩:=qE4.eq g (s,n,b) hp;exact⟨y.1,y.2,h1,h2⟩
theorem jGp {s:St}{n:Int}{b:List UInt8}(l:List Int)(m:List (List UInt8))(hR:l.length≤8∧m.length≤8 ∧ ∀ x∈m,x.length≤2000)(hV:vv = .tup [.t (.sl (l.map iT)),.t (.sl (m.map bsT))])(hO:oo=[]):qE4.K (s,n,b) vv oo:=⟨(l,m),hR,hV,hO⟩
def qFb:ECt where
 α:=St×Int×Int×List UInt8
 β:=Rq
 aS:=fun (s,k,n,b)=>[.t (stA s),.t (.int .i64 k),.t (.int .i64 n),.t (.sl (b.map qA))]
 pre:=fun (s,k,n,b)=>s.Ok∧nnI k∧nnI n∧b.length≤60
 r:=fun q=> .t (rqA q)
 R:=fun (s,k,n,b) q=>q.B∧1≤q.hs.length
theorem qTg {g:EF qFb}{s:St}{k n:Int}{b:List UInt8}(hp:s.Ok∧nnI k∧nnI n∧b.length≤60) : ∃ (q:Rq),(q.B∧1≤q.hs.length)∧qFb.fs g [.t (stA s),.t (.int .i64 k),.t (.int .i64 n),.t (.sl (b.map qA))] []=some (.t (rqA q),[]):=qFb.eq g (s,k,n,b) hp
theorem qD7 {s:St}{k n:Int}{b:List UInt8}(q:Rq)(hR:q.B∧1≤q.hs.length)(hV:vv = .t (rqA q))(hO:oo=[]):qFb.K (s,k,n,b) vv oo:=⟨q,hR,hV,hO⟩
def qFc:ECt where
 α:=St×Int×Int×Int×List UInt8
 β:=Rq
 aS:=fun (s,k,n,m,b)=>[.t (stA s),.t (.int .i64 k),.t (.int .i64 n),.t (.int .i64 m),.t (.sl (b.map qA))]
 pre:=fun (s,k,n,m,b)=>s.Ok∧(nnI k∧nnI n∧nnI m)∧b.length≤4000000000
 r:=fun q=> .t (rqA q)
 R:=fun (s,k,n,m,b) q=>q.B
theorem jKo {g:EF qFc}{s:St}{k n m:Int}{b:List UInt8}(hp:s.Ok∧(nnI k∧nnI n∧nnI m)∧b.length≤4000000000) : ∃ (q:Rq),(q.B)∧qFc.fs g [.t (stA s),.t (.int .i64 k),.t (.int .i64 n),.t (.int .i64 m),.t (.sl (b.map qA))] []=some (.t (rqA q),[]):=qFc.eq g (s,k,n,m,b) hp
theorem qAh {s:St}{k n m:Int}{b:List UInt8}(q:Rq)(hR:q.B)(hV:vv = .t (rqA q))(hO:oo=[]):qFc.K (s,k,n,m,b) vv oo:=⟨q,hR,hV,hO⟩
def qLk:ECt where
 α:=St
 β:=St
 aS:=fun s=>[.t (stA s)]
 pre:=fun s=>s.Ok∧s.cn 1000000
 r:=fun t=> .t (stA t)
 R:=fun s t=>s.Go 1 t∧t.on=true
theorem jA1 {g:EF qLk}{s:St}(hp:s.Ok∧s.cn 1000000) : ∃ (t:St),(s.Go 1 t∧t.on=true)∧qLk.fs g [.t (stA s)] []=some (.t (stA t),[]):=qLk.eq g s hp
theorem jMz {s:St}(t:St)(hR:s.Go 1 t∧t.on=true)(hV:vv = .t (stA t))(hO:oo=[]):qLk.K s vv oo:=⟨t,hR,hV,hO⟩
def qO3:ECt where
 α:=St×Int×Int×Int×List UInt8
 β:=St
 aS:=fun (s,k,n,m,b)=>[.t (stA s),.t (.int .i64 k),.t (.int .i64 n),.t (.int .i64 m),.t (.sl (b.map qA))]
 pre:=fun (s,k,n,m,b)=>(s.Ok∧s.cn 100000)∧((0≤k∧k≤255)∧(0≤n∧n≤255)∧0≤m∧m≤255)∧b.length≤3000000000
 r:=fun t=> .t (stA t)
 R:=fun (s,k,n,m,b) t=>s.Go 6 t
theorem jLk {g:EF qO3}{s:St}{k n m:Int}{b:List UInt8}(hp:(s.Ok∧s.cn 100000)∧((0≤k∧k≤255)∧(0≤n∧n≤255)∧0≤m∧m≤255)∧b.length≤3000000000) : ∃ (t:St),(s.Go 6 t)∧qO3.fs g [.t (stA s),.t (.int .i64 k),.t (.int .i64 n),.t (.int .i64 m),.t (.sl (b.map qA))] []=some (.t (stA t),[]):=qO3.eq g (s,k,n,m,b) hp
theorem jE9 {s:St}{k n m:Int}{b:List UInt8}(t:St)(hR:s.Go 6 t)(hV:vv = .t (stA t))(hO:oo=[]):qO3.K (s,k,n,m,b) vv oo:=⟨t,hR,hV,hO⟩
def qOn:ECt where
 α:=St×List UInt8×List UInt8×Int
 β:=St
 aS:=fun (s,cs,b,n)=>[.t (stA s),.t (.sl (cs.map qA)),.t (.sl (b.map qA)),.t (.int .i64 n)]
 pre:=fun (s,cs,b,n)=>(s.Ok∧s.cn 10)∧cs.length≤9223372036854775807∧b.length≤3000000000∧(0≤n∧n≤100)
 r:=fun t=> .t (stA t)
 R:=fun (s,cs,b,n) t=>(t.Ok∧t.cn 5000)∧t.on=true
theorem jJz {g:EF qOn}{s:St}{cs b:List UInt8}{n:Int}(hp:(s.Ok∧s.cn 10)∧cs.length≤9223372036854775807∧b.length≤3000000000∧(0≤n∧n≤100)) : ∃ (t:St),((t.Ok∧t.cn 5000)∧t.on=true)∧qOn.fs g [.t (stA s),.t (.sl (cs.map qA)),.t (.sl (b.map qA)),.t (.int .i64 n)] []=some (.t (stA t),[]):=qOn.eq g (s,cs,b,n) hp
theorem jJy {s:St}{cs b:List UInt8}{n:Int}(t:St)(hR:(t.Ok∧t.cn 5000)∧t.on=true)(hV:vv = .t (stA t))(hO:oo=[]):qOn.K (s,cs,b,n) vv oo:=⟨t,hR,hV,hO⟩
def qKu:ECt where
 α:=Int×List UInt8×List UInt8
 β:=St
 aS:=fun (a,cs,b)=>[.t (.int .i64 a),.t (.sl (cs.map qA)),.t (.sl (b.map qA))]
 pre:=fun (a,cs,b)=>cs.length≤9223372036854775807∧b.length≤3000000000
 r:=fun t=> .t (stA t)
 R:=fun (a,cs,b) t=>(t.Ok∧t.cn 5000)∧t.on=true
theorem zZa {g:EF qKu}{a:Int}{cs b:List UInt8}(hp:cs.length≤9223372036854775807∧b.length≤3000000000) : ∃ (t:St),((t.Ok∧t.cn 5000)∧t.on=true)∧qKu.fs g [.t (.int .i64 a),.t (.sl (cs.map qA)),.t (.sl (b.map qA))] []=some (.t (stA t),[]):=qKu.eq g (a,cs,b) hp
theorem jN5 {a:Int}{cs b:List UInt8}(t:St)(hR:(t.Ok∧t.cn 5000)∧t.on=true)(hV:vv = .t (stA t))(hO:oo=[]):qKu.K (a,cs,b) vv oo:=⟨t,hR,hV,hO⟩
end Go.Eng
end
