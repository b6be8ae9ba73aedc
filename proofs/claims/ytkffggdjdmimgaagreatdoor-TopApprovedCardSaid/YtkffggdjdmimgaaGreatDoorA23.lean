/- A part of an abstract machine, its walks, their tie. -/
import Derived.Test.YtkffggdjdmimgaaGreatDoorA22
import Derived.Test.YtkffggdjdmimgaaGreatDoorA16
set_option linter.all false
section
set_option maxHeartbeats 64000000
set_option maxRecDepth 20000
namespace Go.Eng
open List
variable (tab:Tab) (gl:Gl)
variable {vv:V} {oo:List Ob}
structure Sl2 where
 a:Int
 b:Int
 deriving Inhabited
structure Att where
 key:List UInt8
 no:List UInt8
 res:Int
 rst:Int
 clk:Int
 safe:Bool
 u:Int
 s0:Int
 s1:Int
 dg:List UInt8
 deriving Inhabited
structure Rr where
 bk:List zB
 u:Int
 deriving Inhabited
def jJa (x:Sl2):T:= .agg [.int .i64 x.a,.int .i64 x.b]
def jSw (x:Att):T:= .agg [.sl (x.key.map qA),.sl (x.no.map qA),.int .i64 x.res,.int .i64 x.rst,.int .i64 x.clk,.bool x.safe,.int .i64 x.u,.int .i64 x.s0,.int .i64 x.s1,.sl (x.dg.map qA)]
def rrA (x:Rr):T:= .agg [.sl (x.bk.map vS),.int .i64 x.u]
theorem jPk:EI jJa:=qAp (by rintro⟨⟩ ⟨⟩ h;simp only[jJa,qBk] at h;obtain⟨rfl,rfl⟩:=h;rfl)
theorem jK2:EI jSw:=qAp (by rintro⟨⟩ ⟨⟩ h;simp only[jSw,qBk] at h;obtain⟨rfl,rfl,rfl,rfl,rfl,rfl,rfl,rfl,rfl,rfl⟩:=h;rfl)
theorem jUs:EI rrA:=qAp (by rintro⟨⟩ ⟨⟩ h;simp only[rrA,qBk] at h;obtain⟨rfl,rfl⟩:=h;rfl)
theorem yC5:EI jJa∧EI jSw∧EI rrA:=⟨jPk,jK2,jUs⟩
def Asr.B (a:Asr):Prop:=a.dg.length≤4000∧a.od.length≤4000∧a.nm.length≤4000∧a.rf.length≤4000∧a.br.length≤8 ∧ ∀ x∈a.br,x.length≤4000
def Rq.B (q:Rq):Prop:=q.hs.length≤8∧q.au.length≤8∧q.ns.length≤8∧q.bl.length≤8∧(∀ x∈q.bl,x.length≤4000) ∧ ∀ a∈q.au,a.no.length≤4000∧a.va.length≤4000
def jSl:List (Int×Int×Int×Int):=[(-2,0,0,0),(0,0,1,0),(0,0,1,0),(-2,0,0,0),(0,0,0,0),(0,0,2,0),(0,0,1,2),(0,0,1,1),(0,0,1,0),
 (1,1,3,3),(1,1,3,3),(1,1,0,2),(0,0,1,0),(1,1,0,0),(1,1,0,1),(1,1,2,1),(0,0,1,0),(0,0,6,-1),(1,1,2,1),(0,0,1,3),(0,0,1,0),
 (1,1,4,2),(1,1,1,0),(2,1,1,1),(2,1,2,0),(2,1,0,0),(2,1,0,1),(2,1,0,1),(2,1,0,0),(2,1,0,0),(1,1,0,1),(1,1,0,0),(1,1,0,0),(1,1,3,0)]
def qNn (c:Int):Int×Int×Int×Int:=if c<0∨34≤c then (-2,0,0,0) else jSl.getD c.toNat (-2,0,0,0)
structure Rq.Ok (q:Rq):Prop where
 co:(0≤q.co∧q.co<34)∧(qNn q.co).1 ≠ -2
 hs:(q.hs.length:Int)=(qNn q.co).1 ∧ ∀ x∈q.hs,0≤x∧x≤65535
 au:(q.au.length:Int)=(qNn q.co).2.1 ∧ ∀ a∈q.au,tmI a.s∧a.no.length≤128∧a.va.length≤128
 ns:(q.ns.length:Int)=(qNn q.co).2.2.1 ∧ ∀ x∈q.ns,tmI x
 bl:((q.bl.length:Int)=(qNn q.co).2.2.2∨(qNn q.co).2.2.2 = -1∧q.bl.length≤8) ∧ ∀ x∈q.bl,x.length≤1024
def Rq.h0 (q:Rq):Int:=q.hs.getD 0 0
def Rq.h1 (q:Rq):Int:=q.hs.getD 1 0
def St.Go (k:Int)(s t:St):Prop:=t.Ok∧s.up k t
def zJz:ECt where
 α:=List UInt8×List UInt8
 β:=Int
 aS:=fun (a,b)=>[.t (.sl (a.map qA)),.t (.sl (b.map qA))]
 pre:=fun (a,b)=>a.length≤4000∧b.length≤4000
 r:=fun e=> .t (.int .i64 e)
 R:=fun (a,b) e=>True
theorem jUb {a b:List UInt8}(e:Int)(hR:True)(hV:vv = .t (.int .i64 e))(hO:oo=[]):zJz.K (a,b) vv oo:=⟨e,hR,hV,hO⟩
def qDk:Ses:=⟨0,[],[],0,0,0,0,false⟩
def jEy (s:St)(h:Int):Int:=if h<768∨3≤h-768 then -1 else if (s.ses.getD (h-768).toNat qDk).kd=0 then -1 else h-768
def qJg:ECt where
 α:=St×Int×Ses
 β:=St
 aS:=fun (s,k,x)=>[.t (stA s),.t (.int .i64 k),.t (yD x)]
 pre:=fun (s,k,x)=>s.ses.length=3∧0≤k∧k≤2
 r:=fun r'=> .t (stA r')
 R:=fun (s,k,x) r'=>r' = { s with ses:=s.ses.set k.toNat x }
theorem zUn {g:EF qJg}{s:St}{k:Int}{x:Ses}(hp:s.ses.length=3∧0≤k∧k≤2):qJg.fs g [.t (stA s),.t (.int .i64 k),.t (yD x)] []=some (.t (stA ({ s with ses:=s.ses.set k.toNat x })),[]):=fnQ qJg (s,k,x) hp
theorem jUi {s:St}{k:Int}{x:Ses}(hV:vv = .t (stA ({ s with ses:=s.ses.set k.toNat x })))(hO:oo=[]):qJg.K (s,k,x) vv oo:=⟨_,rfl,hV,hO⟩
structure Dk where
 ar:List (List UInt8)
 wr:Int
 cut:Int
 tn:Int
 off:Bool
 deriving Inhabited
structure Dv where
 k:Dk
 s:St
 on:Bool
 nx:Int
 deriving Inhabited
structure Fo where
 nm:List UInt8
 va:List UInt8
 po:List UInt8
 pr:Bool
 deriving Inhabited
inductive Av where
 | reg (s0 s1:Int) (d:List UInt8)
 | loc (n:Int)
 | cmd (n:Int)
 | idx (n op:Int) (od nm:List UInt8)
 | aut
 | alt (bs:List (List UInt8))
 | apr (nm rf:List UInt8)
 deriving Inhabited
def dkA (x:Dk):T:= .agg [.sl (x.ar.map bsT),.int .i64 x.wr,.int .i64 x.cut,.int .i64 x.tn,.bool x.off]
def dvA (d:Dv):T:= .agg [.sl (d.k.ar.map bsT),.int .i64 d.k.wr,.int .i64 d.k.cut,.int .i64 d.k.tn,.bool d.k.off,
 .sl (d.s.a.sd.map bsT),.sl (d.s.a.au.map bsT),.sl (d.s.a.en.map qA),.int .i64 d.s.a.act,.int .i64 d.s.a.res,.int .i64 d.s.a.rst,.int .i64 d.s.a.clk,.bool d.s.a.ord,.sl (d.s.a.bk.map vS),.int .i64 d.s.a.u,.int .i64 d.s.a.mc,.sl (d.s.a.ix.map ixA),
 .int .i64 d.s.a.lk.fa,.int .i64 d.s.a.lk.mx,.int .i64 d.s.a.lk.rc,.int .i64 d.s.a.lk.si,.int .i64 d.s.a.lk.cl,.int .i64 d.s.a.lk.pe,.sl (d.s.a.ks.map lvA),
 .bool d.s.on,.bool d.s.off,.sl (d.s.bk.map vS),.int .i64 d.s.u,.int .i64 d.s.clk,.bool d.s.safe,.int .i64 d.s.dr,.sl (d.s.ses.map yD),.sl (d.s.obs.map qC9),.sl (d.s.rl.map iT),.sl (d.s.wl.map iT),.bool d.on,.int .i64 d.nx]
def foA (x:Fo):T:= .agg [.sl (x.nm.map qA),.sl (x.va.map qA),.sl (x.po.map qA),.bool x.pr]
def avL (k s0 s1:Int)(d:List UInt8)(n op:Int)(od nm rf:List UInt8)(br:List (List UInt8)):T:= .agg [.int .i64 k,.int .i64 s0,.int .i64 s1,.sl (d.map qA),.int .i64 n,.int .i64 op,.sl (od.map qA),.sl (nm.map qA),.sl (rf.map qA),.sl (br.map bsT)]
def avA:Av→T
 | .reg s0 s1 d=>avL 1 s0 s1 d 0 0 [] [] [] []
 | .loc n=>avL 2 0 0 [] n 0 [] [] [] []
 | .cmd n=>avL 3 0 0 [] n 0 [] [] [] []
 | .idx n op od nm=>avL 4 0 0 [] n op od nm [] []
 | .aut=>avL 7 0 0 [] 0 0 [] [] [] []
 | .alt bs=>avL 8 0 0 [] 0 0 [] [] [] bs
 | .apr nm rf=>avL 9 0 0 [] 0 0 [] nm rf []
theorem jL0:EI dkA:=qAp (by rintro⟨⟩ ⟨⟩ h;simp only[dkA,qBk] at h;obtain⟨rfl,rfl,rfl,rfl,rfl⟩:=h;rfl)
theorem jTo:EI foA:=qAp (by rintro⟨⟩ ⟨⟩ h;simp only[foA,qBk] at h;obtain⟨rfl,rfl,rfl,rfl⟩:=h;rfl)
theorem jTm:EI dvA:=qAp (by
 rintro⟨⟨⟩,s,_,_⟩ ⟨⟨⟩,t,_,_⟩ h;have hs:stA s=stA t:=by
  simp only[dvA,qBk] at h;obtain⟨_,_,_,_,_,h⟩:=h;simp only[stA,qBk];simp only[h,and_self]
 obtain rfl:=(jJe.1 s t).mp hs;simp only[dvA,qBk] at h;obtain⟨rfl,rfl,rfl,rfl,rfl,h⟩:=h;obtain⟨rfl,rfl⟩:=h;rfl)
theorem zXh:EI avA:=qAp (by
 intro a b h;cases a<;>cases b<;>simp only[avA,avL,qBk] at h;all_goals first | rfl | (obtain⟨rfl,rfl,rfl,rfl⟩:=h;rfl) | (obtain⟨rfl,rfl,rfl⟩:=h;rfl) | (obtain⟨rfl,rfl⟩:=h;rfl) | (subst h;rfl) | exact absurd h.1 (by decide) | (exfalso;revert h;simp))
theorem qVl:EI dkA∧EI dvA∧EI foA∧EI avA:=⟨jL0,jTm,jTo,zXh⟩
def Av.Ok:Av→Prop
 | .reg s0 s1 d=>(0≤s0∧s0≤65535)∧(0≤s1∧s1≤65535)∧d.length=32
 | .loc n=>1≤n∧n≤31
 | .cmd n=>1≤n∧n≤255
 | .idx _ op od nm=>(0≤op∧op≤3)∧od.length≤128∧nm.length=32
 | .aut=>True
 | .alt bs=>(2≤bs.length∧bs.length≤8) ∧ ∀ b∈bs,b.length=32
 | .apr nm rf=>nm.length=32∧rf.length≤128
def qTs (d0:List UInt8):Av→List (List UInt8)
 | .reg s0 s1 d=>[d0,qDf s0 s1,d]
 | .loc n=>[d0,[u8I n]]
 | .cmd n=>[d0,[u8I n]]
 | .idx _ op od nm=>[d0,[u8I op],od,nm]
 | .aut=>[d0]
 | .alt bs=>bs
 | .apr nm rf=>[nm,rf]
def zB6:Av→UInt8
 | .reg .. => 1
 | .loc _=>2
 | .cmd _=>3
 | .idx .. => 4
 | .aut=>7
 | .alt _=>8
 | .apr .. => 9
def qNz (d0:List UInt8)(a:Av):List UInt8:=vW 8 ([zB6 a]::qTs d0 a)
theorem qBe {d0:List UInt8}{a:Av}:(qNz d0 a).length=32:=qH
theorem zNf {d0:List UInt8}{a:Av}(h0:d0.length=32)(ha:a.Ok):(qZ 8 ([zB6 a]::qTs d0 a)).length<1000000000:=by
 have h : ∀ x∈[zB6 a]::qTs d0 a,x.length≤128:=by
  intro x hx;rcases mem_cons.1 hx with rfl | hx
  ·exact Nat.le_of_ble_eq_true rfl
  ·cases a<;>simp only[qTs,mem_cons,not_mem_nil,or_false] at hx<;>simp only[Av.Ok] at ha
   case alt bs=>have:=ha.2 x hx;omega
   all_goals (rcases hx with rfl | rfl | rfl | rfl)<;>first | omega | (simp[qDf,qU];done) | (simp;done) | skip
   all_goals simp_all
 have hl:([zB6 a]::qTs d0 a).length≤9:=by
  cases a<;>simp only[qTs,length_cons,length_nil]<;>simp only[Av.Ok] at ha<;>omega
 have:=qTt (t:=8) h;omega
def Obj.Se (x:Obj):Prop:=(x=default∨(x.p.kd=3∧x.p.ar=0∧x.p.ht=0∧x.p.po.length=32∧x.p.un.length=32))∧x.s.au.length≤32∧x.s.da.length≤128
def cnI (w:Bool)(d:List UInt8):Ix:=⟨1,2,48,8,[],[],w,d⟩
def Ses.Tp (x:Ses):Prop:=x.dg.length≤32∧x.no.length≤16∧x.dl=0∧(x.kd=0∨(x.dg.length=32∧(x.kd=2∨x.kd=3)∧(0≤x.lo∧x.lo≤31)∧(x.cm=0∨x.cm=13)))
structure Sa.Tp (s:Sa):Prop where
 sd:s.sd.length=3 ∧ ∀ x∈s.sd,x.length=32
 au:s.au=[[],[],[],[]]
 en:s.en.length=32
 act:s.act=2
 res:0≤s.res∧s.res≤1000
 rst:s.rst=0
 clk:s.clk=0
 bk:s.bk=[]∧s.u=0
 mc:0≤s.mc∧s.mc≤1000
 ix:s.ix=[] ∨ ∃ w d,s.ix=[cnI w d]∧d.length=8
 lk:s.lk=⟨0,5,100,0,0,1000⟩
 ks:s.ks=[]
structure St.Tp (s:St):Prop where
 a:s.a.Tp
 on:s.on=true
 off:s.off=false
 clk:s.clk=0
 rl:s.rl=[]
 wl:s.wl=[]
 bk:ShA 2 s.bk
 u:0≤s.u∧s.u≤1000
 dr:0≤s.dr∧s.dr≤1000
 ses:s.ses.length=3 ∧ ∀ x∈s.ses,x.Tp
 obs:s.obs.length=3 ∧ ∀ x∈s.obs,x.Se
def qOo:ECt where
 α:=Int
 β:=Dk
 aS:=fun n=>[.t (.int .i64 n)]
 pre:=fun n=>n=4
 r:=fun r'=> .t (dkA r')
 R:=fun n r'=>r'=⟨[[],[],[],[]],0,0,0,false⟩
theorem jLs {g:EF qOo}{n:Int}(hp:n=4):qOo.fs g [.t (.int .i64 n)] []=some (.t (dkA (⟨[[],[],[],[]],0,0,0,false⟩)),[]):=fnQ qOo n hp
theorem jTc {n:Int}(hV:vv = .t (dkA (⟨[[],[],[],[]],0,0,0,false⟩)))(hO:oo=[]):qOo.K n vv oo:=⟨_,rfl,hV,hO⟩
theorem zQr  (n:Int)(hp:n=4) :
  qN7.1.wp tab gl (qE 0 [.t (.int .i64 n)]) (qE 0 []) (qV [(2,(some (5,true)))] 0 (qOo.K n)):=by
 subst hp;have f:(if (64:Int)<if (0:Int)>4 then (0:Int) else 4 then (64:Int) else if (0:Int)>4 then (0:Int) else 4).toNat=4:=rfl;simp(disch:=omega)only[go_sem,qN7];try rw[f]
 try simp(disch:=omega)only[go_sem,replicate_succ,replicate_zero]
 exact jTc rfl rfl
def qOr:ECt where
 α:=Dk
 β:=Dk
 aS:=fun k=>[.t (dkA k)]
 pre:=fun k=>True
 r:=fun r'=> .t (dkA r')
 R:=fun k r'=>r' = { k with off:=true }
 inj:=by rintro k k' e _;simp only[qBk,qM7,qVl] at e;obtain rfl:=e;rfl
theorem jLv {g:EF qOr}{k:Dk}:qOr.fs g [.t (dkA k)] []=some (.t (dkA ({ k with off:=true })),[]):=fnQ qOr k trivial
theorem zX6 {k:Dk}(hV:vv = .t (dkA ({ k with off:=true })))(hO:oo=[]):qOr.K k vv oo:=⟨_,rfl,hV,hO⟩
theorem zLa  (k:Dk) :
  qKk.1.wp tab gl (qE 0 [.t (dkA k)]) (qE 0 []) (qV [(2,(some (5,true)))] 0 (qOr.K k)):=by
 simp(disch:=omega)only[go_sem,qKk,dkA];first | exact (zX6 rfl rfl) | exact⟨rfl,(zX6 rfl rfl)⟩ | exact⟨rfl,rfl,(zX6 rfl rfl)⟩ | exact⟨rfl,rfl,rfl,(zX6 rfl rfl)⟩
def qOq:ECt where
 α:=Dk
 β:=Dk
 aS:=fun k=>[.t (dkA k)]
 pre:=fun k=>True
 r:=fun r'=> .t (dkA r')
 R:=fun k r'=>r'=⟨k.ar,0,0,0,false⟩
 inj:=by rintro k k' e _;simp only[qBk,qM7,qVl] at e;obtain rfl:=e;rfl
theorem jLu {g:EF qOq}{k:Dk}:qOq.fs g [.t (dkA k)] []=some (.t (dkA (⟨k.ar,0,0,0,false⟩)),[]):=fnQ qOq k trivial
theorem zX5 {k:Dk}(hV:vv = .t (dkA (⟨k.ar,0,0,0,false⟩)))(hO:oo=[]):qOq.K k vv oo:=⟨_,rfl,hV,hO⟩
theorem zAg  (k:Dk) :
  qEy.1.wp tab gl (qE 0 [.t (dkA k)]) (qE 0 []) (qV [(2,(some (5,true)))] 0 (qOq.K k)):=by
 simp(disch:=omega)only[go_sem,qEy,dkA];first | exact (zX5 rfl rfl) | exact⟨rfl,(zX5 rfl rfl)⟩ | exact⟨rfl,rfl,(zX5 rfl rfl)⟩ | exact⟨rfl,rfl,rfl,(zX5 rfl rfl)⟩
def okD (k:Dk):Prop:=k.off=false∧k.ar.length=4∧k.cut=0∧(0≤k.wr∧k.wr≤1000000)
def qI8:ECt where
 α:=Dk×Int
 β:=Bool
 aS:=fun (k,i)=>[.t (dkA k),.t (.int .i64 i)]
 pre:=fun (k,i)=>k.ar.length=4
 r:=fun r'=> .t (.bool r')
 R:=fun (k,i) r'=>r'=decide (0≤i∧i<4)
 inj:=by rintro⟨k,i⟩ ⟨k',i'⟩ e _;simp only[qBk,qM7,qVl] at e;obtain⟨rfl,rfl⟩:=e;rfl
theorem jDc {g:EF qI8}{k:Dk}{i:Int}(hp:k.ar.length=4):qI8.fs g [.t (dkA k),.t (.int .i64 i)] []=some (.t (.bool (decide (0≤i∧i<4))),[]):=fnQ qI8 (k,i) hp
theorem jTd {k:Dk}{i:Int}(hV:vv = .t (.bool (decide (0≤i∧i<4))))(hO:oo=[]):qI8.K (k,i) vv oo:=⟨_,rfl,hV,hO⟩
theorem zH5  (k:Dk)(i:Int)(hp:k.ar.length=4) :
  qBr.1.wp tab gl (qE 0 [.t (dkA k),.t (.int .i64 i)]) (qE 0 []) (qV [(4,none)] 0 (qI8.K (k,i))):=by
 have key : ∀ r,r=decide (0≤i∧i<4)→qI8.K (k,i) (.t (.bool r)) []:=fun r e=>jTd (by rw[e]) rfl
 by_cases c1:i<0
 ·simp(disch:=omega)only[go_sem,qBr,dkA,c1];refine key _ ?_;simp;omega
 by_cases c2:i<4
 ·simp(disch:=omega)only[go_sem,qBr,dkA,c1,c2,hp];refine key _ ?_;simp;omega
 simp(disch:=omega)only[go_sem,qBr,dkA,c1,c2,hp];refine key _ ?_;simp;omega
def zGh:Ct where
 α:=List UInt8×List UInt8
 aS x:=[.t (.sl (x.1.map qA)),.t (.int .i64 x.2.length),.ref 0 0 0,.ref 1 0 0]
 ins x:=[.live 1 [.t (.sl (x.2.map qA))] true true,.live 1 [.t (.bool false)] true true]
 pre x:=x.2.length≤100000
 r x:= .t (.sl (x.2.map qA))
 outs x:=[.live 1 [.t (.sl (x.2.map qA))] true true,.live 1 [.t (.bool false)] true true]
 inj:=by
  rintro⟨a,b⟩ ⟨c,d⟩ h h2;simp only[List.cons.injEq,V.t.injEq,T.sl.injEq,T.int.injEq,Ob.live.injEq,true_and,and_true,zN] at h h2;obtain⟨rfl,-⟩:=h;subst h2;exact⟨rfl,rfl⟩
theorem jRd {a b:List UInt8}(h:b.length≤100000):zGh.fs [.t (.sl (a.map qA)),.t (.int .i64 b.length),.ref 0 0 0,.ref 1 0 0] [.live 1 [.t (.sl (b.map qA))] true true,.live 1 [.t (.bool false)] true true]=some (.t (.sl (b.map qA)),[.live 1 [.t (.sl (b.map qA))] true true,.live 1 [.t (.bool false)] true true]):=zGh.eq (a,b) h
theorem zBb (a b:List UInt8)(hb:b.length≤100000):qEz.1.wp tab gl (qE 0 [.t (.sl (a.map qA)),.t (.int .i64 b.length),.ref 0 0 0,.ref 1 0 0]) (qE 0 [.live 1 [.t (.sl (b.map qA))] true true,.live 1 [.t (.bool false)] true true]) (qV [(6,none)] 2 (fun r o=>r = .t (.sl (b.map qA))∧o=[.live 1 [.t (.sl (b.map qA))] true true,.live 1 [.t (.bool false)] true true])):=by
 simp(disch:=omega)only[go_sem,qEz,take_length];repeat refine aiG ?_
def zC4 (n:Nat):Ct where
 α:=Dk×Int×List UInt8
 aS x:=[.t (dkA x.1),.t (.int .i64 x.2.1),.t (.sl (x.2.2.map qA)),.fn n [.ref 0 0 0,.ref 1 0 0]]
 ins x:=[.live 1 [.t (.sl (x.2.2.map qA))] true true,.live 1 [.t (.bool false)] true true]
 pre x:=okD x.1∧(x.2.1=0∨x.2.1=1)∧x.2.2.length≤65536
 r x:= .tup [.t (dkA { x.1 with wr:=x.1.wr+1,ar:=x.1.ar.set x.2.1.toNat x.2.2 }),.t (.int .i64 0)]
 outs x:=[.live 1 [.t (.sl (x.2.2.map qA))] true true,.live 1 [.t (.bool false)] true true]
 inj:=by
  rintro⟨a,b,c⟩ ⟨d,e,f⟩ h h2;simp only[List.cons.injEq,V.t.injEq,T.sl.injEq,T.int.injEq,jL0,true_and,and_true,zN] at h;obtain⟨rfl,rfl,rfl⟩:=h;exact⟨rfl,rfl⟩
theorem jGk {n:Nat}{k:Dk}{i:Int}{b:List UInt8}(h:okD k∧(i=0∨i=1)∧b.length≤65536):(zC4 n).fs [.t (dkA k),.t (.int .i64 i),.t (.sl (b.map qA)),.fn n [.ref 0 0 0,.ref 1 0 0]] [.live 1 [.t (.sl (b.map qA))] true true,.live 1 [.t (.bool false)] true true]=some (.tup [.t (dkA { k with wr:=k.wr+1,ar:=k.ar.set i.toNat b }),.t (.int .i64 0)],[.live 1 [.t (.sl (b.map qA))] true true,.live 1 [.t (.bool false)] true true]):=(zC4 n).eq (k,i,b) h
theorem zQz (n:Nat){g1}(h1:LkE tab 156 qI8 g1)(hn:tab.look n=some zGh.fs)(k:Dk)(i:Int)(b:List UInt8)(h:okD k∧(i=0∨i=1)∧b.length≤65536):qN8.1.wp tab gl (qE 0 [.t (dkA k),.t (.int .i64 i),.t (.sl (b.map qA)),.fn n [.ref 0 0 0,.ref 1 0 0]]) (qE 0 [.live 1 [.t (.sl (b.map qA))] true true,.live 1 [.t (.bool false)] true true]) (qV [(8,some (5,true)),(9,none)] 2 (fun r o=>r = .tup [.t (dkA { k with wr:=k.wr+1,ar:=k.ar.set i.toNat b }),.t (.int .i64 0)]∧o=[.live 1 [.t (.sl (b.map qA))] true true,.live 1 [.t (.bool false)] true true])):=by
 obtain⟨⟨ho,hl,hc,hw⟩,hi,hb⟩:=h;have e1:=jDc (g:=g1) (k:=k) (i:=i) hl;rw[show decide (0≤i∧i<4)=true by simp only[decide_eq_true_eq];omega] at e1;obtain⟨ar,wr,cut,tn,off⟩:=k;simp only at ho hl hc hw;subst ho hc
 match ar,hl with
 | [a0,a1,a2,a3],_=>
  have e:=fun a => @jRd a b oM
  have hw' : ¬ wr+1=0:=oM;simp only[dkA,mcn,qI] at e1;rcases hi with rfl | rfl;all_goals
   simp(maxSteps:=9^9)(disch:=try exact dS)only[go_sem,qN8,dkA,h1,e1,hw',mcn,qI];refine qG 5 ?_;simp(maxSteps:=9^9)(disch:=try exact dS)only[go_sem,qD,dkA,hn,e,mcn,qI];repeat refine aiG ?_
def qOs:ECt where
 α:=Dk×Int×List UInt8
 β:=Dk×Int
 aS:=fun (k,i,b)=>[.t (dkA k),.t (.int .i64 i),.t (.sl (b.map qA))]
 pre:=fun (k,i,b)=>okD k∧(i=0∨i=1)∧b.length≤65536
 r:=fun (r,e)=> .tup [.t (dkA r),.t (.int .i64 e)]
 R:=fun (k,i,b) (r,e)=>r = { k with wr:=k.wr+1,ar:=k.ar.set i.toNat b }∧e=0
 inj:=by rintro⟨k,i,b⟩ ⟨k',i',b'⟩ e _;simp only[qBk,qM7,qVl] at e;obtain⟨rfl,rfl,rfl⟩:=e;rfl
theorem jLw {g:EF qOs}{k:Dk}{i:Int}{b:List UInt8}(hp:okD k∧(i=0∨i=1)∧b.length≤65536) : ∃ (r:Dk) (e:Int),(r = { k with wr:=k.wr+1,ar:=k.ar.set i.toNat b }∧e=0)∧qOs.fs g [.t (dkA k),.t (.int .i64 i),.t (.sl (b.map qA))] []=some (.tup [.t (dkA r),.t (.int .i64 e)],[]):=by
 obtain⟨y,h1,h2⟩:=qOs.eq g (k,i,b) hp;exact⟨y.1,y.2,h1,h2⟩
theorem jTe {k:Dk}{i:Int}{b:List UInt8}(r:Dk)(e:Int)(hR:r = { k with wr:=k.wr+1,ar:=k.ar.set i.toNat b }∧e=0)(hV:vv = .tup [.t (dkA r),.t (.int .i64 e)])(hO:oo=[]):qOs.K (k,i,b) vv oo:=⟨(r,e),hR,hV,hO⟩
theorem zH4 (h2:tab.look 124=some (zC4 125).fs)(k:Dk)(i:Int)(b:List UInt8)(hp:okD k∧(i=0∨i=1)∧b.length≤65536) :
  qIj.1.wp tab gl (qE 0 [.t (dkA k),.t (.int .i64 i),.t (.sl (b.map qA))]) (qE 0 []) (qV [(6,(some (5,true))),(7,none)] 0 (qOs.K (k,i,b))):=by
 have e:=jGk (n:=125) hp;have hr:dkA { k with wr:=k.wr+1,ar:=k.ar.set i.toNat b } = .agg [.sl ((k.ar.set i.toNat b).map bsT),.int .i64 (k.wr+1),.int .i64 k.cut,.int .i64 k.tn,.bool k.off]:=rfl;rw[hr] at e;obtain⟨⟨ho,hl,hc,hw⟩,hi,hb⟩:=hp;have hw' : ¬ k.wr+1=0:=oM;simp only[dkA,hc,ho] at e;simp(disch:=omega)only[go_sem,qIj,dkA,hc,ho,h2,e,hw'];repeat refine aiG ?_
 exact jTe { k with wr:=k.wr+1,ar:=k.ar.set i.toNat b } 0 ⟨rfl,rfl⟩ (by simp only[dkA,hc,ho]) rfl
def qOp:ECt where
 α:=Dk×Int
 β:=List UInt8×Int
 aS:=fun (k,i)=>[.t (dkA k),.t (.int .i64 i)]
 pre:=fun (k,i)=>k.off=false∧k.ar.length=4∧(i=0∨i=1)∧(k.ar.getD i.toNat []).length≤65536
 r:=fun (b,e)=> .tup [.t (.sl (b.map qA)),.t (.int .i64 e)]
 R:=fun (k,i) (b,e)=>b=k.ar.getD i.toNat []∧e=0
 inj:=by rintro⟨k,i⟩ ⟨k',i'⟩ e _;simp only[qBk,qM7,qVl] at e;obtain⟨rfl,rfl⟩:=e;rfl
theorem jDb {g:EF qOp}{k:Dk}{i:Int}(hp:k.off=false∧k.ar.length=4∧(i=0∨i=1)∧(k.ar.getD i.toNat []).length≤65536) : ∃ (b:List UInt8) (e:Int),(b=k.ar.getD i.toNat []∧e=0)∧qOp.fs g [.t (dkA k),.t (.int .i64 i)] []=some (.tup [.t (.sl (b.map qA)),.t (.int .i64 e)],[]):=by
 obtain⟨y,h1,h2⟩:=qOp.eq g (k,i) hp;exact⟨y.1,y.2,h1,h2⟩
theorem jLt {k:Dk}{i:Int}(b:List UInt8)(e:Int)(hR:b=k.ar.getD i.toNat []∧e=0)(hV:vv = .tup [.t (.sl (b.map qA)),.t (.int .i64 e)])(hO:oo=[]):qOp.K (k,i) vv oo:=⟨(b,e),hR,hV,hO⟩
theorem zK9 {g1}(h1:LkE tab 156 qI8 g1)(k:Dk)(i:Int)(hp:k.off=false∧k.ar.length=4∧(i=0∨i=1)∧(k.ar.getD i.toNat []).length≤65536) :
  qF7.1.wp tab gl (qE 0 [.t (dkA k),.t (.int .i64 i)]) (qE 0 []) (qV [(4,none),(5,none)] 0 (qOp.K (k,i))):=by
 obtain⟨ho,hl,hi,hz⟩:=hp;have e1:=jDc (g:=g1) (k:=k) (i:=i) hl;rw[show decide (0≤i∧i<4)=true by simp only[decide_eq_true_eq];omega] at e1;obtain⟨ar,wr,cut,tn,off⟩:=k;simp only at ho hl;subst ho
 match ar,hl with
 | [a0,a1,a2,a3],_=>
  simp only[dkA,mcn,qI] at e1;rcases hi with rfl | rfl
  ·have hz':a0.length≤65536:=hz;simp(disch:=omega)only[go_sem,qF7,dkA,h1,e1,mcn,qI];repeat refine aiG ?_
   exact jLt (k:=⟨[a0,a1,a2,a3],wr,cut,tn,false⟩) (i:=0) a0 0 ⟨rfl,rfl⟩ rfl rfl
  ·have hz':a1.length≤65536:=hz;simp(disch:=omega)only[go_sem,qF7,dkA,h1,e1,mcn,qI];repeat refine aiG ?_
   exact jLt (k:=⟨[a0,a1,a2,a3],wr,cut,tn,false⟩) (i:=1) a1 0 ⟨rfl,rfl⟩ rfl rfl
end Go.Eng
end
