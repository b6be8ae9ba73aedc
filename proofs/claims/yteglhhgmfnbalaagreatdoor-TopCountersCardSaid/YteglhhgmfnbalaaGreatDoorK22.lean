/- A part of an abstract machine, its walks, their tie. -/
import Derived.Test.YteglhhgmfnbalaaGreatDoorK21
set_option linter.all false
section
set_option maxHeartbeats 64000000
set_option maxRecDepth 20000
namespace Go.Eng
open List
variable (tab:Tab)(gl:Gl)
variable {vv:V}{oo:List Ob}
structure Pu where
 kd:Int
 ar:Int
 ht:Int
 po:List UInt8
 un:List UInt8
 deriving Inhabited
structure Sn where
 au:List UInt8
 sd:List UInt8
 da:List UInt8
 deriving Inhabited
structure Obj where
 p:Pu
 s:Sn
 h:Int
 deriving Inhabited
structure Ses where
 kd:Int
 no:List UInt8
 dg:List UInt8
 up:Int
 lo:Int
 cm:Int
 dl:Int
 av:Bool
 deriving Inhabited
structure Ix where
 n:Int
 kd:Int
 ar:Int
 sz:Int
 po:List UInt8
 au:List UInt8
 wr:Bool
 da:List UInt8
 deriving Inhabited
structure Lv where
 un:List UInt8
 us:Int
 deriving Inhabited
structure Lk where
 fa:Int
 mx:Int
 rc:Int
 si:Int
 cl:Int
 pe:Int
 deriving Inhabited
structure Sa where
 sd:List (List UInt8)
 au:List (List UInt8)
 en:List UInt8
 act:Int
 res:Int
 rst:Int
 clk:Int
 ord:Bool
 bk:List zD
 u:Int
 mc:Int
 ix:List Ix
 lk:Lk
 ks:List Lv
 deriving Inhabited
structure St where
 a:Sa
 on:Bool
 off:Bool
 bk:List zD
 u:Int
 clk:Int
 safe:Bool
 dr:Int
 ses:List Ses
 obs:List Obj
 rl:List Int
 wl:List Int
 deriving Inhabited
structure Az where
 s:Int
 no:List UInt8
 va:List UInt8
 deriving Inhabited
structure Rq where
 co:Int
 hs:List Int
 au:List Az
 ns:List Int
 bl:List (List UInt8)
 deriving Inhabited
structure Rs where
 e:Int
 ns:List Int
 bl:List (List UInt8)
 no:List (List UInt8)
 deriving Inhabited
structure Asr where
 kd:Int
 s0:Int
 s1:Int
 dg:List UInt8
 n:Int
 op:Int
 od:List UInt8
 nm:List UInt8
 rf:List UInt8
 br:List (List UInt8)
 deriving Inhabited
def iT (n:Int):T:= .int .i64 n
def puA (x:Pu):T:= .agg [.int .i64 x.kd,.int .i64 x.ar,.int .i64 x.ht,.sl (x.po.map qA),.sl (x.un.map qA)]
def snA (x:Sn):T:= .agg [.sl (x.au.map qA),.sl (x.sd.map qA),.sl (x.da.map qA)]
def qBy (x:Obj):T:= .agg [.int .i64 x.p.kd,.int .i64 x.p.ar,.int .i64 x.p.ht,.sl (x.p.po.map qA),.sl (x.p.un.map qA),.sl (x.s.au.map qA),.sl (x.s.sd.map qA),.sl (x.s.da.map qA),.int .i64 x.h]
def jS (x:Ses):T:= .agg [.int .i64 x.kd,.sl (x.no.map qA),.sl (x.dg.map qA),.int .i64 x.up,.int .i64 x.lo,.int .i64 x.cm,.int .i64 x.dl,.bool x.av]
def ixA (x:Ix):T:= .agg [.int .i64 x.n,.int .i64 x.kd,.int .i64 x.ar,.int .i64 x.sz,.sl (x.po.map qA),.sl (x.au.map qA),.bool x.wr,.sl (x.da.map qA)]
def lvA (x:Lv):T:= .agg [.sl (x.un.map qA),.int .i64 x.us]
def lkA (x:Lk):T:= .agg [.int .i64 x.fa,.int .i64 x.mx,.int .i64 x.rc,.int .i64 x.si,.int .i64 x.cl,.int .i64 x.pe]
def saA (x:Sa):T:= .agg [.sl (x.sd.map bsT),.sl (x.au.map bsT),.sl (x.en.map qA),.int .i64 x.act,.int .i64 x.res,.int .i64 x.rst,.int .i64 x.clk,.bool x.ord,.sl (x.bk.map vU),.int .i64 x.u,.int .i64 x.mc,.sl (x.ix.map ixA),
 .int .i64 x.lk.fa,.int .i64 x.lk.mx,.int .i64 x.lk.rc,.int .i64 x.lk.si,.int .i64 x.lk.cl,.int .i64 x.lk.pe,.sl (x.ks.map lvA)]
def stA (x:St):T:= .agg [.sl (x.a.sd.map bsT),.sl (x.a.au.map bsT),.sl (x.a.en.map qA),.int .i64 x.a.act,.int .i64 x.a.res,.int .i64 x.a.rst,.int .i64 x.a.clk,.bool x.a.ord,.sl (x.a.bk.map vU),.int .i64 x.a.u,.int .i64 x.a.mc,.sl (x.a.ix.map ixA),
 .int .i64 x.a.lk.fa,.int .i64 x.a.lk.mx,.int .i64 x.a.lk.rc,.int .i64 x.a.lk.si,.int .i64 x.a.lk.cl,.int .i64 x.a.lk.pe,.sl (x.a.ks.map lvA),
 .bool x.on,.bool x.off,.sl (x.bk.map vU),.int .i64 x.u,.int .i64 x.clk,.bool x.safe,.int .i64 x.dr,.sl (x.ses.map jS),.sl (x.obs.map qBy),.sl (x.rl.map iT),.sl (x.wl.map iT)]
def azA (x:Az):T:= .agg [.int .i64 x.s,.sl (x.no.map qA),.sl (x.va.map qA)]
def rqA (x:Rq):T:= .agg [.int .i64 x.co,.sl (x.hs.map iT),.sl (x.au.map azA),.sl (x.ns.map iT),.sl (x.bl.map bsT)]
def rsA (x:Rs):T:= .agg [.int .i64 x.e,.sl (x.ns.map iT),.sl (x.bl.map bsT),.sl (x.no.map bsT)]
def jTk (x:Asr):T:= .agg [.int .i64 x.kd,.int .i64 x.s0,.int .i64 x.s1,.sl (x.dg.map qA),.int .i64 x.n,.int .i64 x.op,.sl (x.od.map qA),.sl (x.nm.map qA),.sl (x.rf.map qA),.sl (x.br.map bsT)]
theorem qBa:(∀(a b:V)(l m:List V),(a::l=b::m)=(a=b/\l=m))/\(∀(a b:T)(l m:List T),(a::l=b::m)=(a=b/\l=m))/\(∀a b,(V.t a=V.t b)=(a=b))/\(∀k (a b:Int),(T.int k a=T.int k b)=(a=b))/\(∀a b,(T.bool a=T.bool b)=(a=b))/\
  (∀a b,(T.sl a=T.sl b)=(a=b))/\(∀a b,(T.agg a=T.agg b)=(a=b))/\(∀p:Prop,(p/\True)=p)/\(∀p:Prop,(True/\p)=p)/\(∀l m:List UInt8,(l.map qA=m.map qA)=(l=m))/\(∀l m:List (List UInt8),(l.map bsT=m.map bsT)=(l=m))/\(∀a b:UInt8,(qA a=qA b)=(a=b))/\
  (∀l m:List zD,(l.map vU=m.map vU)=(l=m))/\(∀l m:List Int,(l.map iT=m.map iT)=(l=m)):=by
 refine⟨sM,sM,sM,sM,sM,sM,sM,sM,sM,λ_ _=>jC,λ_ _=>qC0,λ_ _=>qQb,λl m=>propext ⟨qBv (λ_ _=>qV0),λh=>by rw[h]⟩,λl m=>propext ⟨qBv (λa b h=>by simpa [iT]using h),λh=>by rw[h]⟩⟩
abbrev EI {α:Type}(f:α->T):Prop:=(∀a b,(f a=f b)=(a=b))/\(∀l m:List α,(l.map f=m.map f)=(l=m))
theorem qAh {α:Type}{f:α->T}(h:∀a b,f a=f b->a=b):EI f:=⟨λa b=>propext ⟨h a b,λh=>by rw[h]⟩,λl m=>propext ⟨qBv h,λh=>by rw[h]⟩⟩
theorem jWk:EI puA:=qAh (by rintro⟨⟩ ⟨⟩ h;simp only[puA,qBa]at h;obtain⟨rfl,rfl,rfl,rfl,rfl⟩:=h;rfl)
theorem jW7:EI snA:=qAh (by rintro⟨⟩ ⟨⟩ h;simp only[snA,qBa]at h;obtain⟨rfl,rfl,rfl⟩:=h;rfl)
theorem zSs:EI qBy:=qAh (by rintro⟨⟨⟩,⟨⟩,_⟩ ⟨⟨⟩,⟨⟩,_⟩ h;simp only[qBy,qBa]at h;obtain⟨rfl,rfl,rfl,rfl,rfl,rfl,rfl,rfl,rfl⟩:=h;rfl)
theorem zMf:EI jS:=qAh (by rintro⟨⟩ ⟨⟩ h;simp only[jS,qBa]at h;obtain⟨rfl,rfl,rfl,rfl,rfl,rfl,rfl,rfl⟩:=h;rfl)
theorem zB3:EI ixA:=qAh (by rintro⟨⟩ ⟨⟩ h;simp only[ixA,qBa]at h;obtain⟨rfl,rfl,rfl,rfl,rfl,rfl,rfl,rfl⟩:=h;rfl)
theorem jGr:EI lvA:=qAh (by rintro⟨⟩ ⟨⟩ h;simp only[lvA,qBa]at h;obtain⟨rfl,rfl⟩:=h;rfl)
theorem jV6:EI lkA:=qAh (by rintro⟨⟩ ⟨⟩ h;simp only[lkA,qBa]at h;obtain⟨rfl,rfl,rfl,rfl,rfl,rfl⟩:=h;rfl)
theorem jKp:EI azA:=qAh (by rintro⟨⟩ ⟨⟩ h;simp only[azA,qBa]at h;obtain⟨rfl,rfl,rfl⟩:=h;rfl)
theorem jKm:EI jTk:=qAh (by rintro⟨⟩ ⟨⟩ h;simp only[jTk,qBa]at h;obtain⟨rfl,rfl,rfl,rfl,rfl,rfl,rfl,rfl,rfl,rfl⟩:=h;rfl)
theorem jH8:EI rqA:=qAh (by rintro⟨⟩ ⟨⟩ h;simp only[rqA,qBa,jKp]at h;obtain⟨rfl,rfl,rfl,rfl,rfl⟩:=h;rfl)
theorem jWt:EI rsA:=qAh (by rintro⟨⟩ ⟨⟩ h;simp only[rsA,qBa]at h;obtain⟨rfl,rfl,rfl,rfl⟩:=h;rfl)
theorem jW2:EI saA:=qAh (by rintro⟨_,_,_,_,_,_,_,_,_,_,_,_,⟨⟩,_⟩ ⟨_,_,_,_,_,_,_,_,_,_,_,_,⟨⟩,_⟩ h;simp only[saA,qBa,zB3,jGr]at h;obtain⟨rfl,rfl,rfl,rfl,rfl,rfl,rfl,rfl,rfl,rfl,rfl,rfl,rfl,rfl,rfl,rfl,rfl,rfl,rfl⟩:=h;rfl)
theorem jI4:EI stA:=qAh (by rintro⟨⟨_,_,_,_,_,_,_,_,_,_,_,_,⟨⟩,_⟩,_,_,_,_,_,_,_,_,_,_,_⟩ ⟨⟨_,_,_,_,_,_,_,_,_,_,_,_,⟨⟩,_⟩,_,_,_,_,_,_,_,_,_,_,_⟩ h;simp only[stA,qBa,zB3,jGr,zMf,zSs]at h;obtain⟨rfl,rfl,rfl,rfl,rfl,rfl,rfl,rfl,rfl,rfl,rfl,rfl,rfl,rfl,rfl,rfl,rfl,rfl,rfl,rfl,rfl,rfl,rfl,rfl,rfl,rfl,rfl,rfl,rfl,rfl⟩:=h;rfl)
theorem qL2:EI puA/\EI snA/\EI qBy/\EI jS/\EI ixA/\EI lvA/\EI lkA/\EI azA/\EI jTk/\EI rqA/\EI rsA/\EI saA/\EI stA:=⟨jWk,jW7,zSs,zMf,zB3,jGr,jV6,jKp,jKm,jH8,jWt,jW2,jI4⟩
def Pu.Ok (p:Pu):Prop:=(0<=p.kd/\p.kd<=3)/\(0<=p.ar/\p.ar<=7)/\(0<=p.ht/\p.ht<=3)/\p.po.length<=32/\p.un.length<=32
def Sn.Ok (s:Sn):Prop:=s.au.length<=32/\s.sd.length<=32/\s.da.length<=128
def Obj.Ok (x:Obj):Prop:=x.p.Ok/\x.s.Ok/\(0<=x.h/\x.h<=2)
def Ses.Ok (x:Ses):Prop:=(0<=x.kd/\x.kd<=3)/\x.no.length<=32/\x.dg.length<=32/\(0<=x.lo/\x.lo<=31)/\(0<=x.dl/\x.dl<=1100000000000000)
def Ix.Ok (x:Ix):Prop:=(0<=x.n/\x.n<=255)/\(0<=x.kd/\x.kd<=4)/\(0<=x.ar/\x.ar<=127)/\(0<=x.sz/\x.sz<=128)/\x.po.length<=32/\x.au.length<=32/\x.da.length<=128/\(x.kd=3->x.da.length=8)
def Lv.Ok (x:Lv):Prop:=x.un.length<=32/\0<=x.us/\x.us<=8
def Lk.Ok (x:Lk):Prop:=(0<=x.fa/\x.fa<=100)/\(0<=x.mx/\x.mx<=100)/\(0<=x.rc/\x.rc<=1048576)/\(0<=x.si/\x.si<=1100000000000000)/\(0<=x.cl/\x.cl<=1100000000000000)/\(0<=x.pe/\x.pe<=1048576)
def BkS (act:Int)(bk:List zD):Prop:=bk=[]\/(1<=act/\act<=3)/\ShA act bk
theorem BkS.rv {act:Int}{bk:List zD}(h:BkS act bk):RV bk:=by
 rcases h with rfl|⟨_,h⟩
 .exact⟨.nil,sM⟩
 .exact h.rv
structure Sa.Ok (s:Sa):Prop where
 sd:s.sd.length=3/\∀x∈s.sd,x.length<=32
 au:s.au.length=4/\∀x∈s.au,x.length<=32
 en:s.en.length=32
 act:0<=s.act/\s.act<=3
 res:0<=s.res
 rst:0<=s.rst
 clk:0<=s.clk/\s.clk<=1099511627776
 bk:BkS s.act s.bk
 u:0<=s.u
 mc:0<=s.mc/\s.mc<=1099511627776
 ix:s.ix.length<=6/\∀x∈s.ix,x.Ok
 lk:s.lk.Ok
 ks:s.ks.length<=8/\∀x∈s.ks,x.Ok
structure St.Ok (s:St):Prop where
 a:s.a.Ok
 bk:BkS s.a.act s.bk
 u:0<=s.u
 clk:0<=s.clk/\s.clk<=1099511627776
 dr:0<=s.dr
 ses:s.ses.length=3/\∀x∈s.ses,x.Ok
 obs:s.obs.length=3/\∀x∈s.obs,x.Ok
def St.cn (s:St)(m:Int):Prop:=s.a.res<=m/\s.a.rst<=m/\s.a.u<=m/\s.u<=m/\s.dr<=m/\(s.rl.length:Int)<=m/\(s.wl.length:Int)<=m
def St.up (k:Int)(s t:St):Prop:=∀m,s.cn m->t.cn (m+k)
theorem St.up.trans {k l:Int}{s t v:St}(h:s.up k t)(g:t.up l v):s.up (k+l) v:=λm hm=>by rw[<-Int.add_assoc];exact g _ (h m hm)
theorem St.cn.le {s:St}{m n:Int}(h:s.cn m)(e:m<=n):s.cn n:=by unfold St.cn at *;omega
theorem St.up.le {k l:Int}{s t:St}(h:s.up k t)(e:k<=l):s.up l t:=λm hm=>(h m hm).le oM
def zVt (p u:List UInt8):List UInt8:=blL (blL [3,0,0] p) u
def zLo (p u:List UInt8):List UInt8:=kX 6 [zVt p u]
abbrev L32 (p u:List UInt8):Prop:=p.length=32/\u.length=32
theorem qWj {p u:List UInt8}(h:L32 p u):(zVt p u).length=71:=by
 simp[zVt,jY,h.1,h.2]
theorem zId {p u:List UInt8}:(zLo p u).length=32:=qO
theorem yDy:qLz .and .i64 0 .i64 4=some (.int .i64 0):=rfl
theorem yDw:qLz .and .i64 0 .i64 1=some (.int .i64 0):=rfl
theorem zRl {t:Nat}{x:List UInt8}(h:x.length<=1000000):(zB t [x]).length<1000000000:=by
 simp only[zB,flatMap_cons,flatMap_nil,length_cons,length_append,length_nil,qBq];omega
theorem zWl {a b:UInt8}:qJu .or (qA a) (qA b)=some (qA (a ||| b)):=by
 change some (T.int .u8 (IntKind.u8.wrap ((BitVec.ofInt 8 (a.toNat:Int) ||| BitVec.ofInt 8 (b.toNat:Int)).toNat:Int)))=_;have e:∀x:UInt8,BitVec.ofInt 8 (x.toNat:Int)=x.toBitVec:=λx=>BitVec.eq_of_toNat_eq sM
 rw[e,e,<-UInt8.toBitVec_or,qP9];have:=(a ||| b).toNat_lt;unfold qA;rw[UInt8.toNat_toBitVec];congr 2;omega
def dfx (a b:List UInt8):Nat->UInt8
 |0=>0
 |k+1=>dfx a b k ||| (a.getD k 0 ^^^ b.getD k 0)
theorem zZa {x y:UInt8}:x ||| y=0↔x=0/\y=0:=by
 constructor
 .intro h;have h':x.toBitVec ||| y.toBitVec=0#8:=by
   have:=congrArg UInt8.toBitVec h;simpa using this
  have hx:x.toBitVec=0#8:=by
   apply BitVec.eq_of_getLsbD_eq;intro i hi;have:=congrArg (λv=>v.getLsbD i) h';simp at this⊢;exact this.1
  have hy:y.toBitVec=0#8:=by
   apply BitVec.eq_of_getLsbD_eq;intro i hi;have:=congrArg (λv=>v.getLsbD i) h';simp at this⊢;exact this.2
  exact⟨UInt8.toBitVec_inj.1 (by simpa using hx),UInt8.toBitVec_inj.1 (by simpa using hy)⟩
 .rintro⟨rfl,rfl⟩;rfl
theorem zVk {x y:UInt8}:x ^^^ y=0↔x=y:=by
 constructor
 .intro h;have:(x ^^^ y) ^^^ y=0 ^^^ y:=by rw[h]
  rwa [UInt8.xor_assoc,UInt8.xor_self,UInt8.xor_zero,UInt8.zero_xor]at this
 .rintro rfl;exact UInt8.xor_self
theorem zK6 {a b:List UInt8}:∀{n:Nat},dfx a b n=0↔∀k,k<n->a.getD k 0=b.getD k 0
 |0=>by simp[dfx]
 |n+1=>by
  rw[dfx,zZa,zVk,zK6 (n:=n)];constructor
  .rintro⟨h1,h2⟩ k hk;rcases Nat.lt_or_ge k n with h|h
   .exact h1 k h
   .rw[show k=n by omega];exact h2
  .intro h;exact⟨λk hk=>h k oM,h n oM⟩
theorem jLr {a b:List UInt8}(hl:a.length=b.length):dfx a b a.length=0↔a=b:=by
 rw[zK6];constructor
 .intro h;apply ext_getElem hl;intro k h1 h2;have:=h k h1;rwa [getD_eq_getElem?_getD,getD_eq_getElem?_getD,getElem?_eq_getElem h1,getElem?_eq_getElem h2]at this
 .rintro rfl k _;rfl
theorem zJc (a b:List UInt8)(h:a.length<1000000000/\b.length<1000000000) :
  qFq.1.wp tab gl (qD 0 [.t (.sl (a.map qA)),.t (.sl (b.map qA))]) (qD 0 []) (qZ [(4,none)] 0 (λr o=>r=.t (.bool (decide (a=b)))/\o=[])):=by
 by_cases hl:a.length=b.length
 .simp(disch:=omega)only[go_sem,qFq,hl];refine qB b.length (λk=>[(0,.t (.sl (a.map qA))),(1,.t (.sl (b.map qA))),(5,.t (qA (dfx a b k))),(13,.t (.int .i64 b.length)),(14,.t (.int .i64 k))]) (λ_=>[]) ?_ (λk hk=>?_)
  .refine qL.rd id ?_ ?_ rfl;all_goals simp(disch:=omega)only[go_sem,id]
   all_goals rfl
  .by_cases hlt:k<b.length
   .simp(disch:=omega)only[go_sem,hlt,hl,zWl];refine⟨rfl,qL.rd id ?_ ?_ rfl⟩;all_goals simp(disch:=omega)only[go_sem,id]
    all_goals rfl
   .have e:k=b.length:=oM;subst e;have hd:=jLr hl;rw[hl]at hd;simp(disch:=omega)only[go_sem];simp only[hd]
 .have e:decide (a=b)=false:=decide_eq_false (λh=>hl (by rw[h]));rw[e];simp(disch:=omega)only[go_sem,qFq,hl]
abbrev tmI (n:Int):Prop:=0<=n/\n<=1099511627776
theorem zL1 {s:Rd}{k:Nat}:0<=(qI s k).1/\(qI s k).1<9223372036854775808:=by
 unfold qI;split
 .simp
 .split
  .simp
  .split
   .simp
   .simp only;omega
def zHw:ECt where
 α:=Int×List UInt8×List UInt8
 β:=Bool
 aS:=λ(o,a,b)=>[.t (.int .i64 o),.t (.sl (a.map qA)),.t (.sl (b.map qA))]
 pre:=λ(o,a,b)=>a.length<=4096/\b.length<=4096
 r:=λr=>.t (.bool r)
 R:=λ(o,a,b) r=>True
theorem yC8 {g:EF zHw}{o:Int}{a b:List UInt8}(hp:a.length<=4096/\b.length<=4096):∃(r:Bool),(True)/\zHw.fs g [.t (.int .i64 o),.t (.sl (a.map qA)),.t (.sl (b.map qA))] []=some (.t (.bool r),[]):=zHw.eq g (o,a,b) hp
inductive As where
 |reg (s0 s1:Int) (d:List UInt8)
 |alt (bs:List (List UInt8))
def asT:As->T
 |.reg s0 s1 d=>.agg [.int .i64 1,.int .i64 s0,.int .i64 s1,.sl (d.map qA),.int .i64 0,.int .i64 0,.sl [],.sl [],.sl [],.sl []]
 |.alt bs=>.agg [.int .i64 8,.int .i64 0,.int .i64 0,.sl [],.int .i64 0,.int .i64 0,.sl [],.sl [],.sl [],.sl (bs.map bsT)]
def As.Ok:As->Prop
 |.reg s0 s1 d=>(0<=s0/\s0<=65535)/\(0<=s1/\s1<=65535)/\d.length=32
 |.alt bs=>(2<=bs.length/\bs.length<=8)/\∀b∈bs,b.length=32
theorem zHd {a b:As}(h:asT a=asT b):a=b:=by
 cases a<;>cases b<;>simp only[asT,T.agg.injEq,List.cons.injEq,T.int.injEq,T.sl.injEq,true_and,and_true,jC,qC0]at h
 .obtain⟨rfl,rfl,rfl⟩:=h;rfl
 .exact absurd h.1 (by decide)
 .exact absurd h.1 (by decide)
 .subst h;rfl
def zBy (d0:List UInt8):As->List (List UInt8)
 |.reg s0 s1 d=>[d0,qCz s0 s1,d]
 |.alt bs=>bs
def knd:As->UInt8
 |.reg .. => 1
 |.alt _=>8
def zHz (d0:List UInt8)(a:As):List UInt8:=kX 8 ([knd a]::zBy d0 a)
theorem qO8 {d0:List UInt8}{a:As}:(zHz d0 a).length=32:=qO
def z32:List UInt8:=List.replicate 32 0
theorem qCn:z32.length=32:=rfl
def zBq:Ct where
 α:=Int×Int×Int
 aS x:=[.t (.int .i64 x.1),.t (.int .i64 x.2.1),.t (.int .i64 x.2.2)]
 ins _:=[]
 pre _:=True
 r x:= .t (.bool (decide (x.2.1<=x.1)&&decide (x.1<=x.2.2)))
 outs _:=[]
 inj:=by
  rintro⟨a,b,c⟩ ⟨d,e,f⟩ h _;simp only[List.cons.injEq,V.t.injEq,T.int.injEq,true_and,and_true]at h;obtain⟨rfl,rfl,rfl⟩:=h;exact⟨rfl,rfl⟩
theorem qSi {n a b:Int}(h:a<=n/\n<=b):zBq.fs [.t (.int .i64 n),.t (.int .i64 a),.t (.int .i64 b)] []=some (.t (.bool true),[]):=by
 refine(zBq.eq (n,a,b) trivial).trans ?_;show some (V.t (T.bool (decide (a<=n)&&decide (n<=b))),[])=_;simp[h.1,h.2]
theorem qYi (n a b:Int) :
  qDi.1.wp tab gl (qD 0 [.t (.int .i64 n),.t (.int .i64 a),.t (.int .i64 b)]) (qD 0 []) (qZ [(6,none)] 0 (λr o=>r=.t (.bool (decide (a<=n)&&decide (n<=b)))/\o=[])):=by
 by_cases h:a<=n<;>by_cases k:n<=b;all_goals simp(disch:=omega)only[go_sem,qDi,h,k]
 all_goals simp[h,k]
def zBk:Ct where
 α:=Bool
 aS x:=[.t (.bool x)]
 ins _:=[]
 pre _:=True
 r x:= .t (.int .i64 (if x then 0 else 1))
 outs _:=[]
 inj:=by
  intro a b h _;simp only[List.cons.injEq,V.t.injEq,T.bool.injEq,and_true]at h;subst h;exact⟨rfl,rfl⟩
theorem qPk:zBk.fs [.t (.bool true)] []=some (.t (.int .i64 0),[]):=zBk.eq true trivial
theorem qS9 (x:Bool) :
  qBj.1.wp tab gl (qD 0 [.t (.bool x)]) (qD 0 []) (qZ [(2,none)] 0 (λr o=>r=.t (.int .i64 (if x then 0 else 1))/\o=[])):=by
 cases x;all_goals simp(disch:=omega)only[go_sem,qBj]
 all_goals rfl
def qR3:Ct where
 α:=As
 aS x:=[.t (asT x)]
 ins _:=[]
 pre x:=x.Ok
 r _:= .t (.int .i64 0)
 outs _:=[]
 inj:=λ_ _ _ _=>⟨rfl,rfl⟩
theorem zZe {s0 s1:Int}{d:List UInt8}(h:(As.reg s0 s1 d).Ok):qR3.fs [.t (.agg [.int .i64 1,.int .i64 s0,.int .i64 s1,.sl (d.map qA),.int .i64 0,.int .i64 0,.sl [],.sl [],.sl [],.sl []])] []=some (.t (.int .i64 0),[]):=qR3.eq (.reg s0 s1 d) h
theorem zZd {bs:List (List UInt8)}(h:(As.alt bs).Ok):qR3.fs [.t (.agg [.int .i64 8,.int .i64 0,.int .i64 0,.sl [],.int .i64 0,.int .i64 0,.sl [],.sl [],.sl [],.sl (bs.map bsT)])] []=some (.t (.int .i64 0),[]):=qR3.eq (.alt bs) h
theorem zRr {bs:List (List UInt8)}(h:∀b∈bs,b.length=32){k:Nat}(hk:k<bs.length):(bs.getD k []).length=32:=by
 rw[getD_eq_getElem?_getD,getElem?_eq_getElem hk];exact h _ (getElem_mem hk)
theorem qSc:∀{fs:List (List UInt8)}{t n:Nat},(∀x∈fs,x.length<=n)->(zB t fs).length<=1+(4+n)*fs.length:=by
 intro fs
 induction fs with
 |nil=>intro t n _;simp[zB]
 |cons x r ih=>
  intro t n h;have h1:=h x sM;have h2:=ih (t:=t) (λy hy=>h y (by simp[hy]));simp only[zB,length_cons,flatMap_cons,length_append,qBq]at h2⊢;rw[Nat.mul_add];omega
theorem jGa {d0:List UInt8}{a:As}(h0:d0.length=32)(ha:a.Ok):(zB 8 ([knd a]::zBy d0 a)).length<1000000000:=by
 have h:∀x∈[knd a]::zBy d0 a,x.length<=32:=by
  intro x hx;rcases mem_cons.1 hx with rfl|hx
  .exact Nat.le_of_ble_eq_true rfl
  .cases a with
   |reg s0 s1 d=>
    simp only[zBy,mem_cons,not_mem_nil,or_false]at hx;rcases hx with rfl|rfl|rfl
    .omega
    .simp[qCz,qN]
    .have:=ha.2.2;omega
   |alt bs=>have:=ha.2 x hx;omega
 have hl:([knd a]::zBy d0 a).length<=9:=by
  cases a with
  |reg s0 s1 d=>simp[zBy]
  |alt bs=>have:=ha.1.2;simp[zBy];omega
 have:=qSc (t:=8) h;omega
def zBn:Ct where
 α:=List UInt8×As
 aS x:=[.t (.sl (x.1.map qA)),.t (asT x.2)]
 ins _:=[]
 pre x:=x.1.length=32/\x.2.Ok
 r x:= .sl 0 0 32
 outs x:=[.live 1 (((zHz x.1 x.2).map qA).map V.t) true false]
 inj:=by
  rintro⟨a,b⟩ ⟨c,d⟩ h _;simp only[List.cons.injEq,V.t.injEq,T.sl.injEq,and_true,jC]at h;obtain⟨rfl,h⟩:=h;rw[zHd h];exact⟨rfl,rfl⟩
theorem jHb {d0:List UInt8}{a:As}(h0:d0.length=32)(ha:a.Ok):zBn.fs [.t (.sl (d0.map qA)),.t (asT a)] []=some (.sl 0 0 32,[.live 1 (((zHz d0 a).map qA).map V.t) true false]):=zBn.eq (d0,a) ⟨h0,ha⟩
theorem k1b:T.int .u8 (IntKind.u8.wrap 1)=qA 1:=rfl
theorem k8b:T.int .u8 (IntKind.u8.wrap 8)=qA 8:=rfl
def qWc:Ct where
 α:=Unit
 aS _:=[]
 ins _:=[]
 pre _:=True
 r _:= .sl 0 0 32
 outs _:=[.live 1 ((z32.map qA).map V.t) true false]
 inj:=λ_ _ _ _=>⟨rfl,rfl⟩
theorem zS3:qWc.fs [] []=some (.sl 0 0 32,[.live 1 ((z32.map qA).map V.t) true false]):=qWc.eq () trivial
theorem qZw:qEs.1.wp tab gl (qD 0 []) (qD 0 []) (xO [] [(0,none)] 0 (λr o=>r=.sl 0 0 32/\o=[.live 1 ((z32.map qA).map V.t) true false])):=by
 simp(disch:=omega)only[go_sem,qEs,z32]
theorem zGn:qHs.1.wp tab gl (qD 0 []) (qD 0 []) (xO [] [(0,none)] 0 (λr o=>r=.sl 0 0 32/\o=[.live 1 ((z32.map qA).map V.t) true false])):=by
 simp(disch:=omega)only[go_sem,qHs,z32]
def zBm:Ct where
 α:=As
 aS x:=[.t (.sl [asT x])]
 ins _:=[]
 pre x:=x.Ok
 r x:= .t (.sl ((zHz z32 x).map qA))
 outs _:=[]
 inj:=by
  intro a b h _;simp only[List.cons.injEq,V.t.injEq,T.sl.injEq,and_true]at h;rw[zHd h];exact⟨rfl,rfl⟩
theorem jHa {a:As}(h:a.Ok):zBm.fs [.t (.sl [asT a])] []=some (.t (.sl ((zHz z32 a).map qA)),[]):=zBm.eq a h
theorem zDs (h1:LkC tab 36 qWc)(h2:LkC tab 37 zBn)(a:As)(ha:a.Ok) :
  qGn.1.wp tab gl (qD 0 [.t (.sl [asT a])]) (qD 0 []) (qZ [(2,none)] 0 (λr o=>r=.t (.sl ((zHz z32 a).map qA))/\o=[])):=by
 have hE:=jHb qCn ha;have t1:List.take 32 z32=z32:=rfl;have t2:List.take 32 (zHz z32 a)=zHz z32 a:=take_of_length_le (by rw[qO8];exact Nat.le_refl _);have l1:=qO8 (d0:=z32) (a:=a);have l2:=qCn;cases a;all_goals simp only[asT]at *
 all_goals simp(disch:=omega)only[go_sem,qGn,h1,zS3]
 all_goals refine qJ 2 ?_
 all_goals simp(disch:=omega)only[go_sem,qF,h2,t1,t2,l1,l2,hE]
def zBp:Ct where
 α:=Int×Int
 aS x:=[.t (.agg [.int .i64 x.1,.int .i64 x.2])]
 ins _:=[]
 pre x:=(0<=x.1/\x.1<=65535)/\(0<=x.2/\x.2<=65535)
 r _:= .t (.bool true)
 outs _:=[]
 inj:=λ_ _ _ _=>⟨rfl,rfl⟩
theorem jHf {s0 s1:Int}(h0:0<=s0/\s0<=65535)(h1:0<=s1/\s1<=65535):zBp.fs [.t (.agg [.int .i64 s0,.int .i64 s1])] []=some (.t (.bool true),[]):=zBp.eq (s0,s1) ⟨h0,h1⟩
theorem qZz (s0 s1:Int)(h0:0<=s0/\s0<=65535)(h1:0<=s1/\s1<=65535):qEx.1.wp tab gl (qD 0 [.t (.agg [.int .i64 s0,.int .i64 s1])]) (qD 0 []) (qZ [(2,none)] 0 (λr o=>r=.t (.bool true)/\o=[])):=by
 have a1:=h0.1;have a2:=h0.2;have a3:=h1.1;have a4:=h1.2;simp(disch:=omega)only[go_sem,qEx,a1,a2,a3,a4]
def zBl:Ct where
 α:=List (List UInt8)
 aS x:=[.t (.sl (x.map bsT))]
 ins _:=[]
 pre x:=(As.alt x).Ok
 r _:= .t (.bool true)
 outs _:=[]
 inj:=λ_ _ _ _=>⟨rfl,rfl⟩
theorem jG9 {bs:List (List UInt8)}(h:(As.alt bs).Ok):zBl.fs [.t (.sl (bs.map bsT))] []=some (.t (.bool true),[]):=zBl.eq bs h
theorem qYj (bs:List (List UInt8))(ha:(As.alt bs).Ok) :
  qDj.1.wp tab gl (qD 0 [.t (.sl (bs.map bsT))]) (qD 0 []) (qZ [(2,none)] 0 (λr o=>r=.t (.bool true)/\o=[])):=by
 obtain⟨⟨a0,a2⟩,a1⟩:=ha;simp(disch:=omega)only[go_sem,qDj,a0,a2];refine qB bs.length (λk=>[(0,.t (.sl (bs.map bsT))),(3,.t (.int .i64 k))]) (λ_=>[]) ?_ (λk hk=>?_)
 .refine qL.rd id ?_ ?_ rfl;all_goals simp(disch:=omega)only[go_sem,id]
 .by_cases hlt:k<bs.length
  .have hb:=zRr a1 hlt;simp(disch:=omega)only[go_sem,hlt,hb];refine qL.rd id ?_ ?_ rfl;all_goals simp(disch:=omega)only[go_sem,id]
  .have e:k=bs.length:=oM;subst e;simp(disch:=omega)only[go_sem]
theorem zGl (h1:LkC tab 97 zBp)(h3:LkC tab 99 zBl)(a:As)(ha:a.Ok) :
  qD4.1.wp tab gl (qD 0 [.t (asT a)]) (qD 0 []) (qZ [(2,none)] 0 (λr o=>r=.t (.int .i64 0)/\o=[])):=by
 cases a with
 |reg s0 s1 d=>
  have l:=ha.2.2;simp(disch:=omega)only[go_sem,qD4,asT,h1,jHf ha.1 ha.2.1,l]
 |alt bs=>
  simp(disch:=omega)only[go_sem,qD4,asT,h3,jG9 ha]
def zBo:Ct where
 α:=List UInt8×As
 aS x:=[.t (.sl (x.1.map qA)),.t (asT x.2)]
 ins _:=[]
 pre x:=x.1.length=32/\x.2.Ok
 r x:= .sl 0 0 (zB 8 ([knd x.2]::zBy x.1 x.2)).length
 outs x:=[.live 1 (((zB 8 ([knd x.2]::zBy x.1 x.2)).map qA).map V.t) true false]
 inj:=by
  rintro⟨a,b⟩ ⟨c,d⟩ h _;simp only[List.cons.injEq,V.t.injEq,T.sl.injEq,and_true,jC]at h;obtain⟨rfl,h⟩:=h;rw[zHd h];exact⟨rfl,rfl⟩
theorem jHc {d0:List UInt8}{a:As}(h0:d0.length=32)(ha:a.Ok):zBo.fs [.t (.sl (d0.map qA)),.t (asT a)] []=some (.sl 0 0 (zB 8 ([knd a]::zBy d0 a)).length,[.live 1 (((zB 8 ([knd a]::zBy d0 a)).map qA).map V.t) true false]):=zBo.eq (d0,a) ⟨h0,ha⟩
theorem zGm (h1:LkC tab 34 yQ)(h2:LkC tab 55 qFv)(d0:List UInt8)(a:As)(h0:d0.length=32)(ha:a.Ok) :
  qD5.1.wp tab gl (qD 0 [.t (.sl (d0.map qA)),.t (asT a)]) (qD 0 []) (xO [] [(4,none)] 0 (λr o=>r=.sl 0 0 (zB 8 ([knd a]::zBy d0 a)).length/\o=[.live 1 (((zB 8 ([knd a]::zBy d0 a)).map qA).map V.t) true false])):=by
 have hF:=qU7 (t:=8) (fs:=[knd a]::zBy d0 a) ⟨oM,jGa h0 ha⟩;have hM:=jGa h0 ha;generalize zB 8 ([knd a]::zBy d0 a)=f at *;have tf:List.take f.length f=f:=take_length;cases a with
 |reg s0 s1 d=>
  have hu:=qLs (b:=[]) (n:=s0) (by decide);simp only[map_nil,length_nil,nil_append]at hu;have hv:=qLs (b:=beI 2 s0 2) (n:=s1) (by rw[qN];omega);rw[qN]at hv;have t2:List.take 2 (beI 2 s0 2)=beI 2 s0 2:=take_of_length_le (by rw[qN];exact Nat.le_refl _);have t4:List.take 4 (beI 2 s0 2++beI 2 s1 2)=beI 2 s0 2++beI 2 s1 2:=take_of_length_le (by rw[length_append,qN,qN];exact Nat.le_refl _);simp only[zBy,qCz,knd,mcn,qG]at hF;rw[show((8:Nat):Int)=8 from rfl]at hF;simp(disch:=omega)only[go_sem,qD5,asT,h1,hu,hv,qN,t2,t4,k1b,h2,hF,tf];all_goals rfl
 |alt bs=>
  have l:=ha.1;have t1:List.take (1+bs.length) (T.sl [qA 8]::List.map bsT bs)=T.sl [qA 8]::List.map bsT bs:=take_of_length_le soM;simp only[zBy,knd,mcn]at hF;rw[show((8:Nat):Int)=8 from rfl,qG]at hF;simp only[mcn]at hF;simp(disch:=omega)only[go_sem,qD5,asT,k8b,t1,h2,hF,tf];all_goals rfl
theorem zDt (h1:LkC tab 58 qR3)(h2:LkC tab 59 zBo)(h3:tab.look 54=some (zEh 32 jF).fs)(d0:List UInt8)(a:As)(h0:d0.length=32)(ha:a.Ok) :
  qCr.1.wp tab gl (qD 0 [.t (.sl (d0.map qA)),.t (asT a)]) (qD 0 []) (xO [] [(4,none)] 0 (λr o=>r=.sl 0 0 32/\o=[.live 1 (((zHz d0 a).map qA).map V.t) true false])):=by
 have hF:=jHc h0 ha;have hM:=jGa h0 ha;have hS:=jEh (n:=32) (f:=jF) hM;have hX:jF (zB 8 ([knd a]::zBy d0 a))=zHz d0 a:=rfl;rw[hX]at hS;generalize zB 8 ([knd a]::zBy d0 a)=f at *;have t1:List.take f.length f=f:=take_length;cases a with
 |reg s0 s1 d=>
  have hC:=zZe ha;generalize zHz d0 (.reg s0 s1 d)=x at *;simp only[asT]at *;simp(disch:=omega)only[go_sem,qCr,h1,hC,h2,hF,t1,h3,hS]
 |alt bs=>
  have hC:=zZd ha;generalize zHz d0 (.alt bs)=x at *;simp only[asT]at *;simp(disch:=omega)only[go_sem,qCr,h1,hC,h2,hF,t1,h3,hS]
theorem zR5:((1024:Nat):Int)=1024:=rfl
def snT (a s d:List UInt8):T:= .agg [.sl (a.map qA),.sl (s.map qA),.sl (d.map qA)]
theorem jI1 {a s d b t e:List UInt8}(h:snT a s d=snT b t e):a=b/\s=t/\d=e:=by
 simp only[snT,T.agg.injEq,List.cons.injEq,T.sl.injEq,true_and,and_true,jC]at h;exact h
def yDh:List UInt8:=[115,101,101,100]
def zCx (s d:List UInt8):List UInt8:=kX 13 [s,d]
theorem qIs {s d:List UInt8}:(zCx s d).length=32:=qO
theorem zRm {t:Nat}{x y:List UInt8}(hx:x.length<=1000000)(hy:y.length<=1000000):(zB t [x,y]).length<1000000000:=by
 simp only[zB,flatMap_cons,flatMap_nil,length_cons,length_append,length_nil,qBq];omega
theorem zXt {s d:List UInt8}(hs:s.length<=1000000)(hd:d.length<=1000000):yP.fs [.t (.int .i64 13),.t (.sl [.sl (s.map qA),.sl (d.map qA)])] []=some (.sl 0 0 32,[.live 1 (((zCx s d).map qA).map V.t) true false]):=yP.eq (13,[s,d]) ⟨by show 13<256;omega,zRm hs hd⟩
def zK0:Ct where
 α:=List UInt8×List UInt8×List UInt8
 aS x:=[.t (.int .i64 3),.t (.int .i64 0),.t (snT x.1 x.2.1 x.2.2)]
 ins _:=[]
 pre x:=x.2.1.length<=1000000/\x.2.2.length<=1000000
 r _:= .sl 0 0 32
 outs x:=[.live 1 (((zCx x.2.1 x.2.2).map qA).map V.t) true false]
 inj:=by
  rintro⟨a,b,c⟩ ⟨d,e,f⟩ h _;simp only[List.cons.injEq,V.t.injEq,true_and,and_true]at h;obtain⟨rfl,rfl,rfl⟩:=jI1 h;exact⟨rfl,rfl⟩
theorem jQp {a s d:List UInt8}(h:s.length<=1000000/\d.length<=1000000):zK0.fs [.t (.int .i64 3),.t (.int .i64 0),.t (.agg [.sl (a.map qA),.sl (s.map qA),.sl (d.map qA)])] []=some (.sl 0 0 32,[.live 1 (((zCx s d).map qA).map V.t) true false]):=zK0.eq (a,s,d) h
theorem zDv (h2:LkC tab 102 yP)(a s d:List UInt8)(h:s.length<=1000000/\d.length<=1000000) :
  qGt.1.wp tab gl (qD 0 [.t (.int .i64 3),.t (.int .i64 0),.t (snT a s d)]) (qD 0 []) (xO [] [(6,none)] 0 (λr o=>r=.sl 0 0 32/\o=[.live 1 (((zCx s d).map qA).map V.t) true false])):=by
 simp(disch:=omega)only[go_sem,qGt,snT,h2,zXt h.1 h.2]
def jCl:Ct where
 α:=Int
 aS x:=[.t (.int .i64 x)]
 ins _:=[]
 pre _:=True
 r x:= .tup [.t (.agg [.int .i64 0,.int .i64 0,.int .i64 0,.sl [],.sl []]),.t (.agg [.sl [],.sl [],.sl []]),.t (.int .i64 x)]
 outs _:=[]
 inj:=by
  intro a b h _;simp only[List.cons.injEq,V.t.injEq,T.int.injEq,true_and,and_true]at h;subst h;exact⟨rfl,rfl⟩
theorem zDu (e:Int):qGs.1.wp tab gl (qD 0 [.t (.int .i64 e)]) (qD 0 []) (qZ [(2,some (5,true)),(3,some (3,true)),(4,none)] 0 (λr o=>r=.tup [.t (.agg [.int .i64 0,.int .i64 0,.int .i64 0,.sl [],.sl []]),.t (.agg [.sl [],.sl [],.sl []]),.t (.int .i64 e)]/\o=[])):=by
 simp(disch:=omega)only[go_sem,qGs]
def qTw (sec:List UInt8):List UInt8:=drv sec yDh [] 32
theorem jFy {k:List UInt8}(h:k.length<=64):qTr.fs [.t (.sl (k.map qA)),.t (qMf [115,101,101,100]),.t (.sl []),.t (.int .i64 32)] []=some (.t (.sl ((qTw k).map qA)),[]):=zEl (l:=yDh) (c:=[]) (n:=32) ⟨h,by decide,by decide,oM,oM⟩
def u8I (n:Int):UInt8:=UInt8.ofNat (n%256).toNat
theorem u8w {n:Int}:T.int .u8 (IntKind.u8.wrap n)=qA (u8I n):=by
 unfold qA u8I;rw[qP9];congr 1;have h0:=Int.emod_nonneg n (b:=256) (by decide);have h1:=Int.emod_lt_of_pos n (b:=256) (by decide);rw[UInt8.toNat_ofNat'];omega
def qA9 (s:Sa):St:=⟨s,false,false,[],0,0,false,0,[default,default,default],[default,default,default],[],[]⟩
def qNg:ECt where
 α:=Sa
 β:=St
 aS:=λs=>[.t (saA s)]
 pre:=λs=>True
 r:=λr'=>.t (stA r')
 R:=λs r'=>r'=qA9 s
theorem jKy {g:EF qNg}{s:Sa}:qNg.fs g [.t (saA s)] []=some (.t (stA (qA9 s)),[]):=fnQ qNg s trivial
theorem jTs {s:Sa}(hV:vv=.t (stA (qA9 s)))(hO:oo=[]):qNg.K s vv oo:=⟨_,rfl,hV,hO⟩
def qSr (s:St):St := { s with a := { s.a with res:=s.a.res+1,rst:=0,ord:=false,bk:=[],u:=0 },on:=true,bk:=vL s.a.act,u:=0,clk:=s.a.clk,safe:=s.a.ord }
def jTd (s:St):St := { s with a := { s.a with rst:=s.a.rst+1,ord:=false,bk:=[],u:=0 },on:=true,bk:=zCi s.a.bk,u:=s.a.u,clk:=s.a.clk,safe:=s.a.ord }
def zG5 (s:St)(m:Int):St×Int:=
 if s.on=true\/s.off=true then(default,28) else if m≠0/\m≠1 then(default,1) else if m=1/\s.a.bk.length=0 then(default,16)
 else if m=0 then(qSr s,0) else(jTd s,0)
theorem zSn {act:Int}(ha:1<=act/\act<=3):∃b0 b1:zD,vL act=[b0,b1]/\qAg.fs [.t (.int .i64 act)] []=some (.agg [.sl 0 0 2,.t (.int .i64 0)],[.live 1 [.sl 1 0 b0.length,.sl 2 0 b1.length] true false,.live 1 ((b0.map bsT).map V.t) true false,.live 1 ((b1.map bsT).map V.t) true false]):=by
 obtain⟨b0,b1,e,_⟩:=ShA.new ha;refine⟨b0,b1,e,?_⟩;have h:qAg.fs [.t (.int .i64 act)] []=some (twR (vL act) 0,twO (vL act)):=qAg.eq act trivial;rw[e]at h;exact h
theorem zYx:qAg.fs [.t (.int .i64 0)] []=some (.agg [.nil,.t (.int .i64 0)],[]):=qAg.eq (0:Int) trivial
def qOr:ECt where
 α:=St×Int
 β:=St×Int
 aS:=λ(s,m)=>[.t (stA s),.t (.int .i64 m)]
 pre:=λ(s,m)=>s.a.Ok/\s.cn 1000000
 r:=λ(y,e)=>.tup [.t (stA y),.t (.int .i64 e)]
 R:=λ(s,m)(y,e)=>y=(zG5 s m).1/\e=(zG5 s m).2
theorem jP9 {g:EF qOr}{s:St}{m:Int}(hp:s.a.Ok/\s.cn 1000000):∃(y:St)(e:Int),(y=(zG5 s m).1/\e=(zG5 s m).2)/\qOr.fs g [.t (stA s),.t (.int .i64 m)] []=some (.tup [.t (stA y),.t (.int .i64 e)],[]):=by
 obtain⟨y,h1,h2⟩:=qOr.eq g (s,m) hp;exact⟨y.1,y.2,h1,h2⟩
theorem zIy {s:St}{m:Int}(y:St)(e:Int)(hR:y=(zG5 s m).1/\e=(zG5 s m).2)(hV:vv=.tup [.t (stA y),.t (.int .i64 e)])(hO:oo=[]):qOr.K (s,m) vv oo:=⟨(y,e),hR,hV,hO⟩
def jPc (s:St):List UInt8:=beI 8 s.a.res 8++beI 8 s.a.rst 8++beI 8 s.dr 8
def qY1 (s:St)(n:Int):List UInt8:=drv s.a.en [114,97,110,100,111,109] (jPc s) n.toNat
def qOk:ECt where
 α:=St×Int
 β:=St×List UInt8
 aS:=λ(s,n)=>[.t (stA s),.t (.int .i64 n)]
 pre:=λ(s,n)=>s.a.en.length=32/\(0<=s.dr/\s.dr<=1000000000)/\1<=n/\n<=1024
 r:=λ(y,b)=>.tup [.t (stA y),.t (.sl (b.map qA))]
 R:=λ(s,n)(y,b)=>y = { s with dr:=s.dr+1 }/\b=qY1 s n
theorem jPd {g:EF qOk}{s:St}{n:Int}(hp:s.a.en.length=32/\(0<=s.dr/\s.dr<=1000000000)/\1<=n/\n<=1024):∃(y:St)(b:List UInt8),(y = { s with dr:=s.dr+1 }/\b=qY1 s n)/\qOk.fs g [.t (stA s),.t (.int .i64 n)] []=some (.tup [.t (stA y),.t (.sl (b.map qA))],[]):=by
 obtain⟨y,h1,h2⟩:=qOk.eq g (s,n) hp;exact⟨y.1,y.2,h1,h2⟩
theorem jWr {s:St}{n:Int}(y:St)(b:List UInt8)(hR:y = { s with dr:=s.dr+1 }/\b=qY1 s n)(hV:vv=.tup [.t (stA y),.t (.sl (b.map qA))])(hO:oo=[]):qOk.K (s,n) vv oo:=⟨(y,b),hR,hV,hO⟩
def ixP:List Ix->Int->Nat->Int
 |[],_,_ => -1
 |x::r,h,k=>if h=256+x.n then(k:Int) else ixP r h (k+1)
theorem qX {α:Type}{l:List α}{k:Nat}(h:k<l.length):∃x,l[k]?=some x/\x∈l/\l.drop k=x::l.drop (k+1):=⟨l[k],getElem?_eq_getElem h,getElem_mem h,drop_eq_getElem_cons h⟩
structure Sl2 where
 a:Int
 b:Int
 deriving Inhabited
structure Att where
 key:List UInt8
 no:List UInt8
 res:Int
 rst:Int
 clk:Int
 safe:Bool
 u:Int
 s0:Int
 s1:Int
 dg:List UInt8
 deriving Inhabited
structure Rr where
 bk:List zD
 u:Int
 deriving Inhabited
def jI0 (x:Sl2):T:= .agg [.int .i64 x.a,.int .i64 x.b]
def jTl (x:Att):T:= .agg [.sl (x.key.map qA),.sl (x.no.map qA),.int .i64 x.res,.int .i64 x.rst,.int .i64 x.clk,.bool x.safe,.int .i64 x.u,.int .i64 x.s0,.int .i64 x.s1,.sl (x.dg.map qA)]
def rrA (x:Rr):T:= .agg [.sl (x.bk.map vU),.int .i64 x.u]
theorem jP8:EI jI0:=qAh (by rintro⟨⟩ ⟨⟩ h;simp only[jI0,qBa]at h;obtain⟨rfl,rfl⟩:=h;rfl)
theorem jKo:EI jTl:=qAh (by rintro⟨⟩ ⟨⟩ h;simp only[jTl,qBa]at h;obtain⟨rfl,rfl,rfl,rfl,rfl,rfl,rfl,rfl,rfl,rfl⟩:=h;rfl)
theorem jWs:EI rrA:=qAh (by rintro⟨⟩ ⟨⟩ h;simp only[rrA,qBa]at h;obtain⟨rfl,rfl⟩:=h;rfl)
theorem yEh:EI jI0/\EI jTl/\EI rrA:=⟨jP8,jKo,jWs⟩
def Asr.B (a:Asr):Prop:=a.dg.length<=4000/\a.od.length<=4000/\a.nm.length<=4000/\a.rf.length<=4000/\a.br.length<=8/\∀x∈a.br,x.length<=4000
def Rq.B (q:Rq):Prop:=q.hs.length<=8/\q.au.length<=8/\q.ns.length<=8/\q.bl.length<=8/\(∀x∈q.bl,x.length<=4000)/\∀a∈q.au,a.no.length<=4000/\a.va.length<=4000
def jTb:List (Int×Int×Int×Int):=[(-2,0,0,0),(0,0,1,0),(0,0,1,0),(-2,0,0,0),(0,0,0,0),(0,0,2,0),(0,0,1,2),(0,0,1,1),(0,0,1,0),
 (1,1,3,3),(1,1,3,3),(1,1,0,2),(0,0,1,0),(1,1,0,0),(1,1,0,1),(1,1,2,1),(0,0,1,0),(0,0,6,-1),(1,1,2,1),(0,0,1,3),(0,0,1,0),
 (1,1,4,2),(1,1,1,0),(2,1,1,1),(2,1,2,0),(2,1,0,0),(2,1,0,1),(2,1,0,1),(2,1,0,0),(2,1,0,0),(1,1,0,1),(1,1,0,0),(1,1,0,0),(1,1,3,0)]
def qMe (c:Int):Int×Int×Int×Int:=if c<0\/34<=c then(-2,0,0,0) else jTb.getD c.toNat (-2,0,0,0)
structure Rq.Ok (q:Rq):Prop where
 co:(0<=q.co/\q.co<34)/\(qMe q.co).1 ≠ -2
 hs:(q.hs.length:Int)=(qMe q.co).1/\∀x∈q.hs,0<=x/\x<=65535
 au:(q.au.length:Int)=(qMe q.co).2.1/\∀a∈q.au,tmI a.s/\a.no.length<=128/\a.va.length<=128
 ns:(q.ns.length:Int)=(qMe q.co).2.2.1/\∀x∈q.ns,tmI x
 bl:((q.bl.length:Int)=(qMe q.co).2.2.2\/(qMe q.co).2.2.2 = -1/\q.bl.length<=8)/\∀x∈q.bl,x.length<=1024
def Rq.h0 (q:Rq):Int:=q.hs.getD 0 0
def Rq.h1 (q:Rq):Int:=q.hs.getD 1 0
def St.Go (k:Int)(s t:St):Prop:=t.Ok/\s.up k t
def qDq:Ses:=⟨0,[],[],0,0,0,0,false⟩
def jEf (s:St)(h:Int):Int:=if h<768\/3<=h-768 then -1 else if(s.ses.getD (h-768).toNat qDq).kd=0 then -1 else h-768
def qIa:ECt where
 α:=St×Int×Ses
 β:=St
 aS:=λ(s,k,x)=>[.t (stA s),.t (.int .i64 k),.t (jS x)]
 pre:=λ(s,k,x)=>s.ses.length=3/\0<=k/\k<=2
 r:=λr'=>.t (stA r')
 R:=λ(s,k,x) r'=>r' = { s with ses:=s.ses.set k.toNat x }
theorem zS2 {g:EF qIa}{s:St}{k:Int}{x:Ses}(hp:s.ses.length=3/\0<=k/\k<=2):qIa.fs g [.t (stA s),.t (.int .i64 k),.t (jS x)] []=some (.t (stA ({ s with ses:=s.ses.set k.toNat x })),[]):=fnQ qIa (s,k,x) hp
theorem jWj {s:St}{k:Int}{x:Ses}(hV:vv=.t (stA ({ s with ses:=s.ses.set k.toNat x })))(hO:oo=[]):qIa.K (s,k,x) vv oo:=⟨_,rfl,hV,hO⟩
structure Dk where
 ar:List (List UInt8)
 wr:Int
 cut:Int
 tn:Int
 off:Bool
 deriving Inhabited
structure Dv where
 k:Dk
 s:St
 on:Bool
 nx:Int
 deriving Inhabited
structure Fo where
 nm:List UInt8
 va:List UInt8
 po:List UInt8
 pr:Bool
 deriving Inhabited
inductive Av where
 |reg (s0 s1:Int) (d:List UInt8)
 |loc (n:Int)
 |cmd (n:Int)
 |idx (n op:Int) (od nm:List UInt8)
 |aut
 |alt (bs:List (List UInt8))
 |apr (nm rf:List UInt8)
 deriving Inhabited
def dkA (x:Dk):T:= .agg [.sl (x.ar.map bsT),.int .i64 x.wr,.int .i64 x.cut,.int .i64 x.tn,.bool x.off]
def dvA (d:Dv):T:= .agg [.sl (d.k.ar.map bsT),.int .i64 d.k.wr,.int .i64 d.k.cut,.int .i64 d.k.tn,.bool d.k.off,
 .sl (d.s.a.sd.map bsT),.sl (d.s.a.au.map bsT),.sl (d.s.a.en.map qA),.int .i64 d.s.a.act,.int .i64 d.s.a.res,.int .i64 d.s.a.rst,.int .i64 d.s.a.clk,.bool d.s.a.ord,.sl (d.s.a.bk.map vU),.int .i64 d.s.a.u,.int .i64 d.s.a.mc,.sl (d.s.a.ix.map ixA),
 .int .i64 d.s.a.lk.fa,.int .i64 d.s.a.lk.mx,.int .i64 d.s.a.lk.rc,.int .i64 d.s.a.lk.si,.int .i64 d.s.a.lk.cl,.int .i64 d.s.a.lk.pe,.sl (d.s.a.ks.map lvA),
 .bool d.s.on,.bool d.s.off,.sl (d.s.bk.map vU),.int .i64 d.s.u,.int .i64 d.s.clk,.bool d.s.safe,.int .i64 d.s.dr,.sl (d.s.ses.map jS),.sl (d.s.obs.map qBy),.sl (d.s.rl.map iT),.sl (d.s.wl.map iT),.bool d.on,.int .i64 d.nx]
def foA (x:Fo):T:= .agg [.sl (x.nm.map qA),.sl (x.va.map qA),.sl (x.po.map qA),.bool x.pr]
def avL (k s0 s1:Int)(d:List UInt8)(n op:Int)(od nm rf:List UInt8)(br:List (List UInt8)):T:= .agg [.int .i64 k,.int .i64 s0,.int .i64 s1,.sl (d.map qA),.int .i64 n,.int .i64 op,.sl (od.map qA),.sl (nm.map qA),.sl (rf.map qA),.sl (br.map bsT)]
def avA:Av->T
 |.reg s0 s1 d=>avL 1 s0 s1 d 0 0 [] [] [] []
 |.loc n=>avL 2 0 0 [] n 0 [] [] [] []
 |.cmd n=>avL 3 0 0 [] n 0 [] [] [] []
 |.idx n op od nm=>avL 4 0 0 [] n op od nm [] []
 |.aut=>avL 7 0 0 [] 0 0 [] [] [] []
 |.alt bs=>avL 8 0 0 [] 0 0 [] [] [] bs
 |.apr nm rf=>avL 9 0 0 [] 0 0 [] nm rf []
theorem jLt:EI dkA:=qAh (by rintro⟨⟩ ⟨⟩ h;simp only[dkA,qBa]at h;obtain⟨rfl,rfl,rfl,rfl,rfl⟩:=h;rfl)
theorem jUj:EI foA:=qAh (by rintro⟨⟩ ⟨⟩ h;simp only[foA,qBa]at h;obtain⟨rfl,rfl,rfl,rfl⟩:=h;rfl)
theorem jUh:EI dvA:=qAh (by
 rintro⟨⟨⟩,s,_,_⟩ ⟨⟨⟩,t,_,_⟩ h;have hs:stA s=stA t:=by
  simp only[dvA,qBa]at h;obtain⟨_,_,_,_,_,h⟩:=h;simp only[stA,qBa];simp only[h,and_self]
 obtain rfl:=(jI4.1 s t).mp hs;simp only[dvA,qBa]at h;obtain⟨rfl,rfl,rfl,rfl,rfl,h⟩:=h;obtain⟨rfl,rfl⟩:=h;rfl)
theorem jTm:EI avA:=qAh (by
 intro a b h;cases a<;>cases b<;>simp only[avA,avL,qBa]at h;all_goals first|rfl|(obtain⟨rfl,rfl,rfl,rfl⟩:=h;rfl)|(obtain⟨rfl,rfl,rfl⟩:=h;rfl)|(obtain⟨rfl,rfl⟩:=h;rfl)|(subst h;rfl)|exact absurd h.1 (by decide)|(exfalso;revert h;simp))
theorem qT4:EI dkA/\EI dvA/\EI foA/\EI avA:=⟨jLt,jUh,jUj,jTm⟩
def Av.Ok:Av->Prop
 |.reg s0 s1 d=>(0<=s0/\s0<=65535)/\(0<=s1/\s1<=65535)/\d.length=32
 |.loc n=>1<=n/\n<=31
 |.cmd n=>1<=n/\n<=255
 |.idx _ op od nm=>(0<=op/\op<=3)/\od.length<=128/\nm.length=32
 |.aut=>True
 |.alt bs=>(2<=bs.length/\bs.length<=8)/\∀b∈bs,b.length=32
 |.apr nm rf=>nm.length=32/\rf.length<=128
def zH3 (d0:List UInt8):Av->List (List UInt8)
 |.reg s0 s1 d=>[d0,qCz s0 s1,d]
 |.loc n=>[d0,[u8I n]]
 |.cmd n=>[d0,[u8I n]]
 |.idx _ op od nm=>[d0,[u8I op],od,nm]
 |.aut=>[d0]
 |.alt bs=>bs
 |.apr nm rf=>[nm,rf]
def jDj:Av->UInt8
 |.reg .. => 1
 |.loc _=>2
 |.cmd _=>3
 |.idx .. => 4
 |.aut=>7
 |.alt _=>8
 |.apr .. => 9
def zVu (d0:List UInt8)(a:Av):List UInt8:=kX 8 ([jDj a]::zH3 d0 a)
theorem qO9 {d0:List UInt8}{a:Av}:(zVu d0 a).length=32:=qO
theorem jL9 {d0:List UInt8}{a:Av}(h0:d0.length=32)(ha:a.Ok):(zB 8 ([jDj a]::zH3 d0 a)).length<1000000000:=by
 have h:∀x∈[jDj a]::zH3 d0 a,x.length<=128:=by
  intro x hx;rcases mem_cons.1 hx with rfl|hx
  .exact Nat.le_of_ble_eq_true rfl
  .cases a<;>simp only[zH3,mem_cons,not_mem_nil,or_false]at hx<;>simp only[Av.Ok]at ha
   case alt bs=>have:=ha.2 x hx;omega
   all_goals(rcases hx with rfl|rfl|rfl|rfl)<;>first|omega|(simp[qCz,qN];done)|(simp;done)|skip
   all_goals simp_all
 have hl:([jDj a]::zH3 d0 a).length<=9:=by
  cases a<;>simp only[zH3,length_cons,length_nil]<;>simp only[Av.Ok]at ha<;>omega
 have:=qSc (t:=8) h;omega
def Obj.Se (x:Obj):Prop:=(x=default\/(x.p.kd=3/\x.p.ar=0/\x.p.ht=0/\x.p.po.length=32/\x.p.un.length=32))/\x.s.au.length<=32/\x.s.da.length<=128
def cnI (w:Bool)(d:List UInt8):Ix:=⟨1,2,48,8,[],[],w,d⟩
def Ses.Tp (x:Ses):Prop:=x.dg.length<=32/\x.no.length<=16/\x.dl=0/\(x.kd=0\/(x.dg.length=32/\(x.kd=2\/x.kd=3)/\(0<=x.lo/\x.lo<=31)/\(x.cm=0\/x.cm=13)))
structure Sa.Tp (s:Sa):Prop where
 sd:s.sd.length=3/\∀x∈s.sd,x.length=32
 au:s.au=[[],[],[],[]]
 en:s.en.length=32
 act:s.act=2
 res:0<=s.res/\s.res<=1000
 rst:s.rst=0
 clk:s.clk=0
 bk:s.bk=[]/\s.u=0
 mc:0<=s.mc/\s.mc<=1000
 ix:s.ix=[]\/∃w d,s.ix=[cnI w d]/\d.length=8
 lk:s.lk=⟨0,5,100,0,0,1000⟩
 ks:s.ks=[]
structure St.Tp (s:St):Prop where
 a:s.a.Tp
 on:s.on=true
 off:s.off=false
 clk:s.clk=0
 rl:s.rl=[]
 wl:s.wl=[]
 bk:ShA 2 s.bk
 u:0<=s.u/\s.u<=1000
 dr:0<=s.dr/\s.dr<=1000
 ses:s.ses.length=3/\∀x∈s.ses,x.Tp
 obs:s.obs.length=3/\∀x∈s.obs,x.Se
def qNj:ECt where
 α:=Int
 β:=Dk
 aS:=λn=>[.t (.int .i64 n)]
 pre:=λn=>n=4
 r:=λr'=>.t (dkA r')
 R:=λn r'=>r'=⟨[[],[],[],[]],0,0,0,false⟩
theorem jLj {g:EF qNj}{n:Int}(hp:n=4):qNj.fs g [.t (.int .i64 n)] []=some (.t (dkA (⟨[[],[],[],[]],0,0,0,false⟩)),[]):=fnQ qNj n hp
theorem jT6 {n:Int}(hV:vv=.t (dkA (⟨[[],[],[],[]],0,0,0,false⟩)))(hO:oo=[]):qNj.K n vv oo:=⟨_,rfl,hV,hO⟩
theorem zOt  (n:Int)(hp:n=4) :
  qM2.1.wp tab gl (qD 0 [.t (.int .i64 n)]) (qD 0 []) (qZ [(2,(some (5,true)))] 0 (qNj.K n)):=by
 subst hp;have f:(if(64:Int)<if(0:Int)>4 then(0:Int) else 4 then(64:Int) else if(0:Int)>4 then(0:Int) else 4).toNat=4:=rfl;simp(disch:=omega)only[go_sem,qM2];try rw[f]
 try simp(disch:=omega)only[go_sem,replicate_succ,replicate_zero]
 exact jT6 rfl rfl
def qNm:ECt where
 α:=Dk
 β:=Dk
 aS:=λk=>[.t (dkA k)]
 pre:=λk=>True
 r:=λr'=>.t (dkA r')
 R:=λk r'=>r' = { k with off:=true }
 inj:=by rintro k k' e _;simp only[qBa,qL2,qT4]at e;obtain rfl:=e;rfl
theorem jLm {g:EF qNm}{k:Dk}:qNm.fs g [.t (dkA k)] []=some (.t (dkA ({ k with off:=true })),[]):=fnQ qNm k trivial
theorem zW3 {k:Dk}(hV:vv=.t (dkA ({ k with off:=true })))(hO:oo=[]):qNm.K k vv oo:=⟨_,rfl,hV,hO⟩
theorem zI3  (k:Dk) :
  qJd.1.wp tab gl (qD 0 [.t (dkA k)]) (qD 0 []) (qZ [(2,(some (5,true)))] 0 (qNm.K k)):=by
 simp(disch:=omega)only[go_sem,qJd,dkA];.repeat first|exact(zW3 rfl rfl)|refine⟨rfl,?_⟩
def qNl:ECt where
 α:=Dk
 β:=Dk
 aS:=λk=>[.t (dkA k)]
 pre:=λk=>True
 r:=λr'=>.t (dkA r')
 R:=λk r'=>r'=⟨k.ar,0,0,0,false⟩
 inj:=by rintro k k' e _;simp only[qBa,qL2,qT4]at e;obtain rfl:=e;rfl
theorem jLl {g:EF qNl}{k:Dk}:qNl.fs g [.t (dkA k)] []=some (.t (dkA (⟨k.ar,0,0,0,false⟩)),[]):=fnQ qNl k trivial
theorem zW2 {k:Dk}(hV:vv=.t (dkA (⟨k.ar,0,0,0,false⟩)))(hO:oo=[]):qNl.K k vv oo:=⟨_,rfl,hV,hO⟩
theorem qY7  (k:Dk) :
  qEk.1.wp tab gl (qD 0 [.t (dkA k)]) (qD 0 []) (qZ [(2,(some (5,true)))] 0 (qNl.K k)):=by
 simp(disch:=omega)only[go_sem,qEk,dkA];.repeat first|exact(zW2 rfl rfl)|refine⟨rfl,?_⟩
def okD (k:Dk):Prop:=k.off=false/\k.ar.length=4/\k.cut=0/\(0<=k.wr/\k.wr<=1000000)
def qH3:ECt where
 α:=Dk×Int
 β:=Bool
 aS:=λ(k,i)=>[.t (dkA k),.t (.int .i64 i)]
 pre:=λ(k,i)=>k.ar.length=4
 r:=λr'=>.t (.bool r')
 R:=λ(k,i) r'=>r'=decide (0<=i/\i<4)
 inj:=by rintro⟨k,i⟩ ⟨k',i'⟩ e _;simp only[qBa,qL2,qT4]at e;obtain⟨rfl,rfl⟩:=e;rfl
theorem jCo {g:EF qH3}{k:Dk}{i:Int}(hp:k.ar.length=4):qH3.fs g [.t (dkA k),.t (.int .i64 i)] []=some (.t (.bool (decide (0<=i/\i<4))),[]):=fnQ qH3 (k,i) hp
theorem jT7 {k:Dk}{i:Int}(hV:vv=.t (.bool (decide (0<=i/\i<4))))(hO:oo=[]):qH3.K (k,i) vv oo:=⟨_,rfl,hV,hO⟩
theorem zF7  (k:Dk)(i:Int)(hp:k.ar.length=4) :
  qBf.1.wp tab gl (qD 0 [.t (dkA k),.t (.int .i64 i)]) (qD 0 []) (qZ [(4,none)] 0 (qH3.K (k,i))):=by
 have key:∀r,r=decide (0<=i/\i<4)->qH3.K (k,i) (.t (.bool r)) []:=λr e=>jT7 (by rw[e]) rfl
 by_cases c1:i<0
 .simp(disch:=omega)only[go_sem,qBf,dkA,c1];refine key _ ?_;simp;omega
 by_cases c2:i<4
 .simp(disch:=omega)only[go_sem,qBf,dkA,c1,c2,hp];refine key _ ?_;simp;omega
 simp(disch:=omega)only[go_sem,qBf,dkA,c1,c2,hp];refine key _ ?_;simp;omega
def okX (k:Dk):Prop:=(k.off=false/\k.ar.length=4/\(0<=k.wr/\k.wr<=1000000))/\(k.wr+1=k.cut->(0<=k.tn/\k.tn<=255)/\(k.ar.getD 0 []).length<=65536/\(k.ar.getD 1 []).length<=65536)
theorem okD.x {k:Dk}(h:okD k):okX k:=⟨⟨h.1,h.2.1,h.2.2.2⟩,λe=>by have h1:=h.2.2.1;have h2:=h.2.2.2;omega⟩
def tnN (k:Dk)(b:List UInt8):Nat:=min k.tn.toNat b.length
def wrB (k:Dk)(i:Int)(b:List UInt8):List UInt8:=if k.wr+1=k.cut then b.take (tnN k b)++(k.ar.getD i.toNat []).drop (tnN k b) else b
def wrK (k:Dk)(i:Int)(b:List UInt8):Dk := { k with wr:=k.wr+1,off:=decide (k.wr+1=k.cut),ar:=k.ar.set i.toNat (wrB k i b) }
def wrF (k:Dk):Int:=if k.wr+1=k.cut then 29 else 0
def wr1 (old:List UInt8)(n:Nat)(b:List UInt8)(w:Bool):List UInt8:=b.take n++(if w=true then old.drop n else [])
def zEi:Ct where
 α:=List UInt8×Nat×List UInt8×Bool
 aS x:=[.t (.sl (x.1.map qA)),.t (.int .i64 x.2.1),.ref 0 0 0,.ref 1 0 0]
 ins x:=[.live 1 [.t (.sl (x.2.2.1.map qA))] true true,.live 1 [.t (.bool x.2.2.2)] true true]
 pre x:=(x.2.1<=x.2.2.1.length/\x.2.2.1.length<=100000)/\(x.2.2.2=true->x.1.length<=100000)
 r x:= .t (.sl ((wr1 x.1 x.2.1 x.2.2.1 x.2.2.2).map qA))
 outs x:=[.live 1 [.t (.sl (x.2.2.1.map qA))] true true,.live 1 [.t (.bool x.2.2.2)] true true]
 inj:=by
  rintro⟨a,n,b,w⟩ ⟨c,m,d,v⟩ h h2;simp only[List.cons.injEq,V.t.injEq,T.sl.injEq,T.int.injEq,T.bool.injEq,Ob.live.injEq,true_and,and_true,jC]at h h2;obtain⟨rfl,h⟩:=h;obtain rfl:n=m:=oM;obtain⟨rfl,rfl⟩:=h2;exact⟨rfl,rfl⟩
theorem jEo {a b:List UInt8}{n:Nat}{w:Bool}(h:(n<=b.length/\b.length<=100000)/\(w=true->a.length<=100000)):zEi.fs [.t (.sl (a.map qA)),.t (.int .i64 n),.ref 0 0 0,.ref 1 0 0] [.live 1 [.t (.sl (b.map qA))] true true,.live 1 [.t (.bool w)] true true]=some (.t (.sl ((wr1 a n b w).map qA)),[.live 1 [.t (.sl (b.map qA))] true true,.live 1 [.t (.bool w)] true true]):=zEi.eq (a,n,b,w) h
theorem qZu (a:List UInt8)(n:Nat)(b:List UInt8)(w:Bool)(h:(n<=b.length/\b.length<=100000)/\(w=true->a.length<=100000)):xD.1.wp tab gl (qD 0 [.t (.sl (a.map qA)),.t (.int .i64 n),.ref 0 0 0,.ref 1 0 0]) (qD 0 [.live 1 [.t (.sl (b.map qA))] true true,.live 1 [.t (.bool w)] true true]) (qZ [(6,none)] 2 (λr o=>r=.t (.sl ((wr1 a n b w).map qA))/\o=[.live 1 [.t (.sl (b.map qA))] true true,.live 1 [.t (.bool w)] true true])):=by
 obtain⟨⟨hn,hb⟩,ha⟩:=h;have ln:(b.take n).length=n:=by rw[length_take];omega
 have hw:wr1 a n b w=b.take n++(if w=true then a.drop n else []):=rfl;obtain⟨t,ht⟩:∃t,b.take n=t:=⟨_,rfl⟩;rw[ht]at ln hw;have t0:t.take n=t:=take_of_length_le oM;have ld:(a.drop n).length=a.length-n:=length_drop;obtain⟨u,hu⟩:∃u,a.drop n=u:=⟨_,rfl⟩;rw[hu]at ld hw;have t1:u.take (a.length-n)=u:=take_of_length_le oM;have t2:(t++u).take (n+u.length)=t++u:=take_of_length_le (by rw[length_append];omega);cases w
 .rw[if_neg (by decide),append_nil]at hw;rw[hw];simp(disch:=omega)only[go_sem,xD,ht,ln,t0];repeat refine aiG ?_
 .rw[if_pos rfl]at hw;have ha:=ha rfl;rw[hw];by_cases c:n<a.length
  .simp(disch:=omega)only[go_sem,xD,ht,ln,t0,t1,t2,hu,c];repeat refine aiG ?_
  .obtain rfl:u=[]:=length_eq_zero_iff.1 oM;rw[append_nil];simp(disch:=omega)only[go_sem,xD,ht,ln,t0,c];repeat refine aiG ?_
def zBf (n:Nat):Ct where
 α:=Dk×Int×List UInt8
 aS x:=[.t (dkA x.1),.t (.int .i64 x.2.1),.t (.sl (x.2.2.map qA)),.fn n [.ref 0 0 0,.ref 1 0 0]]
 ins x:=[.live 1 [.t (.sl (x.2.2.map qA))] true true,.live 1 [.t (.bool (decide (x.1.wr+1=x.1.cut)))] true true]
 pre x:=okX x.1/\(x.2.1=0\/x.2.1=1)/\x.2.2.length<=65536
 r x:= .tup [.t (dkA (wrK x.1 x.2.1 x.2.2)),.t (.int .i64 (wrF x.1))]
 outs x:=[.live 1 [.t (.sl (x.2.2.map qA))] true true,.live 1 [.t (.bool (decide (x.1.wr+1=x.1.cut)))] true true]
 inj:=by
  rintro⟨a,b,c⟩ ⟨d,e,f⟩ h h2;simp only[List.cons.injEq,V.t.injEq,T.sl.injEq,T.int.injEq,jLt,true_and,and_true,jC]at h;obtain⟨rfl,rfl,rfl⟩:=h;exact⟨rfl,rfl⟩
theorem jFx {n:Nat}{k:Dk}{i:Int}{b:List UInt8}(h:okX k/\(i=0\/i=1)/\b.length<=65536):(zBf n).fs [.t (dkA k),.t (.int .i64 i),.t (.sl (b.map qA)),.fn n [.ref 0 0 0,.ref 1 0 0]] [.live 1 [.t (.sl (b.map qA))] true true,.live 1 [.t (.bool (decide (k.wr+1=k.cut)))] true true]=some (.tup [.t (dkA (wrK k i b)),.t (.int .i64 (wrF k))],[.live 1 [.t (.sl (b.map qA))] true true,.live 1 [.t (.bool (decide (k.wr+1=k.cut)))] true true]):=(zBf n).eq (k,i,b) h
theorem zO1 (n:Nat){g1}(h1:LkE tab 120 qH3 g1)(hn:tab.look n=some zEi.fs)(k:Dk)(i:Int)(b:List UInt8)(h:okX k/\(i=0\/i=1)/\b.length<=65536):qEl.1.wp tab gl (qD 0 [.t (dkA k),.t (.int .i64 i),.t (.sl (b.map qA)),.fn n [.ref 0 0 0,.ref 1 0 0]]) (qD 0 [.live 1 [.t (.sl (b.map qA))] true true,.live 1 [.t (.bool (decide (k.wr+1=k.cut)))] true true]) (qZ [(8,some (5,true)),(9,none)] 2 (λr o=>r=.tup [.t (dkA (wrK k i b)),.t (.int .i64 (wrF k))]/\o=[.live 1 [.t (.sl (b.map qA))] true true,.live 1 [.t (.bool (decide (k.wr+1=k.cut)))] true true])):=by
 obtain⟨⟨⟨ho,hl,hw⟩,hc⟩,hi,hb⟩:=h;have e1:=jCo (g:=g1) (k:=k) (i:=i) hl;rw[show decide (0<=i/\i<4)=true by simp only[decide_eq_true_eq];omega]at e1;obtain⟨ar,wr,cut,tn,off⟩:=k;simp only at ho hl hc hw;subst ho
 match ar,hl with
 |[a0,a1,a2,a3],_=>
  simp only[dkA,mcn,qG]at e1;by_cases c:wr+1=cut
  .subst c;obtain⟨ht,l0,l1⟩:=hc rfl;have l0:a0.length<=65536:=l0;have l1:a1.length<=65536:=l1;obtain⟨t,rfl⟩:∃t:Nat,tn=(t:Int):=⟨tn.toNat,oM⟩;have hN:tnN ⟨[a0,a1,a2,a3],wr,wr+1,t,false⟩ b=min t b.length:=by unfold tnN;simp
   have ht0:¬ (0:Int)>(t:Int):=oM;have hm:(if(b.length:Int)<(t:Int) then(b.length:Int) else(t:Int))=((min t b.length:Nat):Int):=by split<;>omega
   have hF:wrF ⟨[a0,a1,a2,a3],wr,wr+1,t,false⟩=29:=if_pos rfl;have e:=λa=>@jEo a b (min t b.length) true
   have e0:=e a0 ⟨⟨oM,oM⟩,λ_=>oM⟩;have e2:=e a1 ⟨⟨oM,oM⟩,λ_=>oM⟩;clear e;rcases hi with rfl|rfl
   .have hK:wrK ⟨[a0,a1,a2,a3],wr,wr+1,t,false⟩ 0 b=⟨[wr1 a0 (min t b.length) b true,a1,a2,a3],wr+1,wr+1,t,true⟩:=by
     simp only[wrK,wrB,hN,decide_true,if_true,wr1];rfl
    rw[hK,hF];clear hK hF hN;generalize wr1 a0 (min t b.length) b true=y at *;generalize min t b.length=q at *;simp(maxSteps:=9^9)(disch:=try exact dS)only[go_sem,qEl,dkA,ht0,hm,h1,e1,mcn,qG];refine qJ 5 ?_;simp(maxSteps:=9^9)(disch:=try exact dS)only[go_sem,qF,dkA,ht0,hm,hn,e0,mcn,qG];repeat refine aiG ?_
   .have hK:wrK ⟨[a0,a1,a2,a3],wr,wr+1,t,false⟩ 1 b=⟨[a0,wr1 a1 (min t b.length) b true,a2,a3],wr+1,wr+1,t,true⟩:=by
     simp only[wrK,wrB,hN,decide_true,if_true,wr1];rfl
    rw[hK,hF];clear hK hF hN;generalize wr1 a1 (min t b.length) b true=y at *;generalize min t b.length=q at *;simp(maxSteps:=9^9)(disch:=try exact dS)only[go_sem,qEl,dkA,ht0,hm,h1,e1,mcn,qG];refine qJ 5 ?_;simp(maxSteps:=9^9)(disch:=try exact dS)only[go_sem,qF,dkA,ht0,hm,hn,e2,mcn,qG];repeat refine aiG ?_
  .have hd:decide (wr+1=cut)=false:=decide_eq_false c;have hF:wrF ⟨[a0,a1,a2,a3],wr,cut,tn,false⟩=0:=if_neg c;have e:∀a:List UInt8,zEi.fs [.t (.sl (a.map qA)),.t (.int .i64 b.length),.ref 0 0 0,.ref 1 0 0] [.live 1 [.t (.sl (b.map qA))] true true,.live 1 [.t (.bool false)] true true]=some (.t (.sl (b.map qA)),[.live 1 [.t (.sl (b.map qA))] true true,.live 1 [.t (.bool false)] true true]):=by
    intro a;rw[@jEo a b b.length false ⟨⟨Nat.le_refl _,oM⟩,λh=>by cases h⟩,wr1,if_neg (by decide),append_nil,take_length]
   simp only[hd];rcases hi with rfl|rfl;all_goals
    simp only[hF,wrK,wrB,hd,if_neg c];simp(maxSteps:=9^9)(disch:=try exact dS)only[go_sem,qEl,dkA,h1,e1,c,mcn,qG];refine qJ 5 ?_;simp(maxSteps:=9^9)(disch:=try exact dS)only[go_sem,qF,dkA,hn,e,mcn,qG];repeat refine aiG ?_
def qJ6:ECt where
 α:=Dk×Int×List UInt8
 β:=Dk×Int
 aS:=λ(k,i,b)=>[.t (dkA k),.t (.int .i64 i),.t (.sl (b.map qA))]
 pre:=λ(k,i,b)=>okX k/\(i=0\/i=1)/\b.length<=65536
 r:=λ(r,e)=>.tup [.t (dkA r),.t (.int .i64 e)]
 R:=λ(k,i,b)(r,e)=>r=wrK k i b/\e=wrF k
 inj:=by rintro⟨k,i,b⟩ ⟨k',i',b'⟩ e _;simp only[qBa,qL2,qT4]at e;obtain⟨rfl,rfl,rfl⟩:=e;rfl
theorem jLn {g:EF qJ6}{k:Dk}{i:Int}{b:List UInt8}(hp:okX k/\(i=0\/i=1)/\b.length<=65536):∃(r:Dk)(e:Int),(r=wrK k i b/\e=wrF k)/\qJ6.fs g [.t (dkA k),.t (.int .i64 i),.t (.sl (b.map qA))] []=some (.tup [.t (dkA r),.t (.int .i64 e)],[]):=by
 obtain⟨y,h1,h2⟩:=qJ6.eq g (k,i,b) hp;exact⟨y.1,y.2,h1,h2⟩
theorem jT8 {k:Dk}{i:Int}{b:List UInt8}(r:Dk)(e:Int)(hR:r=wrK k i b/\e=wrF k)(hV:vv=.tup [.t (dkA r),.t (.int .i64 e)])(hO:oo=[]):qJ6.K (k,i,b) vv oo:=⟨(r,e),hR,hV,hO⟩
theorem zF6 (h2:tab.look 103=some (zBf 104).fs)(k:Dk)(i:Int)(b:List UInt8)(hp:okX k/\(i=0\/i=1)/\b.length<=65536) :
  qD1.1.wp tab gl (qD 0 [.t (dkA k),.t (.int .i64 i),.t (.sl (b.map qA))]) (qD 0 []) (qZ [(6,(some (5,true))),(7,none)] 0 (qJ6.K (k,i,b))):=by
 have e:=jFx (n:=104) hp;have hr:dkA (wrK k i b)=.agg [.sl ((k.ar.set i.toNat (wrB k i b)).map bsT),.int .i64 (k.wr+1),.int .i64 k.cut,.int .i64 k.tn,.bool (decide (k.wr+1=k.cut))]:=rfl;obtain⟨⟨⟨ho,hl,hw⟩,hc⟩,hi,hb⟩:=hp;have hK:∀vv,vv=.tup [.t (dkA (wrK k i b)),.t (.int .i64 (wrF k))]->qJ6.K (k,i,b) vv []:=λvv h=>jT8 (wrK k i b) (wrF k) ⟨rfl,rfl⟩ h rfl
 rw[hr]at e hK;obtain⟨ar,wr,cut,tn,off⟩:=k;simp only at ho hw;subst ho;generalize wrF _=f at *;generalize wrB _ i b=y at *;generalize hd:decide (wr+1=cut)=w at *;by_cases c:wr+1=cut
 .obtain rfl:true=w:=by rw[<-hd,decide_eq_true c]
  clear hd;subst c;simp only[dkA]at e hK⊢;simp(disch:=omega)only[go_sem,qD1,dkA,h2,e];repeat refine aiG ?_
  exact hK _ rfl
 .obtain rfl:false=w:=by rw[<-hd,decide_eq_false c]
  clear hd;simp only[dkA]at e hK⊢;simp(disch:=omega)only[go_sem,qD1,dkA,h2,e,c];repeat refine aiG ?_
  exact hK _ rfl
def qNk:ECt where
 α:=Dk×Int
 β:=List UInt8×Int
 aS:=λ(k,i)=>[.t (dkA k),.t (.int .i64 i)]
 pre:=λ(k,i)=>k.off=false/\k.ar.length=4/\(i=0\/i=1)/\(k.ar.getD i.toNat []).length<=65536
 r:=λ(b,e)=>.tup [.t (.sl (b.map qA)),.t (.int .i64 e)]
 R:=λ(k,i)(b,e)=>b=k.ar.getD i.toNat []/\e=0
 inj:=by rintro⟨k,i⟩ ⟨k',i'⟩ e _;simp only[qBa,qL2,qT4]at e;obtain⟨rfl,rfl⟩:=e;rfl
theorem jCn {g:EF qNk}{k:Dk}{i:Int}(hp:k.off=false/\k.ar.length=4/\(i=0\/i=1)/\(k.ar.getD i.toNat []).length<=65536):∃(b:List UInt8)(e:Int),(b=k.ar.getD i.toNat []/\e=0)/\qNk.fs g [.t (dkA k),.t (.int .i64 i)] []=some (.tup [.t (.sl (b.map qA)),.t (.int .i64 e)],[]):=by
 obtain⟨y,h1,h2⟩:=qNk.eq g (k,i) hp;exact⟨y.1,y.2,h1,h2⟩
theorem jLk {k:Dk}{i:Int}(b:List UInt8)(e:Int)(hR:b=k.ar.getD i.toNat []/\e=0)(hV:vv=.tup [.t (.sl (b.map qA)),.t (.int .i64 e)])(hO:oo=[]):qNk.K (k,i) vv oo:=⟨(b,e),hR,hV,hO⟩
theorem zI2 {g1}(h1:LkE tab 120 qH3 g1)(k:Dk)(i:Int)(hp:k.off=false/\k.ar.length=4/\(i=0\/i=1)/\(k.ar.getD i.toNat []).length<=65536) :
  qFp.1.wp tab gl (qD 0 [.t (dkA k),.t (.int .i64 i)]) (qD 0 []) (qZ [(4,none),(5,none)] 0 (qNk.K (k,i))):=by
 obtain⟨ho,hl,hi,hz⟩:=hp;have e1:=jCo (g:=g1) (k:=k) (i:=i) hl;rw[show decide (0<=i/\i<4)=true by simp only[decide_eq_true_eq];omega]at e1;obtain⟨ar,wr,cut,tn,off⟩:=k;simp only at ho hl;subst ho
 match ar,hl with
 |[a0,a1,a2,a3],_=>
  simp only[dkA,mcn,qG]at e1;rcases hi with rfl|rfl
  .have hz':a0.length<=65536:=hz;simp(disch:=omega)only[go_sem,qFp,dkA,h1,e1,mcn,qG];repeat refine aiG ?_
   exact jLk (k:=⟨[a0,a1,a2,a3],wr,cut,tn,false⟩) (i:=0) a0 0 ⟨rfl,rfl⟩ rfl rfl
  .have hz':a1.length<=65536:=hz;simp(disch:=omega)only[go_sem,qFp,dkA,h1,e1,mcn,qG];repeat refine aiG ?_
   exact jLk (k:=⟨[a0,a1,a2,a3],wr,cut,tn,false⟩) (i:=1) a1 0 ⟨rfl,rfl⟩ rfl rfl
end Go.Eng
end
