/- A part of an abstract machine, its walks, their tie. -/
import Derived.Test.YtkffggdjdmimgaaGreatDoorA31
import Derived.Test.YtkffggdjdmimgaaGreatDoorA24
import Derived.Test.YtkffggdjdmimgaaGreatDoorA30
set_option linter.all false
section
set_option maxHeartbeats 64000000
set_option maxRecDepth 20000
namespace Go.Eng
open List
variable (tab:Tab) (gl:Gl)
variable {vv:V} {oo:List Ob}
theorem zSn (d:Dv):(V.t (dvA d)).cells.length=37:=rfl
theorem zU6 (q:Rq):(V.t (rqA q)).cells.length=5:=rfl
theorem jKn (r:Rs):(V.t (rsA r)).cells.length=4:=rfl
theorem zSp (d:Dv):(V.t (dvA d)).plain=true:=rfl
theorem zU8 (q:Rq):(V.t (rqA q)).plain=true:=rfl
theorem jKp (r:Rs):(V.t (rsA r)).plain=true:=rfl
theorem zSo (d:Dv):qF4 (List.take 37 (V.t (dvA d)).cells)=some (dvA d).cells:=rfl
theorem zSm (d:Dv):T.agg (dvA d).cells=dvA d:=rfl
theorem zU7 (q:Rq):qF4 (List.take 5 (V.t (rqA q)).cells)=some (rqA q).cells:=rfl
theorem zU5 (q:Rq):T.agg (rqA q).cells=rqA q:=rfl
theorem jKo (r:Rs):qF4 (List.take 4 (V.t (rsA r)).cells)=some (rsA r).cells:=rfl
theorem jKm (r:Rs):T.agg (rsA r).cells=rsA r:=rfl
def okK (k:Dk)(nx:Int):Prop:=okD k∧1≤nx∧nx≤100000
theorem DvP.of {k:Dk}{nx:Int}{s:St}(hk:okK k nx)(hs:s.Tp):DvP ⟨k,s,true,nx⟩:=⟨⟨rfl,hk.1,hk.2⟩,hs.a.B⟩
theorem zF6 {d:Dv}{t:St}(h:t.a=d.s.a):qU6 d t = { d with s:=t }:=by rw[qU6,if_pos (by rw[h])]
theorem jT9 {g:EF wC}{k:Dk}{nx lo i b:Int}{s t:St}{c:Cm}{x:Rs}(hk:okK k nx)(hs:s.Tp)(hc:SnP s lo c)(e:vN s c=(t,x))(ha:t.a=s.a) :
  wC.fs g [.t (dvA ⟨k,s,true,nx⟩),.t (.int .i64 lo),.t (rqA (qC c)),.t (.int .i64 i),.t (.int .i64 b)] []=some (.tup [.t (dvA ⟨k,t,true,nx⟩),.t (rsA x),.t (.bool (decide (x.e=0∧(x.ns.length:Int)=i∧(x.bl.length:Int)=b)))],[]):=by
 obtain⟨r,y,ok,⟨h1,h2⟩,e1⟩:=jFe (g:=g) (d:=⟨k,s,true,nx⟩) (lo:=lo) (q:=qC c) (i:=i) (b:=b) ⟨.of hk hs,c,hc,rfl⟩;obtain⟨h3,h4⟩:=h1 c hc rfl;have h5:qU6 ⟨k,s,true,nx⟩ t=⟨k,t,true,nx⟩:=zF6 ha;rw[show (vN s c).1=t by rw[e]] at h3;rw[show (vN s c).2=x by rw[e]] at h4;rw[e1,h2,h3,h4,h5]
theorem zG9 {g:EF wC}{k:Dk}{nx lo i b:Int}{s t:St}{c:Cm}{x:Rs}(hk:okK k nx)(hs:s.Tp)(hc:SnP s lo c)(e:vN s c=(t,x))(ha:t.a=s.a)(hx:x.e=0∧(x.ns.length:Int)=i∧(x.bl.length:Int)=b) :
  wC.fs g [.t (dvA ⟨k,s,true,nx⟩),.t (.int .i64 lo),.t (rqA (qC c)),.t (.int .i64 i),.t (.int .i64 b)] []=some (.tup [.t (dvA ⟨k,t,true,nx⟩),.t (rsA x),.t (.bool true)],[]):=by
 rw[jT9 hk hs hc e ha,decide_eq_true hx]
theorem zO0 {g:EF qAm}{k:Dk}{nx lo:Int}{s t:St}{c:Cm}{x:Rs}(hk:okK k nx)(hs:s.Tp)(hc:SnP s lo c)(e:vN s c=(t,x))(ha:t.a=s.a) :
  qAm.fs g [.t (dvA ⟨k,s,true,nx⟩),.t (.int .i64 lo),.t (rqA (qC c))] []=some (.tup [.t (dvA ⟨k,t,true,nx⟩),.t (rsA x),.t (.bool true)],[]):=by
 obtain⟨r,y,ok,⟨h1,h2⟩,e1⟩:=jFb (g:=g) (d:=⟨k,s,true,nx⟩) (lo:=lo) (q:=qC c) ⟨.of hk hs,c,hc,rfl⟩;obtain⟨h3,h4⟩:=h2 c hc rfl;have h5:qU6 ⟨k,s,true,nx⟩ t=⟨k,t,true,nx⟩:=zF6 ha;rw[show (vN s c).1=t by rw[e]] at h3;rw[show (vN s c).2=x by rw[e]] at h4;rw[e1,h1,h3,h4,h5]
def cyV (k:Dk)(a:Sa)(n:Int):Dv:=qU6 ⟨⟨k.ar,0,0,0,false⟩,qCz a,true,n+1⟩ (qZ1 (qCz a))
def cyP (ar:List (List UInt8))(a:Sa)(n:Int):Prop:=(a.Tp∧a.res≤999)∧n≤90000∧jOk ar n (qHx a)
def qP4:ECt where
 α:=Dv
 β:=Dv×Bool
 aS:=fun d=>[.t (dvA d)]
 pre:=fun d=>d.k.ar.length=4 ∧ ∃ n a,cyP d.k.ar a n
 r:=fun (r,ok)=> .tup [.t (dvA r),.t (.bool ok)]
 R:=fun d (r,ok)=>ok=true ∧ ∀ n a,cyP d.k.ar a n→r=cyV d.k a n
 inj:=by rintro d d' e _;simp only[qBk,qM7,qVl] at e;obtain rfl:=e;rfl
theorem jRj {g:EF qP4}{d:Dv}(hp:d.k.ar.length=4 ∧ ∃ n a,cyP d.k.ar a n) : ∃ (r:Dv) (ok:Bool),(ok=true ∧ ∀ n a,cyP d.k.ar a n→r=cyV d.k a n)∧qP4.fs g [.t (dvA d)] []=some (.tup [.t (dvA r),.t (.bool ok)],[]):=by
 obtain⟨y,h1,h2⟩:=qP4.eq g d hp;exact⟨y.1,y.2,h1,h2⟩
theorem jV8 {d:Dv}(r:Dv)(ok:Bool)(hR:ok=true ∧ ∀ n a,cyP d.k.ar a n→r=cyV d.k a n)(hV:vv = .tup [.t (dvA r),.t (.bool ok)])(hO:oo=[]):qP4.K d vv oo:=⟨(r,ok),hR,hV,hO⟩
theorem zLe {g1}(h1:LkE tab 67 qL9 g1){g2}(h2:LkE tab 66 qP0 g2){g3}(h3:LkE tab 68 qMi g3){g4}(h4:LkE tab 14 wC g4)(d:Dv)(hp:d.k.ar.length=4 ∧ ∃ n a,cyP d.k.ar a n) :
  qK4.1.wp tab gl (qE 0 [.t (dvA d)]) (qE 0 []) (qV [(2,(some (37,true))),(3,none)] 0 (qP4.K d)):=by
 obtain⟨hl,n,a,⟨ha,hr⟩,hn,hj⟩:=hp;have e1 := @jQm g1 d;obtain⟨r,e,⟨rfl,hR⟩,e2⟩:=jQn (g:=g2) (d:=zT0 d) ⟨rfl,hl,n,a,ha.B,hj⟩;have hr1:=hR n a ha.B hj;have e3 := @jRm g3 0;obtain⟨hS,hT⟩:=jJg ha hr;have hD:DvP r:=by
  rw[hr1];have:=hj.1.1;exact⟨⟨rfl,⟨rfl,hl,rfl,by show (0:Int)≤0∧(0:Int)≤1000000;decide⟩,by show 1≤n+1;omega,by show n+1≤100000;omega⟩,ha.B⟩
 obtain⟨v,x,ok,⟨h5,h6⟩,e4⟩:=jFe (g:=g4) (d:=r) (lo:=0) (q:=qC .up) (i:=0) (b:=0) ⟨hD,.up,by rw[hr1];exact hS,rfl⟩;obtain⟨h7,h8⟩:=h5 .up (by rw[hr1];exact hS) rfl;have h9:x=⟨0,[],[],[]⟩:=h8;have h10:v=cyV d.k a n:=by rw[h7,hr1];rfl
 have hok:ok=true:=by rw[h6,h9];rfl
 have hK : ∀ m b,cyP d.k.ar b m→v=cyV d.k b m:=by
  intro m b hb;obtain⟨i1,i2⟩:=zKc hj hb.2.2;obtain rfl:=zDi ha.B hb.1.1.B i1;rw[h10,i2]
 subst hok h9;clear hR hr1 hS hT hD h5 h6 h7 h8 h10 hj;generalize zT0 d=y at *;have e3':qMi.fs g3 [.t (.int .i64 0)] []=some (.t (rqA (qC .up)),[]):=e3;generalize qC .up=q at *;simp(disch:=omega)only[go_sem,qK4,zSn,zU6,jKn,zSp,zU8,jKp,zSo,zU7,jKo,zSm,zU5,jKm,h1,e1,h2,e2,h3,e3',h4,e4];repeat refine aiG ?_
 exact jV8 v true ⟨rfl,hK⟩ rfl rfl
def frA:Sa := { zFv z32 with res:=1,ord:=false }
def frV:Dv:=cyV ⟨[[],qJt 1 (qHx (zFv z32)),[],[]],1,0,0,true⟩ (zFv z32) 1
theorem jHk:(zFv z32).Tp where
 sd:=⟨rfl,jKf wG wG wG⟩
 au:=rfl
 en:=wG
 act:=rfl
 res:=(by decide:(0:Int)≤0∧(0:Int)≤1000)
 rst:=rfl
 clk:=rfl
 bk:=⟨rfl,rfl⟩
 mc:=(by decide:(0:Int)≤0∧(0:Int)≤1000)
 ix:= .inl rfl
 lk:=rfl
 ks:=rfl
theorem zDq:cyP [[],qJt 1 (qHx (zFv z32)),[],[]] (zFv z32) 1:=
 ⟨⟨jHk,(by decide:(0:Int)≤999)⟩,by decide,zOd jNs (by decide),rfl,.inl rfl⟩
theorem jSr:qNf .and .i64 2 .i64 3=some (.int .i64 2):=rfl
def qMf:ECt where
 α:=Int
 β:=Dv×Bool
 aS:=fun a=>[.t (.int .i64 a)]
 pre:=fun a=>a=2
 r:=fun (r,ok)=> .tup [.t (dvA r),.t (.bool ok)]
 R:=fun a (r,ok)=>ok=true∧r=frV
theorem jFc {g:EF qMf}{a:Int}(hp:a=2) : ∃ (r:Dv) (ok:Bool),(ok=true∧r=frV)∧qMf.fs g [.t (.int .i64 a)] []=some (.tup [.t (dvA r),.t (.bool ok)],[]):=by
 obtain⟨y,h1,h2⟩:=qMf.eq g a hp;exact⟨y.1,y.2,h1,h2⟩
theorem jWa {a:Int}(r:Dv)(ok:Bool)(hR:ok=true∧r=frV)(hV:vv = .tup [.t (dvA r),.t (.bool ok)])(hO:oo=[]):qMf.K a vv oo:=⟨(r,ok),hR,hV,hO⟩
theorem zLg {g1}(h1:LkE tab 36 qL8 g1){g2}(h2:LkE tab 37 qP4 g2)(a:Int)(hp:a=2) :
  qK6.1.wp tab gl (qE 0 [.t (.int .i64 a)]) (qE 0 []) (qV [(2,(some (37,true))),(3,none)] 0 (qMf.K a)):=by
 subst hp;have tz:List.take 32 (List.replicate 32 (0:UInt8))=z32:=rfl;obtain⟨v,e,⟨rfl,rfl⟩,e1⟩:=jQl (g:=g1) (n:=4) (en:=z32) (a:=2) ⟨rfl,rfl,rfl⟩;obtain⟨r,ok,⟨rfl,hR⟩,e2⟩:=jRj (g:=g2) (d:=nwV z32) ⟨rfl,1,zFv z32,zDq⟩;have hr:=hR 1 (zFv z32) zDq;have hK:r=frV:=hr;clear hr hR;generalize nwV z32=y at *;simp(disch:=omega)only[go_sem,qK6,zSn,zU6,jKn,zSp,zU8,jKp,zSo,zU7,jKo,zSm,zU5,jKm,tz,jSr,h1,e1,h2,e2];repeat refine aiG ?_
 exact jWa r true ⟨rfl,hK⟩ rfl rfl
structure Mg where
 bk:List zB
 u:Int
 deriving Inhabited
def mgA (x:Mg):T:= .agg [.sl (x.bk.map vS),.int .i64 x.u]
theorem jKh (x:Mg):(V.t (mgA x)).cells.length=2:=rfl
theorem jKj (x:Mg):(V.t (mgA x)).plain=true:=rfl
theorem jKi (x:Mg):qF4 (List.take 2 (V.t (mgA x)).cells)=some (mgA x).cells:=rfl
theorem jKg (x:Mg):T.agg (mgA x).cells=mgA x:=rfl
def zKf (cs:List UInt8)(k:Nat):List UInt8:=[cs.getD k 0,u8I (k:Int)]
def zNr (cs:List UInt8)(k:Nat):Nat:=(cs.getD k 0%16).toNat
theorem zKg (cs:List UInt8)(k:Nat):zNr cs k<16:=by unfold zNr;rw[UInt8.toNat_mod];exact Nat.mod_lt _ (by decide)
def qZ7 (cs:List UInt8):Nat→Mg
 | 0=>⟨yV 2,0⟩
 | k+1=>⟨evB (qZ7 cs k).bk (zNr cs k) (zKf cs k),(qZ7 cs k).u+1⟩
def qN0 (cs:List UInt8):Nat:=min cs.length 6
theorem zDo (cs:List UInt8) : ∀ k,ShA 2 (qZ7 cs k).bk∧(qZ7 cs k).u=k
 | 0=>⟨ShA.new oM,rfl⟩
 | k+1=>by
  obtain⟨h1,h2⟩:=zDo cs k;refine⟨h1.ext _ _,?_⟩;show (qZ7 cs k).u+1=_;omega
theorem jOo {a:UInt8}:qKb .rem (qA a) (qA 16)=some (qA (a%16)):=zRx (by decide)
def qMg:ECt where
 α:=List UInt8
 β:=Mg
 aS:=fun cs=>[.t (.sl (cs.map qA))]
 pre:=fun cs=>cs.length≤9223372036854775807
 r:=fun r'=> .t (mgA r')
 R:=fun cs r'=>r'=qZ7 cs (qN0 cs)
theorem jFd {g:EF qMg}{cs:List UInt8}(hp:cs.length≤9223372036854775807):qMg.fs g [.t (.sl (cs.map qA))] []=some (.t (mgA (qZ7 cs (qN0 cs))),[]):=fnQ qMg cs hp
theorem jWb {cs:List UInt8}(hV:vv = .t (mgA (qZ7 cs (qN0 cs))))(hO:oo=[]):qMg.K cs vv oo:=⟨_,rfl,hV,hO⟩
theorem zAy (h1:LkC tab 24 kH)(h2:LkC tab 32 zJu)(cs:List UInt8)(hp:cs.length≤9223372036854775807) :
  qFj.1.wp tab gl (qE 0 [.t (.sl (cs.map qA))]) (qE 0 []) (qV [(2,(some (2,true)))] 0 (qMg.K cs)):=by
 obtain⟨b0,b1,hb,hn⟩:=zKm (act:=2) oM;have hl:qN0 cs≤cs.length∧qN0 cs≤6:=by unfold qN0;omega
 have hm:qN0 cs<6→qN0 cs=cs.length:=by unfold qN0;omega
 have h0:mgA (qZ7 cs 0) = .agg [.sl [.sl (b0.map bsT),.sl (b1.map bsT)],.int .i64 0]:=by show T.agg [.sl ((yV 2).map vS),.int .i64 0]=_;rw[hb];rfl
 have l0:List.length b0=List.length b0:=rfl;simp(disch:=omega)only[go_sem,qFj,h1,hn];refine qB (qN0 cs) (fun k=>[(0,.t (.sl (cs.map qA))),(2,.ref 4096 0 0),(3,.ref 8208 0 0),(4,.t (.int .i64 (k:Nat)))]) (fun k=>[(8208,.live 2 [.t (mgA (qZ7 cs k))] true true),(4096,.live 2 [.agg [.nil,.t (.int .i64 0)]] true true)]) (qJ.cv (hv:=[]) [8192,8193,8194] id ?_ rfl) (fun k hk=>?_)
 ·simp(disch:=omega)only[go_sem,id,h0,take_length];rfl
 obtain⟨q1,q2⟩:=zDo cs k;have hs:qZ7 cs (k+1)=⟨evB (qZ7 cs k).bk (zNr cs k) (zKf cs k),(qZ7 cs k).u+1⟩:=rfl;obtain⟨y,hy⟩ : ∃ y,qZ7 cs k=y:=⟨_,rfl⟩;rw[hy] at q1 q2 hs ⊢;rcases (by omega:k<qN0 cs∨k=qN0 cs) with c | hke
 ·have c1:k<cs.length:=oM;have c2:k<6:=oM;obtain⟨x,hg,hm',_⟩:=qX c1;have hi:=zKg cs k;have e2:=jDm (u:=y.u) (i:=((zNr cs k:Nat):Int)) (data:=zKf cs k) q1.rv oM oM (by simp[zKf]);rw[Int.toNat_natCast] at e2;have d1:cs.getD k 0=x:=qXy hg;have d2:zNr cs k=(x%16).toNat:=by unfold zNr;rw[d1]
  have d3:zKf cs k=[x,u8I (k:Int)]:=by unfold zKf;rw[d1]
  rw[d2,d3] at e2 hs;generalize evB y.bk (x%16).toNat [x,u8I (k:Int)]=z at *;simp only[mcn] at e2;simp(disch:=omega)only[go_sem,c1,c2,mgA,hg,oms,jOo,u8w,h2,e2];repeat refine aiG ?_
  refine qJ.rd id ?_ ?_ rfl;all_goals simp(disch:=omega)only[go_sem,id,hs,mgA]
 ·have c1 : ¬ (k<cs.length∧k<6):=by unfold qN0 at hke;omega
  have hK:qMg.K cs (.t (mgA y)) []:=jWb (by rw[←hy,hke]) rfl;by_cases c2:k<cs.length
  ·have c3 : ¬ k<6:=oM;simp(disch:=omega)only[go_sem,c2,c3,jKh,jKj,jKi,jKg];repeat refine aiG ?_
   exact hK
  ·simp(disch:=omega)only[go_sem,c2,jKh,jKj,jKi,jKg];repeat refine aiG ?_
   exact hK
def zDp (s:St)(cs:List UInt8):Nat→St
 | 0=>s
 | k+1=>evS (zDp s cs k) (zNr cs k:Nat) (zKf cs k)
theorem zKh {s:St}(hs:s.Tp)(hu:s.u≤900)(cs:List UInt8) : ∀ k,k≤6→(zDp s cs k).Tp∧(zDp s cs k).u=s.u+k∧(zDp s cs k).a=s.a∧(zDp s cs k).dr=s.dr∧(zDp s cs k).ses=s.ses∧(zDp s cs k).obs=s.obs
 | 0,_=>⟨hs,by show s.u=s.u+0;omega,rfl,rfl,rfl,rfl⟩
 | k+1,hk=>by
  obtain⟨h1,h2,h3,h4,h5,h6⟩:=zKh hs hu cs k oM;have hi:=zKg cs k;refine⟨(jPm h1 oM oM (by simp[zKf])).2,?_,h3,h4,h5,h6⟩;show (zDp s cs k).u+1=_;omega
theorem zT2 {s:St}(h0:s.bk=yV 2)(cs:List UInt8) : ∀ k,(zDp s cs k).bk=(qZ7 cs k).bk
 | 0=>h0
 | k+1=>by
  show evB (zDp s cs k).bk ((zNr cs k:Nat):Int).toNat (zKf cs k)=evB (qZ7 cs k).bk (zNr cs k) (zKf cs k);rw[zT2 h0 cs k,Int.toNat_natCast]
def qMh:ECt where
 α:=Dv×List UInt8
 β:=Dv×Bool
 aS:=fun (d,cs)=>[.t (dvA d),.t (.sl (cs.map qA))]
 pre:=fun (d,cs)=>(okK d.k d.nx∧d.on=true∧d.s.Tp∧d.s.u≤900)∧cs.length≤9223372036854775807
 r:=fun (r,ok)=> .tup [.t (dvA r),.t (.bool ok)]
 R:=fun (d,cs) (r,ok)=>ok=true∧r = { d with s:=zDp d.s cs (qN0 cs) }
 inj:=by rintro⟨d,cs⟩ ⟨d',cs'⟩ e _;simp only[qBk,qM7,qVl] at e;obtain⟨rfl,rfl⟩:=e;rfl
theorem jRl {g:EF qMh}{d:Dv}{cs:List UInt8}(hp:(okK d.k d.nx∧d.on=true∧d.s.Tp∧d.s.u≤900)∧cs.length≤9223372036854775807) : ∃ (r:Dv) (ok:Bool),(ok=true∧r = { d with s:=zDp d.s cs (qN0 cs) })∧qMh.fs g [.t (dvA d),.t (.sl (cs.map qA))] []=some (.tup [.t (dvA r),.t (.bool ok)],[]):=by
 obtain⟨y,h1,h2⟩:=qMh.eq g (d,cs) hp;exact⟨y.1,y.2,h1,h2⟩
theorem jWc {d:Dv}{cs:List UInt8}(r:Dv)(ok:Bool)(hR:ok=true∧r = { d with s:=zDp d.s cs (qN0 cs) })(hV:vv = .tup [.t (dvA r),.t (.bool ok)])(hO:oo=[]):qMh.K (d,cs) vv oo:=⟨(r,ok),hR,hV,hO⟩
theorem zEx {g1}(h1:LkE tab 38 qMe g1){g2}(h2:LkE tab 14 wC g2)(d:Dv)(cs:List UInt8)(hp:(okK d.k d.nx∧d.on=true∧d.s.Tp∧d.s.u≤900)∧cs.length≤9223372036854775807) :
  qG8.1.wp tab gl (qE 0 [.t (dvA d),.t (.sl (cs.map qA))]) (qE 0 []) (qV [(4,(some (37,true))),(5,none)] 0 (qMh.K (d,cs))):=by
 obtain⟨⟨hk,ho,hT,hu⟩,hcs⟩:=hp;obtain⟨dk,s,on,nx⟩:=d;simp only at hk ho hT hu;subst ho;have hl:qN0 cs≤cs.length∧qN0 cs≤6:=by unfold qN0;omega
 simp(disch:=omega)only[go_sem,qG8,zSn,zU6,jKn,zSp,zU8,jKp,zSo,zU7,jKo,zSm,zU5,jKm];refine qB (qN0 cs) (fun k=>[(1,.t (.sl (cs.map qA))),(2,.ref 4096 0 0),(4,.ref 4112 0 0),(6,.t (.int .i64 (k:Nat)))]) (fun k=>[(4096,.live 37 [.t (dvA ⟨dk,zDp s cs k,true,nx⟩)] true true),(4112,.live 37 [.agg [.nil,.t (.int .i64 0),.t (.int .i64 0),.t (.int .i64 0),.t (.bool false),.nil,.nil,.nil,.t (.int .i64 0),.t (.int .i64 0),.t (.int .i64 0),.t (.int .i64 0),.t (.bool false),.nil,.t (.int .i64 0),.t (.int .i64 0),.nil,.t (.int .i64 0),.t (.int .i64 0),.t (.int .i64 0),.t (.int .i64 0),.t (.int .i64 0),.t (.int .i64 0),.nil,.t (.bool false),.t (.bool false),.nil,.t (.int .i64 0),.t (.int .i64 0),.t (.bool false),.t (.int .i64 0),.nil,.nil,.nil,.nil,.t (.bool false),.t (.int .i64 0)]] true true)]) (qJ.rd id ?_ ?_ rfl) (fun k hk'=>?_)
 ·simp(disch:=omega)only[go_sem,id]
 ·simp(disch:=omega)only[go_sem,id,zDp]
 obtain⟨q1,q2,q3,q4,q5,q6⟩:=zKh hT hu cs k oM;have hs:zDp s cs (k+1)=evS (zDp s cs k) (zNr cs k:Nat) (zKf cs k):=rfl;obtain⟨y,hy⟩ : ∃ y,zDp s cs k=y:=⟨_,rfl⟩;rw[hy] at q1 q2 q3 q4 q5 q6 hs ⊢;rcases (by omega:k<qN0 cs∨k=qN0 cs) with c | hke
 ·have c1:k<cs.length:=oM;have c2:k<6:=oM;obtain⟨x,hg,hm',_⟩:=qX c1;have hi:=zKg cs k;obtain⟨k1,k2⟩:=jPm q1 oM (i:=((zNr cs k:Nat):Int)) (d:=zKf cs k) oM (by simp[zKf]);have e2:=zG9 (g:=g2) (i:=0) (b:=2) hk q1 k1 rfl rfl ⟨rfl,rfl,rfl⟩;have d1:cs.getD k 0=x:=qXy hg;have d2:zNr cs k=(x%16).toNat:=by unfold zNr;rw[d1]
  have d3:zKf cs k=[x,u8I (k:Int)]:=by unfold zKf;rw[d1]
  rw[d2,d3] at e2 hs;have e1:qMe.fs g1 [.t (.int .i64 ((x%16).toNat:Nat)),.t (.sl [qA x,qA (u8I (k:Int))])] []=some (.t (rqA (qC (.ev ((x%16).toNat:Nat) [x,u8I (k:Int)]))),[]):=jRk (i:=((x%16).toNat:Nat)) (d:=[x,u8I (k:Int)]);generalize evS y ((x%16).toNat:Nat) [x,u8I (k:Int)]=z at *;generalize qC (.ev ((x%16).toNat:Nat) [x,u8I (k:Int)])=q at *;simp(disch:=omega)only[go_sem,zSn,zU6,jKn,zSp,zU8,jKp,zSo,zU7,jKo,zSm,zU5,jKm,c1,c2,hg,oms,jOo,u8w,h1,e1,h2,e2];repeat refine aiG ?_
  refine qJ.rd id ?_ ?_ rfl;all_goals simp(disch:=omega)only[go_sem,id,hs]
 ·have c1 : ¬ (k<cs.length∧k<6):=by unfold qN0 at hke;omega
  have hK : ∀ vv,vv = .tup [.t (dvA ⟨dk,y,true,nx⟩),.t (.bool true)]→qMh.K (⟨dk,s,true,nx⟩,cs) vv []:=fun vv h=>jWc ⟨dk,y,true,nx⟩ true ⟨rfl,by rw[←hy,hke]⟩ h rfl
  by_cases c2:k<cs.length
  ·have c3 : ¬ k<6:=oM;simp(disch:=omega)only[go_sem,zSn,zU6,jKn,zSp,zU8,jKp,zSo,zU7,jKo,zSm,zU5,jKm,c2,c3];repeat refine aiG ?_
   exact hK _ rfl
  ·simp(disch:=omega)only[go_sem,zSn,zU6,jKn,zSp,zU8,jKp,zSo,zU7,jKo,zSm,zU5,jKm,c2];repeat refine aiG ?_
   exact hK _ rfl
theorem jLr {k:Dk}{a:Sa}{n:Int}(hl:k.ar.length=4)(h:cyP k.ar a n) : ∃ k',cyV k a n=⟨k',qZ1 (qCz a),true,n+2⟩∧okD k'∧jOk k'.ar (n+1) (qHx (qZ1 (qCz a)).a):=by
 obtain⟨⟨ha,hr⟩,hn,hp,hj,ho⟩:=h;have hT:=(jJg ha hr).2;have hne : ¬ qHx (qZ1 (qCz a)).a=qHx a:=fun e=>by
  have:=congrArg Sa.res (zDi hT.a.B ha.B e);have h2:(qZ1 (qCz a)).a.res=a.res+1:=rfl;omega
 have h0:=hp.1;have hj':jOk (k.ar.set ((n+1)%2).toNat (qJt (n+1) (qHx (qZ1 (qCz a)).a))) (n+1) (qHx (qZ1 (qCz a)).a):=by
  have e1:(n+1+1)%2=n%2:=oM;have hlt:((n+1)%2).toNat<k.ar.length:=oM;have hne2:((n+1)%2).toNat≠(n%2).toNat:=oM;refine⟨zOd hT.a.B oM,?_,.inr ⟨qHx a,by rw[show n+1-1=n by omega];exact hp,?_⟩⟩
  ·rw[getD_eq_getElem?_getD,getElem?_set_self hlt];rfl
  ·rw[e1,getD_eq_getElem?_getD,getElem?_set_ne hne2,←getD_eq_getElem?_getD,hj,show n+1-1=n by omega]
 refine⟨⟨k.ar.set ((n+1)%2).toNat (qJt (n+1) (qHx (qZ1 (qCz a)).a)),1,0,0,false⟩,?_,⟨rfl,by simp[hl],rfl,by show (0:Int)≤1∧(1:Int)≤1000000;decide⟩,hj'⟩;rw[cyV,qU6,if_neg (by exact hne)];simp only[Dv.mk.injEq,Dk.mk.injEq,and_true,true_and];exact⟨rfl,oM⟩
def sd:Ses:=default
def od:Obj:=default
structure FrP (k:Dk) (s:St) (nx:Int):Prop where
 hk:okK k nx
 tp:s.Tp
 hu:s.u=0
 hd:s.dr=0
 hb:s.bk=yV 2
 se:s.ses=[sd,sd,sd]
 ob:s.obs=[od,od,od]
 jo:jOk k.ar (nx-1) (qHx s.a)
theorem jBy {k k':Dk}{a:Sa}{n:Int}(h:cyP k.ar a n)(h1:okD k')(h2:jOk k'.ar (n+1) (qHx (qZ1 (qCz a)).a)):FrP k' (qZ1 (qCz a)) (n+2) where
 hk:=⟨h1,by have:=h.2.1;have:=h.2.2.1.1;omega⟩
 tp:=(jJg h.1.1 h.1.2).2
 hu:=rfl
 hd:=rfl
 hb:=by show yV a.act=_;rw[h.1.1.act]
 se:=rfl
 ob:=rfl
 jo:=by rw[show n+2-1=n+1 by omega];exact h2
theorem jDs : ∃ k s nx,frV=⟨k,s,true,nx⟩∧FrP k s nx∧nx=3∧s.a=frA:=by
 obtain⟨k',e,h1,h2⟩:=jLr (k:=⟨[[],qJt 1 (qHx (zFv z32)),[],[]],1,0,0,true⟩) rfl zDq;exact⟨k',_,3,e,jBy (k:=⟨[[],qJt 1 (qHx (zFv z32)),[],[]],1,0,0,true⟩) zDq h1 h2,rfl,rfl⟩
theorem zKr {bk:List zB}{s0 s1:Int}:(rgD bk s0 s1).length=32:=qH
def qP3:ECt where
 α:=Unit
 β:=Bool
 aS:=fun _=>[]
 pre:=fun _=>True
 r:=fun ok=> .t (.bool ok)
 R:=fun _ ok=>ok=true
 inj:=fun _ _ _ _=>rfl
theorem jRi {g:EF qP3}  : ∃ (ok:Bool),(ok=true)∧qP3.fs g [] []=some (.t (.bool ok),[]):=qP3.eq g () trivial
theorem jV7  (ok:Bool)(hR:ok=true)(hV:vv = .t (.bool ok))(hO:oo=[]):qP3.K () vv oo:=⟨ok,hR,hV,hO⟩
theorem zLd {g1}(h1:LkE tab 12 qMf g1)(h2:LkC tab 24 kH)(h3:LkC tab 8 qI3)(h4:LkC tab 6 qHe){g5}(h5:LkE tab 15 qHo g5){g6}(h6:LkE tab 14 wC g6){g7}(h7:LkE tab 16 qHm g7){g8}(h8:LkE tab 17 qHn g8){g9}(h9:LkE tab 22 qHl g9)(h10:LkC tab 21 zGi)  :
  qK3.1.wp tab gl (qE 0 []) (qE 0 []) (qV [(0,none)] 0 (qP3.K ())):=by
 obtain⟨v,ok,⟨rfl,hv⟩,e1⟩:=jFc (g:=g1) (a:=2) rfl;obtain⟨k,s,nx,hf,hF,-,-⟩:=jDs;rw[hv,hf] at e1;clear hv hf;obtain⟨b0,b1,hb,hn⟩:=zKm (act:=2) oM;have hdg:=zSk (u:=0) hF.tp.bk.rv (zSj hF.tp.bk (m:=1) oM);rw[hF.hb] at hdg;have hr:As.Ok (.reg 0 1 (rgD (yV 2) 0 1)):=⟨oM,oM,zKr⟩;have e4:=zUk hr;have lp:(zB0 z32 (.reg 0 1 (rgD (yV 2) 0 1))).length=32:=qJo;have ld:(rgD (yV 2) 0 1).length=32:=zKr;have td:List.take 32 (rgD (yV 2) 0 1)=rgD (yV 2) 0 1:=take_of_length_le oM;have hx:qNz z32 (.reg 0 1 (rgD s.bk 0 1))=zB0 z32 (.reg 0 1 (rgD (yV 2) 0 1)):=by rw[hF.hb];rfl
 have hbt:(yV 2).map vS=[.sl (b0.map bsT),.sl (b1.map bsT)]:=by rw[hb];rfl
 rw[hbt] at hdg;simp only[asT] at e4;generalize zB0 z32 (.reg 0 1 (rgD (yV 2) 0 1))=p at *;generalize rgD (yV 2) 0 1=dd at *;obtain⟨q1,⟨en,nm,f1⟩,T1⟩:=jPp hF.tp (j:=0) (by rw[hF.ob];rfl) oM (hh:=0) (po:=p) (au:=[]) (da:=[9]) oM lp sM sM;have c5:qHo.fs g5 [.t (.int .i64 0),.t (.int .i64 3),.t (.int .i64 0),.t (.int .i64 0),.t (.sl (p.map qA)),.t (.sl []),.t (.sl [qA 9])] []=some (.t (rqA (qC (.pr 0 p [] [9]))),[]):=jFi (u:=[]) (d:=[9]);have m1:wC.fs g6 [.t (dvA ⟨k,s,true,nx⟩),.t (.int .i64 0),.t (rqA (qC (.pr 0 p [] [9]))),.t (.int .i64 1),.t (.int .i64 2)] []=some (.tup [.t (dvA ⟨k,prS s 0 0 p [] [9],true,nx⟩),.t (rsA ⟨0,[512],[en,nm],[]⟩),.t (.bool true)],[]):=zG9 hF.hk hF.tp q1 f1 rfl ⟨rfl,rfl,rfl⟩;obtain⟨q2,f2,T2⟩:=jPn T1 (by show s.dr≤999;rw[hF.hd];decide) (j:=0) (by show frS s.ses 0=_;rw[hF.se];rfl) (k:=2) oM;have c7:qHm.fs g7 [.t (.int .i64 2)] []=some (.t (rqA (qC (.op 2))),[]):=jFg;have hses:(opS (prS s 0 0 p [] [9]) 0 2).ses[0]?=some (nwS (prS s 0 0 p [] [9]) 2):=by show (s.ses.set 0 _)[0]?=_;rw[hF.se];rfl
 have hobs:(opS (prS s 0 0 p [] [9]) 0 2).obs[0]?=some (qMw s 0 p [] [9]):=by show (s.obs.set 0 _)[0]?=_;rw[hF.ob];rfl
 have m2:wC.fs g6 [.t (dvA ⟨k,prS s 0 0 p [] [9],true,nx⟩),.t (.int .i64 0),.t (rqA (qC (.op 2))),.t (.int .i64 1),.t (.int .i64 1)] []=some (.tup [.t (dvA ⟨k,opS (prS s 0 0 p [] [9]) 0 2,true,nx⟩),.t (rsA ⟨0,[768],[qVc (prS s 0 0 p [] [9]) 16],[]⟩),.t (.bool true)],[]):=zG9 hF.hk T1 q2 f2 rfl ⟨rfl,rfl,rfl⟩;obtain⟨q3,f3,T3⟩:=jPo T2 hses (.inl rfl) (a:= .reg 0 1 []) ⟨rfl,oM,rfl⟩ (by intros;nofun) (.inl rfl) (.inl rfl);have c8:qHn.fs g8 [.t (.int .i64 768),.t (.int .i64 1),.t (.agg [.int .i64 0,.int .i64 1]),.t (.int .i64 0),.t (.int .i64 0),.t (.sl [.sl []])] []=some (.t (rqA (qC (.po 768 (.reg 0 1 [])))),[]):=jFh (s:=⟨0,1⟩) (b:=[[]]);have m3:wC.fs g6 [.t (dvA ⟨k,opS (prS s 0 0 p [] [9]) 0 2,true,nx⟩),.t (.int .i64 0),.t (rqA (qC (.po 768 (.reg 0 1 [])))),.t (.int .i64 0),.t (.int .i64 0)] []=some (.tup [.t (dvA ⟨k,poS (opS (prS s 0 0 p [] [9]) 0 2) 0 (nwS (prS s 0 0 p [] [9]) 2) (.reg 0 1 []),true,nx⟩),.t (rsA ⟨0,[],[],[]⟩),.t (.bool true)],[]):=zG9 hF.hk T2 q3 f3 rfl ⟨rfl,rfl,rfl⟩;have hs3:(poS (opS (prS s 0 0 p [] [9]) 0 2) 0 (nwS (prS s 0 0 p [] [9]) 2) (.reg 0 1 [])).ses[0]?=some (poY (opS (prS s 0 0 p [] [9]) 0 2) (nwS (prS s 0 0 p [] [9]) 2) (.reg 0 1 [])):=by show ((s.ses.set 0 _).set 0 _)[0]?=_;rw[hF.se];rfl
 have hdg2:(poY (opS (prS s 0 0 p [] [9]) 0 2) (nwS (prS s 0 0 p [] [9]) 2) (.reg 0 1 [])).dg=p:=hx;obtain⟨q4,f4,T4⟩:=jJf T3 (i:=0) (j:=0) (o:=qMw s 0 p [] [9]) (v:=[]) hs3 (.inl rfl) hobs oM rfl sM (fun _=>⟨rfl,.inr rfl,fun h=>rfl⟩);have hu:unE (poY (opS (prS s 0 0 p [] [9]) 0 2) (nwS (prS s 0 0 p [] [9]) 2) (.reg 0 1 [])) (qMw s 0 p [] [9])=0:=by
  unfold unE;rw[if_pos (by rfl),if_pos (by rw[hdg2];rfl)]
 rw[if_pos hu] at f4;have c9:qHl.fs g9 [.t (.int .i64 13),.t (.int .i64 512),.t (.sl [])] []=some (.t (rqA ⟨13,[512],[],[],[]⟩),[]):=jFf (b:=[]);have c10 := @jLe 13 [512] [] [] [] 768;have m4:wC.fs g6 [.t (dvA ⟨k,poS (opS (prS s 0 0 p [] [9]) 0 2) 0 (nwS (prS s 0 0 p [] [9]) 2) (.reg 0 1 []),true,nx⟩),.t (.int .i64 0),.t (rqA (qC (.un 512 768 []))),.t (.int .i64 0),.t (.int .i64 1)] []=some (.tup [.t (dvA ⟨k,zBw (poS (opS (prS s 0 0 p [] [9]) 0 2) 0 (nwS (prS s 0 0 p [] [9]) 2) (.reg 0 1 [])) 768,true,nx⟩),.t (rsA ⟨0,[],[[9]],[]⟩),.t (.bool true)],[]):=zG9 hF.hk T3 q4 f4 rfl ⟨rfl,rfl,rfl⟩;clear q1 q2 q3 q4 f1 f2 f3 f4 T1 T2 T3 T4 hu hs3 hdg2 hses hobs hx;generalize zBw _ _=s4 at m4;generalize poS _ _ _ _=s3 at m3 m4;generalize opS _ _ _=s2 at m2 m3;generalize qVc _ _=rb at m2;generalize prS _ _ _ _ _ _=s1 at m1 m2;generalize qC (.pr 0 p [] [9])=r1 at *;generalize qC (.op 2)=r2 at *;generalize qC (.po 768 (.reg 0 1 []))=r3 at *;generalize (⟨13,[512],[],[],[]⟩:Rq)=r5 at *;simp only[rsA,iT,mcn,qI] at m1 m2 m3;simp only[rsA,rqA,qC,azA,iT,mcn,qI] at m4;simp only[iT,mcn] at c10;simp(maxSteps:=9^9)(disch:=try exact dS)only[go_sem,qK3,zSn,zU6,zSp,zU8,zSo,zU7,zSm,zU5,iT,mcn,qI,h1,e1,h2,hn,h3,hdg,td,h4,e4,h5,c5,h6,m1,h7,c7,m2,h8,c8,m3,h9,c9,h10,c10,m4,take_length];repeat refine aiG ?_
 exact jV7 true rfl rfl rfl
theorem zLc  (b:Bool) :
  qK2.1.wp tab gl (qE 0 [.t (.bool b)]) (qE 0 []) (qV [(2,none)] 0 (qPk.K b)):=by
 cases b;all_goals simp(disch:=omega)only[go_sem,qK2]
 all_goals exact jUe rfl rfl
theorem zQs  (l:List (List UInt8))(i:Int)(hp:0≤i∧i≤100∧l.length≤100000) :
  qIy.1.wp tab gl (qE 0 [.t (.sl (l.map bsT)),.t (.int .i64 i)]) (qE 0 []) (qV [(4,none)] 0 (qOk.K (l,i))):=by
 obtain⟨h0,h1,h2⟩:=hp;obtain⟨k,rfl⟩:=Int.eq_ofNat_of_zero_le h0;by_cases c:l.length≤k
 ·simp(disch:=omega)only[go_sem,qIy,c];refine jK1 (l:=l) (i:=(k:Int)) ?_ rfl;rw[getD_eq_getElem?_getD,getElem?_eq_none oM];rfl
 ·obtain⟨x,hg,_,_⟩:=qX (l:=l) (k:=k) oM;simp(disch:=omega)only[go_sem,qIy,c,hg,oms];refine jK1 (l:=l) (i:=(k:Int)) ?_ rfl;rw[getD_eq_getElem?_getD,show (k:Int).toNat=k from rfl,hg];rfl
def zC7:Ct where
 α:=List Int×List UInt8
 aS x:=[.t (.sl (x.1.map iT)),.ref 0 0 0]
 ins x:=[.live 1 [.t (.sl (x.2.map qA))] true true]
 pre x:=(1≤x.1.length∧x.1.length≤10)∧x.2.length≤100000
 r _:= .tup []
 outs x:=[.live 1 [.sl 1 0 (nuE x.2 x.1).length] true true,.live 1 (((nuE x.2 x.1).map qA).map V.t) true false]
 inj:=by
  rintro⟨a,b⟩ ⟨c,d⟩ h h2;simp only[List.cons.injEq,V.t.injEq,T.sl.injEq,and_true,true_and,Ob.live.injEq,zN] at h h2;have e:a=c:=by
   have hi : ∀ (x y:Int),iT x=iT y→x=y:=fun x y h=>by unfold iT at h;injection h
   exact qB8 hi h
  subst e h2;exact⟨rfl,rfl⟩
theorem zKn {l:List Int}{b:List UInt8}(h:(1≤l.length∧l.length≤10)∧b.length≤100000):zC7.fs [.t (.sl (l.map iT)),.ref 0 0 0] [.live 1 [.t (.sl (b.map qA))] true true]=some (.tup [],[.live 1 [.sl 1 0 (nuE b l).length] true true,.live 1 (((nuE b l).map qA).map V.t) true false]):=zC7.eq (l,b) h
theorem qWi (h1:LkC tab 98 vB)(l:List Int)(b:List UInt8)(hl:(1≤l.length∧l.length≤10)∧b.length≤100000) :
  qCx.1.wp tab gl (qE 0 [.t (.sl (l.map iT)),.ref 0 0 0]) (qE 0 [.live 1 [.t (.sl (b.map qA))] true true]) (kG [] [] 1 (fun r o=>r = .tup []∧o=[.live 1 [.sl 1 0 (nuE b l).length] true true,.live 1 (((nuE b l).map qA).map V.t) true false])):=by
 simp(disch:=omega)only[go_sem,qCx];refine qB l.length (fun k=>[(1,.ref 0 0 0),(5,.t (.sl (l.map iT))),(6,.t (.int .i64 l.length)),(7,.t (.int .i64 (k:Nat)))]) (fun k=>match k with | 0=>[(0,.live 1 [.t (.sl (b.map qA))] true true)] | k+1=>[(0,.live 1 [.sl 9000 0 (nuE b (l.take (k+1))).length] true true),(9000,.live 1 (((nuE b (l.take (k+1))).map qA).map V.t) true false)]) (qJ.rd id ?_ ?_ rfl) (fun k hk=>?_)
 ·simp(disch:=omega)only[go_sem,id]
 ·simp(disch:=omega)only[go_sem,id]
 rcases k with _ | k
 ·obtain⟨x,hg,_,_⟩:=qX (l:=l) (k:=0) oM;have hs:nuE b (l.take (0+1))=b++beI 8 x 8:=(yX (f:=fun b n=>b++beI 8 n 8) hg).trans rfl;have u:=qVt (b:=b) (n:=x) oM;have lh:(b++beI 8 x 8).length=b.length+8:=by rw[length_append,jKd]
  generalize b++beI 8 x 8=z at *;have c:0<l.length:=oM;simp(disch:=omega)only[go_sem,c,hg,oms,iT,h1,u];repeat refine aiG ?_
  refine qJ.rd (fun j=>if j=9000 then 16416 else j) ?_ ?_ rfl;all_goals simp(disch:=omega)only[go_sem,id,hs,lh]
 by_cases c:k+1<l.length
 ·obtain⟨x,hg,_,_⟩:=qX c;have e:=zT8 (l:=l.take (k+1)) (b:=b);have et:(l.take (k+1)).length≤10:=by rw[length_take];omega
  have hs:nuE b (l.take (k+1+1))=nuE b (l.take (k+1))++beI 8 x 8:=yX (f:=fun b n=>b++beI 8 n 8) hg;generalize hY:nuE b (l.take (k+1))=y at *;have u:=qVt (b:=y) (n:=x) oM;have lh:(y++beI 8 x 8).length=y.length+8:=by rw[length_append,jKd]
  generalize y++beI 8 x 8=z at *;simp(disch:=omega)only[go_sem,c,hg,oms,iT,h1,hY,u];repeat refine aiG ?_
  refine qJ.rd (fun j=>if j=9000 then 16416 else j) ?_ ?_ rfl;all_goals simp(disch:=omega)only[go_sem,id,hs,lh]
 ·obtain hk1:k+1=l.length:=oM;have tl:List.take (k+1) l=l:=take_of_length_le oM;simp(disch:=omega)only[go_sem,tl,c]
theorem zJo {n:Int}(h:0≤n∧n≤255):T.int .u8 (IntKind.u8.wrap n)=qA (bY n):=by
 have e:m64 n=n.toNat:=by unfold m64;omega
 unfold bY;rw[qRf,e];unfold qA;rw[UInt8.toNat_ofNat'];congr 1;omega
theorem zTj {α:Type}{l:List α}{k:Nat}{x d:α}(h:l[k]?=some x):l.getD k d=x:=by rw[getD_eq_getElem?_getD,h];rfl
theorem zAw {g1}(h1:LkE tab 102 qOk g1)(h2:LkC tab 101 qFo)(h3:LkC tab 103 zC7){g4}(h4:LkE tab 104 qPk g4)(h5:LkC tab 105 zC5)(h6:LkC tab 98 vB)(s:Sa)(hp:s.Ok) :
  qFh.1.wp tab gl (qE 0 [.t (saA s)]) (qE 0 []) (kG [] [(2,none)] 0 (qL4.K s)):=by
 have hs:=hp;have hact:=hs.act;have w0:=zJo (n:=s.act) oM;have wi:=zJo (n:=(s.ix.length:Int)) (by have:=hs.ix.1;omega);have wk:=zJo (n:=(s.ks.length:Int)) (by have:=hs.ks.1;omega);have l1:=hs.sd.1;have l2:=hs.au.1;have l3:=hs.ix.1;have l4:=hs.ks.1;have l5:=hs.en;simp(maxSteps:=9^9)(disch:=try exact dS)only[go_sem,qFh,saA,w0,mcn];refine qB 3 (fun k=>[(1,.ref 4096 0 0),(3,.ref 8256 0 0),(16,.t (.int .i64 (k:Nat)))]) (fun k=>[(8256,.live 1 [.sl 9000 0 ((s.sd.take k).foldl blL (eA0 s)).length] true true),(9000,.live 1 ((((s.sd.take k).foldl blL (eA0 s)).map qA).map V.t) true false),(4096,.live 19 [.t (saA s)] true true)]) (qJ.rd (fun j=>if j=9000 then 8240 else j) ?_ ?_ rfl) (fun k hk=>?_)
 ·simp(maxSteps:=9^9)(disch:=try exact dS)only[go_sem,id,take_zero,foldl_nil,eA0,length_cons,length_nil]
 ·simp(maxSteps:=9^9)(disch:=try exact dS)only[go_sem,id,saA,take_zero,foldl_nil,eA0,mcn,length_cons,length_nil]
 have le:=jL5 hs k;by_cases c:k<3
 ·obtain⟨x,hg,hm,_⟩:=qX (l:=s.sd) (k:=k) oM;have hx:=hs.sd.2 x hm;have hf:=yX (f:=blL) (b:=eA0 s) hg;have e1:=jCy (g:=g1) (l:=s.sd) (i:=(k:Int)) ⟨oM,oM,oM⟩;rw[show (k:Int).toNat=k from rfl,zTj hg] at e1;generalize (s.sd.take k).foldl blL (eA0 s)=y at *;have u:=qAk (b:=y) (x:=x) ⟨oM,oM⟩;have lb:=yB (b:=y) (x:=x);simp(maxSteps:=9^9)(disch:=try exact dS)only[go_sem,saA,c,h1,e1,h2,u];repeat refine aiG ?_
  refine qJ.rd (fun j=>if j=9000 then 24656 else j) ?_ ?_ rfl;all_goals simp(maxSteps:=9^9)(disch:=try exact dS)only[go_sem,id,saA,hf,lb]
 obtain rfl:k=3:=oM;have tt:List.take 3 s.sd=s.sd:=take_of_length_le oM;clear le c hk;simp(maxSteps:=9^9)(disch:=try exact dS)only[go_sem,saA,tt];refine qB 4 (fun k=>[(1,.ref 4096 0 0),(3,.ref 8256 0 0),(26,.t (.int .i64 (k:Nat)))]) (fun k=>[(8256,.live 1 [.sl 9000 0 ((s.au.take k).foldl blL (s.sd.foldl blL (eA0 s))).length] true true),(9000,.live 1 ((((s.au.take k).foldl blL (s.sd.foldl blL (eA0 s))).map qA).map V.t) true false),(4096,.live 19 [.t (saA s)] true true)]) (qJ.rd id ?_ ?_ rfl) (fun k hk=>?_)
 ·simp(maxSteps:=9^9)(disch:=try exact dS)only[go_sem,id]
 ·simp(maxSteps:=9^9)(disch:=try exact dS)only[go_sem,id,saA,take_zero,foldl_nil]
 have le:=jL2 hs k;by_cases c:k<4
 ·obtain⟨x,hg,hm,_⟩:=qX (l:=s.au) (k:=k) oM;have hx:=hs.au.2 x hm;have hf:=yX (f:=blL) (b:=s.sd.foldl blL (eA0 s)) hg;have e1:=jCy (g:=g1) (l:=s.au) (i:=(k:Int)) ⟨oM,oM,oM⟩;rw[show (k:Int).toNat=k from rfl,zTj hg] at e1;generalize (s.au.take k).foldl blL (s.sd.foldl blL (eA0 s))=y at *;have u:=qAk (b:=y) (x:=x) ⟨oM,oM⟩;have lb:=yB (b:=y) (x:=x);simp(maxSteps:=9^9)(disch:=try exact dS)only[go_sem,saA,c,h1,e1,h2,u];repeat refine aiG ?_
  refine qJ.rd (fun j=>if j=9000 then 45136 else j) ?_ ?_ rfl;all_goals simp(maxSteps:=9^9)(disch:=try exact dS)only[go_sem,id,saA,hf,lb]
 obtain rfl:k=4:=oM;have tu:List.take 4 s.au=s.au:=take_of_length_le oM;rw[tu] at le;have e3:blL (s.au.foldl blL (s.sd.foldl blL (eA0 s))) s.en=eA3 s:=rfl;have e5:blL (eA4 s++[bO s.ord]) (qEb s.bk s.u)=eA5 s:=rfl;have e6:eA5 s++beI 8 s.mc 8++[bY s.ix.length]=eA6 s:=rfl;have le3:=jDe hs;have le4:=jDf hs;have le5:=jDg hs;have le6:=jDh hs;clear c hk;have u3:=qAk (b:=s.au.foldl blL (s.sd.foldl blL (eA0 s))) (x:=s.en) ⟨oM,oM⟩;rw[e3] at u3;have lb3:=yB (b:=s.au.foldl blL (s.sd.foldl blL (eA0 s))) (x:=s.en);rw[e3] at lb3;generalize hY:s.au.foldl blL (s.sd.foldl blL (eA0 s))=y at *;have u4:=zKn (l:=[s.res,s.rst,s.clk]) (b:=eA3 s) ⟨⟨sM,sM⟩,oM⟩;rw[show nuE (eA3 s) [s.res,s.rst,s.clk]=eA4 s from rfl] at u4;generalize eA3 s=A3 at *;have hone := @jEc g4 s.ord;have renc:=jGo (u:=s.u) hs.bk.rv;have lr:=zJ0 (u:=s.u) hs.bk.rv;have u5:=qAk (b:=eA4 s++[bO s.ord]) (x:=qEb s.bk s.u) ⟨soM,oM⟩;rw[e5] at u5;have lb5:(eA5 s).length=(eA4 s++[bO s.ord]).length+2+(qEb s.bk s.u).length:=by rw[←e5];exact yB
 have m5:(eA4 s).map qA++[qA (bO s.ord)]=(eA4 s++[bO s.ord]).map qA:=sM;have lB4:(eA4 s++[bO s.ord]).length=(eA4 s).length+1:=sM;generalize hB4:eA4 s++[bO s.ord]=B4 at *;generalize eA4 s=A4 at *;generalize qEb s.bk s.u=R at *;have u6:=zKn (l:=[s.mc]) (b:=eA5 s) ⟨⟨sM,sM⟩,oM⟩;have e6n:nuE (eA5 s) [s.mc]=eA5 s++beI 8 s.mc 8:=rfl;rw[e6n] at u6;have lB5:(eA5 s++beI 8 s.mc 8).length=(eA5 s).length+8:=by simp only[length_append,jKd]
 have lb6:(eA6 s).length=(eA5 s++beI 8 s.mc 8).length+1:=by rw[←e6,@length_append _ (eA5 s++beI 8 s.mc 8) _];rfl
 generalize eA5 s++beI 8 s.mc 8=B5 at *;generalize eA5 s=A5 at *;have t1:List.take (y.length+2+s.en.length) A3=A3:=take_of_length_le oM;have t4':List.take (A4.length+1) B4=B4:=take_of_length_le oM;have t5:List.take (B4.length+2+R.length) A5=A5:=take_of_length_le oM;simp only[mcn,iT] at u4 u6;simp(maxSteps:=9^9)(disch:=try exact dS)only[go_sem,saA,tu,hY,h2,u3,t1,h3,u4,h4,hone,h5,renc,m5,hB4,t4',u5,t5,u6,wi];repeat refine aiG ?_
 refine qB s.ix.length (fun k=>[(1,.ref 4096 0 0),(3,.ref 8256 0 0),(6,.fn 103 [.ref 8256 0 0]),(74,.t (.sl (s.ix.map ixA))),(75,.t (.int .i64 s.ix.length)),(76,.t (.int .i64 (k:Nat)))]) (fun k=>[(8256,.live 1 [.sl 9000 0 ((s.ix.take k).foldl ixE (eA6 s)).length] true true),(9000,.live 1 ((((s.ix.take k).foldl ixE (eA6 s)).map qA).map V.t) true false),(4096,.live 19 [.t (saA s)] true true)]) (qJ.rd (fun j=>if j=9000 then 77920 else j) ?_ ?_ rfl) (fun k hk=>?_)
 ·simp(maxSteps:=9^9)(disch:=try exact dS)only[go_sem,id]
 ·simp(maxSteps:=9^9)(disch:=try exact dS)only[go_sem,id,saA,take_zero,foldl_nil,e6,lb6]
 clear u3 u4 u5 u6 t1 t4' t5 m5 renc lr lb3 lb5 lb6 lB4 lB5 le le3 le4 le5 e3 e5 e6 hY hB4;have le:=jL3 hs k;by_cases c:k<s.ix.length
 ·obtain⟨x,hg,hm,_⟩:=qX c;have hx:=hs.ix.2 x hm;have hl:=hx.le;have hf:=yX (f:=ixE) (b:=eA6 s) hg;have x1:=hx.1;have x2:=hx.2.1;have x3:=hx.2.2.1;generalize (s.ix.take k).foldl ixE (eA6 s)=z at *;have w1:=zJo (n:=x.n) oM;have w2:=zJo (n:=x.kd) oM;have w3:=zJo (n:=x.ar) oM;have hw := @jEc g4 x.wr;have d0:blL (blL (blL (z++[bY x.n]++[bY x.kd]++[bY x.ar]++beI 2 x.sz 2++[bO x.wr]) x.po) x.au) x.da=ixE z x:=rfl;have l10:(z++[bY x.n]++[bY x.kd]++[bY x.ar]).length=z.length+3:=sM;have u1:=qM2 (b:=z++[bY x.n]++[bY x.kd]++[bY x.ar]) (n:=x.sz) oM;generalize hC1:z++[bY x.n]++[bY x.kd]++[bY x.ar]=C1 at *;have l11:(C1++beI 2 x.sz 2).length=C1.length+2:=by simp only[length_append,yB2]
  generalize C1++beI 2 x.sz 2=C2 at *;have l12:(C2++[bO x.wr]).length=C2.length+1:=sM;have u2:=qAk (b:=C2++[bO x.wr]) (x:=x.po) ⟨oM,oM⟩;have m2:C2.map qA++[qA (bO x.wr)]=(C2++[bO x.wr]).map qA:=sM;generalize hC3:C2++[bO x.wr]=C3 at *;have l13:=yB (b:=C3) (x:=x.po);have u3:=qAk (b:=blL C3 x.po) (x:=x.au) ⟨oM,oM⟩;generalize blL C3 x.po=D1 at *;have l14:=yB (b:=D1) (x:=x.au);have u4:=qAk (b:=blL D1 x.au) (x:=x.da) ⟨oM,oM⟩;generalize blL D1 x.au=D2 at *;have l15:=yB (b:=D2) (x:=x.da);rw[d0] at l15 u4;have t1:List.take (z.length+3) C1=C1:=take_of_length_le oM;have t2:List.take (C1.length+2) C2=C2:=take_of_length_le oM;have t3:List.take (C1.length+2+1) C3=C3:=take_of_length_le oM;have t4:List.take (C3.length+2+x.po.length) D1=D1:=take_of_length_le oM;have t5:List.take (D1.length+2+x.au.length) D2=D2:=take_of_length_le oM;simp(maxSteps:=9^9)(disch:=try exact dS)only[go_sem,c,hg,oms,ixA,w1,w2,w3,h6,u1,hC1,hC3,m2,t1,h4,hw,t2,t3,h2,u2,u3,u4,t4,t5,mcn];repeat refine aiG ?_
  refine qJ.rd (fun j=>if j=9000 then 102544 else j) ?_ ?_ rfl;all_goals simp(maxSteps:=9^9)(disch:=try exact dS)only[go_sem,id,saA,hf,l15]
 obtain rfl:k=s.ix.length:=oM;rw[take_length] at le;have e7:s.ix.foldl ixE (eA6 s)=eA7 s:=rfl;rw[e7] at le;have u8:=zKn (l:=[s.lk.fa,s.lk.mx,s.lk.rc,s.lk.si,s.lk.cl,s.lk.pe]) (b:=eA7 s) ⟨⟨sM,sM⟩,oM⟩;rw[show nuE (eA7 s) [s.lk.fa,s.lk.mx,s.lk.rc,s.lk.si,s.lk.cl,s.lk.pe]=eA8 s from rfl] at u8;have le8:=jDi hs;have h9:eA8 s++[bY s.ks.length]=eA9 s:=rfl;have l9:(eA9 s).length=(eA8 s).length+1:=by rw[←h9,@length_append _ (eA8 s) _];rfl
 simp only[mcn,iT] at u8;simp(maxSteps:=9^9)(disch:=try exact dS)only[go_sem,saA,take_length,e7,h3,u8,wk];repeat refine aiG ?_
 refine qB s.ks.length (fun k=>[(3,.ref 8256 0 0),(137,.t (.sl (s.ks.map lvA))),(138,.t (.int .i64 s.ks.length)),(139,.t (.int .i64 (k:Nat)))]) (fun k=>[(8256,.live 1 [.sl 9000 0 ((s.ks.take k).foldl lvE (eA9 s)).length] true true),(9000,.live 1 ((((s.ks.take k).foldl lvE (eA9 s)).map qA).map V.t) true false)]) (qJ.rd (fun j=>if j=9000 then 118880 else j) ?_ ?_ rfl) (fun k hk=>?_)
 ·simp(maxSteps:=9^9)(disch:=try exact dS)only[go_sem,id]
 ·simp(maxSteps:=9^9)(disch:=try exact dS)only[go_sem,id,saA,take_zero,foldl_nil,h9,l9]
 have le:=jL4 hs k;by_cases c:k<s.ks.length
 ·obtain⟨x,hg,hm,_⟩:=qX c;have hx:=hs.ks.2 x hm;unfold Lv.Ok at hx;have hf:=yX (f:=lvE) (b:=eA9 s) hg;generalize (s.ks.take k).foldl lvE (eA9 s)=z at *;have w1:=zJo (n:=x.us) oM;have d0:blL z x.un++[bY x.us]=lvE z x:=rfl;have u1:=qAk (b:=z) (x:=x.un) ⟨oM,oM⟩;have l11:=yB (b:=z) (x:=x.un);have l12:(lvE z x).length=(blL z x.un).length+1:=by rw[←d0,@length_append _ (blL z x.un) _];rfl
  simp(maxSteps:=9^9)(disch:=try exact dS)only[go_sem,c,hg,oms,lvA,w1,h2,u1,mcn];repeat refine aiG ?_
  refine qJ.rd (fun j=>if j=9000 then 135296 else j) ?_ ?_ rfl;all_goals simp(maxSteps:=9^9)(disch:=try exact dS)only[go_sem,id,hf,l12,l11,d0]
 obtain rfl:k=s.ks.length:=oM;have ea:s.ks.foldl lvE (eA9 s)=qHx s:=rfl;simp(maxSteps:=9^9)(disch:=try exact dS)only[go_sem,take_length,ea];repeat refine aiG ?_
 exact jU4 (qHx s) rfl rfl rfl
def IE (r:Nat)(e:Int):Ob:= .live 2 [.agg [.ref r 0 0,.t (.int .i64 e)]] true true
theorem yC {r:Nat}{e:Int}:IE r e = .live 2 [.agg [.ref r 0 0,.t (.int .i64 e)]] true true:=rfl
theorem qW8 {r:Nat}{e e':Int}(h:IE r e=IE r e'):e=e':=by
 unfold IE at h;injection h with _ h;injection h with h;injection h with h;injection h with _ h;injection h with h;injection h with h;injection h
def Rn (s:Rd)(e:Int):Prop:=qEo s∧(e=0→s.2.2=0)
abbrev et (s:Rd)(e:Int):Rd:=(s.1,s.2.1,e)
def jEh (s:Rd)(k:Nat)(m:Int):Int×Rd:=if (qQ s k).2.2.2=0∧m<(qQ s k).1 then (0,((qQ s k).2.1,(qQ s k).2.2.1,1)) else qQ s k
theorem qT4 {b:List UInt8}{p k:Nat}{e:Int}(h:e≠0):qQ (b,p,e) k=(0,(b,p,e)):=if_pos h
theorem jAd {b:List UInt8}{p k:Nat}{e m:Int}(h:e≠0):jEh (b,p,e) k m=(0,(b,p,e)):=by
 unfold jEh;rw[qT4 h,if_neg (fun g=>h g.1)]
theorem zCa {b:List UInt8}{p k:Nat}{e:Int}(h:e≠0):zF (b,p,e) k=([],(b,p,e)):=if_pos h
theorem zPt {s:Rd}{k:Nat}:(qQ s k).1≤9223372036854775807:=by
 unfold qQ;split
 ·simp
 ·split
  ·simp
  ·split
   ·simp
   ·simp only;omega
theorem jAe {s:Rd}{k:Nat}:jEh s k 9223372036854775807=qQ s k:=by
 have h:=zPt (s:=s) (k:=k);unfold jEh;rw[if_neg (fun g=>oM)]
def qJa:ECt where
 α:=Rd×Int×Nat×Int
 β:=Int×Rd×Int
 aS:=fun (s,e,k,m)=>[.ref 0 0 0,.t (.int .i64 k),.t (.int .i64 m)]
 ins:=fun (s,e,k,m)=>[IE 1 e,vD s]
 pre:=fun (s,e,k,m)=>Rn s e∧1≤k∧k≤8
 r:=fun (v,s,e)=> .t (.int .i64 v)
 outs:=fun (v,s,e)=>[IE 1 e,vD s]
 R:=fun (s,e,k,m) (v,s',e')=>(v,et s' e')=jEh (et s e) k m∧Rn s' e'
 inj:=by
  rintro⟨s,e,k,m⟩ ⟨s',e',k',m'⟩ h h2;simp only[List.cons.injEq,V.t.injEq,T.int.injEq,true_and,and_true,Int.natCast_inj] at h h2;obtain⟨rfl,rfl⟩:=h;cases qW8 h2.1;cases kC h2.2;rfl
theorem zGy {g:EF qJa}{s:Rd}{e:Int}{k:Nat}{m:Int}(h:Rn s e∧1≤k∧k≤8) : ∃ v s' e',((v,et s' e')=jEh (et s e) k m∧Rn s' e')∧qJa.fs g [.ref 0 0 0,.t (.int .i64 k),.t (.int .i64 m)] [IE 1 e,rdO s]=some (.t (.int .i64 v),[IE 1 e',rdO s']):=by
 obtain⟨⟨v,s',e'⟩,h1,h2⟩:=qJa.eq g (s,e,k,m) h;exact⟨v,s',e',h1,h2⟩
theorem zYy {s:Rd}{e:Int}{k:Nat}{m:Int}(v:Int)(s':Rd)(e':Int)(hR:(v,et s' e')=jEh (et s e) k m∧Rn s' e')(hV:vv = .t (.int .i64 v))(hO:oo=[IE 1 e',vD s']):qJa.K (s,e,k,m) vv oo:=⟨(v,s',e'),hR,hV,hO⟩
theorem qNr (h1:LkC tab 141 qFp)(h2:LkC tab 143 qLc)(s:Rd)(e:Int)(k:Nat)(m:Int)(hp:Rn s e∧1≤k∧k≤8) :
  jW.1.wp tab gl (qE 0 [.ref 0 0 0,.t (.int .i64 k),.t (.int .i64 m)]) (qE 0 [IE 1 e,vD s]) (qV [(6,none)] 2 (qJa.K (s,e,k,m))):=by
 obtain⟨⟨ok,hI⟩,hk⟩:=hp;obtain⟨b,p,f⟩:=s;by_cases c:e=0
 rotate_left
 ·simp(disch:=omega)only[go_sem,jW,yC,zL,c];exact zYy 0 (b,p,f) e ⟨(jAd c).symm,ok,hI⟩ rfl rfl
 subst c;obtain rfl:f=0:=hI rfl;have e1:=wU (s:=(b,p,0)) (k:=k) ⟨ok,hk⟩;have o1:=qYi (k:=k) ok;have hv:=zOa (s:=(b,p,0)) (k:=k);have hd:jEh (b,p,0) k m=if (qQ (b,p,0) k).2.2.2=0∧m<(qQ (b,p,0) k).1 then (0,((qQ (b,p,0) k).2.1,(qQ (b,p,0) k).2.2.1,1)) else qQ (b,p,0) k:=rfl
 generalize qQ (b,p,0) k=y at *;obtain⟨v,b',p',x⟩:=y;simp only at hv hd o1;have e2:=qQu o1;simp only[rdO] at e1 e2;by_cases c1:x=0
 ·subst c1;by_cases c2:m<v
  ·rw[if_pos ⟨rfl,c2⟩] at hd;simp(disch:=omega)only[go_sem,jW,yC,zL,h1,e1,h2,e2,c2];exact zYy 0 (b',p',0) 1 ⟨hd.symm,o1,fun h=>absurd h (by decide)⟩ rfl rfl
  ·rw[if_neg (fun h=>c2 h.2)] at hd;simp(disch:=omega)only[go_sem,jW,yC,zL,h1,e1,h2,e2,c2];exact zYy v (b',p',0) 0 ⟨hd.symm,o1,fun _=>rfl⟩ rfl rfl
 ·rw[if_neg (fun h=>c1 h.1)] at hd;obtain rfl:v=0:=hv.2 c1;simp(disch:=omega)only[go_sem,jW,yC,zL,h1,e1,h2,e2,c1];exact zYy 0 (b',p',x) x ⟨hd.symm,o1,fun h=>absurd h c1⟩ rfl rfl
def qOy:ECt where
 α:=Rd×Int×Nat
 β:=Int×Rd×Int
 aS:=fun (s,e,k)=>[.ref 0 0 0,.t (.int .i64 k)]
 ins:=fun (s,e,k)=>[IE 1 e,vD s]
 pre:=fun (s,e,k)=>Rn s e∧1≤k∧k≤8
 r:=fun (v,s,e)=> .t (.int .i64 v)
 outs:=fun (v,s,e)=>[IE 1 e,vD s]
 R:=fun (s,e,k) (v,s',e')=>(v,et s' e')=qQ (et s e) k∧Rn s' e'
 inj:=by
  rintro⟨s,e,k⟩ ⟨s',e',k'⟩ h h2;simp only[List.cons.injEq,V.t.injEq,T.int.injEq,true_and,and_true,Int.natCast_inj] at h h2;subst h;cases qW8 h2.1;cases kC h2.2;rfl
theorem qEc {g:EF qOy}{s:Rd}{e:Int}{k:Nat}(h:Rn s e∧1≤k∧k≤8) : ∃ v s' e',((v,et s' e')=qQ (et s e) k∧Rn s' e')∧qOy.fs g [.ref 0 0 0,.t (.int .i64 k)] [IE 1 e,rdO s]=some (.t (.int .i64 v),[IE 1 e',rdO s']):=by
 obtain⟨⟨v,s',e'⟩,h1,h2⟩:=qOy.eq g (s,e,k) h;exact⟨v,s',e',h1,h2⟩
theorem qUk {g1}(h1:LkE tab 131 qJa g1)(s:Rd)(e:Int)(k:Nat)(hp:Rn s e∧1≤k∧k≤8) :
  qB0.1.wp tab gl (qE 0 [.ref 0 0 0,.t (.int .i64 k)]) (qE 0 [IE 1 e,vD s]) (qV [(4,none)] 2 (qOy.K (s,e,k))):=by
 obtain⟨v,s',e',⟨hR,hn⟩,e1⟩:=zGy (g:=g1) (m:=9223372036854775807) hp;rw[jAe] at hR;simp only[rdO,yC] at e1;simp(disch:=omega)only[go_sem,qB0,yC,vJ,h1,e1];exact⟨(v,s',e'),⟨hR,hn⟩,rfl,rfl⟩
def qOz:ECt where
 α:=Rd×Int
 β:=Bool×Rd×Int
 aS:=fun (s,e)=>[.ref 0 0 0]
 ins:=fun (s,e)=>[IE 1 e,vD s]
 pre:=fun (s,e)=>Rn s e
 r:=fun (v,s,e)=> .t (.bool v)
 outs:=fun (v,s,e)=>[IE 1 e,vD s]
 R:=fun (s,e) (v,s',e')=>(v=((qYh (et s e) 1).1==1)∧et s' e'=(qYh (et s e) 1).2)∧Rn s' e'
 inj:=by
  rintro⟨s,e⟩ ⟨s',e'⟩ _ h2;simp only[List.cons.injEq,and_true] at h2;cases qW8 h2.1;cases kC h2.2;rfl
theorem jDw {g:EF qOz}{s:Rd}{e:Int}(h:Rn s e) : ∃ v s' e',((v=((qYh (et s e) 1).1==1)∧et s' e'=(qYh (et s e) 1).2)∧Rn s' e')∧qOz.fs g [.ref 0 0 0] [IE 1 e,rdO s]=some (.t (.bool v),[IE 1 e',rdO s']):=by
 obtain⟨⟨v,s',e'⟩,h1,h2⟩:=qOz.eq g (s,e) h;exact⟨v,s',e',h1,h2⟩
theorem qSu {g1}(h1:LkE tab 131 qJa g1)(s:Rd)(e:Int)(hp:Rn s e) :
  qA5.1.wp tab gl (qE 0 [.ref 0 0 0]) (qE 0 [IE 1 e,vD s]) (qV [(2,none)] 2 (qOz.K (s,e))):=by
 obtain⟨v,s',e',⟨hR,hn⟩,e1⟩:=zGy (g:=g1) (k:=1) (m:=1) ⟨hp,oM,oM⟩;rw[show ((1:Nat):Int)=1 from rfl] at e1;have hR':(v,et s' e')=qYh (et s e) 1:=hR;simp only[rdO,yC] at e1;simp(disch:=omega)only[go_sem,qA5,yC,vJ,h1,e1];exact⟨(v==1,s',e'),⟨⟨by rw[←hR'],by rw[←hR']⟩,hn⟩,rfl,rfl⟩
def qHh:ECt where
 α:=Rd×Int
 β:=List UInt8×Rd×Int
 aS:=fun (s,e)=>[.ref 0 0 0]
 ins:=fun (s,e)=>[IE 1 e,vD s]
 pre:=fun (s,e)=>Rn s e
 r:=fun (v,s,e)=> .t (.sl (v.map qA))
 outs:=fun (v,s,e)=>[IE 1 e,vD s]
 R:=fun (s,e) (v,s',e')=>(v,et s' e')=zF (et s e) 4096∧Rn s' e'
 inj:=by
  rintro⟨s,e⟩ ⟨s',e'⟩ _ h2;simp only[List.cons.injEq,and_true] at h2;cases qW8 h2.1;cases kC h2.2;rfl
theorem qX4 {g:EF qHh}{s:Rd}{e:Int}(h:Rn s e) : ∃ v s' e',((v,et s' e')=zF (et s e) 4096∧Rn s' e')∧qHh.fs g [.ref 0 0 0] [IE 1 e,rdO s]=some (.t (.sl (v.map qA)),[IE 1 e',rdO s']):=by
 obtain⟨⟨v,s',e'⟩,h1,h2⟩:=qHh.eq g (s,e) h;exact⟨v,s',e',h1,h2⟩
theorem jMz {s:Rd}{e:Int}(v:List UInt8)(s':Rd)(e':Int)(hR:(v,et s' e')=zF (et s e) 4096∧Rn s' e')(hV:vv = .t (.sl (v.map qA)))(hO:oo=[IE 1 e',vD s']):qHh.K (s,e) vv oo:=⟨(v,s',e'),hR,hV,hO⟩
theorem qSt (h1:LkC tab 142 qGd)(h2:LkC tab 143 qLc)(s:Rd)(e:Int)(hp:Rn s e) :
  kO.1.wp tab gl (qE 0 [.ref 0 0 0]) (qE 0 [IE 1 e,vD s]) (qV [(2,none)] 2 (qHh.K (s,e))):=by
 obtain⟨ok,hI⟩:=hp;obtain⟨b,p,f⟩:=s;by_cases c:e=0
 rotate_left
 ·simp(disch:=omega)only[go_sem,kO,yC,zL,c];exact jMz [] (b,p,f) e ⟨(zCa c).symm,ok,hI⟩ rfl rfl
 subst c;obtain rfl:f=0:=hI rfl;have e1:=qGg (s:=(b,p,0)) (k:=4096) ⟨ok,oM⟩;have o1:=zUr (k:=4096) ok;obtain⟨⟨v,b',p',x⟩,hy⟩ : ∃ y,zF (b,p,0) 4096=y:=⟨_,rfl⟩;rw[hy] at e1 o1;rw[show ((4096:Nat):Int)=4096 from rfl] at e1;simp only at o1;have e2:=qQu o1;simp only[rdO] at e1 e2;simp(disch:=omega)only[go_sem,kO,yC,zL,h1,e1,h2,e2];exact jMz v (b',p',x) x ⟨hy.symm,o1,fun h=>h⟩ rfl rfl
def qTp:ECt where
 α:=Rd×Int
 β:=(List zB×Int)×Rd×Int
 aS:=fun (s,e)=>[.ref 0 0 0]
 ins:=fun (s,e)=>[IE 1 e,vD s]
 pre:=fun (s,e)=>Rn s e
 r:=fun (v,s,e)=> .t (.agg [.sl (v.1.map vS),.int .i64 v.2])
 outs:=fun (v,s,e)=>[IE 1 e,vD s]
 R:=fun (s,e) (v,s',e')=>(v,et s' e')=jEk (et s e)∧Rn s' e'
 inj:=by
  rintro⟨s,e⟩ ⟨s',e'⟩ _ h2;simp only[List.cons.injEq,and_true] at h2;cases qW8 h2.1;cases kC h2.2;rfl
theorem jM0 {g:EF qTp}{s:Rd}{e:Int}(h:Rn s e) : ∃ v s' e',((v,et s' e')=jEk (et s e)∧Rn s' e')∧qTp.fs g [.ref 0 0 0] [IE 1 e,rdO s]=some (.t (.agg [.sl (v.1.map vS),.int .i64 v.2]),[IE 1 e',rdO s']):=by
 obtain⟨⟨v,s',e'⟩,h1,h2⟩:=qTp.eq g (s,e) h;exact⟨v,s',e',h1,h2⟩
theorem qQ1 {g1}(h1:LkE tab 133 qHh g1)(h2:LkC tab 158 zC3)(s:Rd)(e:Int)(hp:Rn s e) :
  kA.1.wp tab gl (qE 0 [.ref 0 0 0]) (qE 0 [IE 1 e,vD s]) (qV [(2,some (2,true))] 2 (qTp.K (s,e))):=by
 obtain⟨v,s',e',⟨hR,hn⟩,e1⟩:=qX4 (g:=g1) hp;have lv:=zUq (s:=et s e) (k:=4096);rw[←hR] at lv;have e2:=jLx (b:=v) (by simp only at lv;omega);have hd:jEk (et s e)=if (zF (et s e) 4096).2.2.2≠0 then (([],0),(zF (et s e) 4096).2) else (((dcT (zF (et s e) 4096).1).1,(dcT (zF (et s e) 4096).1).2.1),((zF (et s e) 4096).2.1,(zF (et s e) 4096).2.2.1,(dcT (zF (et s e) 4096).1).2.2)):=rfl
 rw[←hR] at hd;simp only at hd;obtain⟨b,p,f⟩:=s';simp only[rdO,yC] at e1;by_cases c:e'=0
 ·subst c;obtain rfl:f=0:=hn.2 rfl;rw[if_neg sM] at hd;generalize dcT v=z at *;obtain⟨bk,u,x⟩:=z;simp only at e2 hd;simp(disch:=omega)only[go_sem,kA,yC,vJ,h1,e1,h2,e2];exact⟨((bk,u),(b,p,0),x),⟨hd.symm,hn.1,fun _=>rfl⟩,rfl,rfl⟩
 ·rw[if_pos c] at hd;simp(disch:=omega)only[go_sem,kA,yC,vJ,h1,e1,c];exact⟨(([],0),(b,p,f),e'),⟨hd.symm,hn⟩,rfl,rfl⟩
def qTq:ECt where
 α:=Rd×Int
 β:=Ix×Rd×Int
 aS:=fun (s,e)=>[.ref 0 0 0]
 ins:=fun (s,e)=>[IE 1 e,vD s]
 pre:=fun (s,e)=>Rn s e
 r:=fun (v,s,e)=> .t (ixA v)
 outs:=fun (v,s,e)=>[IE 1 e,vD s]
 R:=fun (s,e) (v,s',e')=>(v,et s' e')=zRf (et s e)∧Rn s' e'
 inj:=by
  rintro⟨s,e⟩ ⟨s',e'⟩ _ h2;simp only[List.cons.injEq,and_true] at h2;cases qW8 h2.1;cases kC h2.2;rfl
theorem jM1 {g:EF qTq}{s:Rd}{e:Int}(h:Rn s e) : ∃ v s' e',((v,et s' e')=zRf (et s e)∧Rn s' e')∧qTq.fs g [.ref 0 0 0] [IE 1 e,rdO s]=some (.t (ixA v),[IE 1 e',rdO s']):=by
 obtain⟨⟨v,s',e'⟩,h1,h2⟩:=qTq.eq g (s,e) h;exact⟨v,s',e',h1,h2⟩
theorem qQ0 {g1}(h1:LkE tab 130 qOy g1){g2}(h2:LkE tab 134 qOz g2){g3}(h3:LkE tab 133 qHh g3)(s:Rd)(e:Int)(hp:Rn s e) :
  qAj.1.wp tab gl (qE 0 [.ref 0 0 0]) (qE 0 [IE 1 e,vD s]) (qV [(2,some (8,true))] 2 (qTq.K (s,e))):=by
 obtain⟨n,s1,f1,⟨q1,m1⟩,e1⟩:=qEc (g:=g1) (k:=1) ⟨hp,oM,oM⟩;obtain⟨kd,s2,f2,⟨q2,m2⟩,e2⟩:=qEc (g:=g1) (k:=1) ⟨m1,oM,oM⟩;obtain⟨ar,s3,f3,⟨q3,m3⟩,e3⟩:=qEc (g:=g1) (k:=1) ⟨m2,oM,oM⟩;obtain⟨sz,s4,f4,⟨q4,m4⟩,e4⟩:=qEc (g:=g1) (k:=2) ⟨m3,oM,oM⟩;obtain⟨w,s5,f5,⟨⟨q5,q5'⟩,m5⟩,e5⟩:=jDw (g:=g2) m4;obtain⟨po,s6,f6,⟨q6,m6⟩,e6⟩:=qX4 (g:=g3) m5;obtain⟨au,s7,f7,⟨q7,m7⟩,e7⟩:=qX4 (g:=g3) m6;obtain⟨da,s8,f8,⟨q8,m8⟩,e8⟩:=qX4 (g:=g3) m7;obtain⟨x,hx⟩ : ∃ x,qYh (et s4 f4) 1=(x,et s5 f5):=⟨_,Prod.ext rfl q5'.symm⟩;rw[hx] at q5;have hd:zRf (et s e)=(⟨n,kd,ar,sz,po,au,w,da⟩,et s8 f8):=by simp only[zRf,←q1,←q2,←q3,←q4,hx,←q6,←q7,←q8,q5]
 rw[show ((1:Nat):Int)=1 from rfl] at e1 e2 e3;rw[show ((2:Nat):Int)=2 from rfl] at e4;simp only[rdO,yC] at e1 e2 e3 e4 e5 e6 e7 e8;simp(maxSteps:=9^9)(disch:=try exact dS)only[go_sem,qAj,yC,vJ,h1,h2,h3,e1,e2,e3,e4,e5,e6,e7,e8];exact⟨(⟨n,kd,ar,sz,po,au,w,da⟩,s8,f8),⟨hd.symm,m8⟩,rfl,rfl⟩
def qTo:ECt where
 α:=Rd×Int×Nat
 β:=List (List UInt8)×Rd×Int
 aS:=fun (s,e,n)=>[.t (.int .i64 n),.ref 0 0 0]
 ins:=fun (s,e,n)=>[.live 1 [.ref 1 0 0] true true,IE 2 e,vD s]
 pre:=fun (s,e,n)=>Rn s e∧n≤10
 r:=fun (v,s,e)=> .t (.sl (v.map bsT))
 outs:=fun (v,s,e)=>[.live 1 [.ref 1 0 0] true true,IE 2 e,vD s]
 R:=fun (s,e,n) (v,s',e')=>(v,et s' e')=zI8 (et s e) n∧Rn s' e'
 inj:=by
  rintro⟨s,e,n⟩ ⟨s',e',n'⟩ h h2;simp only[List.cons.injEq,V.t.injEq,T.int.injEq,true_and,and_true,Int.natCast_inj] at h h2;subst h;cases qW8 h2.1;cases kC h2.2;rfl
theorem jDu {g:EF qTo}{s:Rd}{e:Int}{n:Nat}(h:Rn s e∧n≤10) : ∃ v s' e',((v,et s' e')=zI8 (et s e) n∧Rn s' e')∧qTo.fs g [.t (.int .i64 n),.ref 0 0 0] [.live 1 [.ref 1 0 0] true true,IE 2 e,rdO s]=some (.t (.sl (v.map bsT)),[.live 1 [.ref 1 0 0] true true,IE 2 e',rdO s']):=by
 obtain⟨⟨v,s',e'⟩,h1,h2⟩:=qTo.eq g (s,e,n) h;exact⟨v,s',e',h1,h2⟩
theorem qV8 {g1}(h1:LkE tab 133 qHh g1)(s:Rd)(e:Int)(n:Nat)(hp:Rn s e∧n≤10) :
  qCw.1.wp tab gl (qE 0 [.t (.int .i64 n),.ref 0 0 0]) (qE 0 [.live 1 [.ref 1 0 0] true true,IE 2 e,vD s]) (qV [(3,none)] 3 (qTo.K (s,e,n))):=by
 obtain⟨hn,h10⟩:=hp;simp(maxSteps:=9^9)(disch:=try exact dS)only[go_sem,qCw,yC,vJ];refine yU (σ:=Nat×List (List UInt8)×Rd×Int) (fun t=>t.1≤n∧(t.2.1,et t.2.2.1 t.2.2.2)=zI8 (et s e) t.1∧Rn t.2.2.1 t.2.2.2) (fun t=>n-t.1) (fun t=>[(1,.ref 0 0 0),(3,.sl 9000 0 t.1),(4,.t (.int .i64 n)),(5,.t (.int .i64 t.1))]) (fun t=>[(9000,.live 1 ((t.2.1.map bsT).map V.t) true false),(0,.live 1 [.ref 1 0 0] true true),(1,IE 2 t.2.2.2),(2,vD t.2.2.1)]) (0,[],s,e) ⟨sM,rfl,hn⟩ ?_ ?_
 ·refine qJ.cv0 (hv:=[(9000,.live 1 [] true false)]) (ho:=[(0,.live 1 [.ref 1 0 0] true true),(1,IE 2 e),(2,vD s)]) id ?_ ?_ rfl rfl;all_goals simp(maxSteps:=9^9)(disch:=try exact dS)only[go_sem,id,yC,vJ]
  all_goals rfl
 rintro⟨k,l,t,f⟩ ⟨hk,hR,ht⟩;simp only at hk hR ht;have ll:l.length=k:=by have:=zN5 (s:=et s e) (n:=k);rw[←hR] at this;exact this
 rcases (by omega:k<n∨n=k) with c | rfl
 ·obtain⟨x,t',f',⟨hx,ht'⟩,e1⟩:=qX4 (g:=g1) ht;have hs:(l++[x],et t' f')=zI8 (et s e) (k+1):=by simp only[zI8,←hR,←hx]
  simp only[rdO,yC] at e1;simp(maxSteps:=9^9)(disch:=try exact dS)only[go_sem,yC,vJ,c,h1,e1,ll];repeat refine aiG ?_
  refine qZz.of (k+1,l++[x],t',f') ⟨by show k+1≤n;omega,hs,ht'⟩ (by show n-(k+1)<n-k;omega) (qJ.rd (fun j=>if j=9000 then 16448 else j) ?_ ?_ rfl);all_goals simp(maxSteps:=9^9)(disch:=try exact dS)only[go_sem,id,yC,vJ]
 ·have tl:List.take n l=l:=take_of_length_le oM;simp(maxSteps:=9^9)(disch:=try exact dS)only[go_sem,yC,vJ,tl,ll];exact⟨(l,t,f),⟨hR,ht⟩,rfl,rfl⟩
end Go.Eng
end
