/- A part of an abstract machine, its walks, their tie. -/
import Derived.Test.YtlhjonbjbiafaaaGreatDoorU29
import Derived.Test.YtlhjonbjbiafaaaGreatDoorU16
import Derived.Test.YtlhjonbjbiafaaaGreatDoorU22
import Derived.Conc.MuLone
import Derived.Lib.BytesEntry
import Derived.Laws.Externs
import Derived.Test.YtlhjonbjbiafaaaGreatDoorU24
import Derived.Test.YtlhjonbjbiafaaaGreatDoorU28
set_option linter.all false
section
set_option maxHeartbeats 64000000
set_option maxRecDepth 20000
namespace Go.Eng
variable (tab:Tab) (gl:Gl)
variable {vv:V} {oo:List Ob}
theorem qX5 (d:Dv):(V.t (dvA d)).cells.length=37:=rfl
theorem qYv (q:Rq):(V.t (rqA q)).cells.length=5:=rfl
theorem jBw (r:Rs):(V.t (rsA r)).cells.length=4:=rfl
theorem qX7 (d:Dv):(V.t (dvA d)).plain=true:=rfl
theorem qYx (q:Rq):(V.t (rqA q)).plain=true:=rfl
theorem jBy (r:Rs):(V.t (rsA r)).plain=true:=rfl
theorem qX6 (d:Dv):qD2 (List.take 37 (V.t (dvA d)).cells)=some (dvA d).cells:=rfl
theorem qX4 (d:Dv):T.agg (dvA d).cells=dvA d:=rfl
theorem qYw (q:Rq):qD2 (List.take 5 (V.t (rqA q)).cells)=some (rqA q).cells:=rfl
theorem qYu (q:Rq):T.agg (rqA q).cells=rqA q:=rfl
theorem jBx (r:Rs):qD2 (List.take 4 (V.t (rsA r)).cells)=some (rsA r).cells:=rfl
theorem jBv (r:Rs):T.agg (rsA r).cells=rsA r:=rfl
def okK (k:Dk)(nx:Int):Prop:=okD k∧1≤nx∧nx≤100000
theorem DvP.of {k:Dk}{nx:Int}{s:St}(hk:okK k nx)(hs:s.Tp):DvP ⟨k,s,true,nx⟩:=⟨⟨rfl,hk.1,hk.2⟩,hs.a.B⟩
theorem zAr {d:Dv}{t:St}(h:t.a=d.s.a):qQi d t = { d with s:=t }:=by rw[qQi,if_pos (by rw[h])]
theorem jKc {g:EF yS}{k:Dk}{nx lo i b:Int}{s t:St}{c:Cm}{x:Rs}(hk:okK k nx)(hs:s.Tp)(hc:SnP s lo c)(e:vZ s c=(t,x))(ha:t.a=s.a) :
  yS.fs g [.t (dvA ⟨k,s,true,nx⟩),.t (.int .i64 lo),.t (rqA (qC c)),.t (.int .i64 i),.t (.int .i64 b)] []=some (.tup [.t (dvA ⟨k,t,true,nx⟩),.t (rsA x),.t (.bool (decide (x.e=0∧(x.ns.length:Int)=i∧(x.bl.length:Int)=b)))],[]):=by
 obtain⟨r,y,ok,⟨h1,h2⟩,e1⟩:=zWv (g:=g) (d:=⟨k,s,true,nx⟩) (lo:=lo) (q:=qC c) (i:=i) (b:=b) ⟨.of hk hs,c,hc,rfl⟩;obtain⟨h3,h4⟩:=h1 c hc rfl;have h5:qQi ⟨k,s,true,nx⟩ t=⟨k,t,true,nx⟩:=zAr ha;rw[show (vZ s c).1=t by rw[e]] at h3;rw[show (vZ s c).2=x by rw[e]] at h4;rw[e1,h2,h3,h4,h5]
theorem qQ1 {g:EF yS}{k:Dk}{nx lo i b:Int}{s t:St}{c:Cm}{x:Rs}(hk:okK k nx)(hs:s.Tp)(hc:SnP s lo c)(e:vZ s c=(t,x))(ha:t.a=s.a)(hx:x.e=0∧(x.ns.length:Int)=i∧(x.bl.length:Int)=b) :
  yS.fs g [.t (dvA ⟨k,s,true,nx⟩),.t (.int .i64 lo),.t (rqA (qC c)),.t (.int .i64 i),.t (.int .i64 b)] []=some (.tup [.t (dvA ⟨k,t,true,nx⟩),.t (rsA x),.t (.bool true)],[]):=by
 rw[jKc hk hs hc e ha,decide_eq_true hx]
theorem zDm {g:EF kE}{k:Dk}{nx lo:Int}{s t:St}{c:Cm}{x:Rs}(hk:okK k nx)(hs:s.Tp)(hc:SnP s lo c)(e:vZ s c=(t,x))(ha:t.a=s.a) :
  kE.fs g [.t (dvA ⟨k,s,true,nx⟩),.t (.int .i64 lo),.t (rqA (qC c))] []=some (.tup [.t (dvA ⟨k,t,true,nx⟩),.t (rsA x),.t (.bool true)],[]):=by
 obtain⟨r,y,ok,⟨h1,h2⟩,e1⟩:=zWs (g:=g) (d:=⟨k,s,true,nx⟩) (lo:=lo) (q:=qC c) ⟨.of hk hs,c,hc,rfl⟩;obtain⟨h3,h4⟩:=h2 c hc rfl;have h5:qQi ⟨k,s,true,nx⟩ t=⟨k,t,true,nx⟩:=zAr ha;rw[show (vZ s c).1=t by rw[e]] at h3;rw[show (vZ s c).2=x by rw[e]] at h4;rw[e1,h1,h3,h4,h5]
def cyV (k:Dk)(a:Sa)(n:Int):Dv:=qQi ⟨⟨k.ar,0,0,0,false⟩,qCu a,true,n+1⟩ (zCe (qCu a))
def cyP (ar:List (List UInt8))(a:Sa)(n:Int):Prop:=(a.Tp∧a.res≤999)∧n≤90000∧jOk ar n (qGt a)
def qL9:ECt where
 α:=Dv
 β:=Dv×Bool
 aS:=fun d=>[.t (dvA d)]
 pre:=fun d=>d.k.ar.length=4 ∧ ∃ n a,cyP d.k.ar a n
 r:=fun (r,ok)=> .tup [.t (dvA r),.t (.bool ok)]
 R:=fun d (r,ok)=>ok=true ∧ ∀ n a,cyP d.k.ar a n→r=cyV d.k a n
 inj:=by rintro d d' e _;simp only[qAf,qJ3,qRv] at e;obtain rfl:=e;rfl
theorem jIb {g:EF qL9}{d:Dv}(hp:d.k.ar.length=4 ∧ ∃ n a,cyP d.k.ar a n) : ∃ (r:Dv) (ok:Bool),(ok=true ∧ ∀ n a,cyP d.k.ar a n→r=cyV d.k a n)∧qL9.fs g [.t (dvA d)] []=some (.tup [.t (dvA r),.t (.bool ok)],[]):=by
 obtain⟨y,h1,h2⟩:=qL9.eq g d hp;exact⟨y.1,y.2,h1,h2⟩
theorem jL7 {d:Dv}(r:Dv)(ok:Bool)(hR:ok=true ∧ ∀ n a,cyP d.k.ar a n→r=cyV d.k a n)(hV:vv = .tup [.t (dvA r),.t (.bool ok)])(hO:oo=[]):qL9.K d vv oo:=⟨(r,ok),hR,hV,hO⟩
theorem zFa {g1}(h1:LkE tab 46 qI1 g1){g2}(h2:LkE tab 45 qL7 g2){g3}(h3:LkE tab 47 qI8 g3){g4}(h4:LkE tab 12 yS g4)(d:Dv)(hp:d.k.ar.length=4 ∧ ∃ n a,cyP d.k.ar a n) :
  qH3.1.wp tab gl (qF 0 [.t (dvA d)]) (qF 0 []) (zD [(2,(some (37,true))),(3,none)] 0 (qL9.K d)):=by
 obtain⟨hl,n,a,⟨ha,hr⟩,hn,hj⟩:=hp;have e1 := @jHi g1 d;obtain⟨r,e,⟨rfl,hR⟩,e2⟩:=jHj (g:=g2) (d:=zMs d) ⟨rfl,hl,n,a,ha.B,hj⟩;have hr1:=hR n a ha.B hj;have e3 := @jIe g3 0;obtain⟨hS,hT⟩:=jAx ha hr;have hD:DvP r:=by
  rw[hr1];have:=hj.1.1;exact⟨⟨rfl,⟨rfl,hl,rfl,by show (0:Int)≤0∧(0:Int)≤1000000;decide⟩,by show 1≤n+1;omega,by show n+1≤100000;omega⟩,ha.B⟩
 obtain⟨v,x,ok,⟨h5,h6⟩,e4⟩:=zWv (g:=g4) (d:=r) (lo:=0) (q:=qC .up) (i:=0) (b:=0) ⟨hD,.up,by rw[hr1];exact hS,rfl⟩;obtain⟨h7,h8⟩:=h5 .up (by rw[hr1];exact hS) rfl;have h9:x=⟨0,[],[],[]⟩:=h8;have h10:v=cyV d.k a n:=by rw[h7,hr1];rfl
 have hok:ok=true:=by rw[h6,h9];rfl
 have hK : ∀ m b,cyP d.k.ar b m→v=cyV d.k b m:=by
  intro m b hb;obtain⟨i1,i2⟩:=zEe hj hb.2.2;obtain rfl:=qX9 ha.B hb.1.1.B i1;rw[h10,i2]
 subst hok h9;clear hR hr1 hS hT hD h5 h6 h7 h8 h10 hj;generalize zMs d=y at *;have e3':qI8.fs g3 [.t (.int .i64 0)] []=some (.t (rqA (qC .up)),[]):=e3;generalize qC .up=q at *;simp(maxSteps:=9^9)(disch:=try exact dS)only[go_sem,qH3,qX5,qYv,jBw,qX7,qYx,jBy,qX6,qYw,jBx,qX4,qYu,jBv,h1,e1,h2,e2,h3,e3',h4,e4];repeat refine aiG ?_
 exact jL7 v true ⟨rfl,hK⟩ rfl rfl
def frA:Sa := { zAe z32 with res:=1,ord:=false }
def frV:Dv:=cyV ⟨[[],qG0 1 (qGt (zAe z32)),[],[]],1,0,0,true⟩ (zAe z32) 1
theorem zYw:(zAe z32).Tp where
 sd:=⟨rfl,jBs kA kA kA⟩
 au:=rfl
 en:=kA
 act:=rfl
 res:=(by decide:(0:Int)≤0∧(0:Int)≤1000)
 rst:=rfl
 clk:=rfl
 bk:=⟨rfl,rfl⟩
 mc:=(by decide:(0:Int)≤0∧(0:Int)≤1000)
 ix:= .inl rfl
 lk:=rfl
 ks:=rfl
theorem qYj:cyP [[],qG0 1 (qGt (zAe z32)),[],[]] (zAe z32) 1:=
 ⟨⟨zYw,(by decide:(0:Int)≤999)⟩,by decide,zHf jEs (by decide),rfl,.inl rfl⟩
theorem jIz:qOw .and .i64 2 .i64 3=some (.int .i64 2):=rfl
def qGr:ECt where
 α:=Int
 β:=Dv×Bool
 aS:=fun a=>[.t (.int .i64 a)]
 pre:=fun a=>a=2
 r:=fun (r,ok)=> .tup [.t (dvA r),.t (.bool ok)]
 R:=fun a (r,ok)=>ok=true∧r=frV
theorem zO9 {g:EF qGr}{a:Int}(hp:a=2) : ∃ (r:Dv) (ok:Bool),(ok=true∧r=frV)∧qGr.fs g [.t (.int .i64 a)] []=some (.tup [.t (dvA r),.t (.bool ok)],[]):=by
 obtain⟨y,h1,h2⟩:=qGr.eq g a hp;exact⟨y.1,y.2,h1,h2⟩
theorem jL9 {a:Int}(r:Dv)(ok:Bool)(hR:ok=true∧r=frV)(hV:vv = .tup [.t (dvA r),.t (.bool ok)])(hO:oo=[]):qGr.K a vv oo:=⟨(r,ok),hR,hV,hO⟩
theorem zFc {g1}(h1:LkE tab 26 qI0 g1){g2}(h2:LkE tab 27 qL9 g2)(a:Int)(hp:a=2) :
  qH5.1.wp tab gl (qF 0 [.t (.int .i64 a)]) (qF 0 []) (zD [(2,(some (37,true))),(3,none)] 0 (qGr.K a)):=by
 subst hp;have tz:List.take 32 (List.replicate 32 (0:UInt8))=z32:=rfl;obtain⟨v,e,⟨rfl,rfl⟩,e1⟩:=jHh (g:=g1) (n:=4) (en:=z32) (a:=2) ⟨rfl,rfl,rfl⟩;obtain⟨r,ok,⟨rfl,hR⟩,e2⟩:=jIb (g:=g2) (d:=nwV z32) ⟨rfl,1,zAe z32,qYj⟩;have hr:=hR 1 (zAe z32) qYj;have hK:r=frV:=hr;clear hr hR;generalize nwV z32=y at *;simp(maxSteps:=9^9)(disch:=try exact dS)only[go_sem,qH5,qX5,qYv,jBw,qX7,qYx,jBy,qX6,qYw,jBx,qX4,qYu,jBv,tz,jIz,h1,e1,h2,e2];repeat refine aiG ?_
 exact jL9 r true ⟨rfl,hK⟩ rfl rfl
structure Mg where
 bk:List qY
 u:Int
 deriving Inhabited
def mgA (x:Mg):T:= .agg [.sl (x.bk.map wQ),.int .i64 x.u]
theorem zYl (x:Mg):(V.t (mgA x)).cells.length=2:=rfl
theorem zYn (x:Mg):(V.t (mgA x)).plain=true:=rfl
theorem zYm (x:Mg):qD2 (List.take 2 (V.t (mgA x)).cells)=some (mgA x).cells:=rfl
theorem zYk (x:Mg):T.agg (mgA x).cells=mgA x:=rfl
def zEh (cs:List UInt8)(k:Nat):List UInt8:=[cs.getD k 0,u8I (k:Int)]
def zG5 (cs:List UInt8)(k:Nat):Nat:=(cs.getD k 0%16).toNat
theorem zEi (cs:List UInt8)(k:Nat):zG5 cs k<16:=by unfold zG5;rw[UInt8.toNat_mod];exact Nat.mod_lt _ (by decide)
def qTm (cs:List UInt8):Nat→Mg
 | 0=>⟨yJ 2,0⟩
 | k+1=>⟨evB (qTm cs k).bk (zG5 cs k) (zEh cs k),(qTm cs k).u+1⟩
def qHc (cs:List UInt8):Nat:=min cs.length 6
theorem qTn (cs:List UInt8) : ∀ k,ShA 2 (qTm cs k).bk∧(qTm cs k).u=k
 | 0=>⟨ShA.new oM,rfl⟩
 | k+1=>by
  obtain⟨h1,h2⟩:=qTn cs k;refine⟨h1.ext _ _,?_⟩;show (qTm cs k).u+1=_;omega
theorem jFm {a:UInt8}:qH8 .rem (qA a) (qA 16)=some (qA (a%16)):=zKq (by decide)
def qI7:ECt where
 α:=List UInt8
 β:=Mg
 aS:=fun cs=>[.t (.sl (cs.map qA))]
 pre:=fun cs=>cs.length≤9223372036854775807
 r:=fun r'=> .t (mgA r')
 R:=fun cs r'=>r'=qTm cs (qHc cs)
theorem jId {g:EF qI7}{cs:List UInt8}(hp:cs.length≤9223372036854775807):qI7.fs g [.t (.sl (cs.map qA))] []=some (.t (mgA (qTm cs (qHc cs))),[]):=fnQ qI7 cs hp
theorem jMa {cs:List UInt8}(hV:vv = .t (mgA (qTm cs (qHc cs))))(hO:oo=[]):qI7.K cs vv oo:=⟨_,rfl,hV,hO⟩
theorem qV1 (h1:LkC tab 19 kN)(h2:LkC tab 23 zDy)(cs:List UInt8)(hp:cs.length≤9223372036854775807) :
  qDm.1.wp tab gl (qF 0 [.t (.sl (cs.map qA))]) (qF 0 []) (zD [(2,(some (2,true)))] 0 (qI7.K cs)):=by
 obtain⟨b0,b1,hb,hn⟩:=zMy (act:=2) oM;have hl:qHc cs≤cs.length∧qHc cs≤6:=by unfold qHc;omega
 have hm:qHc cs<6→qHc cs=cs.length:=by unfold qHc;omega
 have h0:mgA (qTm cs 0) = .agg [.sl [.sl (b0.map bsT),.sl (b1.map bsT)],.int .i64 0]:=by show T.agg [.sl ((yJ 2).map wQ),.int .i64 0]=_;rw[hb];rfl
 have l0:List.length b0=List.length b0:=rfl;simp(maxSteps:=9^9)(disch:=try exact dS)only[go_sem,qDm,h1,hn];refine qB (qHc cs) (fun k=>[(0,.t (.sl (cs.map qA))),(2,.ref 4096 0 0),(3,.ref 8208 0 0),(4,.t (.int .i64 (k:Nat)))]) (fun k=>[(8208,.live 2 [.t (mgA (qTm cs k))] true true),(4096,.live 2 [.agg [.nil,.t (.int .i64 0)]] true true)]) (qJ.cv (hv:=[]) [8192,8193,8194] id ?_ rfl) (fun k hk=>?_)
 ·simp(maxSteps:=9^9)(disch:=try exact dS)only[go_sem,id,h0,List.take_length];rfl
 obtain⟨q1,q2⟩:=qTn cs k;have hs:qTm cs (k+1)=⟨evB (qTm cs k).bk (zG5 cs k) (zEh cs k),(qTm cs k).u+1⟩:=rfl;obtain⟨y,hy⟩ : ∃ y,qTm cs k=y:=⟨_,rfl⟩;rw[hy] at q1 q2 hs ⊢;rcases (by omega:k<qHc cs∨k=qHc cs) with c | hke
 ·have c1:k<cs.length:=oM;have c2:k<6:=oM;obtain⟨x,hg,hm',_⟩:=qX c1;have hi:=zEi cs k;have e2:=zVi (u:=y.u) (i:=((zG5 cs k:Nat):Int)) (data:=zEh cs k) q1.rv oM oM (by simp[zEh]);rw[Int.toNat_natCast] at e2;have d1:cs.getD k 0=x:=qPh hg;have d2:zG5 cs k=(x%16).toNat:=by unfold zG5;rw[d1]
  have d3:zEh cs k=[x,u8I (k:Int)]:=by unfold zEh;rw[d1]
  rw[d2,d3] at e2 hs;generalize evB y.bk (x%16).toNat [x,u8I (k:Int)]=z at *;simp only[mcn] at e2;simp(maxSteps:=9^9)(disch:=try exact dS)only[go_sem,c1,c2,mgA,hg,oms,jFm,u8w,h2,e2];repeat refine aiG ?_
  refine qJ.rd id ?_ ?_ rfl;all_goals simp(maxSteps:=9^9)(disch:=try exact dS)only[go_sem,id,hs,mgA]
 ·have c1 : ¬ (k<cs.length∧k<6):=by unfold qHc at hke;omega
  have hK:qI7.K cs (.t (mgA y)) []:=jMa (by rw[←hy,hke]) rfl;by_cases c2:k<cs.length
  ·have c3 : ¬ k<6:=oM;simp(maxSteps:=9^9)(disch:=try exact dS)only[go_sem,c2,c3,zYl,zYn,zYm,zYk];repeat refine aiG ?_
   exact hK
  ·simp(maxSteps:=9^9)(disch:=try exact dS)only[go_sem,c2,zYl,zYn,zYm,zYk];repeat refine aiG ?_
   exact hK
def qWv (s:St)(cs:List UInt8):Nat→St
 | 0=>s
 | k+1=>evS (qWv s cs k) (zG5 cs k:Nat) (zEh cs k)
theorem qYh {s:St}(hs:s.Tp)(hu:s.u≤900)(cs:List UInt8) : ∀ k,k≤6→(qWv s cs k).Tp∧(qWv s cs k).u=s.u+k∧(qWv s cs k).a=s.a∧(qWv s cs k).dr=s.dr∧(qWv s cs k).ses=s.ses∧(qWv s cs k).obs=s.obs
 | 0,_=>⟨hs,by show s.u=s.u+0;omega,rfl,rfl,rfl,rfl⟩
 | k+1,hk=>by
  obtain⟨h1,h2,h3,h4,h5,h6⟩:=qYh hs hu cs k oM;have hi:=zEi cs k;refine⟨(jGj h1 oM oM (by simp[zEh])).2,?_,h3,h4,h5,h6⟩;show (qWv s cs k).u+1=_;omega
theorem zMu {s:St}(h0:s.bk=yJ 2)(cs:List UInt8) : ∀ k,(qWv s cs k).bk=(qTm cs k).bk
 | 0=>h0
 | k+1=>by
  show evB (qWv s cs k).bk ((zG5 cs k:Nat):Int).toNat (zEh cs k)=evB (qTm cs k).bk (zG5 cs k) (zEh cs k);rw[zMu h0 cs k,Int.toNat_natCast]
def qGs:ECt where
 α:=Dv×List UInt8
 β:=Dv×Bool
 aS:=fun (d,cs)=>[.t (dvA d),.t (.sl (cs.map qA))]
 pre:=fun (d,cs)=>(okK d.k d.nx∧d.on=true∧d.s.Tp∧d.s.u≤900)∧cs.length≤9223372036854775807
 r:=fun (r,ok)=> .tup [.t (dvA r),.t (.bool ok)]
 R:=fun (d,cs) (r,ok)=>ok=true∧r = { d with s:=qWv d.s cs (qHc cs) }
 inj:=by rintro⟨d,cs⟩ ⟨d',cs'⟩ e _;simp only[qAf,qJ3,qRv] at e;obtain⟨rfl,rfl⟩:=e;rfl
theorem zWu {g:EF qGs}{d:Dv}{cs:List UInt8}(hp:(okK d.k d.nx∧d.on=true∧d.s.Tp∧d.s.u≤900)∧cs.length≤9223372036854775807) : ∃ (r:Dv) (ok:Bool),(ok=true∧r = { d with s:=qWv d.s cs (qHc cs) })∧qGs.fs g [.t (dvA d),.t (.sl (cs.map qA))] []=some (.tup [.t (dvA r),.t (.bool ok)],[]):=by
 obtain⟨y,h1,h2⟩:=qGs.eq g (d,cs) hp;exact⟨y.1,y.2,h1,h2⟩
theorem jMb {d:Dv}{cs:List UInt8}(r:Dv)(ok:Bool)(hR:ok=true∧r = { d with s:=qWv d.s cs (qHc cs) })(hV:vv = .tup [.t (dvA r),.t (.bool ok)])(hO:oo=[]):qGs.K (d,cs) vv oo:=⟨(r,ok),hR,hV,hO⟩
theorem qZq {g1}(h1:LkE tab 28 qI6 g1){g2}(h2:LkE tab 12 yS g2)(d:Dv)(cs:List UInt8)(hp:(okK d.k d.nx∧d.on=true∧d.s.Tp∧d.s.u≤900)∧cs.length≤9223372036854775807) :
  qE0.1.wp tab gl (qF 0 [.t (dvA d),.t (.sl (cs.map qA))]) (qF 0 []) (zD [(4,(some (37,true))),(5,none)] 0 (qGs.K (d,cs))):=by
 obtain⟨⟨hk,ho,hT,hu⟩,hcs⟩:=hp;obtain⟨dk,s,on,nx⟩:=d;simp only at hk ho hT hu;subst ho;have hl:qHc cs≤cs.length∧qHc cs≤6:=by unfold qHc;omega
 simp(maxSteps:=9^9)(disch:=try exact dS)only[go_sem,qE0,qX5,qYv,jBw,qX7,qYx,jBy,qX6,qYw,jBx,qX4,qYu,jBv];refine qB (qHc cs) (fun k=>[(1,.t (.sl (cs.map qA))),(2,.ref 4096 0 0),(4,.ref 4112 0 0),(6,.t (.int .i64 (k:Nat)))]) (fun k=>[(4096,.live 37 [.t (dvA ⟨dk,qWv s cs k,true,nx⟩)] true true),(4112,.live 37 [.agg [.nil,.t (.int .i64 0),.t (.int .i64 0),.t (.int .i64 0),.t (.bool false),.nil,.nil,.nil,.t (.int .i64 0),.t (.int .i64 0),.t (.int .i64 0),.t (.int .i64 0),.t (.bool false),.nil,.t (.int .i64 0),.t (.int .i64 0),.nil,.t (.int .i64 0),.t (.int .i64 0),.t (.int .i64 0),.t (.int .i64 0),.t (.int .i64 0),.t (.int .i64 0),.nil,.t (.bool false),.t (.bool false),.nil,.t (.int .i64 0),.t (.int .i64 0),.t (.bool false),.t (.int .i64 0),.nil,.nil,.nil,.nil,.t (.bool false),.t (.int .i64 0)]] true true)]) (qJ.rd id ?_ ?_ rfl) (fun k hk'=>?_)
 ·simp(maxSteps:=9^9)(disch:=try exact dS)only[go_sem,id]
 ·simp(maxSteps:=9^9)(disch:=try exact dS)only[go_sem,id,qWv]
 obtain⟨q1,q2,q3,q4,q5,q6⟩:=qYh hT hu cs k oM;have hs:qWv s cs (k+1)=evS (qWv s cs k) (zG5 cs k:Nat) (zEh cs k):=rfl;obtain⟨y,hy⟩ : ∃ y,qWv s cs k=y:=⟨_,rfl⟩;rw[hy] at q1 q2 q3 q4 q5 q6 hs ⊢;rcases (by omega:k<qHc cs∨k=qHc cs) with c | hke
 ·have c1:k<cs.length:=oM;have c2:k<6:=oM;obtain⟨x,hg,hm',_⟩:=qX c1;have hi:=zEi cs k;obtain⟨k1,k2⟩:=jGj q1 oM (i:=((zG5 cs k:Nat):Int)) (d:=zEh cs k) oM (by simp[zEh]);have e2:=qQ1 (g:=g2) (i:=0) (b:=2) hk q1 k1 rfl rfl ⟨rfl,rfl,rfl⟩;have d1:cs.getD k 0=x:=qPh hg;have d2:zG5 cs k=(x%16).toNat:=by unfold zG5;rw[d1]
  have d3:zEh cs k=[x,u8I (k:Int)]:=by unfold zEh;rw[d1]
  rw[d2,d3] at e2 hs;have e1:qI6.fs g1 [.t (.int .i64 ((x%16).toNat:Nat)),.t (.sl [qA x,qA (u8I (k:Int))])] []=some (.t (rqA (qC (.ev ((x%16).toNat:Nat) [x,u8I (k:Int)]))),[]):=jIc (i:=((x%16).toNat:Nat)) (d:=[x,u8I (k:Int)]);generalize evS y ((x%16).toNat:Nat) [x,u8I (k:Int)]=z at *;generalize qC (.ev ((x%16).toNat:Nat) [x,u8I (k:Int)])=q at *;simp(maxSteps:=9^9)(disch:=try exact dS)only[go_sem,qX5,qYv,jBw,qX7,qYx,jBy,qX6,qYw,jBx,qX4,qYu,jBv,c1,c2,hg,oms,jFm,u8w,h1,e1,h2,e2];repeat refine aiG ?_
  refine qJ.rd id ?_ ?_ rfl;all_goals simp(maxSteps:=9^9)(disch:=try exact dS)only[go_sem,id,hs]
 ·have c1 : ¬ (k<cs.length∧k<6):=by unfold qHc at hke;omega
  have hK : ∀ vv,vv = .tup [.t (dvA ⟨dk,y,true,nx⟩),.t (.bool true)]→qGs.K (⟨dk,s,true,nx⟩,cs) vv []:=fun vv h=>jMb ⟨dk,y,true,nx⟩ true ⟨rfl,by rw[←hy,hke]⟩ h rfl
  by_cases c2:k<cs.length
  ·have c3 : ¬ k<6:=oM;simp(maxSteps:=9^9)(disch:=try exact dS)only[go_sem,qX5,qYv,jBw,qX7,qYx,jBy,qX6,qYw,jBx,qX4,qYu,jBv,c2,c3];repeat refine aiG ?_
   exact hK _ rfl
  ·simp(maxSteps:=9^9)(disch:=try exact dS)only[go_sem,qX5,qYv,jBw,qX7,qYx,jBy,qX6,qYw,jBx,qX4,qYu,jBv,c2];repeat refine aiG ?_
   exact hK _ rfl
theorem jCx {k:Dk}{a:Sa}{n:Int}(hl:k.ar.length=4)(h:cyP k.ar a n) : ∃ k',cyV k a n=⟨k',zCe (qCu a),true,n+2⟩∧okD k'∧jOk k'.ar (n+1) (qGt (zCe (qCu a)).a):=by
 obtain⟨⟨ha,hr⟩,hn,hp,hj,ho⟩:=h;have hT:=(jAx ha hr).2;have hne : ¬ qGt (zCe (qCu a)).a=qGt a:=fun e=>by
  have:=congrArg Sa.res (qX9 hT.a.B ha.B e);have h2:(zCe (qCu a)).a.res=a.res+1:=rfl;omega
 have h0:=hp.1;have hj':jOk (k.ar.set ((n+1)%2).toNat (qG0 (n+1) (qGt (zCe (qCu a)).a))) (n+1) (qGt (zCe (qCu a)).a):=by
  have e1:(n+1+1)%2=n%2:=oM;have hlt:((n+1)%2).toNat<k.ar.length:=oM;have hne2:((n+1)%2).toNat≠(n%2).toNat:=oM;refine⟨zHf hT.a.B oM,?_,.inr ⟨qGt a,by rw[show n+1-1=n by omega];exact hp,?_⟩⟩
  ·rw[List.getD_eq_getElem?_getD,List.getElem?_set_self hlt];rfl
  ·rw[e1,List.getD_eq_getElem?_getD,List.getElem?_set_ne hne2,←List.getD_eq_getElem?_getD,hj,show n+1-1=n by omega]
 refine⟨⟨k.ar.set ((n+1)%2).toNat (qG0 (n+1) (qGt (zCe (qCu a)).a)),1,0,0,false⟩,?_,⟨rfl,by simp[hl],rfl,by show (0:Int)≤1∧(1:Int)≤1000000;decide⟩,hj'⟩;rw[cyV,qQi,if_neg (by exact hne)];simp only[Dv.mk.injEq,Dk.mk.injEq,and_true,true_and];exact⟨rfl,oM⟩
def sd:Ses:=default
def od:Obj:=default
structure FrP (k:Dk) (s:St) (nx:Int):Prop where
 hk:okK k nx
 tp:s.Tp
 hu:s.u=0
 hd:s.dr=0
 hb:s.bk=yJ 2
 se:s.ses=[sd,sd,sd]
 ob:s.obs=[od,od,od]
 jo:jOk k.ar (nx-1) (qGt s.a)
theorem zT6 {k k':Dk}{a:Sa}{n:Int}(h:cyP k.ar a n)(h1:okD k')(h2:jOk k'.ar (n+1) (qGt (zCe (qCu a)).a)):FrP k' (zCe (qCu a)) (n+2) where
 hk:=⟨h1,by have:=h.2.1;have:=h.2.2.1.1;omega⟩
 tp:=(jAx h.1.1 h.1.2).2
 hu:=rfl
 hd:=rfl
 hb:=by show yJ a.act=_;rw[h.1.1.act]
 se:=rfl
 ob:=rfl
 jo:=by rw[show n+2-1=n+1 by omega];exact h2
theorem zL5 : ∃ k s nx,frV=⟨k,s,true,nx⟩∧FrP k s nx∧nx=3∧s.a=frA:=by
 obtain⟨k',e,h1,h2⟩:=jCx (k:=⟨[[],qG0 1 (qGt (zAe z32)),[],[]],1,0,0,true⟩) rfl qYj;exact⟨k',_,3,e,zT6 (k:=⟨[[],qG0 1 (qGt (zAe z32)),[],[]],1,0,0,true⟩) qYj h1 h2,rfl,rfl⟩
theorem zEr {bk:List qY}{s0 s1:Int}:(rgD bk s0 s1).length=32:=qN
def qI5:ECt where
 α:=Unit
 β:=Bool
 aS:=fun _=>[]
 pre:=fun _=>True
 r:=fun ok=> .t (.bool ok)
 R:=fun _ ok=>ok=true
 inj:=fun _ _ _ _=>rfl
theorem zWt {g:EF qI5}  : ∃ (ok:Bool),(ok=true)∧qI5.fs g [] []=some (.t (.bool ok),[]):=qI5.eq g () trivial
theorem jL6  (ok:Bool)(hR:ok=true)(hV:vv = .t (.bool ok))(hO:oo=[]):qI5.K () vv oo:=⟨ok,hR,hV,hO⟩
theorem zE9 {g1}(h1:LkE tab 10 qGr g1)(h2:LkC tab 19 kN)(h3:LkC tab 6 qGd)(h4:LkC tab 8 qK0){g5}(h5:LkE tab 13 qCk g5){g6}(h6:LkE tab 12 yS g6){g7}(h7:LkE tab 14 qCj g7){g8}(h8:LkE tab 15 kX g8){g9}(h9:LkE tab 18 qCi g9)(h10:LkC tab 17 qWn)  :
  qH2.1.wp tab gl (qF 0 []) (qF 0 []) (zD [(0,none)] 0 (qI5.K ())):=by
 obtain⟨v,ok,⟨rfl,hv⟩,e1⟩:=zO9 (g:=g1) (a:=2) rfl;obtain⟨k,s,nx,hf,hF,-,-⟩:=zL5;rw[hv,hf] at e1;clear hv hf;obtain⟨b0,b1,hb,hn⟩:=zMy (act:=2) oM;have hdg:=zLb (u:=0) hF.tp.bk.rv (zLa hF.tp.bk (m:=1) oM);rw[hF.hb] at hdg;have hr:As.Ok (.reg 0 1 (rgD (yJ 2) 0 1)):=⟨oM,oM,zEr⟩;have e4:=zEn hr;have lp:(qU9 z32 (.reg 0 1 (rgD (yJ 2) 0 1))).length=32:=qDr;have ld:(rgD (yJ 2) 0 1).length=32:=zEr;have td:List.take 32 (rgD (yJ 2) 0 1)=rgD (yJ 2) 0 1:=List.take_of_length_le oM;have hx:zD3 z32 (.reg 0 1 (rgD s.bk 0 1))=qU9 z32 (.reg 0 1 (rgD (yJ 2) 0 1)):=by rw[hF.hb];rfl
 have hbt:(yJ 2).map wQ=[.sl (b0.map bsT),.sl (b1.map bsT)]:=by rw[hb];rfl
 rw[hbt] at hdg;simp only[asT] at e4;generalize qU9 z32 (.reg 0 1 (rgD (yJ 2) 0 1))=p at *;generalize rgD (yJ 2) 0 1=dd at *;obtain⟨q1,⟨en,nm,f1⟩,T1⟩:=jAw hF.tp (j:=0) (by rw[hF.ob];rfl) oM (hh:=0) (po:=p) (au:=[]) (da:=[9]) oM lp sM sM;have c5:qCk.fs g5 [.t (.int .i64 0),.t (.int .i64 3),.t (.int .i64 0),.t (.int .i64 0),.t (.sl (p.map qA)),.t (.sl []),.t (.sl [qA 9])] []=some (.t (rqA (qC (.pr 0 p [] [9]))),[]):=zPc (u:=[]) (d:=[9]);have m1:yS.fs g6 [.t (dvA ⟨k,s,true,nx⟩),.t (.int .i64 0),.t (rqA (qC (.pr 0 p [] [9]))),.t (.int .i64 1),.t (.int .i64 2)] []=some (.tup [.t (dvA ⟨k,prS s 0 0 p [] [9],true,nx⟩),.t (rsA ⟨0,[512],[en,nm],[]⟩),.t (.bool true)],[]):=qQ1 hF.hk hF.tp q1 f1 rfl ⟨rfl,rfl,rfl⟩;obtain⟨q2,f2,T2⟩:=jAv T1 (by show s.dr≤999;rw[hF.hd];decide) (j:=0) (by show frS s.ses 0=_;rw[hF.se];rfl) (k:=2) oM;have c7:qCj.fs g7 [.t (.int .i64 2)] []=some (.t (rqA (qC (.op 2))),[]):=zPb;have hses:(opS (prS s 0 0 p [] [9]) 0 2).ses[0]?=some (nwS (prS s 0 0 p [] [9]) 2):=by show (s.ses.set 0 _)[0]?=_;rw[hF.se];rfl
 have hobs:(opS (prS s 0 0 p [] [9]) 0 2).obs[0]?=some (qHk s 0 p [] [9]):=by show (s.obs.set 0 _)[0]?=_;rw[hF.ob];rfl
 have m2:yS.fs g6 [.t (dvA ⟨k,prS s 0 0 p [] [9],true,nx⟩),.t (.int .i64 0),.t (rqA (qC (.op 2))),.t (.int .i64 1),.t (.int .i64 1)] []=some (.tup [.t (dvA ⟨k,opS (prS s 0 0 p [] [9]) 0 2,true,nx⟩),.t (rsA ⟨0,[768],[qR1 (prS s 0 0 p [] [9]) 16],[]⟩),.t (.bool true)],[]):=qQ1 hF.hk T1 q2 f2 rfl ⟨rfl,rfl,rfl⟩;obtain⟨q3,f3,T3⟩:=zT4 T2 hses (.inl rfl) (a:= .reg 0 1 []) ⟨rfl,oM,rfl⟩ (by intros;nofun) (.inl rfl) (.inl rfl);have c8:kX.fs g8 [.t (.int .i64 768),.t (.int .i64 1),.t (.agg [.int .i64 0,.int .i64 1]),.t (.int .i64 0),.t (.int .i64 0),.t (.sl [.sl []])] []=some (.t (rqA (qC (.po 768 (.reg 0 1 [])))),[]):=qU4 (s:=⟨0,1⟩) (b:=[[]]);have m3:yS.fs g6 [.t (dvA ⟨k,opS (prS s 0 0 p [] [9]) 0 2,true,nx⟩),.t (.int .i64 0),.t (rqA (qC (.po 768 (.reg 0 1 [])))),.t (.int .i64 0),.t (.int .i64 0)] []=some (.tup [.t (dvA ⟨k,poS (opS (prS s 0 0 p [] [9]) 0 2) 0 (nwS (prS s 0 0 p [] [9]) 2) (.reg 0 1 []),true,nx⟩),.t (rsA ⟨0,[],[],[]⟩),.t (.bool true)],[]):=qQ1 hF.hk T2 q3 f3 rfl ⟨rfl,rfl,rfl⟩;have hs3:(poS (opS (prS s 0 0 p [] [9]) 0 2) 0 (nwS (prS s 0 0 p [] [9]) 2) (.reg 0 1 [])).ses[0]?=some (poY (opS (prS s 0 0 p [] [9]) 0 2) (nwS (prS s 0 0 p [] [9]) 2) (.reg 0 1 [])):=by show ((s.ses.set 0 _).set 0 _)[0]?=_;rw[hF.se];rfl
 have hdg2:(poY (opS (prS s 0 0 p [] [9]) 0 2) (nwS (prS s 0 0 p [] [9]) 2) (.reg 0 1 [])).dg=p:=hx;obtain⟨q4,f4,T4⟩:=zOr T3 (i:=0) (j:=0) (o:=qHk s 0 p [] [9]) (v:=[]) hs3 (.inl rfl) hobs oM rfl sM (fun _=>⟨rfl,.inr rfl,fun h=>rfl⟩);have hu:unE (poY (opS (prS s 0 0 p [] [9]) 0 2) (nwS (prS s 0 0 p [] [9]) 2) (.reg 0 1 [])) (qHk s 0 p [] [9])=0:=by
  unfold unE;rw[if_pos (by rfl),if_pos (by rw[hdg2];rfl)]
 rw[if_pos hu] at f4;have c9:qCi.fs g9 [.t (.int .i64 13),.t (.int .i64 512),.t (.sl [])] []=some (.t (rqA ⟨13,[512],[],[],[]⟩),[]):=zPa (b:=[]);have c10 := @zP9 13 [512] [] [] [] 768;have m4:yS.fs g6 [.t (dvA ⟨k,poS (opS (prS s 0 0 p [] [9]) 0 2) 0 (nwS (prS s 0 0 p [] [9]) 2) (.reg 0 1 []),true,nx⟩),.t (.int .i64 0),.t (rqA (qC (.un 512 768 []))),.t (.int .i64 0),.t (.int .i64 1)] []=some (.tup [.t (dvA ⟨k,qU5 (poS (opS (prS s 0 0 p [] [9]) 0 2) 0 (nwS (prS s 0 0 p [] [9]) 2) (.reg 0 1 [])) 768,true,nx⟩),.t (rsA ⟨0,[],[[9]],[]⟩),.t (.bool true)],[]):=qQ1 hF.hk T3 q4 f4 rfl ⟨rfl,rfl,rfl⟩;clear q1 q2 q3 q4 f1 f2 f3 f4 T1 T2 T3 T4 hu hs3 hdg2 hses hobs hx;generalize qU5 _ _=s4 at m4;generalize poS _ _ _ _=s3 at m3 m4;generalize opS _ _ _=s2 at m2 m3;generalize qR1 _ _=rb at m2;generalize prS _ _ _ _ _ _=s1 at m1 m2;generalize qC (.pr 0 p [] [9])=r1 at *;generalize qC (.op 2)=r2 at *;generalize qC (.po 768 (.reg 0 1 []))=r3 at *;generalize (⟨13,[512],[],[],[]⟩:Rq)=r5 at *;simp only[rsA,iT,mcn,qO] at m1 m2 m3;simp only[rsA,rqA,qC,azA,iT,mcn,qO] at m4;simp only[iT,mcn] at c10;simp(maxSteps:=9^9)(disch:=try exact dS)only[go_sem,qH2,qX5,qYv,qX7,qYx,qX6,qYw,qX4,qYu,iT,mcn,qO,h1,e1,h2,hn,h3,hdg,td,h4,e4,h5,c5,h6,m1,h7,c7,m2,h8,c8,m3,h9,c9,h10,c10,m4,List.take_length];repeat refine aiG ?_
 exact jL6 true rfl rfl rfl
theorem jS3  (b:Bool) :
  zAi.1.wp tab gl (qF 0 [.t (.bool b)]) (qF 0 []) (zD [(2,none)] 0 (zXr.K b)):=by
 cases b;all_goals simp(maxSteps:=9^9)(disch:=try exact dS)only[go_sem,zAi]
 all_goals exact jT8 rfl rfl
theorem jTe  (l:List (List UInt8))(i:Int)(hp:0≤i∧i≤100∧l.length≤100000) :
  zDg.1.wp tab gl (qF 0 [.t (.sl (l.map bsT)),.t (.int .i64 i)]) (qF 0 []) (zD [(4,none)] 0 (zXp.K (l,i))):=by
 obtain⟨h0,h1,h2⟩:=hp;obtain⟨k,rfl⟩:=Int.eq_ofNat_of_zero_le h0;by_cases c:l.length≤k
 ·simp(maxSteps:=9^9)(disch:=try exact dS)only[go_sem,zDg,c];refine jT0 (l:=l) (i:=(k:Int)) ?_ rfl;rw[List.getD_eq_getElem?_getD,List.getElem?_eq_none oM];rfl
 ·obtain⟨x,hg,_,_⟩:=qX (l:=l) (k:=k) oM;simp(maxSteps:=9^9)(disch:=try exact dS)only[go_sem,zDg,c,hg,oms];refine jT0 (l:=l) (i:=(k:Int)) ?_ rfl;rw[List.getD_eq_getElem?_getD,show (k:Int).toNat=k from rfl,hg];rfl
def jSv:Ct where
 α:=List Int×List UInt8
 aS x:=[.t (.sl (x.1.map iT)),.ref 0 0 0]
 ins x:=[.live 1 [.t (.sl (x.2.map qA))] true true]
 pre x:=(1≤x.1.length∧x.1.length≤10)∧x.2.length≤100000
 r _:= .tup []
 outs x:=[.live 1 [.sl 1 0 (nuE x.2 x.1).length] true true,.live 1 (((nuE x.2 x.1).map qA).map V.t) true false]
 inj:=by
  rintro⟨a,b⟩ ⟨c,d⟩ h h2;simp only[List.cons.injEq,V.t.injEq,T.sl.injEq,and_true,true_and,Ob.live.injEq,jB] at h h2;have e:a=c:=by
   have hi : ∀ (x y:Int),iT x=iT y→x=y:=fun x y h=>by unfold iT at h;injection h
   exact qBu hi h
  subst e h2;exact⟨rfl,rfl⟩
theorem jS1 {l:List Int}{b:List UInt8}(h:(1≤l.length∧l.length≤10)∧b.length≤100000):jSv.fs [.t (.sl (l.map iT)),.ref 0 0 0] [.live 1 [.t (.sl (b.map qA))] true true]=some (.tup [],[.live 1 [.sl 1 0 (nuE b l).length] true true,.live 1 (((nuE b l).map qA).map V.t) true false]):=jSv.eq (l,b) h
theorem jSn (h1:LkC tab 74 yR)(l:List Int)(b:List UInt8)(hl:(1≤l.length∧l.length≤10)∧b.length≤100000) :
  qOz.1.wp tab gl (qF 0 [.t (.sl (l.map iT)),.ref 0 0 0]) (qF 0 [.live 1 [.t (.sl (b.map qA))] true true]) (kU [] [] 1 (fun r o=>r = .tup []∧o=[.live 1 [.sl 1 0 (nuE b l).length] true true,.live 1 (((nuE b l).map qA).map V.t) true false])):=by
 simp(maxSteps:=9^9)(disch:=try exact dS)only[go_sem,qOz];refine qB l.length (fun k=>[(1,.ref 0 0 0),(5,.t (.sl (l.map iT))),(6,.t (.int .i64 l.length)),(7,.t (.int .i64 (k:Nat)))]) (fun k=>match k with | 0=>[(0,.live 1 [.t (.sl (b.map qA))] true true)] | k+1=>[(0,.live 1 [.sl 9000 0 (nuE b (l.take (k+1))).length] true true),(9000,.live 1 (((nuE b (l.take (k+1))).map qA).map V.t) true false)]) (qJ.rd id ?_ ?_ rfl) (fun k hk=>?_)
 ·simp(maxSteps:=9^9)(disch:=try exact dS)only[go_sem,id]
 ·simp(maxSteps:=9^9)(disch:=try exact dS)only[go_sem,id]
 rcases k with _ | k
 ·obtain⟨x,hg,_,_⟩:=qX (l:=l) (k:=0) oM;have hs:nuE b (l.take (0+1))=b++beI 8 x 8:=(kO (f:=fun b n=>b++beI 8 n 8) hg).trans rfl;have u:=zJn (b:=b) (n:=x) oM;have lh:(b++beI 8 x 8).length=b.length+8:=by rw[List.length_append,jI7]
  generalize b++beI 8 x 8=z at *;have c:0<l.length:=oM;simp(maxSteps:=9^9)(disch:=try exact dS)only[go_sem,c,hg,oms,iT,h1,u];repeat refine aiG ?_
  refine qJ.rd (fun j=>if j=9000 then 16416 else j) ?_ ?_ rfl;all_goals simp(maxSteps:=9^9)(disch:=try exact dS)only[go_sem,id,hs,lh]
 by_cases c:k+1<l.length
 ·obtain⟨x,hg,_,_⟩:=qX c;have e:=zYy (l:=l.take (k+1)) (b:=b);have et:(l.take (k+1)).length≤10:=by rw[List.length_take];omega
  have hs:nuE b (l.take (k+1+1))=nuE b (l.take (k+1))++beI 8 x 8:=kO (f:=fun b n=>b++beI 8 n 8) hg;generalize hY:nuE b (l.take (k+1))=y at *;have u:=zJn (b:=y) (n:=x) oM;have lh:(y++beI 8 x 8).length=y.length+8:=by rw[List.length_append,jI7]
  generalize y++beI 8 x 8=z at *;simp(maxSteps:=9^9)(disch:=try exact dS)only[go_sem,c,hg,oms,iT,h1,hY,u];repeat refine aiG ?_
  refine qJ.rd (fun j=>if j=9000 then 16416 else j) ?_ ?_ rfl;all_goals simp(maxSteps:=9^9)(disch:=try exact dS)only[go_sem,id,hs,lh]
 ·obtain hk1:k+1=l.length:=oM;have tl:List.take (k+1) l=l:=List.take_of_length_le oM;simp(maxSteps:=9^9)(disch:=try exact dS)only[go_sem,tl,c]
theorem jS0 {n:Int}(h:0≤n∧n≤255):T.int .u8 (IntKind.u8.wrap n)=qA (bY n):=by
 have e:m64 n=n.toNat:=by unfold m64;omega
 unfold bY;rw[qU3,e];unfold qA;rw[UInt8.toNat_ofNat'];congr 1;omega
theorem jTf {α:Type}{l:List α}{k:Nat}{x d:α}(h:l[k]?=some x):l.getD k d=x:=by rw[List.getD_eq_getElem?_getD,h];rfl
theorem jSs {g1}(h1:LkE tab 78 zXp g1)(h2:LkC tab 77 qE6)(h3:LkC tab 79 jSv){g4}(h4:LkE tab 80 zXr g4)(h5:LkC tab 81 zXk)(h6:LkC tab 74 yR)(s:Sa)(hp:s.Ok) :
  qSi.1.wp tab gl (qF 0 [.t (saA s)]) (qF 0 []) (kU [] [(2,none)] 0 (qPd.K s)):=by
 have hs:=hp;have hact:=hs.act;have w0:=jS0 (n:=s.act) oM;have wi:=jS0 (n:=(s.ix.length:Int)) (by have:=hs.ix.1;omega);have wk:=jS0 (n:=(s.ks.length:Int)) (by have:=hs.ks.1;omega);have l1:=hs.sd.1;have l2:=hs.au.1;have l3:=hs.ix.1;have l4:=hs.ks.1;have l5:=hs.en;simp(maxSteps:=9^9)(disch:=try exact dS)only[go_sem,qSi,saA,w0,mcn];refine qB 3 (fun k=>[(1,.ref 4096 0 0),(3,.ref 8256 0 0),(16,.t (.int .i64 (k:Nat)))]) (fun k=>[(8256,.live 1 [.sl 9000 0 ((s.sd.take k).foldl blL (eA0 s)).length] true true),(9000,.live 1 ((((s.sd.take k).foldl blL (eA0 s)).map qA).map V.t) true false),(4096,.live 19 [.t (saA s)] true true)]) (qJ.rd (fun j=>if j=9000 then 8240 else j) ?_ ?_ rfl) (fun k hk=>?_)
 ·simp(maxSteps:=9^9)(disch:=try exact dS)only[go_sem,id,List.take_zero,List.foldl_nil,eA0,List.length_cons,List.length_nil]
 ·simp(maxSteps:=9^9)(disch:=try exact dS)only[go_sem,id,saA,List.take_zero,List.foldl_nil,eA0,mcn,List.length_cons,List.length_nil]
 have le:=jJs hs k;by_cases c:k<3
 ·obtain⟨x,hg,hm,_⟩:=qX (l:=s.sd) (k:=k) oM;have hx:=hs.sd.2 x hm;have hf:=kO (f:=blL) (b:=eA0 s) hg;have e1:=jTr (g:=g1) (l:=s.sd) (i:=(k:Int)) ⟨oM,oM,oM⟩;rw[show (k:Int).toNat=k from rfl,jTf hg] at e1;generalize (s.sd.take k).foldl blL (eA0 s)=y at *;have u:=qE5 (b:=y) (x:=x) ⟨oM,oM⟩;have lb:=vU (b:=y) (x:=x);simp(maxSteps:=9^9)(disch:=try exact dS)only[go_sem,saA,c,h1,e1,h2,u];repeat refine aiG ?_
  refine qJ.rd (fun j=>if j=9000 then 24656 else j) ?_ ?_ rfl;all_goals simp(maxSteps:=9^9)(disch:=try exact dS)only[go_sem,id,saA,hf,lb]
 obtain rfl:k=3:=oM;have tt:List.take 3 s.sd=s.sd:=List.take_of_length_le oM;clear le c hk;simp(maxSteps:=9^9)(disch:=try exact dS)only[go_sem,saA,tt];refine qB 4 (fun k=>[(1,.ref 4096 0 0),(3,.ref 8256 0 0),(26,.t (.int .i64 (k:Nat)))]) (fun k=>[(8256,.live 1 [.sl 9000 0 ((s.au.take k).foldl blL (s.sd.foldl blL (eA0 s))).length] true true),(9000,.live 1 ((((s.au.take k).foldl blL (s.sd.foldl blL (eA0 s))).map qA).map V.t) true false),(4096,.live 19 [.t (saA s)] true true)]) (qJ.rd id ?_ ?_ rfl) (fun k hk=>?_)
 ·simp(maxSteps:=9^9)(disch:=try exact dS)only[go_sem,id]
 ·simp(maxSteps:=9^9)(disch:=try exact dS)only[go_sem,id,saA,List.take_zero,List.foldl_nil]
 have le:=jJp hs k;by_cases c:k<4
 ·obtain⟨x,hg,hm,_⟩:=qX (l:=s.au) (k:=k) oM;have hx:=hs.au.2 x hm;have hf:=kO (f:=blL) (b:=s.sd.foldl blL (eA0 s)) hg;have e1:=jTr (g:=g1) (l:=s.au) (i:=(k:Int)) ⟨oM,oM,oM⟩;rw[show (k:Int).toNat=k from rfl,jTf hg] at e1;generalize (s.au.take k).foldl blL (s.sd.foldl blL (eA0 s))=y at *;have u:=qE5 (b:=y) (x:=x) ⟨oM,oM⟩;have lb:=vU (b:=y) (x:=x);simp(maxSteps:=9^9)(disch:=try exact dS)only[go_sem,saA,c,h1,e1,h2,u];repeat refine aiG ?_
  refine qJ.rd (fun j=>if j=9000 then 45136 else j) ?_ ?_ rfl;all_goals simp(maxSteps:=9^9)(disch:=try exact dS)only[go_sem,id,saA,hf,lb]
 obtain rfl:k=4:=oM;have tu:List.take 4 s.au=s.au:=List.take_of_length_le oM;rw[tu] at le;have e3:blL (s.au.foldl blL (s.sd.foldl blL (eA0 s))) s.en=eA3 s:=rfl;have e5:blL (eA4 s++[bO s.ord]) (qEc s.bk s.u)=eA5 s:=rfl;have e6:eA5 s++beI 8 s.mc 8++[bY s.ix.length]=eA6 s:=rfl;have le3:=jC7 hs;have le4:=jC8 hs;have le5:=jC9 hs;have le6:=jDa hs;clear c hk;have u3:=qE5 (b:=s.au.foldl blL (s.sd.foldl blL (eA0 s))) (x:=s.en) ⟨oM,oM⟩;rw[e3] at u3;have lb3:=vU (b:=s.au.foldl blL (s.sd.foldl blL (eA0 s))) (x:=s.en);rw[e3] at lb3;generalize hY:s.au.foldl blL (s.sd.foldl blL (eA0 s))=y at *;have u4:=jS1 (l:=[s.res,s.rst,s.clk]) (b:=eA3 s) ⟨⟨sM,sM⟩,oM⟩;rw[show nuE (eA3 s) [s.res,s.rst,s.clk]=eA4 s from rfl] at u4;generalize eA3 s=A3 at *;have hone := @jTu g4 s.ord;have renc:=jTy (u:=s.u) hs.bk.rv;have lr:=zLi (u:=s.u) hs.bk.rv;have u5:=qE5 (b:=eA4 s++[bO s.ord]) (x:=qEc s.bk s.u) ⟨soM,oM⟩;rw[e5] at u5;have lb5:(eA5 s).length=(eA4 s++[bO s.ord]).length+2+(qEc s.bk s.u).length:=by rw[←e5];exact vU
 have m5:(eA4 s).map qA++[qA (bO s.ord)]=(eA4 s++[bO s.ord]).map qA:=sM;have lB4:(eA4 s++[bO s.ord]).length=(eA4 s).length+1:=sM;generalize hB4:eA4 s++[bO s.ord]=B4 at *;generalize eA4 s=A4 at *;generalize qEc s.bk s.u=R at *;have u6:=jS1 (l:=[s.mc]) (b:=eA5 s) ⟨⟨sM,sM⟩,oM⟩;have e6n:nuE (eA5 s) [s.mc]=eA5 s++beI 8 s.mc 8:=rfl;rw[e6n] at u6;have lB5:(eA5 s++beI 8 s.mc 8).length=(eA5 s).length+8:=by simp only[List.length_append,jI7]
 have lb6:(eA6 s).length=(eA5 s++beI 8 s.mc 8).length+1:=by rw[←e6,@List.length_append _ (eA5 s++beI 8 s.mc 8) _];rfl
 generalize eA5 s++beI 8 s.mc 8=B5 at *;generalize eA5 s=A5 at *;have t1:List.take (y.length+2+s.en.length) A3=A3:=List.take_of_length_le oM;have t4':List.take (A4.length+1) B4=B4:=List.take_of_length_le oM;have t5:List.take (B4.length+2+R.length) A5=A5:=List.take_of_length_le oM;simp only[mcn,iT] at u4 u6;simp(maxSteps:=9^9)(disch:=try exact dS)only[go_sem,saA,tu,hY,h2,u3,t1,h3,u4,h4,hone,h5,renc,m5,hB4,t4',u5,t5,u6,wi];repeat refine aiG ?_
 refine qB s.ix.length (fun k=>[(1,.ref 4096 0 0),(3,.ref 8256 0 0),(6,.fn 79 [.ref 8256 0 0]),(74,.t (.sl (s.ix.map ixA))),(75,.t (.int .i64 s.ix.length)),(76,.t (.int .i64 (k:Nat)))]) (fun k=>[(8256,.live 1 [.sl 9000 0 ((s.ix.take k).foldl ixE (eA6 s)).length] true true),(9000,.live 1 ((((s.ix.take k).foldl ixE (eA6 s)).map qA).map V.t) true false),(4096,.live 19 [.t (saA s)] true true)]) (qJ.rd (fun j=>if j=9000 then 77920 else j) ?_ ?_ rfl) (fun k hk=>?_)
 ·simp(maxSteps:=9^9)(disch:=try exact dS)only[go_sem,id]
 ·simp(maxSteps:=9^9)(disch:=try exact dS)only[go_sem,id,saA,List.take_zero,List.foldl_nil,e6,lb6]
 clear u3 u4 u5 u6 t1 t4' t5 m5 renc lr lb3 lb5 lb6 lB4 lB5 le le3 le4 le5 e3 e5 e6 hY hB4;have le:=jJq hs k;by_cases c:k<s.ix.length
 ·obtain⟨x,hg,hm,_⟩:=qX c;have hx:=hs.ix.2 x hm;have hl:=hx.le;have hf:=kO (f:=ixE) (b:=eA6 s) hg;have x1:=hx.1;have x2:=hx.2.1;have x3:=hx.2.2.1;generalize (s.ix.take k).foldl ixE (eA6 s)=z at *;have w1:=jS0 (n:=x.n) oM;have w2:=jS0 (n:=x.kd) oM;have w3:=jS0 (n:=x.ar) oM;have hw := @jTu g4 x.wr;have d0:blL (blL (blL (z++[bY x.n]++[bY x.kd]++[bY x.ar]++beI 2 x.sz 2++[bO x.wr]) x.po) x.au) x.da=ixE z x:=rfl;have l10:(z++[bY x.n]++[bY x.kd]++[bY x.ar]).length=z.length+3:=sM;have u1:=qJ7 (b:=z++[bY x.n]++[bY x.kd]++[bY x.ar]) (n:=x.sz) oM;generalize hC1:z++[bY x.n]++[bY x.kd]++[bY x.ar]=C1 at *;have l11:(C1++beI 2 x.sz 2).length=C1.length+2:=by simp only[List.length_append,jQr]
  generalize C1++beI 2 x.sz 2=C2 at *;have l12:(C2++[bO x.wr]).length=C2.length+1:=sM;have u2:=qE5 (b:=C2++[bO x.wr]) (x:=x.po) ⟨oM,oM⟩;have m2:C2.map qA++[qA (bO x.wr)]=(C2++[bO x.wr]).map qA:=sM;generalize hC3:C2++[bO x.wr]=C3 at *;have l13:=vU (b:=C3) (x:=x.po);have u3:=qE5 (b:=blL C3 x.po) (x:=x.au) ⟨oM,oM⟩;generalize blL C3 x.po=D1 at *;have l14:=vU (b:=D1) (x:=x.au);have u4:=qE5 (b:=blL D1 x.au) (x:=x.da) ⟨oM,oM⟩;generalize blL D1 x.au=D2 at *;have l15:=vU (b:=D2) (x:=x.da);rw[d0] at l15 u4;have t1:List.take (z.length+3) C1=C1:=List.take_of_length_le oM;have t2:List.take (C1.length+2) C2=C2:=List.take_of_length_le oM;have t3:List.take (C1.length+2+1) C3=C3:=List.take_of_length_le oM;have t4:List.take (C3.length+2+x.po.length) D1=D1:=List.take_of_length_le oM;have t5:List.take (D1.length+2+x.au.length) D2=D2:=List.take_of_length_le oM;simp(maxSteps:=9^9)(disch:=try exact dS)only[go_sem,c,hg,oms,ixA,w1,w2,w3,h6,u1,hC1,hC3,m2,t1,h4,hw,t2,t3,h2,u2,u3,u4,t4,t5,mcn];repeat refine aiG ?_
  refine qJ.rd (fun j=>if j=9000 then 102544 else j) ?_ ?_ rfl;all_goals simp(maxSteps:=9^9)(disch:=try exact dS)only[go_sem,id,saA,hf,l15]
 obtain rfl:k=s.ix.length:=oM;rw[List.take_length] at le;have e7:s.ix.foldl ixE (eA6 s)=eA7 s:=rfl;rw[e7] at le;have u8:=jS1 (l:=[s.lk.fa,s.lk.mx,s.lk.rc,s.lk.si,s.lk.cl,s.lk.pe]) (b:=eA7 s) ⟨⟨sM,sM⟩,oM⟩;rw[show nuE (eA7 s) [s.lk.fa,s.lk.mx,s.lk.rc,s.lk.si,s.lk.cl,s.lk.pe]=eA8 s from rfl] at u8;have le8:=jDb hs;have h9:eA8 s++[bY s.ks.length]=eA9 s:=rfl;have l9:(eA9 s).length=(eA8 s).length+1:=by rw[←h9,@List.length_append _ (eA8 s) _];rfl
 simp only[mcn,iT] at u8;simp(maxSteps:=9^9)(disch:=try exact dS)only[go_sem,saA,List.take_length,e7,h3,u8,wk];repeat refine aiG ?_
 refine qB s.ks.length (fun k=>[(3,.ref 8256 0 0),(137,.t (.sl (s.ks.map lvA))),(138,.t (.int .i64 s.ks.length)),(139,.t (.int .i64 (k:Nat)))]) (fun k=>[(8256,.live 1 [.sl 9000 0 ((s.ks.take k).foldl lvE (eA9 s)).length] true true),(9000,.live 1 ((((s.ks.take k).foldl lvE (eA9 s)).map qA).map V.t) true false)]) (qJ.rd (fun j=>if j=9000 then 118880 else j) ?_ ?_ rfl) (fun k hk=>?_)
 ·simp(maxSteps:=9^9)(disch:=try exact dS)only[go_sem,id]
 ·simp(maxSteps:=9^9)(disch:=try exact dS)only[go_sem,id,saA,List.take_zero,List.foldl_nil,h9,l9]
 have le:=jJr hs k;by_cases c:k<s.ks.length
 ·obtain⟨x,hg,hm,_⟩:=qX c;have hx:=hs.ks.2 x hm;unfold Lv.Ok at hx;have hf:=kO (f:=lvE) (b:=eA9 s) hg;generalize (s.ks.take k).foldl lvE (eA9 s)=z at *;have w1:=jS0 (n:=x.us) oM;have d0:blL z x.un++[bY x.us]=lvE z x:=rfl;have u1:=qE5 (b:=z) (x:=x.un) ⟨oM,oM⟩;have l11:=vU (b:=z) (x:=x.un);have l12:(lvE z x).length=(blL z x.un).length+1:=by rw[←d0,@List.length_append _ (blL z x.un) _];rfl
  simp(maxSteps:=9^9)(disch:=try exact dS)only[go_sem,c,hg,oms,lvA,w1,h2,u1,mcn];repeat refine aiG ?_
  refine qJ.rd (fun j=>if j=9000 then 135296 else j) ?_ ?_ rfl;all_goals simp(maxSteps:=9^9)(disch:=try exact dS)only[go_sem,id,hf,l12,l11,d0]
 obtain rfl:k=s.ks.length:=oM;have ea:s.ks.foldl lvE (eA9 s)=qGt s:=rfl;simp(maxSteps:=9^9)(disch:=try exact dS)only[go_sem,List.take_length,ea];repeat refine aiG ?_
 exact jUa (qGt s) rfl rfl rfl
def IE (r:Nat)(e:Int):Ob:= .live 2 [.agg [.ref r 0 0,.t (.int .i64 e)]] true true
theorem qIa {r:Nat}{e:Int}:IE r e = .live 2 [.agg [.ref r 0 0,.t (.int .i64 e)]] true true:=rfl
theorem jSo {r:Nat}{e e':Int}(h:IE r e=IE r e'):e=e':=by
 unfold IE at h;injection h with _ h;injection h with h;injection h with h;injection h with _ h;injection h with h;injection h with h;injection h
def Rn (s:Rd)(e:Int):Prop:=qEg s∧(e=0→s.2.2=0)
abbrev et (s:Rd)(e:Int):Rd:=(s.1,s.2.1,e)
def jTv (s:Rd)(k:Nat)(m:Int):Int×Rd:=if (qU s k).2.2.2=0∧m<(qU s k).1 then (0,((qU s k).2.1,(qU s k).2.2.1,1)) else qU s k
theorem jJv {b:List UInt8}{p k:Nat}{e:Int}(h:e≠0):qU (b,p,e) k=(0,(b,p,e)):=if_pos h
theorem jTm {b:List UInt8}{p k:Nat}{e m:Int}(h:e≠0):jTv (b,p,e) k m=(0,(b,p,e)):=by
 unfold jTv;rw[jJv h,if_neg (fun g=>h g.1)]
theorem jSu {b:List UInt8}{p k:Nat}{e:Int}(h:e≠0):zZ (b,p,e) k=([],(b,p,e)):=if_pos h
theorem jTd {s:Rd}{k:Nat}:(qU s k).1≤9223372036854775807:=by
 unfold qU;split
 ·simp
 ·split
  ·simp
  ·split
   ·simp
   ·simp only;omega
theorem jTn {s:Rd}{k:Nat}:jTv s k 9223372036854775807=qU s k:=by
 have h:=jTd (s:=s) (k:=k);unfold jTv;rw[if_neg (fun g=>oM)]
def qS9:ECt where
 α:=Rd×Int×Nat×Int
 β:=Int×Rd×Int
 aS:=fun (s,e,k,m)=>[.ref 0 0 0,.t (.int .i64 k),.t (.int .i64 m)]
 ins:=fun (s,e,k,m)=>[IE 1 e,kP s]
 pre:=fun (s,e,k,m)=>Rn s e∧1≤k∧k≤8
 r:=fun (v,s,e)=> .t (.int .i64 v)
 outs:=fun (v,s,e)=>[IE 1 e,kP s]
 R:=fun (s,e,k,m) (v,s',e')=>(v,et s' e')=jTv (et s e) k m∧Rn s' e'
 inj:=by
  rintro⟨s,e,k,m⟩ ⟨s',e',k',m'⟩ h h2;simp only[List.cons.injEq,V.t.injEq,T.int.injEq,true_and,and_true,Int.natCast_inj] at h h2;obtain⟨rfl,rfl⟩:=h;cases jSo h2.1;cases qCy h2.2;rfl
theorem jSw {g:EF qS9}{s:Rd}{e:Int}{k:Nat}{m:Int}(h:Rn s e∧1≤k∧k≤8) : ∃ v s' e',((v,et s' e')=jTv (et s e) k m∧Rn s' e')∧qS9.fs g [.ref 0 0 0,.t (.int .i64 k),.t (.int .i64 m)] [IE 1 e,rdO s]=some (.t (.int .i64 v),[IE 1 e',rdO s']):=by
 obtain⟨⟨v,s',e'⟩,h1,h2⟩:=qS9.eq g (s,e,k,m) h;exact⟨v,s',e',h1,h2⟩
theorem jTj {s:Rd}{e:Int}{k:Nat}{m:Int}(v:Int)(s':Rd)(e':Int)(hR:(v,et s' e')=jTv (et s e) k m∧Rn s' e')(hV:vv = .t (.int .i64 v))(hO:oo=[IE 1 e',kP s']):qS9.K (s,e,k,m) vv oo:=⟨(v,s',e'),hR,hV,hO⟩
theorem qTa (h1:LkC tab 118 qIc)(h2:LkC tab 120 qO7)(s:Rd)(e:Int)(k:Nat)(m:Int)(hp:Rn s e∧1≤k∧k≤8) :
  qH1.1.wp tab gl (qF 0 [.ref 0 0 0,.t (.int .i64 k),.t (.int .i64 m)]) (qF 0 [IE 1 e,kP s]) (zD [(6,none)] 2 (qS9.K (s,e,k,m))):=by
 obtain⟨⟨ok,hI⟩,hk⟩:=hp;obtain⟨b,p,f⟩:=s;by_cases c:e=0
 rotate_left
 ·simp(maxSteps:=9^9)(disch:=try exact dS)only[go_sem,qH1,qIa,zN,c];exact jTj 0 (b,p,f) e ⟨(jTm c).symm,ok,hI⟩ rfl rfl
 subst c;obtain rfl:f=0:=hI rfl;have e1:=kY (s:=(b,p,0)) (k:=k) ⟨ok,hk⟩;have o1:=zBv (k:=k) ok;have hv:=jTa (s:=(b,p,0)) (k:=k);have hd:jTv (b,p,0) k m=if (qU (b,p,0) k).2.2.2=0∧m<(qU (b,p,0) k).1 then (0,((qU (b,p,0) k).2.1,(qU (b,p,0) k).2.2.1,1)) else qU (b,p,0) k:=rfl
 generalize qU (b,p,0) k=y at *;obtain⟨v,b',p',x⟩:=y;simp only at hv hd o1;have e2:=qT0 o1;simp only[rdO] at e1 e2;by_cases c1:x=0
 ·subst c1;by_cases c2:m<v
  ·rw[if_pos ⟨rfl,c2⟩] at hd;simp(maxSteps:=9^9)(disch:=try exact dS)only[go_sem,qH1,qIa,zN,h1,e1,h2,e2,c2];exact jTj 0 (b',p',0) 1 ⟨hd.symm,o1,fun h=>absurd h (by decide)⟩ rfl rfl
  ·rw[if_neg (fun h=>c2 h.2)] at hd;simp(maxSteps:=9^9)(disch:=try exact dS)only[go_sem,qH1,qIa,zN,h1,e1,h2,e2,c2];exact jTj v (b',p',0) 0 ⟨hd.symm,o1,fun _=>rfl⟩ rfl rfl
 ·rw[if_neg (fun h=>c1 h.1)] at hd;obtain rfl:v=0:=hv.2 c1;simp(maxSteps:=9^9)(disch:=try exact dS)only[go_sem,qH1,qIa,zN,h1,e1,h2,e2,c1];exact jTj 0 (b',p',x) x ⟨hd.symm,o1,fun h=>absurd h c1⟩ rfl rfl
def zGx:ECt where
 α:=Rd×Int×Nat
 β:=Int×Rd×Int
 aS:=fun (s,e,k)=>[.ref 0 0 0,.t (.int .i64 k)]
 ins:=fun (s,e,k)=>[IE 1 e,kP s]
 pre:=fun (s,e,k)=>Rn s e∧1≤k∧k≤8
 r:=fun (v,s,e)=> .t (.int .i64 v)
 outs:=fun (v,s,e)=>[IE 1 e,kP s]
 R:=fun (s,e,k) (v,s',e')=>(v,et s' e')=qU (et s e) k∧Rn s' e'
 inj:=by
  rintro⟨s,e,k⟩ ⟨s',e',k'⟩ h h2;simp only[List.cons.injEq,V.t.injEq,T.int.injEq,true_and,and_true,Int.natCast_inj] at h h2;subst h;cases jSo h2.1;cases qCy h2.2;rfl
theorem qSb {g:EF zGx}{s:Rd}{e:Int}{k:Nat}(h:Rn s e∧1≤k∧k≤8) : ∃ v s' e',((v,et s' e')=qU (et s e) k∧Rn s' e')∧zGx.fs g [.ref 0 0 0,.t (.int .i64 k)] [IE 1 e,rdO s]=some (.t (.int .i64 v),[IE 1 e',rdO s']):=by
 obtain⟨⟨v,s',e'⟩,h1,h2⟩:=zGx.eq g (s,e,k) h;exact⟨v,s',e',h1,h2⟩
theorem jJw {g1}(h1:LkE tab 108 qS9 g1)(s:Rd)(e:Int)(k:Nat)(hp:Rn s e∧1≤k∧k≤8) :
  qM1.1.wp tab gl (qF 0 [.ref 0 0 0,.t (.int .i64 k)]) (qF 0 [IE 1 e,kP s]) (zD [(4,none)] 2 (zGx.K (s,e,k))):=by
 obtain⟨v,s',e',⟨hR,hn⟩,e1⟩:=jSw (g:=g1) (m:=9223372036854775807) hp;rw[jTn] at hR;simp only[rdO,qIa] at e1;simp(maxSteps:=9^9)(disch:=try exact dS)only[go_sem,qM1,qIa,qNa,h1,e1];exact⟨(v,s',e'),⟨hR,hn⟩,rfl,rfl⟩
def zG2:ECt where
 α:=Rd×Int
 β:=Bool×Rd×Int
 aS:=fun (s,e)=>[.ref 0 0 0]
 ins:=fun (s,e)=>[IE 1 e,kP s]
 pre:=fun (s,e)=>Rn s e
 r:=fun (v,s,e)=> .t (.bool v)
 outs:=fun (v,s,e)=>[IE 1 e,kP s]
 R:=fun (s,e) (v,s',e')=>(v=((zWa (et s e) 1).1==1)∧et s' e'=(zWa (et s e) 1).2)∧Rn s' e'
 inj:=by
  rintro⟨s,e⟩ ⟨s',e'⟩ _ h2;simp only[List.cons.injEq,and_true] at h2;cases jSo h2.1;cases qCy h2.2;rfl
theorem jTt {g:EF zG2}{s:Rd}{e:Int}(h:Rn s e) : ∃ v s' e',((v=((zWa (et s e) 1).1==1)∧et s' e'=(zWa (et s e) 1).2)∧Rn s' e')∧zG2.fs g [.ref 0 0 0] [IE 1 e,rdO s]=some (.t (.bool v),[IE 1 e',rdO s']):=by
 obtain⟨⟨v,s',e'⟩,h1,h2⟩:=zG2.eq g (s,e) h;exact⟨v,s',e',h1,h2⟩
theorem zYf {g1}(h1:LkE tab 108 qS9 g1)(s:Rd)(e:Int)(hp:Rn s e) :
  qKs.1.wp tab gl (qF 0 [.ref 0 0 0]) (qF 0 [IE 1 e,kP s]) (zD [(2,none)] 2 (zG2.K (s,e))):=by
 obtain⟨v,s',e',⟨hR,hn⟩,e1⟩:=jSw (g:=g1) (k:=1) (m:=1) ⟨hp,oM,oM⟩;rw[show ((1:Nat):Int)=1 from rfl] at e1;have hR':(v,et s' e')=zWa (et s e) 1:=hR;simp only[rdO,qIa] at e1;simp(maxSteps:=9^9)(disch:=try exact dS)only[go_sem,qKs,qIa,qNa,h1,e1];exact⟨(v==1,s',e'),⟨⟨by rw[←hR'],by rw[←hR']⟩,hn⟩,rfl,rfl⟩
def qS8:ECt where
 α:=Rd×Int
 β:=List UInt8×Rd×Int
 aS:=fun (s,e)=>[.ref 0 0 0]
 ins:=fun (s,e)=>[IE 1 e,kP s]
 pre:=fun (s,e)=>Rn s e
 r:=fun (v,s,e)=> .t (.sl (v.map qA))
 outs:=fun (v,s,e)=>[IE 1 e,kP s]
 R:=fun (s,e) (v,s',e')=>(v,et s' e')=zZ (et s e) 4096∧Rn s' e'
 inj:=by
  rintro⟨s,e⟩ ⟨s',e'⟩ _ h2;simp only[List.cons.injEq,and_true] at h2;cases jSo h2.1;cases qCy h2.2;rfl
theorem jSp {g:EF qS8}{s:Rd}{e:Int}(h:Rn s e) : ∃ v s' e',((v,et s' e')=zZ (et s e) 4096∧Rn s' e')∧qS8.fs g [.ref 0 0 0] [IE 1 e,rdO s]=some (.t (.sl (v.map qA)),[IE 1 e',rdO s']):=by
 obtain⟨⟨v,s',e'⟩,h1,h2⟩:=qS8.eq g (s,e) h;exact⟨v,s',e',h1,h2⟩
theorem jT2 {s:Rd}{e:Int}(v:List UInt8)(s':Rd)(e':Int)(hR:(v,et s' e')=zZ (et s e) 4096∧Rn s' e')(hV:vv = .t (.sl (v.map qA)))(hO:oo=[IE 1 e',kP s']):qS8.K (s,e) vv oo:=⟨(v,s',e'),hR,hV,hO⟩
theorem zV4 (h1:LkC tab 119 qJt)(h2:LkC tab 120 qO7)(s:Rd)(e:Int)(hp:Rn s e) :
  qKr.1.wp tab gl (qF 0 [.ref 0 0 0]) (qF 0 [IE 1 e,kP s]) (zD [(2,none)] 2 (qS8.K (s,e))):=by
 obtain⟨ok,hI⟩:=hp;obtain⟨b,p,f⟩:=s;by_cases c:e=0
 rotate_left
 ·simp(maxSteps:=9^9)(disch:=try exact dS)only[go_sem,qKr,qIa,zN,c];exact jT2 [] (b,p,f) e ⟨(jSu c).symm,ok,hI⟩ rfl rfl
 subst c;obtain rfl:f=0:=hI rfl;have e1:=qNq (s:=(b,p,0)) (k:=4096) ⟨ok,oM⟩;have o1:=jTi (k:=4096) ok;obtain⟨⟨v,b',p',x⟩,hy⟩ : ∃ y,zZ (b,p,0) 4096=y:=⟨_,rfl⟩;rw[hy] at e1 o1;rw[show ((4096:Nat):Int)=4096 from rfl] at e1;simp only at o1;have e2:=qT0 o1;simp only[rdO] at e1 e2;simp(maxSteps:=9^9)(disch:=try exact dS)only[go_sem,qKr,qIa,zN,h1,e1,h2,e2];exact jT2 v (b',p',x) x ⟨hy.symm,o1,fun h=>h⟩ rfl rfl
def jDm:ECt where
 α:=Rd×Int
 β:=(List qY×Int)×Rd×Int
 aS:=fun (s,e)=>[.ref 0 0 0]
 ins:=fun (s,e)=>[IE 1 e,kP s]
 pre:=fun (s,e)=>Rn s e
 r:=fun (v,s,e)=> .t (.agg [.sl (v.1.map wQ),.int .i64 v.2])
 outs:=fun (v,s,e)=>[IE 1 e,kP s]
 R:=fun (s,e) (v,s',e')=>(v,et s' e')=jKp (et s e)∧Rn s' e'
 inj:=by
  rintro⟨s,e⟩ ⟨s',e'⟩ _ h2;simp only[List.cons.injEq,and_true] at h2;cases jSo h2.1;cases qCy h2.2;rfl
theorem jT3 {g:EF jDm}{s:Rd}{e:Int}(h:Rn s e) : ∃ v s' e',((v,et s' e')=jKp (et s e)∧Rn s' e')∧jDm.fs g [.ref 0 0 0] [IE 1 e,rdO s]=some (.t (.agg [.sl (v.1.map wQ),.int .i64 v.2]),[IE 1 e',rdO s']):=by
 obtain⟨⟨v,s',e'⟩,h1,h2⟩:=jDm.eq g (s,e) h;exact⟨v,s',e',h1,h2⟩
theorem zT2 {g1}(h1:LkE tab 110 qS8 g1)(h2:LkC tab 135 zXj)(s:Rd)(e:Int)(hp:Rn s e) :
  qJ1.1.wp tab gl (qF 0 [.ref 0 0 0]) (qF 0 [IE 1 e,kP s]) (zD [(2,some (2,true))] 2 (jDm.K (s,e))):=by
 obtain⟨v,s',e',⟨hR,hn⟩,e1⟩:=jSp (g:=g1) hp;have lv:=jTh (s:=et s e) (k:=4096);rw[←hR] at lv;have e2:=jT1 (b:=v) (by simp only at lv;omega);have hd:jKp (et s e)=if (zZ (et s e) 4096).2.2.2≠0 then (([],0),(zZ (et s e) 4096).2) else (((dcT (zZ (et s e) 4096).1).1,(dcT (zZ (et s e) 4096).1).2.1),((zZ (et s e) 4096).2.1,(zZ (et s e) 4096).2.2.1,(dcT (zZ (et s e) 4096).1).2.2)):=rfl
 rw[←hR] at hd;simp only at hd;obtain⟨b,p,f⟩:=s';simp only[rdO,qIa] at e1;by_cases c:e'=0
 ·subst c;obtain rfl:f=0:=hn.2 rfl;rw[if_neg sM] at hd;generalize dcT v=z at *;obtain⟨bk,u,x⟩:=z;simp only at e2 hd;simp(maxSteps:=9^9)(disch:=try exact dS)only[go_sem,qJ1,qIa,qNa,h1,e1,h2,e2];exact⟨((bk,u),(b,p,0),x),⟨hd.symm,hn.1,fun _=>rfl⟩,rfl,rfl⟩
 ·rw[if_pos c] at hd;simp(maxSteps:=9^9)(disch:=try exact dS)only[go_sem,qJ1,qIa,qNa,h1,e1,c];exact⟨(([],0),(b,p,f),e'),⟨hd.symm,hn⟩,rfl,rfl⟩
def jGc:ECt where
 α:=Rd×Int
 β:=Ix×Rd×Int
 aS:=fun (s,e)=>[.ref 0 0 0]
 ins:=fun (s,e)=>[IE 1 e,kP s]
 pre:=fun (s,e)=>Rn s e
 r:=fun (v,s,e)=> .t (ixA v)
 outs:=fun (v,s,e)=>[IE 1 e,kP s]
 R:=fun (s,e) (v,s',e')=>(v,et s' e')=jE9 (et s e)∧Rn s' e'
 inj:=by
  rintro⟨s,e⟩ ⟨s',e'⟩ _ h2;simp only[List.cons.injEq,and_true] at h2;cases jSo h2.1;cases qCy h2.2;rfl
theorem jT4 {g:EF jGc}{s:Rd}{e:Int}(h:Rn s e) : ∃ v s' e',((v,et s' e')=jE9 (et s e)∧Rn s' e')∧jGc.fs g [.ref 0 0 0] [IE 1 e,rdO s]=some (.t (ixA v),[IE 1 e',rdO s']):=by
 obtain⟨⟨v,s',e'⟩,h1,h2⟩:=jGc.eq g (s,e) h;exact⟨v,s',e',h1,h2⟩
theorem zOt {g1}(h1:LkE tab 107 zGx g1){g2}(h2:LkE tab 111 zG2 g2){g3}(h3:LkE tab 110 qS8 g3)(s:Rd)(e:Int)(hp:Rn s e) :
  qJ0.1.wp tab gl (qF 0 [.ref 0 0 0]) (qF 0 [IE 1 e,kP s]) (zD [(2,some (8,true))] 2 (jGc.K (s,e))):=by
 obtain⟨n,s1,f1,⟨q1,m1⟩,e1⟩:=qSb (g:=g1) (k:=1) ⟨hp,oM,oM⟩;obtain⟨kd,s2,f2,⟨q2,m2⟩,e2⟩:=qSb (g:=g1) (k:=1) ⟨m1,oM,oM⟩;obtain⟨ar,s3,f3,⟨q3,m3⟩,e3⟩:=qSb (g:=g1) (k:=1) ⟨m2,oM,oM⟩;obtain⟨sz,s4,f4,⟨q4,m4⟩,e4⟩:=qSb (g:=g1) (k:=2) ⟨m3,oM,oM⟩;obtain⟨w,s5,f5,⟨⟨q5,q5'⟩,m5⟩,e5⟩:=jTt (g:=g2) m4;obtain⟨po,s6,f6,⟨q6,m6⟩,e6⟩:=jSp (g:=g3) m5;obtain⟨au,s7,f7,⟨q7,m7⟩,e7⟩:=jSp (g:=g3) m6;obtain⟨da,s8,f8,⟨q8,m8⟩,e8⟩:=jSp (g:=g3) m7;obtain⟨x,hx⟩ : ∃ x,zWa (et s4 f4) 1=(x,et s5 f5):=⟨_,Prod.ext rfl q5'.symm⟩;rw[hx] at q5;have hd:jE9 (et s e)=(⟨n,kd,ar,sz,po,au,w,da⟩,et s8 f8):=by simp only[jE9,←q1,←q2,←q3,←q4,hx,←q6,←q7,←q8,q5]
 rw[show ((1:Nat):Int)=1 from rfl] at e1 e2 e3;rw[show ((2:Nat):Int)=2 from rfl] at e4;simp only[rdO,qIa] at e1 e2 e3 e4 e5 e6 e7 e8;simp(maxSteps:=9^9)(disch:=try exact dS)only[go_sem,qJ0,qIa,qNa,h1,h2,h3,e1,e2,e3,e4,e5,e6,e7,e8];exact⟨(⟨n,kd,ar,sz,po,au,w,da⟩,s8,f8),⟨hd.symm,m8⟩,rfl,rfl⟩
def jDl:ECt where
 α:=Rd×Int×Nat
 β:=List (List UInt8)×Rd×Int
 aS:=fun (s,e,n)=>[.t (.int .i64 n),.ref 0 0 0]
 ins:=fun (s,e,n)=>[.live 1 [.ref 1 0 0] true true,IE 2 e,kP s]
 pre:=fun (s,e,n)=>Rn s e∧n≤10
 r:=fun (v,s,e)=> .t (.sl (v.map bsT))
 outs:=fun (v,s,e)=>[.live 1 [.ref 1 0 0] true true,IE 2 e,kP s]
 R:=fun (s,e,n) (v,s',e')=>(v,et s' e')=zZf (et s e) n∧Rn s' e'
 inj:=by
  rintro⟨s,e,n⟩ ⟨s',e',n'⟩ h h2;simp only[List.cons.injEq,V.t.injEq,T.int.injEq,true_and,and_true,Int.natCast_inj] at h h2;subst h;cases jSo h2.1;cases qCy h2.2;rfl
theorem jTs {g:EF jDl}{s:Rd}{e:Int}{n:Nat}(h:Rn s e∧n≤10) : ∃ v s' e',((v,et s' e')=zZf (et s e) n∧Rn s' e')∧jDl.fs g [.t (.int .i64 n),.ref 0 0 0] [.live 1 [.ref 1 0 0] true true,IE 2 e,rdO s]=some (.t (.sl (v.map bsT)),[.live 1 [.ref 1 0 0] true true,IE 2 e',rdO s']):=by
 obtain⟨⟨v,s',e'⟩,h1,h2⟩:=jDl.eq g (s,e,n) h;exact⟨v,s',e',h1,h2⟩
theorem jKe {g1}(h1:LkE tab 110 qS8 g1)(s:Rd)(e:Int)(n:Nat)(hp:Rn s e∧n≤10) :
  qOy.1.wp tab gl (qF 0 [.t (.int .i64 n),.ref 0 0 0]) (qF 0 [.live 1 [.ref 1 0 0] true true,IE 2 e,kP s]) (zD [(3,none)] 3 (jDl.K (s,e,n))):=by
 obtain⟨hn,h10⟩:=hp;simp(maxSteps:=9^9)(disch:=try exact dS)only[go_sem,qOy,qIa,qNa];refine jV (σ:=Nat×List (List UInt8)×Rd×Int) (fun t=>t.1≤n∧(t.2.1,et t.2.2.1 t.2.2.2)=zZf (et s e) t.1∧Rn t.2.2.1 t.2.2.2) (fun t=>n-t.1) (fun t=>[(1,.ref 0 0 0),(3,.sl 9000 0 t.1),(4,.t (.int .i64 n)),(5,.t (.int .i64 t.1))]) (fun t=>[(9000,.live 1 ((t.2.1.map bsT).map V.t) true false),(0,.live 1 [.ref 1 0 0] true true),(1,IE 2 t.2.2.2),(2,kP t.2.2.1)]) (0,[],s,e) ⟨sM,rfl,hn⟩ ?_ ?_
 ·refine qJ.cv0 (hv:=[(9000,.live 1 [] true false)]) (ho:=[(0,.live 1 [.ref 1 0 0] true true),(1,IE 2 e),(2,kP s)]) id ?_ ?_ rfl rfl;all_goals simp(maxSteps:=9^9)(disch:=try exact dS)only[go_sem,id,qIa,qNa]
  all_goals rfl
 rintro⟨k,l,t,f⟩ ⟨hk,hR,ht⟩;simp only at hk hR ht;have ll:l.length=k:=by have:=jS6 (s:=et s e) (n:=k);rw[←hR] at this;exact this
 rcases (by omega:k<n∨n=k) with c | rfl
 ·obtain⟨x,t',f',⟨hx,ht'⟩,e1⟩:=jSp (g:=g1) ht;have hs:(l++[x],et t' f')=zZf (et s e) (k+1):=by simp only[zZf,←hR,←hx]
  simp only[rdO,qIa] at e1;simp(maxSteps:=9^9)(disch:=try exact dS)only[go_sem,qIa,qNa,c,h1,e1,ll];repeat refine aiG ?_
  refine qMg.of (k+1,l++[x],t',f') ⟨by show k+1≤n;omega,hs,ht'⟩ (by show n-(k+1)<n-k;omega) (qJ.rd (fun j=>if j=9000 then 16448 else j) ?_ ?_ rfl);all_goals simp(maxSteps:=9^9)(disch:=try exact dS)only[go_sem,id,qIa,qNa]
 ·have tl:List.take n l=l:=List.take_of_length_le oM;simp(maxSteps:=9^9)(disch:=try exact dS)only[go_sem,qIa,qNa,tl,ll];exact⟨(l,t,f),⟨hR,ht⟩,rfl,rfl⟩
end Go.Eng
end
