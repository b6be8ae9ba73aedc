/- A part of an abstract machine, its walks, their tie. -/
import Derived.Test.YtekghmfbgbhobaaGreatDoorS46
import Derived.Test.YtekghmfbgbhobaaGreatDoorS48
set_option linter.all false
section
set_option maxHeartbeats 64000000
set_option maxRecDepth 20000
namespace Go.Eng
variable (tab:Tab) (gl:Gl)
variable {vv:V} {oo:List Ob}
theorem zNb {a:UInt8}:qCv .rem (qA a) (qA 4)=some (qA (a%4)):=zAf (by decide)
theorem zBg {a:UInt8}:qCv .rem (qA a) (qA 2)=some (qA (a%2)):=zAf (by decide)
theorem zH0 {a b:UInt8}(h:b.toNat≠0):qCv .quo (qA a) (qA b)=some (qA (a/b)):=by
 have h2:(b.toNat:Int)≠0:=oM;change (if IntKind.u8=IntKind.u8∧(b.toNat:Int)≠0 then some (T.int .u8 (IntKind.u8.wrap ((a.toNat:Int).tdiv (b.toNat:Int)))) else none)=_;rw[if_pos ⟨rfl,h2⟩];have e:(a.toNat:Int).tdiv (b.toNat:Int)=((a/b).toNat:Int):=by rw[UInt8.toNat_div];rfl
 have:=(a/b).toNat_lt;rw[e,qKa];unfold qA;congr 2;omega
theorem zM3 {a:UInt8}:qCv .quo (qA a) (qA 4)=some (qA (a/4)):=zH0 (by decide)
theorem jBy (a:UInt8):a%4=0∨a%4=1∨a%4=2∨a%4=3:=by
 have h:(a%4).toNat<4:=by rw[UInt8.toNat_mod];exact Nat.mod_lt _ (by decide)
 rcases (by omega:(a%4).toNat=0∨(a%4).toNat=1∨(a%4).toNat=2∨(a%4).toNat=3) with g | g | g | g
 ·exact .inl (UInt8.toNat_inj.1 (g.trans rfl))
 ·exact .inr (.inl (UInt8.toNat_inj.1 (g.trans rfl)))
 ·exact .inr (.inr (.inl (UInt8.toNat_inj.1 (g.trans rfl))))
 ·exact .inr (.inr (.inr (UInt8.toNat_inj.1 (g.trans rfl))))
theorem jBx (a:UInt8):a%2=0∨a%2=1:=by
 have h:(a%2).toNat<2:=by rw[UInt8.toNat_mod];exact Nat.mod_lt _ (by decide)
 rcases (by omega:(a%2).toNat=0∨(a%2).toNat=1) with g | g
 ·exact .inl (UInt8.toNat_inj.1 (g.trans rfl))
 ·exact .inr (UInt8.toNat_inj.1 (g.trans rfl))
theorem qYm {s y:St}{e m:Int}(h:s.Ok)(on:s.on=true)(hm:m=0∨m=1)(hy:y=(qPe s m).1)(he:e=(qPe s m).2):e=0∧y.Ok∧s.up 0 y∧y.a.res=s.a.res∧y.a.rst=s.a.rst:=by
 have e0:(qPe s m).2=0:=by rcases hm with rfl | rfl<;>simp[qPe,on]
 have g:=zEx h e0;have hr:(qPe s m).1.a.res=s.a.res∧(qPe s m).1.a.rst=s.a.rst:=by rcases hm with rfl | rfl<;>simp[qPe,on,zN8,jH]
 rw[he,hy];exact⟨e0,g.1,g.2,hr⟩
def zK8:ECt where
 α:=Int×List UInt8×Int×UInt8
 β:=Bool
 aS:=fun (a,cs,m,h)=>[.t (.int .i64 a),.t (.sl (cs.map qA)),.t (.int .i64 m),.t (qA h)]
 pre:=fun (a,cs,m,h)=>cs.length≤9223372036854775807
 r:=fun r'=> .t (.bool r')
 R:=fun (a,cs,m,h) r'=>r'=true
theorem zMj {a:Int}{cs:List UInt8}{m:Int}{h:UInt8}(hV:vv = .t (.bool (true)))(hO:oo=[]):zK8.K (a,cs,m,h) vv oo:=⟨_,rfl,hV,hO⟩
theorem qKt {g1}(h1:LkE tab 9 qFa g1){g2}(h2:LkE tab 10 qFb g2){g3}(h3:LkE tab 11 kF g3){g4}(h4:LkE tab 12 qBf g4){g5}(h5:LkE tab 14 kF g5){g6}(h6:LkE tab 13 qHk g6){g7}(h7:LkE tab 15 xT g7){g8}(h8:LkE tab 16 xT g8)(a:Int)(cs:List UInt8)(m:Int)(h:UInt8)(hp:cs.length≤9223372036854775807) :
  jC.1.wp tab gl (qD 0 [.t (.int .i64 a),.t (.sl (cs.map qA)),.t (.int .i64 m),.t (qA h)]) (qD 0 []) (qY [(8,none)] 0 (zK8.K (a,cs,m,h))):=by
 have e1 := @zGn g1;obtain⟨s,⟨⟨ok,cn⟩,on⟩,e2⟩:=zGy (g:=g2) (a:=a) (cs:=cs) (b:=[]) ⟨hp,sM⟩;simp only[stA,List.map_nil] at e2;rcases jBy h with c | c | c | c
 ·have q0:decide (h%4=0)=true:=by rw[c];rfl
  have e3 := @kA g3 s.a;have hv:=wS ok.a;have hvc:=((qBa ok).2 _ cn).le (show (5000:Int)+0≤10000 by omega);generalize jH s.a=v at *;simp only[stA,saA] at e3;have e5 := @kA g5 v.a;have e6 := @kA g3 v.a;have hw:=wS hv.a;have hwc:=(qBa hv).2 _ hvc;generalize jH v.a=w at *;obtain⟨b0,rfl,e7⟩:=qEi (g:=g6) (a:=w) (b:=w) ⟨rfl,hw.M (hwc.le oM)⟩;simp only[stA,saA] at e5 e6 e7;simp(maxSteps:=9^9)(disch:=try exact dS)only[go_sem,jC,stA,saA,zNb,zBg,zM3,q0,h1,h2,h3,h4,h5,h6,e1,e2,e5,e6,e7,e3];repeat refine aiG ?_
  refine qW (σ:=Int) (fun k => -1≤k∧k≤3) (fun k=>(3-k).toNat) (fun k=>[(2,.t (.int .i64 m)),(9,.ref 16432 0 0),(10,.t (.int .i64 k))]) (fun k=>[(16432,.live 30 [.t (stA v)] true true)]) (-1) ⟨oM,oM⟩ ?_ ?_
  ·refine qI.rd id ?_ ?_ rfl;all_goals simp(maxSteps:=9^9)(disch:=try exact dS)only[go_sem,id,stA]
  rintro k ⟨k1,k2⟩;by_cases kc:k<3
  ·obtain⟨y,e,⟨hy,he⟩,e8⟩:=yO (g:=g7) (s:=v) (m:=k) ⟨hv.a,hvc.le oM⟩;obtain⟨y',e',⟨hy',he'⟩,e9⟩:=yO (g:=g8) (s:=v) (m:=k) ⟨hv.a,hvc.le oM⟩;obtain rfl:y'=y:=hy'.trans hy.symm;obtain rfl:e'=e:=he'.trans he.symm;obtain⟨b1,rfl,e10⟩:=qEi (g:=g6) (a:=y') (b:=y') ⟨rfl,by rw[hy];exact zBy hv (hvc.le oM)⟩;simp only[stA] at e8 e9 e10;clear hy hy' he he';simp(maxSteps:=9^9)(disch:=try exact dS)only[go_sem,stA,kc,h6,h7,h8,e8,e9,e10];repeat refine aiG ?_
   refine qAf.of (k+1) ⟨oM,oM⟩ oM (qI.rd id ?_ ?_ rfl);all_goals simp(maxSteps:=9^9)(disch:=try exact dS)only[go_sem,id,stA]
  ·obtain rfl:k=3:=oM;obtain⟨y,e,⟨hy,he⟩,e8⟩:=yO (g:=g7) (s:=v) (m:=m) ⟨hv.a,hvc.le oM⟩;obtain⟨y',e',⟨hy',he'⟩,e9⟩:=yO (g:=g8) (s:=v) (m:=m) ⟨hv.a,hvc.le oM⟩;obtain rfl:y'=y:=hy'.trans hy.symm;obtain rfl:e'=e:=he'.trans he.symm;simp only[stA] at e8 e9;clear hy hy' he he';simp(maxSteps:=9^9)(disch:=try exact dS)only[go_sem,stA,h7,h8,e8,e9];exact zMj rfl rfl
 ·have q0:decide (h%4=0)=false:=by rw[c];rfl
  have q1:decide (h%4=1)=true:=by rw[c];rfl
  rcases jBx (h/4) with d | d
  ·have dd:(((h/4%2).toNat:Nat):Int)=0:=by rw[d];rfl
   obtain⟨y0,e0,⟨hy0,he0⟩,e4⟩:=qFy (g:=g4) (s:=s) (m:=0);obtain⟨rfl,oky,cny,_⟩:=qYm ok on oM hy0 he0;have cny:=cny _ cn;have e3 := @kA g3 y0.a;have hv:=wS oky.a;have hvc:=((qBa oky).2 _ cny).le (show (5000:Int)+0+0≤10000 by omega);clear hy0 he0;generalize jH y0.a=v at *;simp only[stA,saA] at e3 e4;have e5 := @kA g5 v.a;have e6 := @kA g3 v.a;have hw:=wS hv.a;have hwc:=(qBa hv).2 _ hvc;generalize jH v.a=w at *;obtain⟨b0,rfl,e7⟩:=qEi (g:=g6) (a:=w) (b:=w) ⟨rfl,hw.M (hwc.le oM)⟩;simp only[stA,saA] at e5 e6 e7;simp(maxSteps:=9^9)(disch:=try exact dS)only[go_sem,jC,stA,saA,zNb,zBg,zM3,q0,q1,h1,h2,h3,h4,h5,h6,e1,e2,e5,e6,e7,e3,e4,dd];repeat refine aiG ?_
   refine qW (σ:=Int) (fun k => -1≤k∧k≤3) (fun k=>(3-k).toNat) (fun k=>[(2,.t (.int .i64 m)),(9,.ref 16432 0 0),(10,.t (.int .i64 k))]) (fun k=>[(16432,.live 30 [.t (stA v)] true true)]) (-1) ⟨oM,oM⟩ ?_ ?_
   ·refine qI.rd id ?_ ?_ rfl;all_goals simp(maxSteps:=9^9)(disch:=try exact dS)only[go_sem,id,stA]
   rintro k ⟨k1,k2⟩;by_cases kc:k<3
   ·obtain⟨y,e,⟨hy,he⟩,e8⟩:=yO (g:=g7) (s:=v) (m:=k) ⟨hv.a,hvc.le oM⟩;obtain⟨y',e',⟨hy',he'⟩,e9⟩:=yO (g:=g8) (s:=v) (m:=k) ⟨hv.a,hvc.le oM⟩;obtain rfl:y'=y:=hy'.trans hy.symm;obtain rfl:e'=e:=he'.trans he.symm;obtain⟨b1,rfl,e10⟩:=qEi (g:=g6) (a:=y') (b:=y') ⟨rfl,by rw[hy];exact zBy hv (hvc.le oM)⟩;simp only[stA] at e8 e9 e10;clear hy hy' he he';simp(maxSteps:=9^9)(disch:=try exact dS)only[go_sem,stA,kc,h6,h7,h8,e8,e9,e10];repeat refine aiG ?_
    refine qAf.of (k+1) ⟨oM,oM⟩ oM (qI.rd id ?_ ?_ rfl);all_goals simp(maxSteps:=9^9)(disch:=try exact dS)only[go_sem,id,stA]
   ·obtain rfl:k=3:=oM;obtain⟨y,e,⟨hy,he⟩,e8⟩:=yO (g:=g7) (s:=v) (m:=m) ⟨hv.a,hvc.le oM⟩;obtain⟨y',e',⟨hy',he'⟩,e9⟩:=yO (g:=g8) (s:=v) (m:=m) ⟨hv.a,hvc.le oM⟩;obtain rfl:y'=y:=hy'.trans hy.symm;obtain rfl:e'=e:=he'.trans he.symm;simp only[stA] at e8 e9;clear hy hy' he he';simp(maxSteps:=9^9)(disch:=try exact dS)only[go_sem,stA,h7,h8,e8,e9];exact zMj rfl rfl
  ·have dd:(((h/4%2).toNat:Nat):Int)=1:=by rw[d];rfl
   obtain⟨y0,e0,⟨hy0,he0⟩,e4⟩:=qFy (g:=g4) (s:=s) (m:=1);obtain⟨rfl,oky,cny,_⟩:=qYm ok on oM hy0 he0;have cny:=cny _ cn;have e3 := @kA g3 y0.a;have hv:=wS oky.a;have hvc:=((qBa oky).2 _ cny).le (show (5000:Int)+0+0≤10000 by omega);clear hy0 he0;generalize jH y0.a=v at *;simp only[stA,saA] at e3 e4;have e5 := @kA g5 v.a;have e6 := @kA g3 v.a;have hw:=wS hv.a;have hwc:=(qBa hv).2 _ hvc;generalize jH v.a=w at *;obtain⟨b0,rfl,e7⟩:=qEi (g:=g6) (a:=w) (b:=w) ⟨rfl,hw.M (hwc.le oM)⟩;simp only[stA,saA] at e5 e6 e7;simp(maxSteps:=9^9)(disch:=try exact dS)only[go_sem,jC,stA,saA,zNb,zBg,zM3,q0,q1,h1,h2,h3,h4,h5,h6,e1,e2,e5,e6,e7,e3,e4,dd];repeat refine aiG ?_
   refine qW (σ:=Int) (fun k => -1≤k∧k≤3) (fun k=>(3-k).toNat) (fun k=>[(2,.t (.int .i64 m)),(9,.ref 16432 0 0),(10,.t (.int .i64 k))]) (fun k=>[(16432,.live 30 [.t (stA v)] true true)]) (-1) ⟨oM,oM⟩ ?_ ?_
   ·refine qI.rd id ?_ ?_ rfl;all_goals simp(maxSteps:=9^9)(disch:=try exact dS)only[go_sem,id,stA]
   rintro k ⟨k1,k2⟩;by_cases kc:k<3
   ·obtain⟨y,e,⟨hy,he⟩,e8⟩:=yO (g:=g7) (s:=v) (m:=k) ⟨hv.a,hvc.le oM⟩;obtain⟨y',e',⟨hy',he'⟩,e9⟩:=yO (g:=g8) (s:=v) (m:=k) ⟨hv.a,hvc.le oM⟩;obtain rfl:y'=y:=hy'.trans hy.symm;obtain rfl:e'=e:=he'.trans he.symm;obtain⟨b1,rfl,e10⟩:=qEi (g:=g6) (a:=y') (b:=y') ⟨rfl,by rw[hy];exact zBy hv (hvc.le oM)⟩;simp only[stA] at e8 e9 e10;clear hy hy' he he';simp(maxSteps:=9^9)(disch:=try exact dS)only[go_sem,stA,kc,h6,h7,h8,e8,e9,e10];repeat refine aiG ?_
    refine qAf.of (k+1) ⟨oM,oM⟩ oM (qI.rd id ?_ ?_ rfl);all_goals simp(maxSteps:=9^9)(disch:=try exact dS)only[go_sem,id,stA]
   ·obtain rfl:k=3:=oM;obtain⟨y,e,⟨hy,he⟩,e8⟩:=yO (g:=g7) (s:=v) (m:=m) ⟨hv.a,hvc.le oM⟩;obtain⟨y',e',⟨hy',he'⟩,e9⟩:=yO (g:=g8) (s:=v) (m:=m) ⟨hv.a,hvc.le oM⟩;obtain rfl:y'=y:=hy'.trans hy.symm;obtain rfl:e'=e:=he'.trans he.symm;simp only[stA] at e8 e9;clear hy hy' he he';simp(maxSteps:=9^9)(disch:=try exact dS)only[go_sem,stA,h7,h8,e8,e9];exact zMj rfl rfl
 ·have q0:decide (h%4=0)=false:=by rw[c];rfl
  have q1:decide (h%4=1)=false:=by rw[c];rfl
  have q2:decide (h%4=2)=true:=by rw[c];rfl
  obtain⟨v,e0,⟨hy0,he0⟩,e4⟩:=qFy (g:=g4) (s:=s) (m:=1);obtain⟨rfl,hv,cny,_⟩:=qYm ok on oM hy0 he0;have hvc:=(cny _ cn).le (show (5000:Int)+0≤10000 by omega);clear hy0 he0;simp only[stA] at e4;have e5 := @kA g5 v.a;have e6 := @kA g3 v.a;have hw:=wS hv.a;have hwc:=(qBa hv).2 _ hvc;generalize jH v.a=w at *;obtain⟨b0,rfl,e7⟩:=qEi (g:=g6) (a:=w) (b:=w) ⟨rfl,hw.M (hwc.le oM)⟩;simp only[stA,saA] at e5 e6 e7;simp(maxSteps:=9^9)(disch:=try exact dS)only[go_sem,jC,stA,saA,zNb,zBg,zM3,q0,q1,q2,h1,h2,h3,h4,h5,h6,e1,e2,e5,e6,e7,e4];repeat refine aiG ?_
  refine qW (σ:=Int) (fun k => -1≤k∧k≤3) (fun k=>(3-k).toNat) (fun k=>[(2,.t (.int .i64 m)),(9,.ref 16432 0 0),(10,.t (.int .i64 k))]) (fun k=>[(16432,.live 30 [.t (stA v)] true true)]) (-1) ⟨oM,oM⟩ ?_ ?_
  ·refine qI.rd id ?_ ?_ rfl;all_goals simp(maxSteps:=9^9)(disch:=try exact dS)only[go_sem,id,stA]
  rintro k ⟨k1,k2⟩;by_cases kc:k<3
  ·obtain⟨y,e,⟨hy,he⟩,e8⟩:=yO (g:=g7) (s:=v) (m:=k) ⟨hv.a,hvc.le oM⟩;obtain⟨y',e',⟨hy',he'⟩,e9⟩:=yO (g:=g8) (s:=v) (m:=k) ⟨hv.a,hvc.le oM⟩;obtain rfl:y'=y:=hy'.trans hy.symm;obtain rfl:e'=e:=he'.trans he.symm;obtain⟨b1,rfl,e10⟩:=qEi (g:=g6) (a:=y') (b:=y') ⟨rfl,by rw[hy];exact zBy hv (hvc.le oM)⟩;simp only[stA] at e8 e9 e10;clear hy hy' he he';simp(maxSteps:=9^9)(disch:=try exact dS)only[go_sem,stA,kc,h6,h7,h8,e8,e9,e10];repeat refine aiG ?_
   refine qAf.of (k+1) ⟨oM,oM⟩ oM (qI.rd id ?_ ?_ rfl);all_goals simp(maxSteps:=9^9)(disch:=try exact dS)only[go_sem,id,stA]
  ·obtain rfl:k=3:=oM;obtain⟨y,e,⟨hy,he⟩,e8⟩:=yO (g:=g7) (s:=v) (m:=m) ⟨hv.a,hvc.le oM⟩;obtain⟨y',e',⟨hy',he'⟩,e9⟩:=yO (g:=g8) (s:=v) (m:=m) ⟨hv.a,hvc.le oM⟩;obtain rfl:y'=y:=hy'.trans hy.symm;obtain rfl:e'=e:=he'.trans he.symm;simp only[stA] at e8 e9;clear hy hy' he he';simp(maxSteps:=9^9)(disch:=try exact dS)only[go_sem,stA,h7,h8,e8,e9];exact zMj rfl rfl
 ·have q0:decide (h%4=0)=false:=by rw[c];rfl
  have q1:decide (h%4=1)=false:=by rw[c];rfl
  have q2:decide (h%4=2)=false:=by rw[c];rfl
  have hv:=ok;have hvc:=cn.le (show (5000:Int)≤10000 by omega);generalize s=v at *;have e5 := @kA g5 v.a;have e6 := @kA g3 v.a;have hw:=wS hv.a;have hwc:=(qBa hv).2 _ hvc;generalize jH v.a=w at *;obtain⟨b0,rfl,e7⟩:=qEi (g:=g6) (a:=w) (b:=w) ⟨rfl,hw.M (hwc.le oM)⟩;simp only[stA,saA] at e5 e6 e7;simp(maxSteps:=9^9)(disch:=try exact dS)only[go_sem,jC,stA,saA,zNb,zBg,zM3,q0,q1,q2,h1,h2,h3,h4,h5,h6,e1,e2,e5,e6,e7];repeat refine aiG ?_
  refine qW (σ:=Int) (fun k => -1≤k∧k≤3) (fun k=>(3-k).toNat) (fun k=>[(2,.t (.int .i64 m)),(9,.ref 16432 0 0),(10,.t (.int .i64 k))]) (fun k=>[(16432,.live 30 [.t (stA v)] true true)]) (-1) ⟨oM,oM⟩ ?_ ?_
  ·refine qI.rd id ?_ ?_ rfl;all_goals simp(maxSteps:=9^9)(disch:=try exact dS)only[go_sem,id,stA]
  rintro k ⟨k1,k2⟩;by_cases kc:k<3
  ·obtain⟨y,e,⟨hy,he⟩,e8⟩:=yO (g:=g7) (s:=v) (m:=k) ⟨hv.a,hvc.le oM⟩;obtain⟨y',e',⟨hy',he'⟩,e9⟩:=yO (g:=g8) (s:=v) (m:=k) ⟨hv.a,hvc.le oM⟩;obtain rfl:y'=y:=hy'.trans hy.symm;obtain rfl:e'=e:=he'.trans he.symm;obtain⟨b1,rfl,e10⟩:=qEi (g:=g6) (a:=y') (b:=y') ⟨rfl,by rw[hy];exact zBy hv (hvc.le oM)⟩;simp only[stA] at e8 e9 e10;clear hy hy' he he';simp(maxSteps:=9^9)(disch:=try exact dS)only[go_sem,stA,kc,h6,h7,h8,e8,e9,e10];repeat refine aiG ?_
   refine qAf.of (k+1) ⟨oM,oM⟩ oM (qI.rd id ?_ ?_ rfl);all_goals simp(maxSteps:=9^9)(disch:=try exact dS)only[go_sem,id,stA]
  ·obtain rfl:k=3:=oM;obtain⟨y,e,⟨hy,he⟩,e8⟩:=yO (g:=g7) (s:=v) (m:=m) ⟨hv.a,hvc.le oM⟩;obtain⟨y',e',⟨hy',he'⟩,e9⟩:=yO (g:=g8) (s:=v) (m:=m) ⟨hv.a,hvc.le oM⟩;obtain rfl:y'=y:=hy'.trans hy.symm;obtain rfl:e'=e:=he'.trans he.symm;simp only[stA] at e8 e9;clear hy hy' he he';simp(maxSteps:=9^9)(disch:=try exact dS)only[go_sem,stA,h7,h8,e8,e9];exact zMj rfl rfl
end Go.Eng
end
section
set_option maxRecDepth 100000
namespace Go.Eng
open Go.Proofs Go.Proofs.YtekghmfbgbhobaaGreatDoor
theorem qJ6 (a:Int)(cs:List UInt8)(m:Int)(h:UInt8)(hp:cs.length≤9223372036854775807):qXf Tryz.prog gl0 3 [.t (.int .i64 a),.t (.sl (cs.map qA)),.t (.int .i64 m),.t (qA h)] [] (.t (.bool true)) []:=zTi _ _ _ _ jHy.h (jH4 (qKt jHy.t gl0  rfl rfl rfl rfl rfl rfl rfl rfl a cs m h hp) (by rintro _ rfl;exact⟨rfl,rfl⟩)) (hann:=jC.2)
end Go.Eng
end
