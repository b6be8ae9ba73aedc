/- A part of an abstract machine, its walks, their tie. -/
import Derived.Test.YtekghmfbgbhobaaGreatDoorS50
import Derived.Test.YtekghmfbgbhobaaGreatDoorS48
set_option linter.all false
section
set_option maxHeartbeats 64000000
set_option maxRecDepth 20000
namespace Go.Eng
variable (tab:Tab) (gl:Gl)
variable {vv:V} {oo:List Ob}
theorem zHs {a:Sa}(h:a.bk.length=0):qH4 (jH a) 1=(default,16):=by simp[qH4,jH,h]
theorem zOr {a:Sa}(h:a.bk.length≠0):qH4 (jH a) 1=(zOo (jH a),0):=by simp only[qH4,jH];simp[h]
def zK5:ECt where
 α:=Int×List UInt8×List UInt8
 β:=Bool
 aS:=fun (a,cs,ms)=>[.t (.int .i64 a),.t (.sl (cs.map qA)),.t (.sl (ms.map qA))]
 pre:=fun (a,cs,ms)=>cs.length≤9223372036854775807∧ms.length≤9223372036854775807
 r:=fun r'=> .t (.bool r')
 R:=fun (a,cs,ms) r'=>r'=true
theorem jDo {a:Int}{cs ms:List UInt8}(hV:vv = .t (.bool (true)))(hO:oo=[]):zK5.K (a,cs,ms) vv oo:=⟨_,rfl,hV,hO⟩
theorem qPl {g1}(h1:LkE tab 9 qFa g1){g2}(h2:LkE tab 10 qFb g2){g3}(h3:LkE tab 21 qBf g3){g4}(h4:LkE tab 14 kF g4){g5}(h5:LkE tab 15 xT g5)(a:Int)(cs ms:List UInt8)(hp:cs.length≤9223372036854775807∧ms.length≤9223372036854775807) :
  vW.1.wp tab gl (qD 0 [.t (.int .i64 a),.t (.sl (cs.map qA)),.t (.sl (ms.map qA))]) (qD 0 []) (qY [(6,none)] 0 (zK5.K (a,cs,ms))):=by
 have e1 := @zGn g1;by_cases hb:20<ms.length
 ·simp(maxSteps:=9^9)(disch:=try exact dS)only[go_sem,vW,h1,e1,hb];exact jDo rfl rfl
 obtain⟨s,⟨⟨ok,cn⟩,on⟩,e2⟩:=zGy (g:=g2) (a:=a) (cs:=cs) (b:=[]) ⟨hp.1,sM⟩;simp only[stA,List.map_nil] at e2;simp(maxSteps:=9^9)(disch:=try exact dS)only[go_sem,vW,stA,h1,h2,e1,e2,hb];repeat refine aiG ?_
 refine qW (σ:=Nat×St) (fun t=>t.1≤ms.length∧t.2.Ok∧t.2.cn (5000+t.1)∧t.2.on=true) (fun t=>ms.length-t.1) (fun t=>[(2,.t (.sl (ms.map qA))),(7,.ref 24624 0 0),(8,.t (.int .i64 t.2.a.res)),(9,.t (.int .i64 t.2.a.rst)),(10,.t (.int .i64 t.1))]) (fun t=>[(24624,.live 30 [.t (stA t.2)] true true)]) (0,s) ⟨sM,ok,by simpa using cn,on⟩ ?_ ?_
 ·refine qI.rd id ?_ ?_ rfl;all_goals simp(maxSteps:=9^9)(disch:=try exact dS)only[go_sem,id,stA]
 rintro⟨i,t⟩ ⟨hi,tok,tcn,ton⟩;simp only at hi tok tcn ton;by_cases c:i<ms.length
 rotate_left
 ·simp(maxSteps:=9^9)(disch:=try exact dS)only[go_sem,c];exact jDo rfl rfl
 have u:=(ms.getD i 0).toNat_lt;obtain⟨m,hm⟩ : ∃ m:Int,(((ms.getD i 0).toNat:Nat):Int)=m:=⟨_,rfl⟩;have m0:0≤m∧m≤255:=oM;have t2:m.tmod 2=m%2:=Int.tmod_eq_emod_of_nonneg m0.1;have d2:m.tdiv 2=m/2:=Int.tdiv_eq_ediv_of_nonneg m0.1;have t22:(m/2).tmod 2=m/2%2:=Int.tmod_eq_emod_of_nonneg oM;have d4:m.tdiv 4=m/4:=Int.tdiv_eq_ediv_of_nonneg m0.1;have t42:(m/4).tmod 2=m/4%2:=Int.tmod_eq_emod_of_nonneg oM;have hr0:=tok.a.res;have hr1:=tok.a.rst;have tcn':=tcn;unfold St.cn at tcn';have go : ∀ {z y:St} {e:Int},z.Ok→z.cn (5000+(i:Int))→z.a.res=t.a.res→z.a.rst=t.a.rst→(y=zDp (jH z.a)∨y=zOo (jH z.a))→(y.Ok∧y.cn (5000+((i+1:Nat):Int))∧y.on=true)∧((y.a.res=t.a.res+1)∨(y.a.res=t.a.res∧y.a.rst=t.a.rst+1)):=by
  intro z y e zok zcn z1 z2 hy;have b1:=wS zok.a;have b2:=(qBa zok).2 _ zcn;rcases hy with rfl | rfl
  ·have g:=qT9 b1;exact⟨⟨g.1,(g.2 _ b2).le oM,rfl⟩,.inl (by show z.a.res+1=_;omega)⟩
  ·have g:=zOp b1;exact⟨⟨g.1,(g.2 _ b2).le oM,rfl⟩,.inr ⟨by show z.a.res=_;omega,by show z.a.rst+1=_;omega⟩⟩
 rcases (by omega:m%2=0∨m%2=1) with mo | mo
 ·obtain⟨z,e0,⟨hz,he⟩,e3⟩:=qFy (g:=g3) (s:=t) (m:=m/2%2);obtain⟨rfl,zok,zc,z1,z2⟩:=qYm tok ton oM hz he;have zcn:=(zc _ tcn).le (show 5000+(i:Int)+0≤5000+(i:Int) by omega);clear hz he;simp only[stA] at e3;have e4 := @kA g4 z.a;have b1:=wS zok.a;have b2:=(qBa zok).2 _ zcn;rcases (by omega:m/4%2=0∨m/4%2=1) with q | q
  ·obtain⟨y,e,⟨hy,he⟩,e5⟩:=yO (g:=g5) (s:=jH z.a) (m:=0) ⟨b1.a,b2.le oM⟩;rw[qKn] at hy he;simp only at hy he;subst he;have r1:y.a.res=t.a.res+1:=by rw[hy];show z.a.res+1=_;omega
   obtain⟨g0,g1⟩:=go (e:=0) zok zcn z1 z2 (.inl hy);clear hy;generalize jH z.a=w at *;simp only[stA,saA] at e4 e5;simp(maxSteps:=9^9)(disch:=try exact dS)only[go_sem,stA,saA,c,hm,t2,d2,t22,d4,t42,h3,h4,h5,mo,e3,q,e4,e5];repeat refine aiG ?_
   refine qAf.of (i+1,y) ⟨by show i+1≤ms.length;omega,g0⟩ (by show ms.length-(i+1)<ms.length-i;omega) (qI.rd id ?_ ?_ rfl);all_goals simp(maxSteps:=9^9)(disch:=try exact dS)only[go_sem,id,stA]
  by_cases p:z.a.bk.length=0
  ·obtain⟨y1,e,⟨hy1,he1⟩,e5⟩:=yO (g:=g5) (s:=jH z.a) (m:=1) ⟨b1.a,b2.le oM⟩;rw[zHs p] at hy1 he1;simp only at hy1 he1;subst he1;clear hy1;obtain⟨y,e,⟨hy,he⟩,e6⟩:=yO (g:=g5) (s:=jH z.a) (m:=0) ⟨b1.a,b2.le oM⟩;rw[qKn] at hy he;simp only at hy he;subst he;have r1:y.a.res=t.a.res+1:=by rw[hy];show z.a.res+1=_;omega
   obtain⟨g0,g1⟩:=go (e:=0) zok zcn z1 z2 (.inl hy);clear hy;generalize jH z.a=w at *;simp only[stA,saA] at e4 e5 e6;simp(maxSteps:=9^9)(disch:=try exact dS)only[go_sem,stA,saA,c,hm,t2,d2,t22,d4,t42,h3,h4,h5,mo,e3,q,e4,e5,e6];repeat refine aiG ?_
   refine qAf.of (i+1,y) ⟨by show i+1≤ms.length;omega,g0⟩ (by show ms.length-(i+1)<ms.length-i;omega) (qI.rd id ?_ ?_ rfl);all_goals simp(maxSteps:=9^9)(disch:=try exact dS)only[go_sem,id,stA]
  ·obtain⟨y,e,⟨hy,he⟩,e5⟩:=yO (g:=g5) (s:=jH z.a) (m:=1) ⟨b1.a,b2.le oM⟩;rw[zOr p] at hy he;simp only at hy he;subst he;have r1:y.a.res=t.a.res:=by rw[hy];exact z1
   have r2:y.a.rst=t.a.rst+1:=by rw[hy];show z.a.rst+1=_;omega
   obtain⟨g0,g1⟩:=go (e:=0) zok zcn z1 z2 (.inr hy);clear hy;generalize jH z.a=w at *;simp only[stA,saA] at e4 e5;simp(maxSteps:=9^9)(disch:=try exact dS)only[go_sem,stA,saA,c,hm,t2,d2,t22,d4,t42,h3,h4,h5,mo,e3,q,e4,e5];repeat refine aiG ?_
   refine qAf.of (i+1,y) ⟨by show i+1≤ms.length;omega,g0⟩ (by show ms.length-(i+1)<ms.length-i;omega) (qI.rd id ?_ ?_ rfl);all_goals simp(maxSteps:=9^9)(disch:=try exact dS)only[go_sem,id,stA]
 ·obtain⟨z,rfl⟩ : ∃ z,z=t:=⟨t,rfl⟩;have zok:=tok;have zcn:=tcn;have z1:z.a.res=z.a.res:=rfl;have z2:z.a.rst=z.a.rst:=rfl;have e4 := @kA g4 z.a;have b1:=wS zok.a;have b2:=(qBa zok).2 _ zcn;rcases (by omega:m/4%2=0∨m/4%2=1) with q | q
  ·obtain⟨y,e,⟨hy,he⟩,e5⟩:=yO (g:=g5) (s:=jH z.a) (m:=0) ⟨b1.a,b2.le oM⟩;rw[qKn] at hy he;simp only at hy he;subst he;have r1:y.a.res=z.a.res+1:=by rw[hy];show z.a.res+1=_;omega
   obtain⟨g0,g1⟩:=go (e:=0) zok zcn z1 z2 (.inl hy);clear hy;generalize jH z.a=w at *;simp only[stA,saA] at e4 e5;simp(maxSteps:=9^9)(disch:=try exact dS)only[go_sem,stA,saA,c,hm,t2,d2,t22,d4,t42,h3,h4,h5,mo,q,e4,e5];repeat refine aiG ?_
   refine qAf.of (i+1,y) ⟨by show i+1≤ms.length;omega,g0⟩ (by show ms.length-(i+1)<ms.length-i;omega) (qI.rd id ?_ ?_ rfl);all_goals simp(maxSteps:=9^9)(disch:=try exact dS)only[go_sem,id,stA]
  by_cases p:z.a.bk.length=0
  ·obtain⟨y1,e,⟨hy1,he1⟩,e5⟩:=yO (g:=g5) (s:=jH z.a) (m:=1) ⟨b1.a,b2.le oM⟩;rw[zHs p] at hy1 he1;simp only at hy1 he1;subst he1;clear hy1;obtain⟨y,e,⟨hy,he⟩,e6⟩:=yO (g:=g5) (s:=jH z.a) (m:=0) ⟨b1.a,b2.le oM⟩;rw[qKn] at hy he;simp only at hy he;subst he;have r1:y.a.res=z.a.res+1:=by rw[hy];show z.a.res+1=_;omega
   obtain⟨g0,g1⟩:=go (e:=0) zok zcn z1 z2 (.inl hy);clear hy;generalize jH z.a=w at *;simp only[stA,saA] at e4 e5 e6;simp(maxSteps:=9^9)(disch:=try exact dS)only[go_sem,stA,saA,c,hm,t2,d2,t22,d4,t42,h3,h4,h5,mo,q,e4,e5,e6];repeat refine aiG ?_
   refine qAf.of (i+1,y) ⟨by show i+1≤ms.length;omega,g0⟩ (by show ms.length-(i+1)<ms.length-i;omega) (qI.rd id ?_ ?_ rfl);all_goals simp(maxSteps:=9^9)(disch:=try exact dS)only[go_sem,id,stA]
  ·obtain⟨y,e,⟨hy,he⟩,e5⟩:=yO (g:=g5) (s:=jH z.a) (m:=1) ⟨b1.a,b2.le oM⟩;rw[zOr p] at hy he;simp only at hy he;subst he;have r1:y.a.res=z.a.res:=by rw[hy];exact z1
   have r2:y.a.rst=z.a.rst+1:=by rw[hy];show z.a.rst+1=_;omega
   obtain⟨g0,g1⟩:=go (e:=0) zok zcn z1 z2 (.inr hy);clear hy;generalize jH z.a=w at *;simp only[stA,saA] at e4 e5;simp(maxSteps:=9^9)(disch:=try exact dS)only[go_sem,stA,saA,c,hm,t2,d2,t22,d4,t42,h3,h4,h5,mo,q,e4,e5];repeat refine aiG ?_
   refine qAf.of (i+1,y) ⟨by show i+1≤ms.length;omega,g0⟩ (by show ms.length-(i+1)<ms.length-i;omega) (qI.rd id ?_ ?_ rfl);all_goals simp(maxSteps:=9^9)(disch:=try exact dS)only[go_sem,id,stA]
end Go.Eng
end
section
set_option maxRecDepth 100000
namespace Go.Eng
open Go.Proofs Go.Proofs.YtekghmfbgbhobaaGreatDoor
theorem qN5 (a:Int)(cs ms:List UInt8)(hp:cs.length≤9223372036854775807∧ms.length≤9223372036854775807):qXf Tryz.prog gl0 6 [.t (.int .i64 a),.t (.sl (cs.map qA)),.t (.sl (ms.map qA))] [] (.t (.bool true)) []:=zTi _ _ _ _ jH0.h (jH4 (qPl jH0.t gl0  rfl rfl rfl rfl rfl a cs ms hp) (by rintro _ rfl;exact⟨rfl,rfl⟩)) (hann:=vW.2)
end Go.Eng
end
