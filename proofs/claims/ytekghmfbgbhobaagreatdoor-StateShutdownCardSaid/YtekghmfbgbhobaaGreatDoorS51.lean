/- A part of an abstract machine, its walks, their tie. -/
import Derived.Test.YtekghmfbgbhobaaGreatDoorS46
import Derived.Test.YtekghmfbgbhobaaGreatDoorS48
set_option linter.all false
section
set_option maxHeartbeats 64000000
set_option maxRecDepth 20000
namespace Go.Eng
variable (tab:Tab) (gl:Gl)
variable {vv:V} {oo:List Ob}
def zK7:ECt where
 α:=Int×List UInt8×List UInt8×Int×Bool
 β:=Bool
 aS:=fun (a,cs,b,m,off)=>[.t (.int .i64 a),.t (.sl (cs.map qA)),.t (.sl (b.map qA)),.t (.int .i64 m),.t (.bool off)]
 pre:=fun (a,cs,b,m,off)=>cs.length≤9223372036854775807∧b.length≤9223372036854775807
 r:=fun r'=> .t (.bool r')
 R:=fun (a,cs,b,m,off) r'=>r'=true
theorem zX1 {a:Int}{cs b:List UInt8}{m:Int}{off:Bool}(hV:vv = .t (.bool (true)))(hO:oo=[]):zK7.K (a,cs,b,m,off) vv oo:=⟨_,rfl,hV,hO⟩
theorem qJ8 {g1}(h1:LkE tab 9 qFa g1){g2}(h2:LkE tab 10 qFb g2){g3}(h3:LkE tab 11 kF g3){g4}(h4:LkE tab 21 qBf g4){g5}(h5:LkE tab 12 qBf g5){g6}(h6:LkE tab 13 qHk g6)(a:Int)(cs b:List UInt8)(m:Int)(off:Bool)(hp:cs.length≤9223372036854775807∧b.length≤9223372036854775807) :
  yD.1.wp tab gl (qD 0 [.t (.int .i64 a),.t (.sl (cs.map qA)),.t (.sl (b.map qA)),.t (.int .i64 m),.t (.bool off)]) (qD 0 []) (qY [(10,none)] 0 (zK7.K (a,cs,b,m,off))):=by
 have e1 := @zGn g1;by_cases hb:60<b.length
 ·simp(maxSteps:=9^9)(disch:=try exact dS)only[go_sem,yD,h1,e1,hb];exact zX1 rfl rfl
 obtain⟨s,⟨⟨ok,cn⟩,on⟩,e2⟩:=zGy (g:=g2) (a:=a) (cs:=cs) (b:=b) ⟨hp.1,oM⟩;simp only[stA] at e2;cases off
 ·have hv:=ok;have hvc:=cn.le (show (5000:Int)≤10000 by omega);generalize s=v at *;simp(maxSteps:=9^9)(disch:=try exact dS)only[go_sem,yD,stA,saA,hb,h1,h2,h3,e1,e2];repeat refine aiG ?_
  refine qW (σ:=Int) (fun k => -1≤k∧k≤3) (fun k=>(3-k).toNat) (fun k=>[(3,.t (.int .i64 m)),(11,.ref 24640 0 0),(12,.t (.int .i64 k))]) (fun k=>[(24640,.live 30 [.t (stA v)] true true)]) (-1) ⟨oM,oM⟩ ?_ ?_
  ·refine qI.rd id ?_ ?_ rfl;all_goals simp(maxSteps:=9^9)(disch:=try exact dS)only[go_sem,id,stA]
  rintro k ⟨k1,k2⟩;by_cases kc:k<3
  ·obtain⟨y,e,⟨hy,he⟩,e8⟩:=qFy (g:=g4) (s:=v) (m:=k);obtain⟨y',e',⟨hy',he'⟩,e9⟩:=qFy (g:=g5) (s:=v) (m:=k);obtain rfl:y'=y:=hy'.trans hy.symm;obtain rfl:e'=e:=he'.trans he.symm;obtain⟨b1,rfl,e10⟩:=qEi (g:=g6) (a:=y') (b:=y') ⟨rfl,by rw[hy];exact zVt hv (hvc.le oM)⟩;simp only[stA] at e8 e9 e10;clear hy hy' he he';simp(maxSteps:=9^9)(disch:=try exact dS)only[go_sem,stA,kc,h4,h5,h6,e8,e9,e10];repeat refine aiG ?_
   refine qAf.of (k+1) ⟨oM,oM⟩ oM (qI.rd id ?_ ?_ rfl);all_goals simp(maxSteps:=9^9)(disch:=try exact dS)only[go_sem,id,stA]
  ·obtain rfl:k=3:=oM;obtain⟨y,e,⟨hy,he⟩,e8⟩:=qFy (g:=g4) (s:=v) (m:=m);obtain⟨y',e',⟨hy',he'⟩,e9⟩:=qFy (g:=g5) (s:=v) (m:=m);obtain rfl:y'=y:=hy'.trans hy.symm;obtain rfl:e'=e:=he'.trans he.symm;simp only[stA] at e8 e9;clear hy hy' he he';simp(maxSteps:=9^9)(disch:=try exact dS)only[go_sem,stA,h4,h5,e8,e9];exact zX1 rfl rfl
 ·have e3 := @kA g3 s.a;have hv:=wS ok.a;have hvc:=((qBa ok).2 _ cn).le (show (5000:Int)+0≤10000 by omega);generalize jH s.a=v at *;simp only[stA,saA] at e3;simp(maxSteps:=9^9)(disch:=try exact dS)only[go_sem,yD,stA,saA,hb,h1,h2,h3,e1,e2,e3];repeat refine aiG ?_
  refine qW (σ:=Int) (fun k => -1≤k∧k≤3) (fun k=>(3-k).toNat) (fun k=>[(3,.t (.int .i64 m)),(11,.ref 24640 0 0),(12,.t (.int .i64 k))]) (fun k=>[(24640,.live 30 [.t (stA v)] true true)]) (-1) ⟨oM,oM⟩ ?_ ?_
  ·refine qI.rd id ?_ ?_ rfl;all_goals simp(maxSteps:=9^9)(disch:=try exact dS)only[go_sem,id,stA]
  rintro k ⟨k1,k2⟩;by_cases kc:k<3
  ·obtain⟨y,e,⟨hy,he⟩,e8⟩:=qFy (g:=g4) (s:=v) (m:=k);obtain⟨y',e',⟨hy',he'⟩,e9⟩:=qFy (g:=g5) (s:=v) (m:=k);obtain rfl:y'=y:=hy'.trans hy.symm;obtain rfl:e'=e:=he'.trans he.symm;obtain⟨b1,rfl,e10⟩:=qEi (g:=g6) (a:=y') (b:=y') ⟨rfl,by rw[hy];exact zVt hv (hvc.le oM)⟩;simp only[stA] at e8 e9 e10;clear hy hy' he he';simp(maxSteps:=9^9)(disch:=try exact dS)only[go_sem,stA,kc,h4,h5,h6,e8,e9,e10];repeat refine aiG ?_
   refine qAf.of (k+1) ⟨oM,oM⟩ oM (qI.rd id ?_ ?_ rfl);all_goals simp(maxSteps:=9^9)(disch:=try exact dS)only[go_sem,id,stA]
  ·obtain rfl:k=3:=oM;obtain⟨y,e,⟨hy,he⟩,e8⟩:=qFy (g:=g4) (s:=v) (m:=m);obtain⟨y',e',⟨hy',he'⟩,e9⟩:=qFy (g:=g5) (s:=v) (m:=m);obtain rfl:y'=y:=hy'.trans hy.symm;obtain rfl:e'=e:=he'.trans he.symm;simp only[stA] at e8 e9;clear hy hy' he he';simp(maxSteps:=9^9)(disch:=try exact dS)only[go_sem,stA,h4,h5,e8,e9];exact zX1 rfl rfl
end Go.Eng
end
section
set_option maxRecDepth 100000
namespace Go.Eng
open Go.Proofs Go.Proofs.YtekghmfbgbhobaaGreatDoor
theorem qH6 (a:Int)(cs b:List UInt8)(m:Int)(off:Bool)(hp:cs.length≤9223372036854775807∧b.length≤9223372036854775807):qXf Tryz.prog gl0 5 [.t (.int .i64 a),.t (.sl (cs.map qA)),.t (.sl (b.map qA)),.t (.int .i64 m),.t (.bool off)] [] (.t (.bool true)) []:=zTi _ _ _ _ jHz.h (jH4 (qJ8 jHz.t gl0  rfl rfl rfl rfl rfl rfl a cs b m off hp) (by rintro _ rfl;exact⟨rfl,rfl⟩)) (hann:=yD.2)
end Go.Eng
end
