/- A part of an abstract machine, its walks, their tie. -/
import Derived.Test.YtekghmfbgbhobaaGreatDoorS46
import Derived.Test.YtekghmfbgbhobaaGreatDoorS48
set_option linter.all false
section
set_option maxHeartbeats 64000000
set_option maxRecDepth 20000
namespace Go.Eng
variable (tab:Tab) (gl:Gl)
variable {vv:V} {oo:List Ob}
theorem qTs {s:St}{n:Int}:(jA4 s n).length=n.toNat:=qBb
def zK6:ECt where
 α:=Int×List UInt8×Int
 β:=Bool
 aS:=fun (a,cs,n)=>[.t (.int .i64 a),.t (.sl (cs.map qA)),.t (.int .i64 n)]
 pre:=fun (a,cs,n)=>cs.length≤9223372036854775807 ∧ -9223372036854775808≤n∧n<9223372036854775808
 r:=fun r'=> .t (.bool r')
 R:=fun (a,cs,n) r'=>r'=true
theorem jJm {a:Int}{cs:List UInt8}{n:Int}(hV:vv = .t (.bool (true)))(hO:oo=[]):zK6.K (a,cs,n) vv oo:=⟨_,rfl,hV,hO⟩
theorem qN6 {g1}(h1:LkE tab 9 qFa g1){g2}(h2:LkE tab 10 qFb g2)(h3:LkC tab 17 qKy){g4}(h4:LkE tab 18 kS g4){g5}(h5:LkE tab 19 kS g5)(h6:LkC tab 20 wA){g7}(h7:LkE tab 13 qHk g7)(a:Int)(cs:List UInt8)(n:Int)(hp:cs.length≤9223372036854775807 ∧ -9223372036854775808≤n∧n<9223372036854775808) :
  kP.1.wp tab gl (qD 0 [.t (.int .i64 a),.t (.sl (cs.map qA)),.t (.int .i64 n)]) (qD 0 []) (qY [(6,none)] 0 (zK6.K (a,cs,n))):=by
 have e1 := @zGn g1;obtain⟨s,⟨⟨ok,cn⟩,on⟩,e2⟩:=zGy (g:=g2) (a:=a) (cs:=cs) (b:=[]) ⟨hp.1,sM⟩;have e3:=qDz (a:=n) (b:=64) ⟨hp.2,oM⟩;have l3:=qAy (a:=n) (m:=64) oM;generalize qF1 n 64=k at *;have hen:=ok.a.en;have hdr:=ok.dr;have hcn:=cn;unfold St.cn at hcn;obtain⟨y,x,⟨hy,hx⟩,e4⟩:=qTt (g:=g4) (s:=s) (n:=1+k) ⟨hen,oM,oM⟩;obtain⟨y',x',⟨hy',hx'⟩,e5⟩:=qTt (g:=g5) (s:=s) (n:=1+k) ⟨hen,oM,oM⟩;obtain rfl:y'=y:=hy'.trans hy.symm;obtain rfl:x'=x:=hx'.trans hx.symm;have hen1:y'.a.en.length=32:=by rw[hy];exact hen
 have hdr1:y'.dr=s.dr+1:=by rw[hy]
 have okM:y'.M:=by rw[hy];exact { ok.M (cn.le oM) with }
 have lx:x'.length=(1+k).toNat:=by rw[hx];exact qTs
 have lxi:(x'.length:Int)=1+k:=oM;obtain⟨z,w,⟨hz,hw⟩,e6⟩:=qTt (g:=g4) (s:=y') (n:=1+k) ⟨hen1,oM,oM⟩;obtain⟨z',w',⟨hz',hw'⟩,e7⟩:=qTt (g:=g5) (s:=y') (n:=1+k) ⟨hen1,oM,oM⟩;obtain rfl:z'=z:=hz'.trans hz.symm;obtain rfl:w'=w:=hw'.trans hw.symm;have okM2:z'.M:=by rw[hz];exact { okM with }
 have hdr2:z'.dr=s.dr+2:=by rw[hz];show y'.dr+1=s.dr+2;omega
 have lw:w'.length=(1+k).toNat:=by rw[hw];exact qTs
 have e8:=yG (a:=x') (b:=x') ⟨oM,oM⟩;have e9:=yG (a:=w') (b:=w') ⟨oM,oM⟩;obtain⟨b1,rfl,e10⟩:=qEi (g:=g7) (a:=y') (b:=y') ⟨rfl,okM⟩;obtain⟨b2,rfl,e11⟩:=qEi (g:=g7) (a:=z') (b:=z') ⟨rfl,okM2⟩;clear hy hy' hx hx' hz hz' hw hw' okM okM2;simp only[stA,List.map_nil] at e2 e4 e5 e6 e7 e10 e11;simp only[hdr2] at e11;simp(maxSteps:=9^9)(disch:=try exact dS)only[go_sem,kP,stA,h1,h2,h3,h4,h5,h6,h7,e1,e2,e3,e4,e5,e6,e7,e8,e9,e10,e11,lxi,hdr2];repeat refine aiG ?_
 exact jJm rfl rfl
end Go.Eng
end
section
set_option maxRecDepth 100000
namespace Go.Eng
open Go.Proofs Go.Proofs.YtekghmfbgbhobaaGreatDoor
theorem qKr (a:Int)(cs:List UInt8)(n:Int)(hp:cs.length≤9223372036854775807 ∧ -9223372036854775808≤n∧n<9223372036854775808):qXf Tryz.prog gl0 4 [.t (.int .i64 a),.t (.sl (cs.map qA)),.t (.int .i64 n)] [] (.t (.bool true)) []:=zTi _ _ _ _ jH0.h (jH4 (qN6 jH0.t gl0  rfl rfl rfl rfl rfl rfl rfl a cs n hp) (by rintro _ rfl;exact⟨rfl,rfl⟩)) (hann:=kP.2)
end Go.Eng
end
