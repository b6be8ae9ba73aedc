/- A part of an abstract machine, its walks, their tie. -/
import Derived.Test.YtekghmfbgbhobaaGreatDoorD45
import Derived.Test.YtekghmfbgbhobaaGreatDoorD41
import Derived.Test.YtekghmfbgbhobaaGreatDoorD43
import Derived.Test.YtekghmfbgbhobaaGreatDoorD39
import Derived.Test.YtekghmfbgbhobaaGreatDoorD46
import Derived.Test.YtekghmfbgbhobaaGreatDoorD44
set_option linter.all false
section
set_option maxHeartbeats 64000000
set_option maxRecDepth 20000
namespace Go.Eng
variable (tab:Tab) (gl:Gl)
variable {vv:V} {oo:List Ob}
theorem zRl {s:Rd} : ∀ {n:Nat},∀ x∈(qMa s n).1,x.length≤4096
 | 0,x,h=>by simp[qMa] at h
 | n+1,x,h=>by
  simp only[qMa,List.mem_append,List.mem_cons,List.not_mem_nil,or_false] at h;rcases h with h | rfl
  ·exact zRl x h
  ·exact qFl
theorem jJ5 {s:Rd}:(qTv s).1.M:=by
 have h : ∀ {s:Rd},(zA s 4096).1.length≤100000:=fun {s}=>by have:=qFl (s:=s) (k:=4096);omega
 unfold qTv;exact⟨h,h,h⟩
theorem jAb {s:Rd} : ∀ {n:Nat},∀ x∈(qUr s n).1,x.M
 | 0,x,h=>by simp[qUr] at h
 | n+1,x,h=>by
  simp only[qUr,List.mem_append,List.mem_cons,List.not_mem_nil,or_false] at h;rcases h with h | rfl
  ·exact jAb x h
  ·exact jJ5
theorem zZ9 {s:Rd} : ∀ {n:Nat},∀ x∈(qTh s n).1,x.un.length≤100000
 | 0,x,h=>by simp[qTh] at h
 | n+1,x,h=>by
  simp only[qTh,List.mem_append,List.mem_cons,List.not_mem_nil,or_false] at h;rcases h with h | rfl
  ·exact zZ9 x h
  ·have:=qFl (s:=(qTh s n).2) (k:=4096);show (zA (qTh s n).2 4096).1.length≤100000;omega
theorem jJ8 {s:Rd}:RM (qWg s).1.1:=by
 unfold qWg;split
 ·exact (BkS.rv (act:=0) (.inl rfl)).rm
 ·exact (zAs _).2.rm
theorem Sa.M0:(default:Sa).M:=St.M0.a
theorem jJ7 {s:Rd}:(zBa s).1.M:=by
 have hb : ∀ {s:Rd},(zA s 4096).1.length<1000000000:=fun {s}=>by have:=qFl (s:=s) (k:=4096);omega
 have hB : ∀ {s:Rd} {n:Nat},n≤10→zEf (qMa s n).1:=fun {s n} hn=>⟨by rw[qI6];omega,fun x hx=>by have:=zRl x hx;omega⟩
 have hX : ∀ {s t:Rd},(qUr s (qHf t 6).1.toNat).1.length≤1000000 ∧ ∀ x∈(qUr s (qHf t 6).1.toNat).1,x.M:=fun {s t}=>⟨by rw[qQr];have:=qZv (s:=t) (m:=6) oM;omega,jAb⟩
 have hL : ∀ {s t:Rd},(qTh s (qHf t 8).1.toNat).1.length≤1000000 ∧ ∀ x∈(qTh s (qHf t 8).1.toNat).1,x.un.length≤100000:=fun {s t}=>⟨by rw[qQq];have:=qZv (s:=t) (m:=8) oM;omega,zZ9⟩
 unfold zBa;exact⟨hB oM,hB oM,hb,jJ8,hX,hL⟩
theorem jHj {b:List UInt8}:(zL9 b).1.M:=by
 unfold zL9;split
 ·exact Sa.M0
 ·split
  ·exact Sa.M0
  ·split
   ·exact Sa.M0
   ·exact jJ7
def zPk:ECt where
 α:=Int×List UInt8×List UInt8×Bool
 β:=Bool
 aS:=fun (a,cs,b,sv)=>[.t (.int .i64 a),.t (.sl (cs.map qA)),.t (.sl (b.map qA)),.t (.bool sv)]
 pre:=fun (a,cs,b,sv)=>cs.length≤9223372036854775807∧b.length≤9223372036854775807
 r:=fun r'=> .t (.bool r')
 R:=fun (a,cs,b,sv) r'=>r'=true
theorem jCu {a:Int}{cs b:List UInt8}{sv:Bool}(hV:vv = .t (.bool (true)))(hO:oo=[]):zPk.K (a,cs,b,sv) vv oo:=⟨_,rfl,hV,hO⟩
theorem qRd {g1}(h1:LkE tab 9 qKn g1){g2}(h2:LkE tab 10 qKu g2){g3}(h3:LkE tab 12 qIx g3){g4}(h4:LkE tab 26 qB3 g4){g5}(h5:LkE tab 23 qAf g5){g6}(h6:LkE tab 22 qB3 g6)(h7:LkC tab 20 xM){g8}(h8:LkE tab 25 qFd g8)(a:Int)(cs b:List UInt8)(sv:Bool)(hp:cs.length≤9223372036854775807∧b.length≤9223372036854775807) :
  vI.1.wp tab gl (qE 0 [.t (.int .i64 a),.t (.sl (cs.map qA)),.t (.sl (b.map qA)),.t (.bool sv)]) (qE 0 []) (qX [(8,none)] 0 (zPk.K (a,cs,b,sv))):=by
 have e1 := @zYu g1;by_cases hb:60<b.length
 ·simp(maxSteps:=9^9)(disch:=try exact dS)only[go_sem,vI,h1,e1,hb];exact jCu rfl rfl
 obtain⟨s,⟨⟨ok,cn⟩,on⟩,e2⟩:=zZa (g:=g2) (a:=a) (cs:=cs) (b:=b) ⟨hp.1,oM⟩;obtain⟨t,f,⟨hy,he⟩,e3⟩:=zSs (g:=g3) (s:=s) (m:=1);obtain⟨rfl,okt,cnt,_⟩:=zSq ok on oM hy he;have cnt:=cnt _ cn;clear hy he;have go : ∀ v:St,v.Ok→v.cn 5000 → ∃ x:List UInt8,(x=zDc v.a∧x.length≤5500)∧qB3.fs g4 [.t (saA v.a)] []=some (.sl 0 0 x.length,[.live 1 ((x.map qA).map V.t) true false])∧qB3.fs g6 [.t (saA v.a)] []=some (.sl 0 0 x.length,[.live 1 ((x.map qA).map V.t) true false])∧qAf.fs g5 [.t (.sl (x.map qA))] []=some (.tup [.t (saA v.a),.t (.int .i64 0)],[])∧xM.fs [.t (.sl (x.map qA)),.t (.sl (x.map qA))] []=some (.t (.bool true),[])∧qFd.fs g8 [.t (saA v.a),.t (saA v.a)] []=some (.t (.bool true),[]):=by
  intro v hv hc;unfold St.cn at hc;have ll:=zPo hv.a;obtain⟨x,rfl,a1⟩:=zSf (g:=g4) (s:=v.a) hv.a;obtain⟨x',rfl,a2⟩:=zSf (g:=g6) (s:=v.a) hv.a;obtain⟨y,z,hyz,a3⟩:=zPb (g:=g5) (b:=zDc v.a) oM;rw[zUt hv.a ⟨oM,oM,oM⟩] at hyz;obtain⟨rfl,rfl⟩:=Prod.mk.inj hyz;have a4:=kV (a:=zDc v.a) (b:=zDc v.a) ⟨oM,oM⟩;obtain⟨r,rfl,a5⟩:=jAj (g:=g8) (a:=v.a) (b:=v.a) ⟨rfl,hv.a.M⟩;rw[decide_eq_true rfl] at a4;exact⟨zDc v.a,⟨rfl,ll⟩,a1,a2,a3,a4,a5⟩
 obtain⟨x1,⟨_,lx1⟩,b1,b2,b3,b4,b5⟩:=go s ok cn;obtain⟨x2,⟨_,lx2⟩,d1,d2,d3,d4,d5⟩:=go t okt (cnt.le oM);simp only[stA,saA] at e2 e3 b1 b2 b3 b5 d1 d2 d3 d5;cases sv
 ·simp(maxSteps:=9^9)(disch:=try exact dS)only[go_sem,vI,stA,saA,h1,h2,h4,h5,h6,h7,h8,e1,e2,hb,b1,b2,b3,b4,b5,List.take_length];repeat refine aiG ?_
  exact jCu rfl rfl
 ·simp(maxSteps:=9^9)(disch:=try exact dS)only[go_sem,vI,stA,saA,h1,h2,h3,h4,h5,h6,h7,h8,e1,e2,e3,hb,d1,d2,d3,d4,d5,List.take_length];repeat refine aiG ?_
  exact jCu rfl rfl
end Go.Eng
end
section
set_option maxRecDepth 100000
namespace Go.Eng
open Go.Proofs Go.Proofs.YtekghmfbgbhobaaGreatDoor
theorem qPn (a:Int)(cs b:List UInt8)(sv:Bool)(hp:cs.length≤9223372036854775807∧b.length≤9223372036854775807):zGw Tryz.prog gl0 8 [.t (.int .i64 a),.t (.sl (cs.map qA)),.t (.sl (b.map qA)),.t (.bool sv)] [] (.t (.bool true)) []:=jLs _ _ _ _ jM8.h (jVp (qRd jM8.t gl0  rfl rfl rfl rfl rfl rfl rfl rfl a cs b sv hp) (by rintro _ rfl;exact⟨rfl,rfl⟩)) (hann:=vI.2)
end Go.Eng
end
