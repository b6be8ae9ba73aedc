/- A part of an abstract machine, its walks, their tie. -/
import Derived.Test.YtekghmfbgbhobaaGreatDoorD45
import Derived.Test.YtekghmfbgbhobaaGreatDoorD41
import Derived.Test.YtekghmfbgbhobaaGreatDoorD43
import Derived.Test.YtekghmfbgbhobaaGreatDoorD39
import Derived.Test.YtekghmfbgbhobaaGreatDoorD46
import Derived.Test.YtekghmfbgbhobaaGreatDoorD44
set_option linter.all false
section
set_option maxHeartbeats 64000000
set_option maxRecDepth 20000
namespace Go.Eng
variable (tab:Tab) (gl:Gl)
variable {vv:V} {oo:List Ob}
theorem zRq {s:Rd} : ∀ {n:Nat},∀ x∈(qMf s n).1,x.length≤4096
 | 0,x,h=>by simp[qMf] at h
 | n+1,x,h=>by
  simp only[qMf,List.mem_append,List.mem_cons,List.not_mem_nil,or_false] at h;rcases h with h | rfl
  ·exact zRq x h
  ·exact qFp
theorem jKa {s:Rd}:(qT0 s).1.M:=by
 have h : ∀ {s:Rd},(zA s 4096).1.length≤100000:=fun {s}=>by have:=qFp (s:=s) (k:=4096);omega
 unfold qT0;exact⟨h,h,h⟩
theorem jAg {s:Rd} : ∀ {n:Nat},∀ x∈(qUw s n).1,x.M
 | 0,x,h=>by simp[qUw] at h
 | n+1,x,h=>by
  simp only[qUw,List.mem_append,List.mem_cons,List.not_mem_nil,or_false] at h;rcases h with h | rfl
  ·exact jAg x h
  ·exact jKa
theorem jAe {s:Rd} : ∀ {n:Nat},∀ x∈(qTm s n).1,x.un.length≤100000
 | 0,x,h=>by simp[qTm] at h
 | n+1,x,h=>by
  simp only[qTm,List.mem_append,List.mem_cons,List.not_mem_nil,or_false] at h;rcases h with h | rfl
  ·exact jAe x h
  ·have:=qFp (s:=(qTm s n).2) (k:=4096);show (zA (qTm s n).2 4096).1.length≤100000;omega
theorem jKd {s:Rd}:RM (qWl s).1.1:=by
 unfold qWl;split
 ·exact (BkS.rv (act:=0) (.inl rfl)).rm
 ·exact (zAx _).2.rm
theorem Sa.M0:(default:Sa).M:=St.M0.a
theorem jKc {s:Rd}:(zBf s).1.M:=by
 have hb : ∀ {s:Rd},(zA s 4096).1.length<1000000000:=fun {s}=>by have:=qFp (s:=s) (k:=4096);omega
 have hB : ∀ {s:Rd} {n:Nat},n≤10→zEk (qMf s n).1:=fun {s n} hn=>⟨by rw[qJb];omega,fun x hx=>by have:=zRq x hx;omega⟩
 have hX : ∀ {s t:Rd},(qUw s (qHk t 6).1.toNat).1.length≤1000000 ∧ ∀ x∈(qUw s (qHk t 6).1.toNat).1,x.M:=fun {s t}=>⟨by rw[qQw];have:=qZ0 (s:=t) (m:=6) oM;omega,jAg⟩
 have hL : ∀ {s t:Rd},(qTm s (qHk t 8).1.toNat).1.length≤1000000 ∧ ∀ x∈(qTm s (qHk t 8).1.toNat).1,x.un.length≤100000:=fun {s t}=>⟨by rw[qQv];have:=qZ0 (s:=t) (m:=8) oM;omega,jAe⟩
 unfold zBf;exact⟨hB oM,hB oM,hb,jKd,hX,hL⟩
theorem jHo {b:List UInt8}:(zMe b).1.M:=by
 unfold zMe;split
 ·exact Sa.M0
 ·split
  ·exact Sa.M0
  ·split
   ·exact Sa.M0
   ·exact jKc
def zPp:ECt where
 α:=Int×List UInt8×List UInt8×Bool
 β:=Bool
 aS:=fun (a,cs,b,sv)=>[.t (.int .i64 a),.t (.sl (cs.map qA)),.t (.sl (b.map qA)),.t (.bool sv)]
 pre:=fun (a,cs,b,sv)=>cs.length≤9223372036854775807∧b.length≤9223372036854775807
 r:=fun r'=> .t (.bool r')
 R:=fun (a,cs,b,sv) r'=>r'=true
theorem jCz {a:Int}{cs b:List UInt8}{sv:Bool}(hV:vv = .t (.bool (true)))(hO:oo=[]):zPp.K (a,cs,b,sv) vv oo:=⟨_,rfl,hV,hO⟩
theorem qRi {g1}(h1:LkE tab 9 qKs g1){g2}(h2:LkE tab 10 qKz g2){g3}(h3:LkE tab 12 qI2 g3){g4}(h4:LkE tab 26 qB6 g4){g5}(h5:LkE tab 23 qAh g5){g6}(h6:LkE tab 22 qB6 g6)(h7:LkC tab 20 xO){g8}(h8:LkE tab 25 qFh g8)(a:Int)(cs b:List UInt8)(sv:Bool)(hp:cs.length≤9223372036854775807∧b.length≤9223372036854775807) :
  vI.1.wp tab gl (qE 0 [.t (.int .i64 a),.t (.sl (cs.map qA)),.t (.sl (b.map qA)),.t (.bool sv)]) (qE 0 []) (qX [(8,none)] 0 (zPp.K (a,cs,b,sv))):=by
 have e1 := @zYz g1;by_cases hb:60<b.length
 ·simp(maxSteps:=9^9)(disch:=try exact dS)only[go_sem,vI,h1,e1,hb];exact jCz rfl rfl
 obtain⟨s,⟨⟨ok,cn⟩,on⟩,e2⟩:=zZf (g:=g2) (a:=a) (cs:=cs) (b:=b) ⟨hp.1,oM⟩;obtain⟨t,f,⟨hy,he⟩,e3⟩:=zSx (g:=g3) (s:=s) (m:=1);obtain⟨rfl,okt,cnt,_⟩:=zSv ok on oM hy he;have cnt:=cnt _ cn;clear hy he;have go : ∀ v:St,v.Ok→v.cn 5000 → ∃ x:List UInt8,(x=zDh v.a∧x.length≤5500)∧qB6.fs g4 [.t (saA v.a)] []=some (.sl 0 0 x.length,[.live 1 ((x.map qA).map V.t) true false])∧qB6.fs g6 [.t (saA v.a)] []=some (.sl 0 0 x.length,[.live 1 ((x.map qA).map V.t) true false])∧qAh.fs g5 [.t (.sl (x.map qA))] []=some (.tup [.t (saA v.a),.t (.int .i64 0)],[])∧xO.fs [.t (.sl (x.map qA)),.t (.sl (x.map qA))] []=some (.t (.bool true),[])∧qFh.fs g8 [.t (saA v.a),.t (saA v.a)] []=some (.t (.bool true),[]):=by
  intro v hv hc;unfold St.cn at hc;have ll:=zPt hv.a;obtain⟨x,rfl,a1⟩:=zSk (g:=g4) (s:=v.a) hv.a;obtain⟨x',rfl,a2⟩:=zSk (g:=g6) (s:=v.a) hv.a;obtain⟨y,z,hyz,a3⟩:=zPg (g:=g5) (b:=zDh v.a) oM;rw[zUy hv.a ⟨oM,oM,oM⟩] at hyz;obtain⟨rfl,rfl⟩:=Prod.mk.inj hyz;have a4:=kX (a:=zDh v.a) (b:=zDh v.a) ⟨oM,oM⟩;obtain⟨r,rfl,a5⟩:=jAo (g:=g8) (a:=v.a) (b:=v.a) ⟨rfl,hv.a.M⟩;rw[decide_eq_true rfl] at a4;exact⟨zDh v.a,⟨rfl,ll⟩,a1,a2,a3,a4,a5⟩
 obtain⟨x1,⟨_,lx1⟩,b1,b2,b3,b4,b5⟩:=go s ok cn;obtain⟨x2,⟨_,lx2⟩,d1,d2,d3,d4,d5⟩:=go t okt (cnt.le oM);simp only[stA,saA] at e2 e3 b1 b2 b3 b5 d1 d2 d3 d5;cases sv
 ·simp(maxSteps:=9^9)(disch:=try exact dS)only[go_sem,vI,stA,saA,h1,h2,h4,h5,h6,h7,h8,e1,e2,hb,b1,b2,b3,b4,b5,List.take_length];repeat refine aiG ?_
  exact jCz rfl rfl
 ·simp(maxSteps:=9^9)(disch:=try exact dS)only[go_sem,vI,stA,saA,h1,h2,h3,h4,h5,h6,h7,h8,e1,e2,e3,hb,d1,d2,d3,d4,d5,List.take_length];repeat refine aiG ?_
  exact jCz rfl rfl
end Go.Eng
end
section
set_option maxRecDepth 100000
namespace Go.Eng
open Go.Proofs Go.Proofs.YtekghmfbgbhobaaGreatDoor
theorem qPs (a:Int)(cs b:List UInt8)(sv:Bool)(hp:cs.length≤9223372036854775807∧b.length≤9223372036854775807):zG1 Tryz.prog gl0 8 [.t (.int .i64 a),.t (.sl (cs.map qA)),.t (.sl (b.map qA)),.t (.bool sv)] [] (.t (.bool true)) []:=jLx _ _ _ _ jNd.h (jVu (qRi jNd.t gl0  rfl rfl rfl rfl rfl rfl rfl rfl a cs b sv hp) (by rintro _ rfl;exact⟨rfl,rfl⟩)) (hann:=vI.2)
end Go.Eng
end
