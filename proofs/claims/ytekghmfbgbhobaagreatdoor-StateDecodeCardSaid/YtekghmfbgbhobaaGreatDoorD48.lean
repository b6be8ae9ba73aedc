/- A part of an abstract machine, its walks, their tie. -/
import Derived.Test.YtekghmfbgbhobaaGreatDoorD47
import Derived.Test.YtekghmfbgbhobaaGreatDoorD44
set_option linter.all false
section
set_option maxHeartbeats 64000000
set_option maxRecDepth 20000
namespace Go.Eng
variable (tab:Tab) (gl:Gl)
variable {vv:V} {oo:List Ob}
def zPq:ECt where
 α:=Int×List UInt8×Int×UInt8×Int×List UInt8×Bool
 β:=Bool
 aS:=fun (a,cs,at',x,n,raw,nr)=>[.t (.int .i64 a),.t (.sl (cs.map qA)),.t (.int .i64 at'),.t (qA x),.t (.int .i64 n),.t (.sl (raw.map qA)),.t (.bool nr)]
 pre:=fun (a,cs,at',x,n,raw,nr)=>cs.length≤9223372036854775807∧raw.length≤9223372036854775807
 r:=fun r'=> .t (.bool r')
 R:=fun (a,cs,at',x,n,raw,nr) r'=>r'=true
theorem jC0 {a:Int}{cs:List UInt8}{at':Int}{x:UInt8}{n:Int}{raw:List UInt8}{nr:Bool}(hV:vv = .t (.bool (true)))(hO:oo=[]):zPq.K (a,cs,at',x,n,raw,nr) vv oo:=⟨_,rfl,hV,hO⟩
theorem qPt {g1}(h1:LkE tab 9 qKs g1){g2}(h2:LkE tab 10 qKz g2){g3}(h3:LkE tab 12 qI2 g3){g4}(h4:LkE tab 22 qB6 g4){g5}(h5:LkE tab 23 qAh g5){g6}(h6:LkE tab 24 qAh g6){g7}(h7:LkE tab 25 qFh g7)(a:Int)(cs:List UInt8)(at':Int)(x:UInt8)(n:Int)(raw:List UInt8)(nr:Bool)(hp:cs.length≤9223372036854775807∧raw.length≤9223372036854775807) :
  yZ.1.wp tab gl (qE 0 [.t (.int .i64 a),.t (.sl (cs.map qA)),.t (.int .i64 at'),.t (qA x),.t (.int .i64 n),.t (.sl (raw.map qA)),.t (.bool nr)]) (qE 0 []) (qX [(14,none)] 0 (zPq.K (a,cs,at',x,n,raw,nr))):=by
 have e1 := @zYz g1;by_cases hb:200<raw.length
 ·simp(maxSteps:=9^9)(disch:=try exact dS)only[go_sem,yZ,h1,e1,hb];exact jC0 rfl rfl
 obtain⟨s,⟨⟨ok,cn⟩,on⟩,e2⟩:=zZf (g:=g2) (a:=a) (cs:=cs) (b:=raw) ⟨hp.1,oM⟩;obtain⟨t,f,⟨hy,he⟩,e3⟩:=zSx (g:=g3) (s:=s) (m:=1);obtain⟨rfl,okt,cnt,_⟩:=zSv ok on oM hy he;clear hy he;have dec : ∀ y:List UInt8,y.length≤6000 → ∃ (z:Sa) (e:Int),qAh.fs g5 [.t (.sl (y.map qA))] []=some (.tup [.t (saA z),.t (.int .i64 e)],[])∧qAh.fs g6 [.t (.sl (y.map qA))] []=some (.tup [.t (saA z),.t (.int .i64 e)],[])∧qFh.fs g7 [.t (saA z),.t (saA z)] []=some (.t (.bool true),[]):=by
  intro y hl;obtain⟨z,e,hz,a1⟩:=zPg (g:=g5) (b:=y) oM;obtain⟨z',e',hz',a2⟩:=zPg (g:=g6) (b:=y) oM;obtain⟨rfl,rfl⟩:=Prod.mk.inj (hz'.trans hz.symm);obtain⟨r,rfl,a3⟩:=jAo (g:=g7) (a:=z') (b:=z') ⟨rfl,by have:=jHo (b:=y);rw[←hz] at this;exact this⟩;exact⟨z',e',a1,a2,a3⟩
 obtain⟨rz,re,r1,r2,r3⟩:=dec raw oM;simp only[stA,saA] at e2 e3 r1 r2 r3;have go : ∀ v:St,v.Ok → ∃ y:List UInt8,y.length≤5500∧qB6.fs g4 [.t (saA v.a)] []=some (.sl 0 0 y.length,[.live 1 ((y.map qA).map V.t) true false]):=by
  intro v hv;have ll:=zPt hv.a;obtain⟨y,rfl,a1⟩:=zSk (g:=g4) (s:=v.a) hv.a;exact⟨zDh v.a,ll,a1⟩
 have cas : ∀ (u:Int) (l:Nat),u<0∨(∃ k:Nat,u=k∧l≤k)∨(∃ k:Nat,u=k∧k<l):=by
  intro u l;by_cases c:u<0
  ·exact .inl c
  ·have e:u=(u.toNat:Int):=oM;by_cases c2:l≤u.toNat
   ·exact .inr (.inl ⟨_,e,c2⟩)
   ·exact .inr (.inr ⟨_,e,oM⟩)
 have fin : ∀ y:List UInt8,y.length≤5500 → ∃ (z:Sa) (e:Int),qAh.fs g5 [.t (.sl ((if 0≤n∧n<y.length then (if 0≤at'∧at'<y.length then y.set at'.toNat (y.getD at'.toNat 0 ^^^ x) else y).take n.toNat++raw else if 0≤at'∧at'<y.length then y.set at'.toNat (y.getD at'.toNat 0 ^^^ x) else y).map qA))] []=some (.tup [.t (saA z),.t (.int .i64 e)],[])∧qAh.fs g6 [.t (.sl ((if 0≤n∧n<y.length then (if 0≤at'∧at'<y.length then y.set at'.toNat (y.getD at'.toNat 0 ^^^ x) else y).take n.toNat++raw else if 0≤at'∧at'<y.length then y.set at'.toNat (y.getD at'.toNat 0 ^^^ x) else y).map qA))] []=some (.tup [.t (saA z),.t (.int .i64 e)],[])∧qFh.fs g7 [.t (saA z),.t (saA z)] []=some (.t (.bool true),[]):=fun y h=>dec _ (by split<;>split<;>(try simp)<;>omega)
 have tk : ∀ (k:Nat) (l:List UInt8),l.length≤k→List.take k l=l:=fun _ _ h=>List.take_of_length_le h
 cases nr
 ·obtain⟨y,ly,b1⟩:=go s ok;obtain⟨z,e,q1,q2,q3⟩:=fin y ly;simp only[saA] at b1 q1 q2 q3;rcases cas at' y.length with ca | ⟨k,rfl,ca⟩ | ⟨k,rfl,ca⟩<;>rcases cas n y.length with cn | ⟨m,rfl,cn⟩ | ⟨m,rfl,cn⟩;all_goals
   simp(disch:=omega)only[if_pos,if_neg,Int.toNat_natCast] at q1 q2;simp(maxSteps:=9^9)(disch:=try exact dS)only[go_sem,yZ,stA,h1,h2,h4,h5,h6,h7,e1,e2,hb,b1,ca,cn,q1,q2,q3,r1,r2,r3,tk];repeat refine aiG ?_
   exact jC0 rfl rfl
 ·obtain⟨y,ly,b1⟩:=go t okt;obtain⟨z,e,q1,q2,q3⟩:=fin y ly;simp only[saA] at b1 q1 q2 q3;rcases cas at' y.length with ca | ⟨k,rfl,ca⟩ | ⟨k,rfl,ca⟩<;>rcases cas n y.length with cn | ⟨m,rfl,cn⟩ | ⟨m,rfl,cn⟩;all_goals
   simp(disch:=omega)only[if_pos,if_neg,Int.toNat_natCast] at q1 q2;simp(maxSteps:=9^9)(disch:=try exact dS)only[go_sem,yZ,stA,h1,h2,h3,e3,h4,h5,h6,h7,e1,e2,hb,b1,ca,cn,q1,q2,q3,r1,r2,r3,tk];repeat refine aiG ?_
   exact jC0 rfl rfl
end Go.Eng
end
section
set_option maxRecDepth 100000
namespace Go.Eng
open Go.Proofs Go.Proofs.YtekghmfbgbhobaaGreatDoor
theorem qMg (a:Int)(cs:List UInt8)(at':Int)(x:UInt8)(n:Int)(raw:List UInt8)(nr:Bool)(hp:cs.length≤9223372036854775807∧raw.length≤9223372036854775807):zG1 Tryz.prog gl0 7 [.t (.int .i64 a),.t (.sl (cs.map qA)),.t (.int .i64 at'),.t (qA x),.t (.int .i64 n),.t (.sl (raw.map qA)),.t (.bool nr)] [] (.t (.bool true)) []:=jLx _ _ _ _ jVp.h (jVu (qPt jVp.t gl0  rfl rfl rfl rfl rfl rfl rfl a cs at' x n raw nr hp) (by rintro _ rfl;exact⟨rfl,rfl⟩)) (hann:=yZ.2)
end Go.Eng
end
