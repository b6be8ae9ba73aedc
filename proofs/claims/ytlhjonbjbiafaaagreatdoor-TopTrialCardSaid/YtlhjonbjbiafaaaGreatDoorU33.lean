/- A part of an abstract machine, its walks, their tie. -/
import Derived.Test.YtlhjonbjbiafaaaGreatDoorU32
import Derived.Test.YtlhjonbjbiafaaaGreatDoorU18
set_option linter.all false
section
set_option maxRecDepth 20000
namespace Go.Eng
theorem qWs {y:T}(h:(Ty.int .i64).is y) : ∃ n:Int,(-9223372036854775808≤n∧n<9223372036854775808)∧y = .int .i64 n:=by
 obtain⟨n,hw,rfl⟩:=h;refine⟨n,?_,rfl⟩;simp only[Lit.wf,Bool.and_eq_true,decide_eq_true_eq] at hw;obtain⟨h1,h2⟩:=hw;have e1:IntKind.i64.min = -9223372036854775808:=by decide
 have e2:IntKind.i64.max=9223372036854775807:=by decide
 rw[e1] at h1;rw[e2] at h2;omega
theorem jJ2 {y:T}(h:(Ty.int .u8).is y) : ∃ b:UInt8,y=qA b:=by
 obtain⟨n,hw,rfl⟩:=h;simp only[Lit.wf,Bool.and_eq_true,decide_eq_true_eq] at hw;obtain⟨h1,h2⟩:=hw;have e1:IntKind.u8.min=0:=by decide
 have e2:IntKind.u8.max=255:=by decide
 rw[e1] at h1;rw[e2] at h2;refine⟨UInt8.ofNat n.toNat,?_⟩;unfold qA;congr 1;rw[UInt8.toNat_ofNat'];omega
theorem zX9 {y:T}(h:Ty.bool.is y) : ∃ b:Bool,y = .bool b:=h
theorem zMo {α:Type}{f:α→T}{es:List T}(h : ∀ y∈es,∃ a,y=f a) : ∃ l:List α,es=l.map f:=by
 induction es with
 | nil=>exact⟨[],rfl⟩
 | cons y r ih=>
  obtain⟨a,rfl⟩:=h y (.head _);obtain⟨l,rfl⟩:=ih (fun z hz=>h z (.tail _ hz));exact⟨a::l,rfl⟩
theorem mx:maxLen=9223372036854775807:=by decide
theorem qAy {y:T}(h:(Ty.sl (.int .u8)).is y) : ∃ bs:List UInt8,bs.length≤9223372036854775807∧y = .sl (bs.map qA):=by
 obtain⟨es,hl,he,rfl⟩:=h;obtain⟨bs,rfl⟩:=zMo (f:=qA) (fun y hy=>jJ2 (he y hy));rw[List.length_map,mx] at hl;exact⟨bs,hl,rfl⟩
theorem zYa {y:T}(h:(Ty.sl (.sl (.int .u8))).is y) : ∃ l:List (List UInt8),l.length≤9223372036854775807∧(∀ d∈l,d.length<9223372036854775808)∧y = .sl (l.map bsT):=by
 obtain⟨es,hl,he,rfl⟩:=h;obtain⟨l,hl2⟩:=zMo (f:=bsT) (es:=es) (fun y hy=>by
  obtain⟨bs,_,h2⟩:=qAy (he y hy);exact⟨bs,h2⟩)
 subst hl2;rw[List.length_map,mx] at hl;refine⟨l,hl,fun d hd=>?_,rfl⟩;obtain⟨bs,hb,h2⟩:=qAy (he (bsT d) (List.mem_map_of_mem hd));have h3:d.map qA=bs.map qA:=by
  have:T.sl (d.map qA)=T.sl (bs.map qA):=h2;exact T.sl.inj this
 have h4:=congrArg List.length h3;simp only[List.length_map] at h4;omega
theorem jJ1 {y:T}(h:(Ty.st [.int .i64,.int .i64]).is y) : ∃ a b:Int,(-9223372036854775808≤a∧a<9223372036854775808)∧(-9223372036854775808≤b∧b<9223372036854775808)∧y = .agg [.int .i64 a,.int .i64 b]:=by
 obtain⟨cs,hc,rfl⟩:=h;obtain⟨x,r,hx,hr,rfl⟩:=hc;obtain⟨x2,r2,hx2,hr2,rfl⟩:=hr;cases hr2;obtain⟨a,ha,rfl⟩:=qWs hx;obtain⟨b,hb,rfl⟩:=qWs hx2;exact⟨a,b,ha,hb,rfl⟩
theorem zRe {y:T}(h:(Ty.sl (.sl (.int .u8))).is y) : ∃ l:List (List UInt8),l.length≤9223372036854775807∧(∀ d∈l,d.length≤9223372036854775807)∧y = .sl (l.map bsT):=by
 obtain⟨l,h1,h2,h3⟩:=zYa h;exact⟨l,h1,fun d hd=>by have:=h2 d hd;omega,h3⟩
theorem jQ3 {y:T}(h:(Ty.st [.int .i64,.int .i64,.sl (.sl (.int .u8)),.sl (.int .u8)]).is y) : ∃ (a b:Int) (l:List (List UInt8)) (d:List UInt8),(l.length≤9223372036854775807∧(∀ d∈l,d.length≤9223372036854775807)∧d.length≤9223372036854775807)∧y = .agg [.int .i64 a,.int .i64 b,.sl (l.map bsT),.sl (d.map qA)]:=by
 obtain⟨cs,hc,rfl⟩:=h;obtain⟨x,r,hx,hr,rfl⟩:=hc;obtain⟨x2,r2,hx2,hr2,rfl⟩:=hr;obtain⟨x3,r3,hx3,hr3,rfl⟩:=hr2;obtain⟨x4,r4,hx4,hr4,rfl⟩:=hr3;cases hr4;obtain⟨a,_,rfl⟩:=qWs hx;obtain⟨b,_,rfl⟩:=qWs hx2;obtain⟨l,h1,h2,rfl⟩:=zRe hx3;obtain⟨d,h3,rfl⟩:=qAy hx4;exact⟨a,b,l,d,⟨h1,h2,h3⟩,rfl⟩
end Go.Eng
end
