/- A part of the proof. -/
import Derived.Test.YtkffggdjdmimgaaGreatDoorA34
import Derived.Test.YtkffggdjdmimgaaGreatDoorTie
import Derived.Test.YtkffggdjdmimgaaGreatDoorCards
import Derived.ProofKit
import Derived.LaidMore
import Derived.OpenShut
import Derived.Lay
import Derived.Stop.Joined
import Derived.SevenTiedAt
set_option linter.all false
section
set_option maxRecDepth 100000
namespace Go.Proofs.YtkffggdjdmimgaaGreatDoor
open Go.Eng Go.ChangeShapes Go.WideShapes Go.ChangeAt Go.WideElems Go.RowKit
def qF1:List (String×DataW Unit):=[("sealwright/digest.round256",Rows.laid_sealwright_digest_round256),("sealwright/command.magic",Rows.laid_sealwright_command_magic),("sealwright/command.forms",Rows.laid_sealwright_command_forms),("unicode/utf8.acceptRanges",Rows.laid_unicode_utf8_acceptRanges),("unicode/utf8.first",Rows.laid_unicode_utf8_first)]
theorem jU1:ownKnob Tryz.prog.godebug=none:=by kernel_rfl
theorem zVh:laidOutB Tryz.prog=true:=by kernel_rfl
theorem yD6:Tryz.prog.globalNamed "sealwright/digest.round256" = some 2:=by kernel_rfl
theorem jIo:(Rows.laid_sealwright_digest_round256:DataW Unit) = .agg ((zFu.map fun x=>(x.toNat:Int)).map fun m=> .lit (.int .u32 m)):=by rfl
theorem yD9 (W:World){ps:List MemPlace}(hv:DataW.LaidVars Tryz.prog W qF1 ps):qW (fun _=>none) (fun b=>b<W.heap.size) W (.ro (zFu.map jC)) (.pointer (some ⟨2,0,none⟩))∧GSz W 2 (zFu.map jC).length:=by
 obtain⟨g,t,cs,fuel,p,h1,h2,h3,h4⟩:=qRy hv _ (.head _);obtain rfl:=Option.some.inj (yD6.symm.trans h1);obtain rfl:=Option.some.inj ((show (Tryz.prog.globals[2]?).map (·.type)=some 148 by kernel_rfl).symm.trans h2);have h4':DataW.trod (fun _=>()) Tryz.prog W 0 (fun _=>true) false fuel 148 cs.toList=some (.agg ((zFu.map fun x=>(x.toNat:Int)).map fun m=> .lit (.int .u32 m)),p):=by rw[←jIo];exact h4
 have e:(zFu.map fun x=>(x.toNat:Int)).map (T.int .u32)=zFu.map jC:=by rw[List.map_map];rfl
 rw[←e];exact⟨zUz (F:=fun b=>b<W.heap.size) h1 h3 Tryz.underlying148 Tryz.underlying147 (by kernel_rfl) (by kernel_rfl) (by decide) h4' (fun h=>h),zTk h1 h3 Tryz.underlying148 (by kernel_rfl) h4'⟩
theorem yD7:Tryz.prog.globalNamed "sealwright/command.magic" = some 0:=by kernel_rfl
theorem jIp:(Rows.laid_sealwright_command_magic:DataW Unit) = .agg ((([83,87]:List Int)).map fun m=> .lit (.int .u8 m)):=by rfl
theorem yEa (W:World){ps:List MemPlace}(hv:DataW.LaidVars Tryz.prog W qF1 ps):qW (fun _=>none) (fun b=>b<W.heap.size) W (.ro (jD7)) (.pointer (some ⟨0,0,none⟩))∧GSz W 0 (jD7).length:=by
 obtain⟨g,t,cs,fuel,p,h1,h2,h3,h4⟩:=qRy hv _ (.tail _ (.head _));obtain rfl:=Option.some.inj (yD7.symm.trans h1);obtain rfl:=Option.some.inj ((show (Tryz.prog.globals[0]?).map (·.type)=some 219 by kernel_rfl).symm.trans h2);have h4':DataW.trod (fun _=>()) Tryz.prog W 0 (fun _=>true) false fuel 219 cs.toList=some (.agg ((([83,87]:List Int)).map fun m=> .lit (.int .u8 m)),p):=by rw[←jIp];exact h4
 have e:(([83,87]:List Int)).map (T.int .u8)=jD7:=rfl;rw[←e];exact⟨zUz (F:=fun b=>b<W.heap.size) h1 h3 Tryz.underlying219 Tryz.underlying5 (by kernel_rfl) (by kernel_rfl) (by decide) h4' (fun h=>h),zTk h1 h3 Tryz.underlying219 (by kernel_rfl) h4'⟩
theorem yD8:Tryz.prog.globalNamed "sealwright/command.forms" = some 1:=by kernel_rfl
theorem jIq:(Rows.laid_sealwright_command_forms:DataW Unit) = .agg ((zYq.map fun t=>[t.1,t.2.1,t.2.2.1,t.2.2.2.1,t.2.2.2.2]).map fun r=> .agg (r.map fun x=> .lit (.int .i64 x))):=by rfl
theorem yEb (W:World){ps:List MemPlace}(hv:DataW.LaidVars Tryz.prog W qF1 ps):qW (fun _=>none) (fun b=>b<W.heap.size) W (.ro (zW3)) (.pointer (some ⟨1,0,none⟩))∧GSz W 1 (zW3).length:=by
 obtain⟨g,t,cs,fuel,p,h1,h2,h3,h4⟩:=qRy hv _ (.tail _ (.tail _ (.head _)));obtain rfl:=Option.some.inj (yD8.symm.trans h1);obtain rfl:=Option.some.inj ((show (Tryz.prog.globals[1]?).map (·.type)=some 222 by kernel_rfl).symm.trans h2);have h4':DataW.trod (fun _=>()) Tryz.prog W 0 (fun _=>true) false fuel 222 cs.toList=some (.agg ((zYq.map fun t=>[t.1,t.2.1,t.2.2.1,t.2.2.2.1,t.2.2.2.2]).map fun r=> .agg (r.map fun x=> .lit (.int .i64 x))),p):=by rw[←jIq];exact h4
 have e:((zYq.map fun t=>[t.1,t.2.1,t.2.2.1,t.2.2.2.1,t.2.2.2.2]).flatten).map (T.int .i64)=zW3:=rfl;have hc:Tryz.prog.cellsOf 3=1:=by kernel_rfl
 have hf : ∀ fs,Tryz.prog.underlying 221=some (.struct fs) → ∀ j<5,∃ f,fs[j]?=some f∧f.offset=j∧Tryz.prog.cellsOf f.type=1∧Tryz.prog.underlying f.type=some (.int .i64):=by
  intro fs h;rw[Tryz.underlying221] at h;cases h;exact fun
   | 0,_=>⟨_,rfl,rfl,hc,Tryz.underlying3⟩
   | 1,_=>⟨_,rfl,rfl,hc,Tryz.underlying3⟩
   | 2,_=>⟨_,rfl,rfl,hc,Tryz.underlying3⟩
   | 3,_=>⟨_,rfl,rfl,hc,Tryz.underlying3⟩
   | 4,_=>⟨_,rfl,rfl,hc,Tryz.underlying3⟩
   | n+5,h=>absurd h oM
 have hr : ∀ r∈(zYq.map fun t=>[t.1,t.2.1,t.2.2.1,t.2.2.2.1,t.2.2.2.2]),r.length=5:=by decide
 rw[←e];exact⟨zPv (F:=fun b=>b<W.heap.size) h1 h3 Tryz.underlying222 Tryz.underlying221 (by kernel_rfl) rfl (by decide) (hf _ Tryz.underlying221) (by kernel_rfl) hr (by decide) h4' (fun h=>h),zPi h1 h3 Tryz.underlying222 Tryz.underlying221 (by kernel_rfl) rfl (by decide) (hf _ Tryz.underlying221) (by kernel_rfl) hr h4'⟩
theorem jO6 (W:World){ps:List MemPlace}(hv:DataW.LaidVars Tryz.prog W qF1 ps)(g:Nat)(cs:List T)(hg:gl0 g=some cs):qW (fun _=>none) (fun b=>b<W.heap.size) W (.ro cs) (.pointer (some ⟨g,0,none⟩))∧GSz W g cs.length:=by
 unfold gl0 at hg;split at hg
 ·rename_i h0;subst h0;cases hg;exact yD9 W hv
 ·skip
  split at hg
  ·rename_i h0;subst h0;cases hg;exact yEa W hv
  ·skip
   split at hg
   ·rename_i h0;subst h0;cases hg;exact yEb W hv
   ·cases hg
theorem jUy (W:World)(h:laidMetH Tryz.prog qF1 W):zRj gl0 (fun b=>b<W.heap.size) W:=by
 rw[MakeChecks.laidMetH_plain _ _ _ (by kernel_rfl)] at h;obtain⟨ps,hv,_⟩:=h;exact⟨fun _ h=>h,fun g cs hg=>(jO6 W hv g cs hg).1,fun g cs hg=>(jO6 W hv g cs hg).2⟩
abbrev yB8:TypeId:=4
theorem jO7:Tryz.prog.underlying yB8=some .bool:=Tryz.underlying4
theorem jBa (os:Os)(args:Array Value):((World.laidAll Tryz.prog os qF1).forCall (fun _ _=>0) ⟨#[],args,[]⟩).Shaped Tryz.prog:=World.shaped_of_ZipB (by kernel_rfl) (by kernel_rfl)
theorem zX8 (os:Os)(args:Array Value):laidMetH Tryz.prog qF1 ((World.laidAll Tryz.prog os qF1).forCall (fun _ _=>0) ⟨#[],args,[]⟩).memory:=by
 rw[MakeChecks.laidMetH_plain _ _ _ (by kernel_rfl)];exact laidMet_laidAll _ (by kernel_rfl) (by kernel_rfl)
end Go.Proofs.YtkffggdjdmimgaaGreatDoor
end
section
set_option maxRecDepth 20000
namespace Go.Eng
open List
theorem zG0 {y:T}(h:(Ty.int .i64).is y) : ∃ n:Int,(-9223372036854775808≤n∧n<9223372036854775808)∧y = .int .i64 n:=by
 obtain⟨n,hw,rfl⟩:=h;refine⟨n,?_,rfl⟩;simp only[Lit.wf,Bool.and_eq_true,decide_eq_true_eq] at hw;obtain⟨h1,h2⟩:=hw;have e1:IntKind.i64.min = -9223372036854775808:=by decide
 have e2:IntKind.i64.max=9223372036854775807:=by decide
 rw[e1] at h1;rw[e2] at h2;omega
theorem jTy {y:T}(h:(Ty.int .u8).is y) : ∃ b:UInt8,y=qA b:=by
 obtain⟨n,hw,rfl⟩:=h;simp only[Lit.wf,Bool.and_eq_true,decide_eq_true_eq] at hw;obtain⟨h1,h2⟩:=hw;have e1:IntKind.u8.min=0:=by decide
 have e2:IntKind.u8.max=255:=by decide
 rw[e1] at h1;rw[e2] at h2;refine⟨UInt8.ofNat n.toNat,?_⟩;unfold qA;congr 1;rw[UInt8.toNat_ofNat'];omega
theorem jTw {y:T}(h:Ty.bool.is y) : ∃ b:Bool,y = .bool b:=h
theorem zTw {α:Type}{f:α→T}{es:List T}(h : ∀ y∈es,∃ a,y=f a) : ∃ l:List α,es=l.map f:=by
 induction es with
 | nil=>exact⟨[],rfl⟩
 | cons y r ih=>
  obtain⟨a,rfl⟩:=h y (.head _);obtain⟨l,rfl⟩:=ih (fun z hz=>h z (.tail _ hz));exact⟨a::l,rfl⟩
theorem mx:maxLen=9223372036854775807:=by decide
theorem qEm {y:T}(h:(Ty.sl (.int .u8)).is y) : ∃ bs:List UInt8,bs.length≤9223372036854775807∧y = .sl (bs.map qA):=by
 obtain⟨es,hl,he,rfl⟩:=h;obtain⟨bs,rfl⟩:=zTw (f:=qA) (fun y hy=>jTy (he y hy));rw[length_map,mx] at hl;exact⟨bs,hl,rfl⟩
theorem jG4 {y:T}(h:(Ty.sl (.sl (.int .u8))).is y) : ∃ l:List (List UInt8),l.length≤9223372036854775807∧(∀ d∈l,d.length<9223372036854775808)∧y = .sl (l.map bsT):=by
 obtain⟨es,hl,he,rfl⟩:=h;obtain⟨l,hl2⟩:=zTw (f:=bsT) (es:=es) (fun y hy=>by
  obtain⟨bs,_,h2⟩:=qEm (he y hy);exact⟨bs,h2⟩)
 subst hl2;rw[length_map,mx] at hl;refine⟨l,hl,fun d hd=>?_,rfl⟩;obtain⟨bs,hb,h2⟩:=qEm (he (bsT d) (mem_map_of_mem hd));have h3:d.map qA=bs.map qA:=by
  have:T.sl (d.map qA)=T.sl (bs.map qA):=h2;exact T.sl.inj this
 have h4:=congrArg List.length h3;simp only[length_map] at h4;omega
theorem jTx {y:T}(h:(Ty.st [.int .i64,.int .i64]).is y) : ∃ a b:Int,(-9223372036854775808≤a∧a<9223372036854775808)∧(-9223372036854775808≤b∧b<9223372036854775808)∧y = .agg [.int .i64 a,.int .i64 b]:=by
 obtain⟨cs,hc,rfl⟩:=h;obtain⟨x,r,hx,hr,rfl⟩:=hc;obtain⟨x2,r2,hx2,hr2,rfl⟩:=hr;cases hr2;obtain⟨a,ha,rfl⟩:=zG0 hx;obtain⟨b,hb,rfl⟩:=zG0 hx2;exact⟨a,b,ha,hb,rfl⟩
theorem zY0 {y:T}(h:(Ty.sl (.sl (.int .u8))).is y) : ∃ l:List (List UInt8),l.length≤9223372036854775807∧(∀ d∈l,d.length≤9223372036854775807)∧y = .sl (l.map bsT):=by
 obtain⟨l,h1,h2,h3⟩:=jG4 h;exact⟨l,h1,fun d hd=>by have:=h2 d hd;omega,h3⟩
theorem yC9 {y:T}(h:(Ty.st [.int .i64,.int .i64,.sl (.sl (.int .u8)),.sl (.int .u8)]).is y) : ∃ (a b:Int) (l:List (List UInt8)) (d:List UInt8),(l.length≤9223372036854775807∧(∀ d∈l,d.length≤9223372036854775807)∧d.length≤9223372036854775807)∧y = .agg [.int .i64 a,.int .i64 b,.sl (l.map bsT),.sl (d.map qA)]:=by
 obtain⟨cs,hc,rfl⟩:=h;obtain⟨x,r,hx,hr,rfl⟩:=hc;obtain⟨x2,r2,hx2,hr2,rfl⟩:=hr;obtain⟨x3,r3,hx3,hr3,rfl⟩:=hr2;obtain⟨x4,r4,hx4,hr4,rfl⟩:=hr3;cases hr4;obtain⟨a,_,rfl⟩:=zG0 hx;obtain⟨b,_,rfl⟩:=zG0 hx2;obtain⟨l,h1,h2,rfl⟩:=zY0 hx3;obtain⟨d,h3,rfl⟩:=qEm hx4;exact⟨a,b,l,d,⟨h1,h2,h3⟩,rfl⟩
end Go.Eng
end
