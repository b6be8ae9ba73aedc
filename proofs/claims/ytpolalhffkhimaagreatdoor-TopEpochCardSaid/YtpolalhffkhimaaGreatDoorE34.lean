/- A part of an abstract machine, its walks, their tie. -/
import Derived.Test.YtpolalhffkhimaaGreatDoorE33
import Derived.Test.YtpolalhffkhimaaGreatDoorTie
import Derived.Test.YtpolalhffkhimaaGreatDoorCards
import Derived.ProofKit
import Derived.LaidMore
import Derived.OpenShut
import Derived.Lay
import Derived.Stop.Joined
import Derived.SevenTiedAt
import Derived.Test.YtpolalhffkhimaaGreatDoorE18
set_option linter.all false
section
set_option maxRecDepth 100000
namespace Go.Proofs.YtpolalhffkhimaaGreatDoor
open Go.Eng Go.ChangeShapes Go.WideShapes Go.ChangeAt Go.WideElems Go.RowKit
def qDy:List (String×DataW Unit):=[("sealwright/digest.round256",Rows.laid_sealwright_digest_round256),("sealwright/command.magic",Rows.laid_sealwright_command_magic),("sealwright/command.forms",Rows.laid_sealwright_command_forms),("unicode/utf8.acceptRanges",Rows.laid_unicode_utf8_acceptRanges),("unicode/utf8.first",Rows.laid_unicode_utf8_first)]
theorem jL3:ownKnob Tryz.prog.godebug=none:=by kernel_rfl
theorem zNt:laidOutB Tryz.prog=true:=by kernel_rfl
theorem jTr:Tryz.prog.globalNamed "sealwright/digest.round256" = some 2:=by kernel_rfl
theorem jAe:(Rows.laid_sealwright_digest_round256:DataW Unit) = .agg ((qZ9.map fun x=>(x.toNat:Int)).map fun m=> .lit (.int .u32 m)):=by rfl
theorem jTu (W:World){ps:List MemPlace}(hv:DataW.LaidVars Tryz.prog W qDy ps):qS (fun _=>none) (fun b=>b<W.heap.size) W (.ro (qZ9.map jB)) (.pointer (some ⟨2,0,none⟩))∧GSz W 2 (qZ9.map jB).length:=by
 obtain⟨g,t,cs,fuel,p,h1,h2,h3,h4⟩:=qN4 hv _ (.head _);obtain rfl:=Option.some.inj (jTr.symm.trans h1);obtain rfl:=Option.some.inj ((show (Tryz.prog.globals[2]?).map (·.type)=some 139 by kernel_rfl).symm.trans h2);have h4':DataW.trod (fun _=>()) Tryz.prog W 0 (fun _=>true) false fuel 139 cs.toList=some (.agg ((qZ9.map fun x=>(x.toNat:Int)).map fun m=> .lit (.int .u32 m)),p):=by rw[←jAe];exact h4
 have e:(qZ9.map fun x=>(x.toNat:Int)).map (T.int .u32)=qZ9.map jB:=by rw[List.map_map];rfl
 rw[←e];exact⟨zNf (F:=fun b=>b<W.heap.size) h1 h3 Tryz.underlying139 Tryz.underlying138 (by kernel_rfl) (by kernel_rfl) (by decide) h4' (fun h=>h),zL2 h1 h3 Tryz.underlying139 (by kernel_rfl) h4'⟩
theorem jTs:Tryz.prog.globalNamed "sealwright/command.magic" = some 0:=by kernel_rfl
theorem jAf:(Rows.laid_sealwright_command_magic:DataW Unit) = .agg ((([83,87]:List Int)).map fun m=> .lit (.int .u8 m)):=by rfl
theorem jTv (W:World){ps:List MemPlace}(hv:DataW.LaidVars Tryz.prog W qDy ps):qS (fun _=>none) (fun b=>b<W.heap.size) W (.ro (zV4)) (.pointer (some ⟨0,0,none⟩))∧GSz W 0 (zV4).length:=by
 obtain⟨g,t,cs,fuel,p,h1,h2,h3,h4⟩:=qN4 hv _ (.tail _ (.head _));obtain rfl:=Option.some.inj (jTs.symm.trans h1);obtain rfl:=Option.some.inj ((show (Tryz.prog.globals[0]?).map (·.type)=some 199 by kernel_rfl).symm.trans h2);have h4':DataW.trod (fun _=>()) Tryz.prog W 0 (fun _=>true) false fuel 199 cs.toList=some (.agg ((([83,87]:List Int)).map fun m=> .lit (.int .u8 m)),p):=by rw[←jAf];exact h4
 have e:(([83,87]:List Int)).map (T.int .u8)=zV4:=rfl;rw[←e];exact⟨zNf (F:=fun b=>b<W.heap.size) h1 h3 Tryz.underlying199 Tryz.underlying5 (by kernel_rfl) (by kernel_rfl) (by decide) h4' (fun h=>h),zL2 h1 h3 Tryz.underlying199 (by kernel_rfl) h4'⟩
theorem jTt:Tryz.prog.globalNamed "sealwright/command.forms" = some 1:=by kernel_rfl
theorem jAg:(Rows.laid_sealwright_command_forms:DataW Unit) = .agg ((zRb.map fun t=>[t.1,t.2.1,t.2.2.1,t.2.2.2.1,t.2.2.2.2]).map fun r=> .agg (r.map fun x=> .lit (.int .i64 x))):=by rfl
theorem jTw (W:World){ps:List MemPlace}(hv:DataW.LaidVars Tryz.prog W qDy ps):qS (fun _=>none) (fun b=>b<W.heap.size) W (.ro (zPi)) (.pointer (some ⟨1,0,none⟩))∧GSz W 1 (zPi).length:=by
 obtain⟨g,t,cs,fuel,p,h1,h2,h3,h4⟩:=qN4 hv _ (.tail _ (.tail _ (.head _)));obtain rfl:=Option.some.inj (jTt.symm.trans h1);obtain rfl:=Option.some.inj ((show (Tryz.prog.globals[1]?).map (·.type)=some 202 by kernel_rfl).symm.trans h2);have h4':DataW.trod (fun _=>()) Tryz.prog W 0 (fun _=>true) false fuel 202 cs.toList=some (.agg ((zRb.map fun t=>[t.1,t.2.1,t.2.2.1,t.2.2.2.1,t.2.2.2.2]).map fun r=> .agg (r.map fun x=> .lit (.int .i64 x))),p):=by rw[←jAg];exact h4
 have e:((zRb.map fun t=>[t.1,t.2.1,t.2.2.1,t.2.2.2.1,t.2.2.2.2]).flatten).map (T.int .i64)=zPi:=rfl;have hc:Tryz.prog.cellsOf 3=1:=by kernel_rfl
 have hf : ∀ fs,Tryz.prog.underlying 201=some (.struct fs) → ∀ j<5,∃ f,fs[j]?=some f∧f.offset=j∧Tryz.prog.cellsOf f.type=1∧Tryz.prog.underlying f.type=some (.int .i64):=by
  intro fs h;rw[Tryz.underlying201] at h;cases h;exact fun
   | 0,_=>⟨_,rfl,rfl,hc,Tryz.underlying3⟩
   | 1,_=>⟨_,rfl,rfl,hc,Tryz.underlying3⟩
   | 2,_=>⟨_,rfl,rfl,hc,Tryz.underlying3⟩
   | 3,_=>⟨_,rfl,rfl,hc,Tryz.underlying3⟩
   | 4,_=>⟨_,rfl,rfl,hc,Tryz.underlying3⟩
   | n+5,h=>absurd h oM
 have hr : ∀ r∈(zRb.map fun t=>[t.1,t.2.1,t.2.2.1,t.2.2.2.1,t.2.2.2.2]),r.length=5:=by decide
 rw[←e];exact⟨zIo (F:=fun b=>b<W.heap.size) h1 h3 Tryz.underlying202 Tryz.underlying201 (by kernel_rfl) rfl (by decide) (hf _ Tryz.underlying201) (by kernel_rfl) hr (by decide) h4' (fun h=>h),zIc h1 h3 Tryz.underlying202 Tryz.underlying201 (by kernel_rfl) rfl (by decide) (hf _ Tryz.underlying201) (by kernel_rfl) hr h4'⟩
theorem jGv (W:World){ps:List MemPlace}(hv:DataW.LaidVars Tryz.prog W qDy ps)(g:Nat)(cs:List T)(hg:gl0 g=some cs):qS (fun _=>none) (fun b=>b<W.heap.size) W (.ro cs) (.pointer (some ⟨g,0,none⟩))∧GSz W g cs.length:=by
 unfold gl0 at hg;split at hg
 ·rename_i h0;subst h0;cases hg;exact jTu W hv
 ·skip
  split at hg
  ·rename_i h0;subst h0;cases hg;exact jTv W hv
  ·skip
   split at hg
   ·rename_i h0;subst h0;cases hg;exact jTw W hv
   ·cases hg
theorem jL0 (W:World)(h:laidMetH Tryz.prog qDy W):zJ4 gl0 (fun b=>b<W.heap.size) W:=by
 rw[MakeChecks.laidMetH_plain _ _ _ (by kernel_rfl)] at h;obtain⟨ps,hv,_⟩:=h;exact⟨fun _ h=>h,fun g cs hg=>(jGv W hv g cs hg).1,fun g cs hg=>(jGv W hv g cs hg).2⟩
abbrev jRo:TypeId:=4
theorem jGw:Tryz.prog.underlying jRo=some .bool:=Tryz.underlying4
theorem zTm (os:Os)(args:Array Value):((World.laidAll Tryz.prog os qDy).forCall (fun _ _=>0) ⟨#[],args,[]⟩).Shaped Tryz.prog:=World.shaped_of_ZipB (by kernel_rfl) (by kernel_rfl)
theorem zQr (os:Os)(args:Array Value):laidMetH Tryz.prog qDy ((World.laidAll Tryz.prog os qDy).forCall (fun _ _=>0) ⟨#[],args,[]⟩).memory:=by
 rw[MakeChecks.laidMetH_plain _ _ _ (by kernel_rfl)];exact laidMet_laidAll _ (by kernel_rfl) (by kernel_rfl)
end Go.Proofs.YtpolalhffkhimaaGreatDoor
end
section
set_option maxRecDepth 20000
namespace Go.Eng
theorem zGr {y:T}(h:(Ty.int .i64).is y) : ∃ n:Int,(-9223372036854775808≤n∧n<9223372036854775808)∧y = .int .i64 n:=by
 obtain⟨n,hw,rfl⟩:=h;refine⟨n,?_,rfl⟩;simp only[Lit.wf,Bool.and_eq_true,decide_eq_true_eq] at hw;obtain⟨h1,h2⟩:=hw;have e1:IntKind.i64.min = -9223372036854775808:=by decide
 have e2:IntKind.i64.max=9223372036854775807:=by decide
 rw[e1] at h1;rw[e2] at h2;omega
theorem jEn {y:T}(h:(Ty.int .u8).is y) : ∃ b:UInt8,y=qA b:=by
 obtain⟨n,hw,rfl⟩:=h;simp only[Lit.wf,Bool.and_eq_true,decide_eq_true_eq] at hw;obtain⟨h1,h2⟩:=hw;have e1:IntKind.u8.min=0:=by decide
 have e2:IntKind.u8.max=255:=by decide
 rw[e1] at h1;rw[e2] at h2;refine⟨UInt8.ofNat n.toNat,?_⟩;unfold qA;congr 1;rw[UInt8.toNat_ofNat'];omega
theorem jKy {y:T}(h:Ty.bool.is y) : ∃ b:Bool,y = .bool b:=h
theorem zMg {α:Type}{f:α→T}{es:List T}(h : ∀ y∈es,∃ a,y=f a) : ∃ l:List α,es=l.map f:=by
 induction es with
 | nil=>exact⟨[],rfl⟩
 | cons y r ih=>
  obtain⟨a,rfl⟩:=h y (.head _);obtain⟨l,rfl⟩:=ih (fun z hz=>h z (.tail _ hz));exact⟨a::l,rfl⟩
theorem mx:maxLen=9223372036854775807:=by decide
theorem qN3 {y:T}(h:(Ty.sl (.int .u8)).is y) : ∃ bs:List UInt8,bs.length≤9223372036854775807∧y = .sl (bs.map qA):=by
 obtain⟨es,hl,he,rfl⟩:=h;obtain⟨bs,rfl⟩:=zMg (f:=qA) (fun y hy=>jEn (he y hy));rw[List.length_map,mx] at hl;exact⟨bs,hl,rfl⟩
theorem zYt {y:T}(h:(Ty.sl (.sl (.int .u8))).is y) : ∃ l:List (List UInt8),l.length≤9223372036854775807∧(∀ d∈l,d.length<9223372036854775808)∧y = .sl (l.map bsT):=by
 obtain⟨es,hl,he,rfl⟩:=h;obtain⟨l,hl2⟩:=zMg (f:=bsT) (es:=es) (fun y hy=>by
  obtain⟨bs,_,h2⟩:=qN3 (he y hy);exact⟨bs,h2⟩)
 subst hl2;rw[List.length_map,mx] at hl;refine⟨l,hl,fun d hd=>?_,rfl⟩;obtain⟨bs,hb,h2⟩:=qN3 (he (bsT d) (List.mem_map_of_mem hd));have h3:d.map qA=bs.map qA:=by
  have:T.sl (d.map qA)=T.sl (bs.map qA):=h2;exact T.sl.inj this
 have h4:=congrArg List.length h3;simp only[List.length_map] at h4;omega
theorem jKz {y:T}(h:(Ty.st [.int .i64,.int .i64]).is y) : ∃ a b:Int,(-9223372036854775808≤a∧a<9223372036854775808)∧(-9223372036854775808≤b∧b<9223372036854775808)∧y = .agg [.int .i64 a,.int .i64 b]:=by
 obtain⟨cs,hc,rfl⟩:=h;obtain⟨x,r,hx,hr,rfl⟩:=hc;obtain⟨x2,r2,hx2,hr2,rfl⟩:=hr;cases hr2;obtain⟨a,ha,rfl⟩:=zGr hx;obtain⟨b,hb,rfl⟩:=zGr hx2;exact⟨a,b,ha,hb,rfl⟩
theorem zRl {y:T}(h:(Ty.sl (.sl (.int .u8))).is y) : ∃ l:List (List UInt8),l.length≤9223372036854775807∧(∀ d∈l,d.length≤9223372036854775807)∧y = .sl (l.map bsT):=by
 obtain⟨l,h1,h2,h3⟩:=zYt h;exact⟨l,h1,fun d hd=>by have:=h2 d hd;omega,h3⟩
theorem jSs {y:T}(h:(Ty.st [.int .i64,.int .i64,.sl (.sl (.int .u8)),.sl (.int .u8)]).is y) : ∃ (a b:Int) (l:List (List UInt8)) (d:List UInt8),(l.length≤9223372036854775807∧(∀ d∈l,d.length≤9223372036854775807)∧d.length≤9223372036854775807)∧y = .agg [.int .i64 a,.int .i64 b,.sl (l.map bsT),.sl (d.map qA)]:=by
 obtain⟨cs,hc,rfl⟩:=h;obtain⟨x,r,hx,hr,rfl⟩:=hc;obtain⟨x2,r2,hx2,hr2,rfl⟩:=hr;obtain⟨x3,r3,hx3,hr3,rfl⟩:=hr2;obtain⟨x4,r4,hx4,hr4,rfl⟩:=hr3;cases hr4;obtain⟨a,_,rfl⟩:=zGr hx;obtain⟨b,_,rfl⟩:=zGr hx2;obtain⟨l,h1,h2,rfl⟩:=zRl hx3;obtain⟨d,h3,rfl⟩:=qN3 hx4;exact⟨a,b,l,d,⟨h1,h2,h3⟩,rfl⟩
end Go.Eng
end
