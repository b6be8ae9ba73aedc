/- A part of an abstract machine, its walks, their tie. -/
import Derived.Test.YteglhhgmfnbalaaGreatDoorK34
import Derived.Test.YteglhhgmfnbalaaGreatDoorTie
import Derived.Test.YteglhhgmfnbalaaGreatDoorCards
import Derived.Lay
import Derived.SevenTiedAt
set_option linter.all false
section
set_option maxRecDepth 100000
namespace Go.Proofs.YteglhhgmfnbalaaGreatDoor
open Go.Eng Go.ChangeShapes Go.WideShapes Go.ChangeAt Go.WideElems Go.RowKit
def qFh:List (String×DataW Unit):=[("sealwright/digest.round256",Rows.laid_sealwright_digest_round256),("sealwright/command.magic",Rows.laid_sealwright_command_magic),("sealwright/command.forms",Rows.laid_sealwright_command_forms),("unicode/utf8.acceptRanges",Rows.laid_unicode_utf8_acceptRanges),("unicode/utf8.first",Rows.laid_unicode_utf8_first)]
theorem jW1:ownKnob Tryz.prog.godebug=none:=by kernel_rfl
theorem zT0:laidOutB Tryz.prog=true:=by kernel_rfl
theorem yFk:Tryz.prog.globalNamed "sealwright/digest.round256" = some 2:=by kernel_rfl
theorem jIc:(Rows.laid_sealwright_digest_round256:DataW Unit)=.agg ((qTv.map λx=>(x.toNat:Int)).map λm=>.lit (.int .u32 m)):=by rfl
theorem yFn (W:World){ps:List MemPlace}(hv:DataW.LaidVars Tryz.prog W qFh ps):qR (λ_=>none) (λb=>b<W.heap.size) W (.ro (qTv.map jG)) (.pointer (some ⟨2,0,none⟩))/\GSz W 2 (qTv.map jG).length:=by
 obtain⟨g,t,cs,fuel,p,h1,h2,h3,h4⟩:=qQt hv _ (.head _);obtain rfl:=Option.some.inj (yFk.symm.trans h1);obtain rfl:=Option.some.inj ((show(Tryz.prog.globals[2]?).map (·.type)=some 166 by kernel_rfl).symm.trans h2);have h4':DataW.trod (λ_=>()) Tryz.prog W 0 (λ_=>true) false fuel 166 cs.toList=some (.agg ((qTv.map λx=>(x.toNat:Int)).map λm=>.lit (.int .u32 m)),p):=by rw[<-jIc];exact h4
 have e:(qTv.map λx=>(x.toNat:Int)).map (T.int .u32)=qTv.map jG:=by rw[List.map_map];rfl
 rw[<-e];exact⟨zTl (F:=λb=>b<W.heap.size) h1 h3 Tryz.underlying166 Tryz.underlying165 (by kernel_rfl) (by kernel_rfl) (by decide) h4' (λh=>h),zRt h1 h3 Tryz.underlying166 (by kernel_rfl) h4'⟩
theorem yFl:Tryz.prog.globalNamed "sealwright/command.magic" = some 0:=by kernel_rfl
theorem jId:(Rows.laid_sealwright_command_magic:DataW Unit)=.agg ((([83,87]:List Int)).map λm=>.lit (.int .u8 m)):=by rfl
theorem yFo (W:World){ps:List MemPlace}(hv:DataW.LaidVars Tryz.prog W qFh ps):qR (λ_=>none) (λb=>b<W.heap.size) W (.ro (jDn)) (.pointer (some ⟨0,0,none⟩))/\GSz W 0 (jDn).length:=by
 obtain⟨g,t,cs,fuel,p,h1,h2,h3,h4⟩:=qQt hv _ (.tail _ (.head _));obtain rfl:=Option.some.inj (yFl.symm.trans h1);obtain rfl:=Option.some.inj ((show(Tryz.prog.globals[0]?).map (·.type)=some 197 by kernel_rfl).symm.trans h2);have h4':DataW.trod (λ_=>()) Tryz.prog W 0 (λ_=>true) false fuel 197 cs.toList=some (.agg ((([83,87]:List Int)).map λm=>.lit (.int .u8 m)),p):=by rw[<-jId];exact h4
 have e:(([83,87]:List Int)).map (T.int .u8)=jDn:=rfl;rw[<-e];exact⟨zTl (F:=λb=>b<W.heap.size) h1 h3 Tryz.underlying197 Tryz.underlying5 (by kernel_rfl) (by kernel_rfl) (by decide) h4' (λh=>h),zRt h1 h3 Tryz.underlying197 (by kernel_rfl) h4'⟩
theorem yFm:Tryz.prog.globalNamed "sealwright/command.forms" = some 1:=by kernel_rfl
theorem jIe:(Rows.laid_sealwright_command_forms:DataW Unit)=.agg ((zXq.map λt=>[t.1,t.2.1,t.2.2.1,t.2.2.2.1,t.2.2.2.2]).map λr=>.agg (r.map λx=>.lit (.int .i64 x))):=by rfl
theorem yFp (W:World){ps:List MemPlace}(hv:DataW.LaidVars Tryz.prog W qFh ps):qR (λ_=>none) (λb=>b<W.heap.size) W (.ro (zVv)) (.pointer (some ⟨1,0,none⟩))/\GSz W 1 (zVv).length:=by
 obtain⟨g,t,cs,fuel,p,h1,h2,h3,h4⟩:=qQt hv _ (.tail _ (.tail _ (.head _)));obtain rfl:=Option.some.inj (yFm.symm.trans h1);obtain rfl:=Option.some.inj ((show(Tryz.prog.globals[1]?).map (·.type)=some 200 by kernel_rfl).symm.trans h2);have h4':DataW.trod (λ_=>()) Tryz.prog W 0 (λ_=>true) false fuel 200 cs.toList=some (.agg ((zXq.map λt=>[t.1,t.2.1,t.2.2.1,t.2.2.2.1,t.2.2.2.2]).map λr=>.agg (r.map λx=>.lit (.int .i64 x))),p):=by rw[<-jIe];exact h4
 have e:((zXq.map λt=>[t.1,t.2.1,t.2.2.1,t.2.2.2.1,t.2.2.2.2]).flatten).map (T.int .i64)=zVv:=rfl;have hc:Tryz.prog.cellsOf 3=1:=by kernel_rfl
 have hf:∀fs,Tryz.prog.underlying 199=some (.struct fs)->∀j<5,∃f,fs[j]?=some f/\f.offset=j/\Tryz.prog.cellsOf f.type=1/\Tryz.prog.underlying f.type=some (.int .i64):=by
  intro fs h;rw[Tryz.underlying199]at h;cases h;exact fun
   |0,_=>⟨_,rfl,rfl,hc,Tryz.underlying3⟩
   |1,_=>⟨_,rfl,rfl,hc,Tryz.underlying3⟩
   |2,_=>⟨_,rfl,rfl,hc,Tryz.underlying3⟩
   |3,_=>⟨_,rfl,rfl,hc,Tryz.underlying3⟩
   |4,_=>⟨_,rfl,rfl,hc,Tryz.underlying3⟩
   |n+5,h=>absurd h oM
 have hr:∀r∈(zXq.map λt=>[t.1,t.2.1,t.2.2.1,t.2.2.2.1,t.2.2.2.2]),r.length=5:=by decide
 rw[<-e];exact⟨zNw (F:=λb=>b<W.heap.size) h1 h3 Tryz.underlying200 Tryz.underlying199 (by kernel_rfl) rfl (by decide) (hf _ Tryz.underlying199) (by kernel_rfl) hr (by decide) h4' (λh=>h),zNi h1 h3 Tryz.underlying200 Tryz.underlying199 (by kernel_rfl) rfl (by decide) (hf _ Tryz.underlying199) (by kernel_rfl) hr h4'⟩
theorem jPs (W:World){ps:List MemPlace}(hv:DataW.LaidVars Tryz.prog W qFh ps)(g:Nat)(cs:List T)(hg:gl0 g=some cs):qR (λ_=>none) (λb=>b<W.heap.size) W (.ro cs) (.pointer (some ⟨g,0,none⟩))/\GSz W g cs.length:=by
 unfold gl0 at hg;split at hg
 .rename_i h0;subst h0;cases hg;exact yFn W hv
 .skip
  split at hg
  .rename_i h0;subst h0;cases hg;exact yFo W hv
  .skip
   split at hg
   .rename_i h0;subst h0;cases hg;exact yFp W hv
   .cases hg
theorem jWy (W:World)(h:laidMetH Tryz.prog qFh W):zPk gl0 (λb=>b<W.heap.size) W:=by
 rw[MakeChecks.laidMetH_plain _ _ _ (by kernel_rfl)]at h;obtain⟨ps,hv,_⟩:=h;exact⟨λ_ h=>h,λg cs hg=>(jPs W hv g cs hg).1,λg cs hg=>(jPs W hv g cs hg).2⟩
abbrev yDg:TypeId:=4
theorem jPt:Tryz.prog.underlying yDg=some .bool:=Tryz.underlying4
theorem jAf (os:Os)(args:Array Value):((World.laidAll Tryz.prog os qFh).forCall (λ_ _=>0) ⟨#[],args,[]⟩).Shaped Tryz.prog:=World.shaped_of_ZipB (by kernel_rfl) (by kernel_rfl)
theorem zW6 (os:Os)(args:Array Value):laidMetH Tryz.prog qFh ((World.laidAll Tryz.prog os qFh).forCall (λ_ _=>0) ⟨#[],args,[]⟩).memory:=by
 rw[MakeChecks.laidMetH_plain _ _ _ (by kernel_rfl)];exact laidMet_laidAll _ (by kernel_rfl) (by kernel_rfl)
end Go.Proofs.YteglhhgmfnbalaaGreatDoor
end
section
set_option maxRecDepth 20000
namespace Go.Eng
open List
theorem zLf {y:T}(h:(Ty.int .i64).is y):∃n:Int,(-9223372036854775808<=n/\n<9223372036854775808)/\y=.int .i64 n:=by
 obtain⟨n,hw,rfl⟩:=h;refine⟨n,?_,rfl⟩;simp only[Lit.wf,Bool.and_eq_true,decide_eq_true_eq]at hw;obtain⟨h1,h2⟩:=hw;have e1:IntKind.i64.min = -9223372036854775808:=by decide
 have e2:IntKind.i64.max=9223372036854775807:=by decide
 rw[e1]at h1;rw[e2]at h2;omega
theorem jUw {y:T}(h:(Ty.int .u8).is y):∃b:UInt8,y=qA b:=by
 obtain⟨n,hw,rfl⟩:=h;simp only[Lit.wf,Bool.and_eq_true,decide_eq_true_eq]at hw;obtain⟨h1,h2⟩:=hw;have e1:IntKind.u8.min=0:=by decide
 have e2:IntKind.u8.max=255:=by decide
 rw[e1]at h1;rw[e2]at h2;refine⟨UInt8.ofNat n.toNat,?_⟩;unfold qA;congr 1;rw[UInt8.toNat_ofNat'];omega
theorem jUu {y:T}(h:Ty.bool.is y):∃b:Bool,y=.bool b:=h
theorem zSa {α:Type}{f:α->T}{es:List T}(h:∀y∈es,∃a,y=f a):∃l:List α,es=l.map f:=by
 induction es with
 |nil=>exact⟨[],rfl⟩
 |cons y r ih=>
  obtain⟨a,rfl⟩:=h y (.head _);obtain⟨l,rfl⟩:=ih (λz hz=>h z (.tail _ hz));exact⟨a::l,rfl⟩
theorem mx:maxLen=9223372036854775807:=by decide
theorem qQr {y:T}(h:(Ty.sl (.int .u8)).is y):∃bs:List UInt8,bs.length<=9223372036854775807/\y=.sl (bs.map qA):=by
 obtain⟨es,hl,he,rfl⟩:=h;obtain⟨bs,rfl⟩:=zSa (f:=qA) (λy hy=>jUw (he y hy));rw[length_map,mx]at hl;exact⟨bs,hl,rfl⟩
theorem jGi {y:T}(h:(Ty.sl (.sl (.int .u8))).is y):∃l:List (List UInt8),l.length<=9223372036854775807/\(∀d∈l,d.length<9223372036854775808)/\y=.sl (l.map bsT):=by
 obtain⟨es,hl,he,rfl⟩:=h;obtain⟨l,hl2⟩:=zSa (f:=bsT) (es:=es) (λy hy=>by
  obtain⟨bs,_,h2⟩:=qQr (he y hy);exact⟨bs,h2⟩)
 subst hl2;rw[length_map,mx]at hl;refine⟨l,hl,λd hd=>?_,rfl⟩;obtain⟨bs,hb,h2⟩:=qQr (he (bsT d) (mem_map_of_mem hd));have h3:d.map qA=bs.map qA:=by
  have:T.sl (d.map qA)=T.sl (bs.map qA):=h2;exact T.sl.inj this
 have h4:=congrArg List.length h3;simp only[length_map]at h4;omega
theorem jUv {y:T}(h:(Ty.st [.int .i64,.int .i64]).is y):∃a b:Int,(-9223372036854775808<=a/\a<9223372036854775808)/\(-9223372036854775808<=b/\b<9223372036854775808)/\y=.agg [.int .i64 a,.int .i64 b]:=by
 obtain⟨cs,hc,rfl⟩:=h;obtain⟨x,r,hx,hr,rfl⟩:=hc;obtain⟨x2,r2,hx2,hr2,rfl⟩:=hr;cases hr2;obtain⟨a,ha,rfl⟩:=zLf hx;obtain⟨b,hb,rfl⟩:=zLf hx2;exact⟨a,b,ha,hb,rfl⟩
theorem zX2 {y:T}(h:(Ty.sl (.sl (.int .u8))).is y):∃l:List (List UInt8),l.length<=9223372036854775807/\(∀d∈l,d.length<=9223372036854775807)/\y=.sl (l.map bsT):=by
 obtain⟨l,h1,h2,h3⟩:=jGi h;exact⟨l,h1,λd hd=>by have:=h2 d hd;omega,h3⟩
theorem yEl {y:T}(h:(Ty.st [.int .i64,.int .i64,.sl (.sl (.int .u8)),.sl (.int .u8)]).is y):∃(a b:Int)(l:List (List UInt8))(d:List UInt8),(l.length<=9223372036854775807/\(∀d∈l,d.length<=9223372036854775807)/\d.length<=9223372036854775807)/\y=.agg [.int .i64 a,.int .i64 b,.sl (l.map bsT),.sl (d.map qA)]:=by
 obtain⟨cs,hc,rfl⟩:=h;obtain⟨x,r,hx,hr,rfl⟩:=hc;obtain⟨x2,r2,hx2,hr2,rfl⟩:=hr;obtain⟨x3,r3,hx3,hr3,rfl⟩:=hr2;obtain⟨x4,r4,hx4,hr4,rfl⟩:=hr3;cases hr4;obtain⟨a,_,rfl⟩:=zLf hx;obtain⟨b,_,rfl⟩:=zLf hx2;obtain⟨l,h1,h2,rfl⟩:=zX2 hx3;obtain⟨d,h3,rfl⟩:=qQr hx4;exact⟨a,b,l,d,⟨h1,h2,h3⟩,rfl⟩
end Go.Eng
end
