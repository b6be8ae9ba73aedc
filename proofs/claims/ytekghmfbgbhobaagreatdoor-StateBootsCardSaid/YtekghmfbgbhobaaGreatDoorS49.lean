/- A part of an abstract machine, its walks, their tie. -/
import Derived.Test.YtekghmfbgbhobaaGreatDoorS48
import Derived.MakeChecks
import Derived.Stop.Joined
import Derived.Test.YtekghmfbgbhobaaGreatDoorTie
import Derived.Test.YtekghmfbgbhobaaGreatDoorCards
import Derived.ProofKit
import Derived.LaidMore
import Derived.OpenShut
import Derived.SevenTiedAt
import Derived.Test.YtekghmfbgbhobaaGreatDoorS24
set_option linter.all false
section
set_option maxRecDepth 20000
namespace Go.Eng
open Go.ChangeShapes Go.WideShapes Go.RowKit Go.WideElems
section
variable {H:Type} {enc:TypeId×Value→H} {P:Program}
theorem zEs {W W':World}(hfr : ∀ b,b<W.heap.size→W'.heap[b]?=W.heap[b]?){p:MemPlace}(hp:p.block<W.heap.size):W.sameAt W' p:=by
 cases p with
 | cell b off=>exact World.cell?_of_block (hfr b hp)
 | map b=>exact hfr b hp
theorem zAb (hl:laidOutB P=true){W W':World}(hfr : ∀ b,b<W.heap.size→W'.heap[b]?=W.heap[b]?){sp:Nat→Bool} :
  ∀ {ts:List TypeId} {vs:List Value} {ds:List (DataW H)} {ps:List MemPlace},(∀ t∈ts,P.readableRec t=true∧t<P.types.size)→(∀ p∈ps,p.block<W.heap.size∧sp p.block=true)→
   DataW.TrodAll enc P W 0 (fun _=>true) true ts vs ds ps→DataW.TrodAll enc P W' 0 sp true ts vs ds ps
 | [],vs,ds,ps,_,_,h=>by
  obtain⟨rfl,rfl,rfl⟩:=trodAll_nil h;exact trodAll_mk0
 | t::ts,vs,ds,ps,ht,hp,h=>by
  obtain⟨v,vs',d,ds',p,q,rfl,rfl,rfl,h1,h2⟩:=trodAll_cons h;obtain⟨hr,hrow⟩:=ht t (.head _);exact⟨p,q,Trod_stays hl hr hrow h1 (fun x hx=>zEs hfr (hp x (List.mem_append_left _ hx)).1) (fun x hx=>(hp x (List.mem_append_left _ hx)).2),
   zAb hl hfr (fun t' ht'=>ht t' (.tail _ ht')) (fun x hx=>hp x (List.mem_append_right _ hx)) h2,rfl⟩
theorem zQ3 {fn:Func}{s:ChangeSpec}{tb:TypeId}{apart fresh handsOn again:Bool}{W W':World}{args:Array Value}{ds gs:List (DataW H)}{before:List MemPlace}
  (hl:laidOutB P=true) (hts : ∀ t∈fn.params.toList,P.readableRec t=true∧t<P.types.size) (hrt:fn.resultTypes = #[tb]) (hb:P.underlying tb=some .bool) (hsv:s.vars=[])
  (hfn:(s.fn H (ds++gs)).results=[.lit (.bool true)]∧(s.fn H (ds++gs)).args=ds∧(s.fn H (ds++gs)).vars=[])
  (hW:DataW.Whole enc P fn.params.toList s.vars apart W args.toList ds gs before)
  (hos:W'.os=W.os) (hout:W'.output=W.output) (hfr : ∀ b,b<W.heap.size→W'.heap[b]?=W.heap[b]?) :
  s.post enc P fn apart fresh handsOn again W args (.bool true) W':=by
 have hlt : ∀ p∈before,p.block<W.heap.size:=fun p hp=>hW.lt p hp
 have hW':=hW;obtain⟨p,q,hA,hV,rfl,hz,hn⟩:=hW';rw[hsv] at hV;obtain⟨rfl,rfl⟩:=trodVars_none hV;have hres : ∀ (b:Nat) (sp:Nat→Bool) (hd:Bool),DataW.TrodAll enc P W' b sp hd fn.resultTypes.toList ((Value.bool true).resultList fn.resultTypes.size) (s.fn H (ds++[])).results []:=by
  intro b sp hd;rw[hrt,hfn.1];exact trodAll_mk1 (shut_bool hb true)
 have hargs : ∀ sp:Nat→Bool,(∀ x∈p++[],sp x.block=true)→DataW.TrodAll enc P W' 0 sp true fn.params.toList args.toList (s.fn H (ds++[])).args p:=by
  intro sp hsp;rw[hfn.2.1];exact zAb hl hfr hts (fun x hx=>⟨hlt x (by simpa using hx),hsp x (by simpa using hx)⟩) hA
 have hvars : ∀ sp:Nat→Bool,DataW.TrodVars enc P W' sp s.vars (s.fn H (ds++[])).vars []:=by
  intro sp;rw[hsv,hfn.2.2];rfl
 refine⟨ds,[],_,[],p,[],hW,hres _ _ _,hargs _ (fun x hx=>by simpa using hlt x hx),hvars _,⟨hos,hout,fun i hi=>?_⟩,fun _=>?_⟩
 ·have e:=hfr i hi;revert e;generalize W'.heap[i]?=o';intro e;subst e;split
  ·rename_i h1 h2;rw[h1] at h2;cases h2;exact⟨rfl,rfl,rfl,fun _ _=>rfl⟩
  ·rename_i h1 h2;rw[h1] at h2;cases h2;exact .inr ⟨rfl,rfl⟩
  ·rfl
 ·refine⟨ok_one hrt rfl (okWide_bool_mk hb _),_,_,([]++p)++[],⟨[]++p,[],trodAll_append (hargs _ (fun _ _=>rfl)) (hres _ _ _),hvars _,rfl,?_,?_⟩,?_⟩
  ·intro b off hx;have hx':MemPlace.cell b off∈p++[]:=by simpa using hx
   have e:W'.frozen? ⟨b,off,none⟩=W.frozen? ⟨b,off,none⟩:=by
    unfold World.frozen?;rw[hfr b (hlt _ hx')]
   rw[e];exact hz b off hx'
  ·intro ha;have:=hn ha;simpa using this
  ·intro x hx _;simpa using hx
theorem zA1 {w:World} : ∀ {laid:List (String×DataW Unit)} {ps:List MemPlace},DataW.LaidVars P w laid ps → ∀ x∈laid,∃ g t cs fuel p,P.globalNamed x.1=some g∧(P.globals[g]?).map (·.type)=some t∧w.var? P x.1=some cs∧
   DataW.trod (fun _=>()) P w 0 (fun _=>true) false fuel t cs.toList=some (x.2,p)
 | [],_,_,x,hx=>by cases hx
 | y::r,ps,h,x,hx=>by
  obtain⟨g,t,cs,fuel,p,q,h1,h2,h3,h4,h5,_⟩:=h;rcases List.mem_cons.1 hx with rfl | hx
  ·exact⟨g,t,cs,fuel,p,h1,h2,h3,h4⟩
  ·exact zA1 h5 x hx
theorem zZh {w:World}{nm:String}{g t e n:Nat}{k:IntKind}{ns:List Int}{cs:Array Value}{fuel:Nat}{p:List MemPlace}{F:Nat→Prop}(hg:P.globalNamed nm=some g)(hv:w.var? P nm=some cs)
  (ht:P.underlying t=some (.array n e)) (he:P.underlying e=some (.int k)) (hc:P.cellsOf e=1) (hct:P.cellsOf t=n) (hn:0<ns.length)
  (h:DataW.trod (fun _=>()) P w 0 (fun _=>true) false fuel t cs.toList=some (.agg (ns.map fun m=> .lit (.int k m)),p)) (hF:g<w.heap.size→F g) :
  qV (fun _=>none) F w (.ro (ns.map (T.int k))) (.pointer (some ⟨g,0,none⟩)):=by
 obtain⟨xs,m,_,hx,hl,hxl,hget⟩:=DataW.trod_array ht h;simp only[Prod.mk.injEq,DataW.agg.injEq] at hx;have hlen:ns.length=n:=by
  have:=congrArg List.length hx.1;simp only[List.length_map] at this;omega
 have hcl:cs.toList.length=n:=by rw[hl,hct]
 have hcell : ∀ i,i<n→cs.toList[i]?=some (.int k (ns.getD i 0)):=by
  intro i hi;have h1:=hget i hi;have h2:xs[i]?=some xs[i]:=List.getElem?_eq_getElem oM;rw[h2,hc,Nat.mul_one] at h1;obtain⟨z,hz1,hz2,_⟩:=DataW.trod_int he h1;have h3:cs.toList[i]?=some (.int k z):=by
   have h4:=congrArg (fun l=>l[0]?) hz1;simp only[List.getElem?_take,List.getElem?_drop,Nat.add_zero,List.getElem?_cons_zero] at h4;simpa using h4
  have h5:=congrArg (fun l=>l[i]?) hx.1;simp only[List.getElem?_map,h2,oms,hz2] at h5;have h6:ns[i]?=some ns[i]:=List.getElem?_eq_getElem oM;rw[h6] at h5;simp only[oms,Option.some.injEq,DataW.lit.injEq,Lit.int.injEq,true_and] at h5;rw[h3,List.getD_eq_getElem?_getD,h6,h5];rfl
 have hw : ∀ j,w.cell? ((⟨g,0,none⟩:Addr).add j)=cs.toList[j]?:=by
  intro j;have e:(⟨g,0,none⟩:Addr).add j=⟨g,j,none⟩:=by
   unfold Addr.add;split
   ·rename_i h0;rw[h0]
   ·simp
  rw[e,World.var?_cell hg hv j,Array.getElem?_toList]
 refine .ro (ns.map (T.int k)) ⟨g,0,none⟩ cs.toList rfl (by rw[hcl,List.length_map,hlen]) ?_ (hF ?_) (fun j u hu=>(hw j).trans hu) ?_
 ·intro u hu;obtain⟨i,hi⟩:=List.getElem?_of_mem hu;rw[hcell i (by rw[←hcl];exact (List.getElem?_eq_some_iff.1 hi).1)] at hi;cases hi;rfl
 ·have h0:=hw 0;rw[hcell 0 oM] at h0;have:=(zAi h0).1;rw[qDi] at this;exact this
 ·intro j c u hcj hu;rw[List.getElem?_map,Option.map_eq_some_iff] at hcj;obtain⟨z,hz,rfl⟩:=hcj;rw[hcell j (by rw[←hlen];exact (List.getElem?_eq_some_iff.1 hz).1)] at hu;cases hu;rw[List.getD_eq_getElem?_getD,hz];exact .int k z
theorem zXf {w:World}{nm:String}{g t e n:Nat}{k:IntKind}{ns:List Int}{cs:Array Value}{fuel:Nat}{p:List MemPlace}(hg:P.globalNamed nm=some g)(hv:w.var? P nm=some cs)
  (ht:P.underlying t=some (.array n e)) (hct:P.cellsOf t=n)
  (h:DataW.trod (fun _=>()) P w 0 (fun _=>true) false fuel t cs.toList=some (.agg (ns.map fun m=> .lit (.int k m)),p)):GSz w g (ns.map (T.int k)).length:=by
 obtain⟨xs,m,_,hx,hl,hxl,hget⟩:=DataW.trod_array ht h;simp only[Prod.mk.injEq,DataW.agg.injEq] at hx;have hlen:ns.length=n:=by
  have:=congrArg List.length hx.1;simp only[List.length_map] at this;omega
 have hcl:cs.toList.length=n:=by rw[hl,hct]
 unfold World.var? at hv;rw[hg,Option.bind_some] at hv;split at hv
 ·rename_i c e z hc;cases hv;exact⟨_,e,z,hc,by rw[List.length_map,hlen,←hcl];simp⟩
 ·cases hv
theorem qK6 {w:World}{base:Nat}{sp:Nat→Bool}{held:Bool} : ∀ {ts:List TypeId} {vs:List Value} {ds:List (DataW H)} {ps:List MemPlace},DataW.TrodAll enc P w base sp held ts vs ds ps→ds.length=ts.length
 | [],_,_,_,h=>by obtain⟨rfl,rfl,rfl⟩:=trodAll_nil h;rfl
 | _::_,_,_,_,h=>by
  obtain⟨_,_,_,_,_,_,rfl,rfl,rfl,_,h2⟩:=trodAll_cons h;simp[qK6 h2]
end
theorem qKi {H:Type}{enc:TypeId×Value→H}{C:Checked}{os:Os}{f:FuncId}{fn:Func}{s:ChangeSpec}{laid:List (String×DataW Unit)}{tys:List Ty}{G:Nat→Option (List T)}{tb:TypeId}{apart fresh handsOn again:Bool}
  (own:ownKnob C.prog.godebug=none) (started:os.Started) (noInit:C.prog.inits.idxOf? f=none) (hfn:C.prog.funcs[f]?=some fn)
  (witness : ∃ (w:World) (tape:Tape) (i:Input),w.os=os∧(w.forCall tape i).Shaped C.prog∧i.vars=[]∧Input.okWide C.prog (w.forCall tape i) .any w.heap.size f i∧
   ((s.pre enc C.prog fn [] apart (w.forCall tape i).memory i.args∧laidMetH C.prog laid (w.forCall tape i).memory)∧sizedMet enc C.prog fn (OpenSpec.ofChange s) apart (w.forCall tape i).memory i.args)∧({}:Assume).holds C.prog (lone (Frame.enter C.prog f i.args .normal) [] (w.forCall tape i)))
  (hl:laidOutB C.prog=true) (hts:fn.params.toList.all (fun t=>C.prog.readableRec t&&Nat.blt t C.prog.types.size)=true) (hrt:fn.resultTypes = #[tb]) (hb:C.prog.underlying tb=some .bool) (hsv:s.vars=[])
  (hspec : ∀ ds:List (DataW H),ds.length=tys.length→(s.fn H ds).results=[.lit (.bool true)]∧(s.fn H ds).args=ds∧(s.fn H ds).vars=[])
  (htys:qAh (fun (ty:Ty) (t:TypeId)=>ty.ok C.prog t=true) tys fn.params.toList)
  (henv : ∀ W,laidMetH C.prog laid W→zJ8 G (fun b=>b<W.heap.size) W)
  (hlaw : ∀ ys,qAh (fun (ty:Ty) (y:T)=>ty.is y) tys ys→qXf C.prog G f (ys.map V.t) [] (.t (.bool true)) []) :
  ReturnsInHanded {} C os f .any (fun w args=>(s.pre enc C.prog fn [] apart w args∧laidMetH C.prog laid w)∧sizedMet enc C.prog fn (OpenSpec.ofChange s) apart w args) (s.post enc C.prog fn apart fresh handsOn again):=by
 have hts' : ∀ t∈fn.params.toList,C.prog.readableRec t=true∧t<C.prog.types.size:=by
  intro t ht;have:=List.all_eq_true.1 hts t ht;rw[Bool.and_eq_true] at this;exact⟨this.1,by simpa [Nat.blt_eq] using this.2⟩
 refine returnsInHanded_of_change_and (C:=C) (X:=fun w _=>laidMetH C.prog laid w) (fun _ _ _ hh h=>laidMetH.of_heap hh h) own started noInit hfn witness ?_;intro W base args ds gs before hval hW _ _ hL _;have hW':=hW;obtain⟨p,q,hA,hV,rfl,_,_⟩:=hW';rw[hsv] at hV;obtain⟨rfl,rfl⟩:=trodVars_none hV;obtain⟨ys,hys,hreps⟩:=zBc htys (fun j t v ht hv=>hval j t v (by simpa using ht) (by simpa using hv)) hA;have hlen:ds.length=tys.length:=by rw[qK6 hA,htys.length]
 have hcall:=hlaw ys hys W (fun _=>none) (fun b=>b<W.heap.size) args (henv W hL)
  ⟨fun k o h=>by simp at h,fun _ _=>rfl,fun _ _ _ _ _ h=>by simp at h,fun _ _ _ h=>by simp at h⟩ hreps
 refine hcall.mono fun e W' ⟨x,β',F',he,hp⟩=>?_
 subst he;have hx:x = .bool true:=by
  have:=hp.res;cases this with
  | t h=>cases h;rfl
 subst hx;exact⟨_,rfl,zQ3 hl hts' hrt hb hsv (by rw[List.append_nil];exact hspec ds hlen) hW hp.os hp.output (fun b hb=>hp.frame b hb (fun _ _ h=>by simp at h))⟩
end Go.Eng
end
section
set_option maxRecDepth 100000
namespace Go.Proofs.YtekghmfbgbhobaaGreatDoor
open Go.Eng Go.ChangeShapes Go.WideShapes Go.ChangeAt Go.WideElems Go.RowKit
def qB7 {H:Type}:List (String×DataW H):=[("sealwright/digest.round256",Rows.laid_sealwright_digest_round256)]
theorem zSs:ownKnob Tryz.prog.godebug=none:=by kernel_rfl
theorem qO4:laidOutB Tryz.prog=true:=by kernel_rfl
theorem jQ5:Tryz.prog.globalNamed "sealwright/digest.round256" = some 1:=by kernel_rfl
theorem zZl:(Rows.laid_sealwright_digest_round256:DataW Unit) = .agg ((qZ7.map fun x=>(x.toNat:Int)).map fun m=> .lit (.int .u32 m)):=by rfl
theorem jQ6 (W:World){ps:List MemPlace}(hv:DataW.LaidVars Tryz.prog W qB7 ps):qV (fun _=>none) (fun b=>b<W.heap.size) W (.ro (qZ7.map zW)) (.pointer (some ⟨1,0,none⟩))∧GSz W 1 (qZ7.map zW).length:=by
 obtain⟨g,t,cs,fuel,p,h1,h2,h3,h4⟩:=zA1 hv _ (.head _);obtain rfl:=Option.some.inj (jQ5.symm.trans h1);obtain rfl:=Option.some.inj ((show (Tryz.prog.globals[1]?).map (·.type)=some 170 by kernel_rfl).symm.trans h2);have h4':DataW.trod (fun _=>()) Tryz.prog W 0 (fun _=>true) false fuel 170 cs.toList=some (.agg ((qZ7.map fun x=>(x.toNat:Int)).map fun m=> .lit (.int .u32 m)),p):=by rw[←zZl];exact h4
 have e:(qZ7.map fun x=>(x.toNat:Int)).map (T.int .u32)=qZ7.map zW:=by rw[List.map_map];rfl
 rw[←e];exact⟨zZh (F:=fun b=>b<W.heap.size) h1 h3 Tryz.underlying170 Tryz.underlying161 (by kernel_rfl) (by kernel_rfl) (by decide) h4' (fun h=>h),zXf h1 h3 Tryz.underlying170 (by kernel_rfl) h4'⟩
theorem jFg (W:World){ps:List MemPlace}(hv:DataW.LaidVars Tryz.prog W qB7 ps)(g:Nat)(cs:List T)(hg:gl0 g=some cs):qV (fun _=>none) (fun b=>b<W.heap.size) W (.ro cs) (.pointer (some ⟨g,0,none⟩))∧GSz W g cs.length:=by
 unfold gl0 at hg;split at hg
 ·rename_i h0;subst h0;cases hg;exact jQ6 W hv
 ·cases hg
theorem zSq (W:World)(h:laidMetH Tryz.prog qB7 W):zJ8 gl0 (fun b=>b<W.heap.size) W:=by
 rw[MakeChecks.laidMetH_plain _ _ _ (by kernel_rfl)] at h;obtain⟨ps,hv,_⟩:=h;exact⟨fun _ h=>h,fun g cs hg=>(jFg W hv g cs hg).1,fun g cs hg=>(jFg W hv g cs hg).2⟩
abbrev jFl:TypeId:=4
theorem zHi:Tryz.prog.underlying jFl=some .bool:=Tryz.underlying4
theorem qSd (os:Os)(args:Array Value):((World.doorLaid Tryz.prog 400 os).forCall (fun _ _=>0) ⟨#[],args,[]⟩).Shaped Tryz.prog:=World.shaped_of_RefB (by kernel_rfl) (by kernel_rfl)
theorem qR7 (os:Os)(args:Array Value):laidMetH Tryz.prog qB7 ((World.doorLaid Tryz.prog 400 os).forCall (fun _ _=>0) ⟨#[],args,[]⟩).memory:=
 laidMetH_of_parts3 (fuel:=8) (laidMet_of_run' 8 (by kernel_rfl) (by kernel_rfl)) (by kernel_rfl) (by kernel_rfl)
end Go.Proofs.YtekghmfbgbhobaaGreatDoor
end
section
set_option maxRecDepth 20000
namespace Go.Eng
theorem qJ1 {y:T}(h:(Ty.int .i64).is y) : ∃ n:Int,(-9223372036854775808≤n∧n<9223372036854775808)∧y = .int .i64 n:=by
 obtain⟨n,hw,rfl⟩:=h;refine⟨n,?_,rfl⟩;simp only[Lit.wf,Bool.and_eq_true,decide_eq_true_eq] at hw;obtain⟨h1,h2⟩:=hw;have e1:IntKind.i64.min = -9223372036854775808:=by decide
 have e2:IntKind.i64.max=9223372036854775807:=by decide
 rw[e1] at h1;rw[e2] at h2;omega
theorem jDb {y:T}(h:(Ty.int .u8).is y) : ∃ b:UInt8,y=qA b:=by
 obtain⟨n,hw,rfl⟩:=h;simp only[Lit.wf,Bool.and_eq_true,decide_eq_true_eq] at hw;obtain⟨h1,h2⟩:=hw;have e1:IntKind.u8.min=0:=by decide
 have e2:IntKind.u8.max=255:=by decide
 rw[e1] at h1;rw[e2] at h2;refine⟨UInt8.ofNat n.toNat,?_⟩;unfold qA;congr 1;rw[UInt8.toNat_ofNat'];omega
theorem zXo {y:T}(h:Ty.bool.is y) : ∃ b:Bool,y = .bool b:=h
theorem zMd {α:Type}{f:α→T}{es:List T}(h : ∀ y∈es,∃ a,y=f a) : ∃ l:List α,es=l.map f:=by
 induction es with
 | nil=>exact⟨[],rfl⟩
 | cons y r ih=>
  obtain⟨a,rfl⟩:=h y (.head _);obtain⟨l,rfl⟩:=ih (fun z hz=>h z (.tail _ hz));exact⟨a::l,rfl⟩
theorem mx:maxLen=9223372036854775807:=by decide
theorem qCp {y:T}(h:(Ty.sl (.int .u8)).is y) : ∃ bs:List UInt8,bs.length≤9223372036854775807∧y = .sl (bs.map qA):=by
 obtain⟨es,hl,he,rfl⟩:=h;obtain⟨bs,rfl⟩:=zMd (f:=qA) (fun y hy=>jDb (he y hy));rw[List.length_map,mx] at hl;exact⟨bs,hl,rfl⟩
theorem zXp {y:T}(h:(Ty.sl (.sl (.int .u8))).is y) : ∃ l:List (List UInt8),l.length≤9223372036854775807∧(∀ d∈l,d.length<9223372036854775808)∧y = .sl (l.map bsT):=by
 obtain⟨es,hl,he,rfl⟩:=h;obtain⟨l,hl2⟩:=zMd (f:=bsT) (es:=es) (fun y hy=>by
  obtain⟨bs,_,h2⟩:=qCp (he y hy);exact⟨bs,h2⟩)
 subst hl2;rw[List.length_map,mx] at hl;refine⟨l,hl,fun d hd=>?_,rfl⟩;obtain⟨bs,hb,h2⟩:=qCp (he (bsT d) (List.mem_map_of_mem hd));have h3:d.map qA=bs.map qA:=by
  have:T.sl (d.map qA)=T.sl (bs.map qA):=h2;exact T.sl.inj this
 have h4:=congrArg List.length h3;simp only[List.length_map] at h4;omega
theorem jI6 {y:T}(h:(Ty.st [.int .i64,.int .i64]).is y) : ∃ a b:Int,(-9223372036854775808≤a∧a<9223372036854775808)∧(-9223372036854775808≤b∧b<9223372036854775808)∧y = .agg [.int .i64 a,.int .i64 b]:=by
 obtain⟨cs,hc,rfl⟩:=h;obtain⟨x,r,hx,hr,rfl⟩:=hc;obtain⟨x2,r2,hx2,hr2,rfl⟩:=hr;cases hr2;obtain⟨a,ha,rfl⟩:=qJ1 hx;obtain⟨b,hb,rfl⟩:=qJ1 hx2;exact⟨a,b,ha,hb,rfl⟩
theorem zQy {y:T}(h:(Ty.sl (.sl (.int .u8))).is y) : ∃ l:List (List UInt8),l.length≤9223372036854775807∧(∀ d∈l,d.length≤9223372036854775807)∧y = .sl (l.map bsT):=by
 obtain⟨l,h1,h2,h3⟩:=zXp h;exact⟨l,h1,fun d hd=>by have:=h2 d hd;omega,h3⟩
theorem jP8 {y:T}(h:(Ty.st [.int .i64,.int .i64,.sl (.sl (.int .u8)),.sl (.int .u8)]).is y) : ∃ (a b:Int) (l:List (List UInt8)) (d:List UInt8),(l.length≤9223372036854775807∧(∀ d∈l,d.length≤9223372036854775807)∧d.length≤9223372036854775807)∧y = .agg [.int .i64 a,.int .i64 b,.sl (l.map bsT),.sl (d.map qA)]:=by
 obtain⟨cs,hc,rfl⟩:=h;obtain⟨x,r,hx,hr,rfl⟩:=hc;obtain⟨x2,r2,hx2,hr2,rfl⟩:=hr;obtain⟨x3,r3,hx3,hr3,rfl⟩:=hr2;obtain⟨x4,r4,hx4,hr4,rfl⟩:=hr3;cases hr4;obtain⟨a,_,rfl⟩:=qJ1 hx;obtain⟨b,_,rfl⟩:=qJ1 hx2;obtain⟨l,h1,h2,rfl⟩:=zQy hx3;obtain⟨d,h3,rfl⟩:=qCp hx4;exact⟨a,b,l,d,⟨h1,h2,h3⟩,rfl⟩
end Go.Eng
end
