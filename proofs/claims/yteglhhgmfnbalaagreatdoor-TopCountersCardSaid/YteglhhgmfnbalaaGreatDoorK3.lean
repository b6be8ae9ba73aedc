/- A part of an abstract machine, its walks, their tie. -/
import Derived.Test.YteglhhgmfnbalaaGreatDoorK2
set_option linter.all false
section
namespace Go.Eng
open List
variable {cx:Cx}{β:Nat->Option BI}{F:Nat->Prop}{fm:Nat->Option V}{hm:Nat->Option Ob}{a:Act}{w:World}
theorem qH {α γ:Type}{o:Option α}{f:α->Q γ}{r:γ×List Nat}(h:((Q.of o).bind f).run hm=some r):∃x,o=some x/\(f x).run hm=some r:=by
 cases o with
 |none=>cases h
 |some x=>exact⟨x,rfl,h⟩
theorem qM {α:Type}{b:Prop}[Decidable b]{q:Q α}{r:α×List Nat}(h:(Q.assert b q).run hm=some r):b/\q.run hm=some r:=by
 unfold Q.assert at h;split at h
 .exact⟨by assumption,h⟩
 .cases h
theorem yV {α:Type}{id:Nat}{k:Ob->Q α}{x:α}{l:List Nat}(h:(Q.get id k).run hm=some (x,l)):∃o l',hm id=some o/\(k o).run hm=some (x,l')/\l=id::l':=by
 simp only[Q.run]at h;cases ho:hm id with
 |none=>rw[ho]at h;cases h
 |some o=>
  rw[ho]at h;simp only at h;cases hk:(k o).run hm with
  |none=>rw[hk]at h;cases h
  |some p=>
   obtain⟨x',l'⟩:=p;rw[hk]at h;simp only[Option.some.injEq,Prod.mk.injEq]at h;obtain⟨rfl,rfl⟩:=h;exact⟨o,l',rfl,hk,rfl⟩
theorem xT {α:Type}{id:Nat}{k:Q α}{x:α}{l:List Nat}(h:(Q.free id k).run hm=some (x,l)):hm id=none/\∃l',k.run hm=some (x,l')/\l=id::l':=by
 simp only[Q.run]at h;cases ho:hm id with
 |some o=>rw[ho]at h;cases h
 |none=>
  rw[ho]at h;simp only at h;cases hk:k.run hm with
  |none=>rw[hk]at h;cases h
  |some p=>
   obtain⟨x',l'⟩:=p;rw[hk]at h;simp only[Option.some.injEq,Prod.mk.injEq]at h;obtain⟨rfl,rfl⟩:=h;exact⟨rfl,l',rfl,rfl⟩
theorem qS {α γ:Type}{q:Q α}{f:α->Q γ}{r:γ}{l:List Nat}(h:(q.bind f).run hm=some (r,l)):∃x l1 l2,q.run hm=some (x,l1)/\(f x).run hm=some (r,l2)/\l=l1++l2:=by
 rw[Q.run_bind]at h;cases hq:q.run hm with
 |none=>rw[hq]at h;cases h
 |some p=>
  obtain⟨x,l1⟩:=p;rw[hq]at h;simp only at h;cases hf:(f x).run hm with
  |none=>rw[hf]at h;cases h
  |some p2=>
   obtain⟨r2,l2⟩:=p2;rw[hf]at h;simp only[Option.some.injEq,Prod.mk.injEq]at h;obtain⟨rfl,rfl⟩:=h;exact⟨x,l1,l2,rfl,hf,rfl⟩
theorem qE {α:Type}{x y:α}{l:List Nat}(h:(Q.ret x).run hm=some (y,l)):y=x/\l=[]:=by
 simp only[Q.run,Option.some.injEq,Prod.mk.injEq]at h;exact⟨h.1.symm,h.2.symm⟩
def zCe (P:Program)(fs:Array Field)(ps:List Nat):Option (List (Nat×Nat)):=
 ps.mapM λi=>(fs[i]?).bind λf=>(P.info? f.type).map λj=>(f.offset,j.size)
def qU4 (P:Program)(e:TypeId):Option (AO×List Operand):=
 match P.underlying e,P.info? e with
 |some d,some i=>
  match i.zero with
  |some z=>
   if qF0 z.cells then
    match d with
    |.array _ _=>(z.cells.toList.mapM V.ofConst).bind λcs=>if cs.length<=1000000 then some (.new 1 cs,[]) else none
    |d=>(zPb (vV d) z).map λv=>(.new v.cells.length [v],[])
   else none
  |none=>none
 |_,_=>none
def zA4 (P:Program)(t:TypeId)(ps:List (Nat×Operand)):Option (AO×List Operand):=
 match P.underlying t,(P.info? t).bind (·.zero) with
 |some (.struct fs),some (.agg z)=>
  if qF0 z/\(fs.all λf=>(P.info? f.type).isSome)=true then(z.toList.mapM V.ofConst).bind λcs=>(zCe P fs (ps.map (·.1))).map λpl=>(.build cs pl,ps.map (·.2)) else none
 |some (.array _ e),some (.agg z)=>
  if qF0 z then(z.toList.mapM V.ofConst).bind λcs=>(P.info? e).map λj=>(.build cs (ps.map λp=>(p.1*j.size,j.size)),ps.map (·.2)) else none
 |_,_=>none
def qVw (P:Program)(t:TypeId)(len:Nat)(ps:List (Nat×Operand)):Option (AO×List Operand):=
 match P.underlying t with
 |some (.slice e)=>
  match P.info? e,P.underlying e with
  |some i,some d=>
   match i.zero with
   |some z=>
    if qF0 z.cells then(zPb (vV d) z).bind λv=>if v.cells.length=i.size/\0<i.size/\len*i.size<=16777216 then some (.bslice i.size len v (ps.map (·.1)),ps.map (·.2)) else none
    else none
   |none=>none
  |_,_=>none
 |_=>none
def qRz (P:Program)(t:TypeId)(x:Operand):Option (AO×List Operand):=
 match P.info? t,P.underlying t with
 |some i,some d=>if vV d\/i.size=1 then some (.load i.size (vV d),[x]) else none
 |_,_=>none
def qZ9 (P:Program)(src dst:TypeId)(x:Operand):Option (AO×List Operand):=
 match P.underlying src,P.underlying dst with
 |some (.int _),some (.int k)=>some (.conv k,[x])
 |some .string,some .string=>some (.smov,[x])
 |some .string,some (.slice e)=>match P.underlying e with
  |some (.int .u8)=>some (.s2b,[x])
  |_=>none
 |some (.slice e),some .string=>match P.underlying e with
  |some (.int .u8)=>some (.b2s,[x])
  |_=>none
 |some (.slice _),some (.slice e)=>if src=dst then match P.underlying e with
   |some (.int .u8)=>some (.idsl,[x])
   |_=>none
  else none
 |_,_=>none
def zPr (P:Program)(t:TypeId)(l c:Operand):Option (AO×List Operand):=
 match P.underlying t with
 |some (.slice e)=>
  match P.info? e,P.underlying e with
  |some i,some d=>
   match i.zero with
   |some z=>if qF0 z.cells then(zPb (vV d) z).bind λv=>if v.cells.length=i.size then some (.mkslice i.size i.bytes v,[l,c]) else none else none
   |none=>none
  |_,_=>none
 |_=>none
def zA9 (P:Program)(t:TypeId)(x:Operand)(lo hi mx:Option Operand):Option (AO×List Operand):=
 match P.underlying t with
 |some .string=>some (.sslice lo.isSome hi.isSome mx.isSome,x::(lo.toList++hi.toList++mx.toList))
 |some (.slice e)=>(P.info? e).map λi=>(.slice i.size lo.isSome hi.isSome mx.isSome,x::(lo.toList++hi.toList++mx.toList))
 |some (.array n e)=>(P.info? e).map λi=>(.aslice n i.size lo.isSome hi.isSome mx.isSome,x::(lo.toList++hi.toList++mx.toList))
 |_=>none
def zA5 (P:Program)(s:TypeId)(x:Operand)(f:Nat):Option (AO×List Operand):=
 match P.underlying s with
 |some (.struct fs)=>match fs[f]? with
  |some fd=>match P.info? fd.type with
   |some i=>if i.size=0 then none else some (.faddr fd.offset,[x])
   |none=>none
  |none=>none
 |_=>none
def zA6 (P:Program)(s:TypeId)(x:Operand)(f:Nat):Option (AO×List Operand):=
 match P.underlying s with
 |some (.struct fs)=>match fs[f]? with
  |some fd=>match P.info? fd.type,P.underlying fd.type with
   |some i,some d=>some (.field fd.offset i.size (vV d),[x])
   |_,_=>none
  |none=>none
 |_=>none
def zA7 (P:Program)(t:TypeId)(x ix:Operand):Option (AO×List Operand):=
 match P.underlying t with
 |some (.slice e)=>(P.info? e).map λi=>(.iaddr i.size,[x,ix])
 |some (.array n e)=>(P.info? e).map λi=>(.aaddr n i.size,[x,ix])
 |_=>none
def zA8 (P:Program)(t:TypeId)(x ix:Operand):Option (AO×List Operand):=
 match P.underlying t with
 |some (.array n e)=>match P.info? e,P.underlying e with
  |some i,some d=>some (.index n i.size (vV d),[x,ix])
  |_,_=>none
 |some .string=>some (.sindex,[x,ix])
 |_=>none
def qZ8 (P:Program)(b:Builtin)(args:List Operand)(ts:List TypeId):Option (AO×List Operand):=
 match b,args,ts with
 |.len,[x],t::_=>match P.underlying t with
  |some .string=>some (.slen,[x])
  |some (.slice _)=>some (.len,[x])
  |some (.array n _)=>some (.lenc n,[x])
  |some (.pointer p)=>match P.underlying p with
   |some (.array n _)=>some (.lenc n,[x])
   |_=>none
  |_=>none
 |.append,[s,x],t::t'::_=>match P.underlying t,P.underlying t' with
  |some (.slice e),some (.slice _)=>match P.info? e with
   |some i=>match i.zero with
    |some z=>if z.cells.size=i.size then some (.append i.size i.bytes,[s,x]) else none
    |none=>none
   |none=>none
  |some (.slice e),some .string=>match P.info? e with
   |some i=>match i.zero with
    |some z=>if z.cells.size=i.size/\i.size=1/\i.bytes=1 then some (.appstr,[s,x]) else none
    |none=>none
   |none=>none
  |_,_=>none
 |.copy,[d,x],t::t'::_=>match P.underlying t,P.underlying t' with
  |some (.slice e),some (.slice _)=>(P.info? e).map λi=>(.copy i.size,[d,x])
  |_,_=>none
 |.clear,[x],t::_=>match P.underlying t with
  |some (.slice e)=>match P.info? e with
   |some i=>match i.zero with
    |some z=>if z.cells.size=i.size/\qF0 z.cells=true then some (.clr i.size,[x]) else none
    |none=>none
   |none=>none
  |_=>none
 |.min,[x,y],_=>some (.min,[x,y])
 |.max,[x,y],_=>some (.max,[x,y])
 |_,_,_=>none
def zPs (fn:Fn)(first caps:Array Operand):Option (AO×List Operand):=
 match fn with
 |.func f=>if first.size=0 then some (.mkfn f,caps.toList) else if first.size=1/\caps.size=0 then some (.mkbd f,first.toList) else none
 |_=>none
def zJ4 (P:Program)(t:TypeId)(n:Nat)(e:TypeId)(neg:Bool)(x y:Operand):Option (AO×List Operand):=
 match P.underlying e,P.info? e with
 |some (.int k),some i=>if i.size=1/\P.eqGuardType P.depth t=false then some (.aeq n k neg,[x,y]) else none
 |_,_=>none
def zJ5 (P:Program)(t:TypeId)(fs:Array Field)(neg:Bool)(x y:Operand):Option (AO×List Operand):=
 match fs.toList with
 |f::_=>match P.underlying f.type with
  |some (.int k)=>if zEq P k fs.toList 0=true/\P.eqGuardType P.depth t=false/\P.stoodInHeld t=false then some (.aeq fs.size k neg,[x,y]) else none
  |_=>none
 |[]=>none
def zPt (P:Program):Op->Option (AO×List Operand)
 |.move x=>some (.mov,[x])
 |.assign x=>some (.mov,[x])
 |.pick c x y=>some (.pick,[c,x,y])
 |.alloc e=>qU4 P e
 |.box e x=>match P.underlying e with
  |some (.array _ _)=>some (.boxArr,[x])
  |some _=>some (.box,[x])
  |none=>none
 |.build t ps=>zA4 P t ps.toList
 |.buildSlice t len ps=>qVw P t len ps.toList
 |.load t x=>qRz P t x
 |.store t x v=>(P.info? t).map λi=>(.store i.size,[x,v])
 |.nilCheck x=>some (.nilchk,[x])
 |.binOp op t x y _=>match op,P.underlying t with
  |.eql,some .bool=>some (.beq false,[x,y])
  |.neq,some .bool=>some (.beq true,[x,y])
  |.eql,some (.slice _)=>some (.nileq false,[x,y])
  |.neq,some (.slice _)=>some (.nileq true,[x,y])
  |.eql,some (.array n e)=>zJ4 P t n e false x y
  |.neq,some (.array n e)=>zJ4 P t n e true x y
  |.eql,some (.struct fs)=>zJ5 P t fs false x y
  |.neq,some (.struct fs)=>zJ5 P t fs true x y
  |op,_=>some (.bin op,[x,y])
 |.unOp op _ x=>some (.un op,[x])
 |.convert s d x=>qZ9 P s d x
 |.makeFunc fn first caps=>zPs fn first caps
 |.makeSlice t l c=>zPr P t l c
 |.slice t x lo hi mx=>zA9 P t x lo hi mx
 |.fieldAddr s x f=>zA5 P s x f
 |.field s x f=>zA6 P s x f
 |.indexAddr t x ix=>zA7 P t x ix
 |.index t x ix=>zA8 P t x ix
 |.extract x i=>some (.extract i,[x])
 |.call { callee:= .builtin b,args,argTypes }=>qZ8 P b args.toList argTypes.toList
 |_=>none
end Go.Eng
end
section
namespace Go.Eng
open List
variable {cx:Cx}{β:Nat->Option BI}{F:Nat->Prop}{fm:Nat->Option V}{hm:Nat->Option Ob}{a:Act}{w:World}
def jB0 (cx:Cx)(β:Nat->Option BI)(F:Nat->Prop)(fm:Nat->Option V)(hm:Nat->Option Ob)(a:Act)(w:World)(v:V)(W:Wr)(s:Sem Next):Prop:=
 ∃n w' β' x,s.run cx.P w=.ok n w'/\(n=.value x\/n=.skip/\x=undef)/\Rel cx β' F fm (upd hm W) a w'/\qR β' F w' v x/\∀i bi,β i=some bi->β' i=some bi
theorem Out.o {v:V}{W:Wr}{s:Sem Value}(h:Out cx β F fm hm a w v W s):jB0 cx β F fm hm a w v W (do pure (.value (<-s))):=by
 obtain⟨x,w',β',h1,h2,h3,h4⟩:=h;exact⟨.value x,w',β',x,by simp[h1],.inl rfl,h2,h3,h4⟩
theorem zTi:qR β F w (.tup []) undef:= .tup [] #[] rfl (by intro i c u hc;simp at hc)
theorem jKd.o {W:Wr}{s:Sem Unit}(h:jKd cx β F fm hm a w W s):jB0 cx β F fm hm a w (.tup []) W (do s;pure .skip):=by
 obtain⟨w',h1,h2⟩:=h;exact⟨.skip,w',β,undef,by simp[h1],.inr ⟨rfl,rfl⟩,h2,zTi,λ_ _ h=>h⟩
variable {nb:Nat}{v:V}{W:Wr}{l:List Nat}
theorem jPw (R:Rel cx β F fm hm a w){vs:List V}(hs:(qXl vs).run hm=some ((v,W),l)){c x y:Value}(h:∃vc vx vy,vs=[vc,vx,vy]/\qR β F w vc c/\qR β F w vx x/\qR β F w vy y) :
  Out cx β F fm hm a w v W (do pure (if <-asBool c then x else y)):=by
 obtain⟨vc,vx,vy,rfl,h1,h2,h3⟩:=h;unfold qXl at hs;split at hs
 .rename_i b p q heq;simp only[List.cons.injEq,and_true]at heq;obtain⟨rfl,rfl,rfl⟩:=heq;obtain⟨h4,rfl⟩:=qE hs;cases h4;rw[h1.bool_inv];cases b
  .exact Out.same R (by simp[asBool]) h3
  .exact Out.same R (by simp[asBool]) h2
 .cases hs
theorem jW0 (R:Rel cx β F fm hm a w){e:TypeId}{ao:AO}{xs:List Operand}(han:qU4 cx.P e=some (ao,xs))(hs:(sem ao [] nb).run hm=some ((v,W),l)) :
  Out cx β F fm hm a w v W (Instr.alloc e true (.tuple #[]))/\xs=[]:=by
 unfold qU4 at han;split at han
 .rename_i d i hd hi;split at han
  .rename_i z hz;split at han
   .rename_i hone;have h1':∀u∈z.cells,u.oneCell'=true:=by
     unfold qF0 at hone;rw[Array.all_eq_true_iff_forall_mem]at hone;exact hone
    have hrun:∀(p:Value)(w':World),((do pure (.pointer (some (<-newVar e z))):Sem Value)).run cx.P w=.ok p w'->(Instr.alloc e true (.tuple #[])).run cx.P w=.ok p w':=by
     intro p w' h;unfold Instr.alloc;simp only[zeroValue,typeInfo,Sem.run_bind,run_program,Result.andThen_ok,hi,Sem.run_pure,hz];rw[<-h];simp
    split at han
    ·
     simp only[Option.bind_eq_some_iff]at han;obtain⟨cs,hcs,han⟩:=han;split at han
     .rename_i hmax;cases han;simp only[sem,zFx]at hs;obtain⟨hnb,l',hr,rfl⟩:=xT hs;obtain⟨hr1,rfl⟩:=qE hr;cases hr1;obtain⟨hl,hg⟩:=qQv hcs;have hlen:z.cells.size=cs.length:=by simpa using hl.symm
      have hH:vB β F w cs 1 z.cells:=by
       intro j y hy;have hj:j<z.cells.size:=by rw[hlen];exact(List.getElem?_eq_some_iff.1 hy).1
       have hr2:qR β F w y z.cells[j]:=qBw (hg j z.cells[j] y (by simp[hj]) hy);have ho2:z.cells[j].oneCell'=true:=h1' _ sM;rw[hr2.one_cells ho2];refine⟨rfl,λk q hq=>?_⟩;cases k with
       |succ k=>simp at hq
       |zero=>simp at hq;subst hq;exact⟨z.cells[j],by simp[hj],hr2,ho2⟩
      have hal:=R.alloc (w':=w.alloc (.cells z.cells e)) (nb:=nb) hnb (c:=z.cells) (e:=e) (fz:=(0,0)) (wr:=true) (es:=cs) (full:=true) (sz:=1) (room:=cs.length) rfl rfl rfl rfl rfl (λj=>⟨λ_=>sM,sM⟩)
       (by rw[hlen,Nat.mul_one]) (Nat.le_refl _) (by unfold maxLen;omega) sM hH
      exact⟨⟨_,_,_,hrun _ _ (by simp[newVar,newRow]),hal.1,.ref nb 0 0 w.heap.size _ _ zG,hal.2⟩,rfl⟩
     .cases han
    ·
     simp only[Option.map_eq_some_iff]at han;obtain⟨zv,hzv,han⟩:=han;cases han;simp only[sem,zFx]at hs;obtain⟨hnb,l',hr,rfl⟩:=xT hs;obtain⟨hr1,rfl⟩:=qE hr;cases hr1;obtain⟨hr2,hp⟩:=qQa (β:=β) (F:=F) (w:=w) hzv hone;have hal:=R.alloc (w':=w.alloc (.cells z.cells e)) (nb:=nb) hnb (c:=z.cells) (e:=e) (fz:=(0,0)) (wr:=true) (es:=[zv]) (full:=true) (sz:=zv.cells.length) (room:=1) rfl rfl rfl rfl rfl (λj=>⟨λ_=>sM,sM⟩)
      (by rw[hr2.cells.1,Nat.one_mul]) sM (by decide) sM (vB.one hr2 hp)
     exact⟨⟨_,_,_,hrun _ _ (by simp[newVar,newRow]),hal.1,.ref nb 0 0 w.heap.size _ _ zG,hal.2⟩,rfl⟩
   .cases han
  .cases han
 .cases han
theorem jWx (R:Rel cx β F fm hm a w){e:TypeId}{x:Value}{vx:V}(h:qR β F w vx x)(hs:(zFu nb [vx]).run hm=some ((v,W),l)):Out cx β F fm hm a w v W (Instr.box e x):=by
 simp only[zFu]at hs;obtain⟨hp,hs⟩:=qM hs;obtain⟨hnb,l',hr,rfl⟩:=xT hs;obtain⟨hr1,rfl⟩:=qE hr;cases hr1;have hal:=R.alloc (w':=w.alloc (.cells x.cells e)) (nb:=nb) hnb (c:=x.cells) (e:=e) (fz:=(0,0)) (wr:=true) (es:=[vx]) (full:=true) (sz:=vx.cells.length) (room:=1) rfl rfl rfl rfl rfl (λj=>⟨λ_=>sM,sM⟩)
  (by rw[h.cells.1,Nat.one_mul]) sM (by decide) sM (vB.one h hp)
 exact⟨_,_,_,by simp[Instr.box,newVar,newRow],hal.1,.ref nb 0 0 w.heap.size _ _ zG,hal.2⟩
theorem jAc (R:Rel cx β F fm hm a w){e:TypeId}{x:Value}{vx:V}(h:qR β F w vx x)(hs:(qLp nb [vx]).run hm=some ((v,W),l)):Out cx β F fm hm a w v W (Instr.box e x):=by
 simp only[qLp]at hs;obtain⟨⟨hp,hmax⟩,hs⟩:=qM hs;obtain⟨hnb,l',hr,rfl⟩:=xT hs;obtain⟨hr1,rfl⟩:=qE hr;cases hr1;have hal:=R.alloc (w':=w.alloc (.cells x.cells e)) (nb:=nb) hnb (c:=x.cells) (e:=e) (fz:=(0,0)) (wr:=true) (es:=vx.cells) (full:=true) (sz:=1) (room:=vx.cells.length) rfl rfl rfl rfl rfl (λj=>⟨λ_=>sM,sM⟩)
  (by rw[h.cells.1,Nat.mul_one]) (Nat.le_refl _) (by unfold maxLen;omega) sM (vB.cells h hp)
 exact⟨_,_,_,by simp[Instr.box,newVar,newRow],hal.1,.ref nb 0 0 w.heap.size _ _ zG,hal.2⟩
theorem qSh {ps:List (Nat×Operand)}{vs:List V}(h:xU (λx v=>qR β F w v (a.eval x)) (ps.map (·.2)) vs) :
  xU (λ(p:Nat×Value) v=>qR β F w v p.2) (ps.map λp=>(p.1,a.eval p.2)) vs:=by
 induction ps generalizing vs with
 |nil=>cases h;exact .nil
 |cons p ps ih=>
  simp only[map_cons]at h⊢;cases h with
  |cons h1 h2=>exact .cons h1 (ih h2)
theorem qV6 {z:Array Value}{cs:List V}(hone:qF0 z=true)(hcs:z.toList.mapM V.ofConst=some cs):qTq β F w cs z:=by
 have h1':∀u∈z,u.oneCell'=true:=by
  unfold qF0 at hone;rw[Array.all_eq_true_iff_forall_mem]at hone;exact hone
 obtain⟨hl,hg⟩:=qQv hcs;exact⟨by simpa using hl.symm,h1',λi y u hy hu=>qBw (hg i u y (by simpa using hu) hy)⟩
theorem qTq.mk {cs:List V}{c:Array Value}(h:qTq β F w cs c):qR β F w (V.mk cs) (.agg c):=qR.mk h.1 h.2.1 h.2.2
theorem qW4 {P:Program}{fs:Array Field}:∀{ps:List Nat}{pl:List (Nat×Nat)}{places:Array (Nat×Nat)},zCe P fs ps=some pl->
  (∀(i:Nat)(f:Field)(j:TypeInfo),fs[i]?=some f->P.info? f.type=some j->places[i]?=some (f.offset,j.size))->ps.map (λi=>places[i]?)=pl.map some
 |[],pl,places,h,_=>by simp[zCe]at h;subst h;rfl
 |i::ps,pl,places,h,hp=>by
  unfold zCe at h;simp only[mapM_cons,Option.pure_def,Option.bind_eq_bind,Option.bind_eq_some_iff,Option.map_eq_some_iff]at h;obtain⟨q,⟨f,hf,j,hj,rfl⟩,pl',hpl',h⟩:=h;cases h;have:=qW4 (places:=places) (P:=P) (fs:=fs) (ps:=ps) (pl:=pl') hpl' hp;simp only[map_cons,hp i f j hf hj,this]
theorem zNz {P:Program}{w:World}(fs:Array Field)(g:Field->Sem (Nat×Nat))(hg:∀f j,P.info? f.type=some j->(g f).run P w=.ok (f.offset,j.size) w) :
  (∀(f:Field),f∈fs->∃j,P.info? f.type=some j)->
  ∃places:Array (Nat×Nat),(fs.mapM g).run P w=.ok places w/\
   ∀(i:Nat)(f:Field)(j:TypeInfo),fs[i]?=some f->P.info? f.type=some j->places[i]?=some (f.offset,j.size):=by
 intro hall;have key:∀(l:List Field),(∀f∈l,∃j,P.info? f.type=some j)->∃r:List (Nat×Nat),(l.mapM g).run P w=.ok r w/\
   ∀(i:Nat)(f:Field)(j:TypeInfo),l[i]?=some f->P.info? f.type=some j->r[i]?=some (f.offset,j.size):=by
  intro l
  induction l with
  |nil=>intro _;exact⟨[],rfl,by intro i f j h;simp at h⟩
  |cons f l ih=>
   intro h;obtain⟨j,hj⟩:=h f sM;obtain⟨r,h1,h2⟩:=ih (λg hg=>h g (by simp[hg]));refine⟨(f.offset,j.size)::r,by simp[mapM_cons,hg f j hj,h1],λi g k hg hk=>?_⟩;cases i with
   |zero=>simp at hg;subst hg;rw[hj]at hk;cases hk;rfl
   |succ i=>simp at hg;simpa using h2 i g k hg hk
 obtain⟨r,h1,h2⟩:=key fs.toList (λf hf=>hall f (by simpa using hf));refine⟨r.toArray,?_,λi f j hf hj=>by simpa using h2 i f j (by simpa using hf) hj⟩;rw[Array.mapM_eq_mapM_toList];simp[h1]
theorem jIa (R:Rel cx β F fm hm a w){t:TypeId}{ps:Array (Nat×Operand)}{ao:AO}{xs:List Operand}{vs:List V}(han:zA4 cx.P t ps.toList=some (ao,xs))
  (hv:xU (λx v=>qR β F w v (a.eval x)) xs vs) (hs:(sem ao vs nb).run hm=some ((v,W),l)):Out cx β F fm hm a w v W (Instr.build t (ps.map λ(i,x)=>(i,a.eval x))):=by
 have hpe:(ps.map λ(i,x)=>(i,a.eval x)).toList=ps.toList.map λp=>(p.1,a.eval p.2):=sM
 unfold zA4 at han;split at han
 .rename_i fs z hd hz;split at han
  .rename_i hcond;obtain⟨hone,hall⟩:=hcond;simp only[Option.bind_eq_some_iff,Option.map_eq_some_iff]at han;obtain⟨cs,hcs,pl,hpl,han⟩:=han;cases han;simp only[sem,qQ4]at hs;obtain⟨cs',hf,hs⟩:=qH hs;obtain⟨hr,rfl⟩:=qE hs;cases hr;rw[Option.bind_eq_some_iff]at hz;obtain⟨i,hi,hz⟩:=hz;obtain⟨places,hp1,hp2⟩:=zNz (P:=cx.P) (w:=w) fs (λf=>(do pure (f.offset,<-sizeOf f.type))) (λf j hj=>by simp[yG hj]) (λf hf=>by
    rw[Array.all_eq_true_iff_forall_mem]at hall;exact Option.isSome_iff_exists.1 (hall f hf))
   have hmap:(ps.toList.map λp=>(p.1,a.eval p.2)).map (λp=>places[p.1]?)=pl.map some:=by
    rw[map_map,<-qW4 (places:=places) hpl hp2,map_map];rfl
   obtain⟨c',h1,h2⟩:=qPb (λi=>places[i]?) hmap (qSh hv) (qV6 hone hcs) hf;refine Out.same R ?_ h2.mk;unfold Instr.build;simp only[Sem.run_bind,zeroValue,typeInfo,run_program,Result.andThen_ok,hi,Sem.run_pure,hz,Value.cells,run_underlying hd,hp1];rw[hpe,h1];rfl
  .cases han
 .rename_i n e z hd hz;split at han
  .rename_i hone;simp only[Option.bind_eq_some_iff,Option.map_eq_some_iff]at han;obtain⟨cs,hcs,j,hj,han⟩:=han;cases han;simp only[sem,qQ4]at hs;obtain⟨cs',hf,hs⟩:=qH hs;obtain⟨hr,rfl⟩:=qE hs;cases hr;rw[Option.bind_eq_some_iff]at hz;obtain⟨i,hi,hz⟩:=hz;have hmap:(ps.toList.map λp=>(p.1,a.eval p.2)).map (λp=>some (p.1*j.size,j.size))=(ps.toList.map λp=>(p.1*j.size,j.size)).map some:=by
    rw[map_map,map_map];rfl
   obtain⟨c',h1,h2⟩:=qPb (λi=>some (i*j.size,j.size)) hmap (qSh hv) (qV6 hone hcs) hf;refine Out.same R ?_ h2.mk;unfold Instr.build;simp only[Sem.run_bind,zeroValue,typeInfo,run_program,Result.andThen_ok,hi,Sem.run_pure,hz,Value.cells,run_underlying hd,yG hj];rw[hpe,h1];rfl
  .cases han
 .cases han
theorem jAd (R:Rel cx β F fm hm a w){t:TypeId}{len:Nat}{ps:Array (Nat×Operand)}{ao:AO}{xs:List Operand}{vs:List V}(han:qVw cx.P t len ps.toList=some (ao,xs))
  (hv:xU (λx v=>qR β F w v (a.eval x)) xs vs) (hs:(sem ao vs nb).run hm=some ((v,W),l)):Out cx β F fm hm a w v W (Instr.buildSlice t len (ps.map λ(i,x)=>(i,a.eval x))):=by
 have hpe:(ps.map λ(i,x)=>(i,a.eval x)).toList=ps.toList.map λp=>(p.1,a.eval p.2):=sM
 unfold qVw at han;split at han
 .rename_i e hd;split at han
  .rename_i i d hi he;split at han
   .rename_i z hz;split at han
    .rename_i hone;simp only[Option.bind_eq_some_iff]at han;obtain⟨zv,hzv,han⟩:=han;split at han
     .rename_i hcond;obtain⟨hsz,hpos,h24⟩:=hcond;cases han;simp only[sem,qQ3]at hs;obtain⟨es,hf,hs⟩:=qH hs;obtain⟨hnb,l',hr,rfl⟩:=xT hs;obtain⟨hr1,rfl⟩:=qE hr;cases hr1;obtain⟨hr2,hp⟩:=qQa (β:=β) (F:=F) (w:=w) hzv hone;have hzsz:z.cells.size=i.size:=by rw[hr2.cells.1,hsz]
      have hH0:vB β F w (List.replicate len zv) i.size (madeCells z.cells (len*i.size)):=by
       rw[<-hsz];exact qLj hr2 hp (Nat.le_refl _)
      obtain⟨c',h1,h2,h3,h4⟩:=qWk (z:=i.size) (len:=len) (ps:=ps.toList.map λp=>(p.1,a.eval p.2)) (ix:=ps.toList.map (·.1)) (by rw[map_map];rfl) (qSh hv)
       sM (size_madeCells _ _) hH0 hf
      have hal:=R.alloc (w':=w.alloc (.cells c' e)) (nb:=nb) hnb (c:=c') (e:=e) (fz:=(0,0)) (wr:=true) (es:=es) (full:=true) (sz:=i.size) (room:=len) rfl rfl rfl rfl rfl (λj=>⟨λ_=>sM,sM⟩)
       h2 oM (by
        have:len<=len*i.size:=Nat.le_mul_of_pos_right len hpos;unfold maxLen;omega) (by simp[h3]) h4
      refine⟨.slice (some ⟨w.heap.size,0,none⟩) len len,_,_,?_,hal.1,?_,hal.2⟩
      .unfold Instr.buildSlice;simp only[Sem.run_bind,run_underlying hd,Result.andThen_ok,yG hi];rw[if_neg oM];by_cases h0:len*i.size=0
       .simp only[h0,if_true,Sem.run_bind,Sem.run_pure,Result.andThen_ok];have hmk:madeCells z.cells (len*i.size)=(Array.range 0).map λx=>(#[]:Array Value)[x%(#[]:Array Value).size]! := by
         rw[h0];simp[madeCells]
        rw[hmk]at h1;rw[hpe,h1];simp[newRow]
       .rw[if_neg h0];simp only[Sem.run_bind,zeroValue,typeInfo,run_program,Result.andThen_ok,hi,Sem.run_pure,hz];unfold madeCells at h1;rw[hpe,h1];simp[newRow]
      .have:=qR.sl (β:=qYp β nb ⟨some w.heap.size,i.size,len⟩) (F:=F) (w:=w.alloc (.cells c' e)) nb 0 len len w.heap.size i.size len ⟨w.heap.size,0,none⟩ zG oM oM (λ_=>sM) rfl;simpa using this
     .cases han
    .cases han
   .cases han
  .cases han
 .cases han
end Go.Eng
end
section
namespace Go.Eng
open List
variable {cx:Cx}{β:Nat->Option BI}{F:Nat->Prop}{fm:Nat->Option V}{hm:Nat->Option Ob}{a:Act}{w:World}
variable {nb:Nat}{v:V}{W:Wr}{l:List Nat}
theorem jP {α γ:Type}{R:α->γ->Prop}{x:α}{ys:List γ}(h:xU R [x] ys):∃y,ys=[y]/\R x y:=by
 cases h with|cons h1 h2=>cases h2;exact⟨_,rfl,h1⟩
theorem jQ {α γ:Type}{R:α->γ->Prop}{x y:α}{ys:List γ}(h:xU R [x,y] ys):∃p q,ys=[p,q]/\R x p/\R y q:=by
 cases h with|cons h1 h2=>obtain⟨q,rfl,h3⟩:=jP h2;exact⟨_,q,rfl,h1,h3⟩
theorem qZ7 {α γ:Type}{R:α->γ->Prop}{x y z:α}{ys:List γ}(h:xU R [x,y,z] ys):∃p q r,ys=[p,q,r]/\R x p/\R y q/\R z r:=by
 cases h with|cons h1 h2=>obtain⟨q,r,rfl,h3,h4⟩:=jQ h2;exact⟨_,q,r,rfl,h1,h3,h4⟩
theorem zT1 (R:Rel cx β F fm hm a w){t:TypeId}{x:Operand}{ao:AO}{xs:List Operand}{vs:List V}(han:qRz cx.P t x=some (ao,xs))
  (hv:xU (λx v=>qR β F w v (a.eval x)) xs vs) (hs:(sem ao vs nb).run hm=some ((v,W),l)):W=[]/\zPc cx.P β F w v (Instr.loadAt t (a.eval x)):=by
 unfold qRz at han;split at han
 .rename_i i d hi hd;split at han
  .rename_i hcond;cases han;have h1:vV d=false->i.size=1:=λh=>by rcases hcond with h'|h';(rw[h]at h';cases h');(exact h')
   obtain⟨p,rfl,hp⟩:=jP hv;simp only[sem,qSo]at hs;split at hs
   .rename_i id j f heq;cases heq;obtain⟨o,l',ho,hs2,_⟩:=yV hs;cases o with
    |live z es wr full=>
     obtain⟨y,hy,hs3⟩:=qH hs2;split at hs3
     .rename_i hle;obtain⟨u,hu,hs4⟩:=qH hs3;obtain⟨hr,_⟩:=qE hs4;cases hr;exact⟨rfl,zFh R hi hd h1 hp ho hy hle hu⟩
     .obtain⟨⟨rfl,hg,hone,hle⟩,hs4⟩:=qM hs3;obtain⟨hr,_⟩:=qE hs4;cases hr;exact⟨rfl,zFg R hi hd hg hp ho hy hone hle⟩
    |dead=>cases hs2
   .rename_i cs heq;cases heq;obtain⟨hle,hs⟩:=qM hs;split at hs
    .rename_i hg;obtain⟨hr,rfl⟩:=qE hs;cases hr;exact⟨rfl,qW0 R hi hd h1 hp hle (by rw[if_pos hg])⟩
    .rename_i hg;obtain⟨y,hy,hs⟩:=qH hs;obtain⟨hr,rfl⟩:=qE hs;cases hr;exact⟨rfl,qW0 R hi hd h1 hp hle (by rw[if_neg hg];exact⟨y,hy,rfl⟩)⟩
   .cases hs
  .cases han
 .cases han
theorem jPv (R:Rel cx β F fm hm a w){t:TypeId}{x:Operand}{ao:AO}{xs:List Operand}{vs:List V}(han:qRz cx.P t x=some (ao,xs))
  (hv:xU (λx v=>qR β F w v (a.eval x)) xs vs) (hs:(sem ao vs nb).run hm=some ((v,W),l)):Out cx β F fm hm a w v W (Instr.loadAt t (a.eval x)):=by
 obtain⟨rfl,h⟩:=zT1 R han hv hs;exact h.out R
theorem jIk (R:Rel cx β F fm hm a w){t:TypeId}{i:TypeInfo}(hi:cx.P.info? t=some i){p q:Value}{vp vq:V}(hp:qR β F w vp p)(hq:qR β F w vq q)
  (hs:(qQ8 i.size [vp,vq]).run hm=some ((v,W),l)):jKd cx β F fm hm a w W (Instr.storeAt t p q)/\v=.tup []:=by
 simp only[qQ8]at hs;split at hs
 .rename_i id j f u heq;cases heq;obtain⟨o,l',ho,hs2,_⟩:=yV hs;cases o with
  |dead=>cases hs2
  |live z es wr full=>
   cases wr with
   |false=>cases hs2
   |true=>
    obtain⟨y,hy,hs3⟩:=qH hs2;obtain⟨⟨hn,hpl⟩,hs4⟩:=qM hs3;split at hs4
    .rename_i hc;obtain⟨rfl,hyl⟩:=hc;obtain⟨hr,_⟩:=qE hs4;cases hr;refine⟨qMw R hi hp ho hy hq hpl hn oM (y':=vq) ?_,rfl⟩;unfold zY;rw[take_zero,nil_append,drop_eq_nil_of_le oM,append_nil]
    .split at hs4
     .rename_i hle;obtain⟨hr,_⟩:=qE hs4;cases hr;exact⟨qMw R hi hp ho hy hq hpl hn hle (V.cells_mk _),rfl⟩
     .obtain⟨⟨rfl,hone,hle⟩,hs5⟩:=qM hs4;obtain⟨hr,_⟩:=qE hs5;cases hr;exact⟨zCc R hi hp ho hy hq hpl hn hone hle,rfl⟩
 .cases hs
def zMu (x:Option Value)(q:Option Int):Prop:=(x=none/\q=none)\/∃k n,x=some (.int k n)/\q=some n
def jE0 (x:Option Value)(n:Int):Prop:=(x=none/\n=0)\/∃k,x=some (.int k n)
theorem qEf {lo hi mx:Option Operand}{vs:List V}{b:Int×Option Int×Option Int}(h:qDs lo.isSome hi.isSome mx.isSome vs=some b)
  (hv:xU (λx v=>qR β F w v (a.eval x)) (lo.toList++hi.toList++mx.toList) vs) :
  jE0 (lo.map a.eval) b.1/\zMu (hi.map a.eval) b.2.1/\zMu (mx.map a.eval) b.2.2/\(b.2.1=none->b.2.2=none):=by
 have ig:∀{v:V}{x:Value}{n:Int},qR β F w v x->vY v=some n->∃k,x=.int k n:=λh1 h2=>h1.intArg_inv h2
 cases lo with
 |none=>
  cases hi with
  |none=>
   cases mx with
   |none=>cases hv;simp[qDs]at h;subst h;exact⟨.inl ⟨rfl,rfl⟩,.inl ⟨rfl,rfl⟩,.inl ⟨rfl,rfl⟩,λ_=>rfl⟩
   |some c=>obtain⟨p,rfl,hp⟩:=jP hv;simp[qDs]at h
  |some hi=>
   cases mx with
   |none=>
    obtain⟨p,rfl,hp⟩:=jP hv;simp only[qDs,Option.isSome,Option.map_eq_some_iff]at h;obtain⟨n,hn,rfl⟩:=h;obtain⟨k,hk⟩:=ig hp hn;exact⟨.inl ⟨rfl,rfl⟩,.inr ⟨k,n,by simp[hk],rfl⟩,.inl ⟨rfl,rfl⟩,λh=>by cases h⟩
   |some mx=>
    obtain⟨p,q,rfl,hp,hq⟩:=jQ hv;simp only[qDs,Option.isSome,Option.bind_eq_some_iff,Option.map_eq_some_iff]at h;obtain⟨n,hn,m,hm',rfl⟩:=h;obtain⟨k,hk⟩:=ig hp hn;obtain⟨k2,hk2⟩:=ig hq hm';exact⟨.inl ⟨rfl,rfl⟩,.inr ⟨k,n,by simp[hk],rfl⟩,.inr ⟨k2,m,by simp[hk2],rfl⟩,λh=>by cases h⟩
 |some lo=>
  cases hi with
  |none=>
   cases mx with
   |none=>
    obtain⟨p,rfl,hp⟩:=jP hv;simp only[qDs,Option.isSome,Option.map_eq_some_iff]at h;obtain⟨n,hn,rfl⟩:=h;obtain⟨k,hk⟩:=ig hp hn;exact⟨.inr ⟨k,by simp[hk]⟩,.inl ⟨rfl,rfl⟩,.inl ⟨rfl,rfl⟩,λ_=>rfl⟩
   |some c=>obtain⟨p,q,rfl,hp,hq⟩:=jQ hv;simp[qDs]at h
  |some hi=>
   cases mx with
   |none=>
    obtain⟨p,q,rfl,hp,hq⟩:=jQ hv;simp only[qDs,Option.isSome,Option.bind_eq_some_iff,Option.map_eq_some_iff]at h;obtain⟨n,hn,m,hm',rfl⟩:=h;obtain⟨k,hk⟩:=ig hp hn;obtain⟨k2,hk2⟩:=ig hq hm';exact⟨.inr ⟨k,by simp[hk]⟩,.inr ⟨k2,m,by simp[hk2],rfl⟩,.inl ⟨rfl,rfl⟩,λh=>by cases h⟩
   |some mx=>
    obtain⟨p,q,r,rfl,hp,hq,hr⟩:=qZ7 hv;simp only[qDs,Option.isSome,Option.bind_eq_some_iff,Option.map_eq_some_iff]at h;obtain⟨n,hn,m,hm',x,hx,rfl⟩:=h;obtain⟨k,hk⟩:=ig hp hn;obtain⟨k2,hk2⟩:=ig hq hm';obtain⟨k3,hk3⟩:=ig hr hx;exact⟨.inr ⟨k,by simp[hk]⟩,.inr ⟨k2,m,by simp[hk2],rfl⟩,.inr ⟨k3,x,by simp[hk3],rfl⟩,λh=>by cases h⟩
theorem qBx {P:Program}{isS:Bool}{len cap:Nat}{low high max:Option Value}{l:Int}{hq mq:Option Int}(h1:jE0 low l)(h2:zMu high hq)(h3:zMu max mq)(h4:hq=none->mq=none)
  (h0:0<=l) (hl:l<=hq.getD len) (hh:hq.getD len<=mq.getD cap) (hmm:mq.getD cap<=cap) (hc:len<=cap) :
  (Instr.sliceBounds isS len cap low high max).run P w=.ok (l.toNat,(hq.getD len).toNat,(mq.getD cap).toNat) w:=by
 have e0:∀{n:Int},0<=n->((n.toNat:Nat):Int)=n:=λh=>Int.toNat_of_nonneg h
 rcases h3 with⟨rfl,rfl⟩|⟨km,m,rfl,rfl⟩
 .rcases h2 with⟨rfl,rfl⟩|⟨kh,h,rfl,rfl⟩
  .simp only[Option.getD_none]at *;rcases h1 with⟨rfl,rfl⟩|⟨kl,rfl⟩
   .simp[Instr.sliceBounds]
   .simp[Instr.sliceBounds,run_sliceBound w kl l len _ h0 hl]
  .simp only[Option.getD_none,Option.getD_some]at *;have hn:0<=h:=oM;rcases h1 with⟨rfl,rfl⟩|⟨kl,rfl⟩
   .simp[Instr.sliceBounds,run_sliceBound w kh h cap _ hn hh]
   .simp[Instr.sliceBounds,run_sliceBound w kh h cap _ hn hh,run_sliceBound w kl l h.toNat _ h0 (by rw[e0 hn];exact hl)]
 .rcases h2 with⟨rfl,rfl⟩|⟨kh,h,rfl,rfl⟩
  .cases h4 rfl
  .simp only[Option.getD_some]at *;have hn:0<=h:=oM;have hmn:0<=m:=oM;rcases h1 with⟨rfl,rfl⟩|⟨kl,rfl⟩
   .simp[Instr.sliceBounds,run_sliceBound w km m cap _ hmn hmm,run_sliceBound w kh h m.toNat _ hn (by rw[e0 hmn];exact hh)]
   .simp[Instr.sliceBounds,run_sliceBound w km m cap _ hmn hmm,run_sliceBound w kh h m.toNat _ hn (by rw[e0 hmn];exact hh),run_sliceBound w kl l h.toNat _ h0 (by rw[e0 hn];exact hl)]
theorem qEh {n:Nat}{b:Int×Option Int×Option Int}{p:Nat×Nat}(h:qRt n b=some p) :
  0<=b.1/\b.1<=b.2.1.getD n/\b.2.1.getD n<=n/\(∀x,b.2.2=some x->b.2.1.getD n<=x/\x<=n)/\p.1=b.1.toNat/\p.2=(b.2.1.getD n).toNat:=by
 obtain⟨x,y,z⟩:=b;simp only[qRt]at h;split at h
 .rename_i hc;cases h;exact⟨hc.1,hc.2.1,hc.2.2.1,hc.2.2.2,rfl,rfl⟩
 .cases h
theorem Rep.sub {es:List T}{ad:Addr}{cap sz:Nat}{news:List Value}(ha:es≠[]->ad.spot=none)(hc:es.length<=cap)(hn:news.length=es.length*sz)(h1:∀u∈news,u.oneCell'=true)
  (hF:es≠[]->F ad.block) (hw:∀j u,news[j]?=some u->w.cell? (ad.add j)=some u) (hz:∀e∈es,e.cells.length=sz)
  (h:∀(i:Nat)(e:T)(j:Nat)(c:T)(u:Value),es[i]?=some e->e.cells[j]?=some c->news[i*sz+j]?=some u->Rep F w c u)
  {lo hi mx:Nat} (hlh:lo<=hi) (hhl:hi<=es.length) (hm1:hi<=mx) (ad':Addr) (had:lo<mx->ad'=ad.add (lo*sz)) (hsp:lo<hi->ad'.spot=none) :
  Rep F w (.sl ((es.drop lo).take (hi-lo))) (.slice (some ad') (hi-lo) (mx-lo)):=by
 have hl:((es.drop lo).take (hi-lo)).length=hi-lo:=soM;have key:=Rep.sl (F:=F) (w:=w) ((es.drop lo).take (hi-lo)) ad' (mx-lo) sz ((news.drop (lo*sz)).take ((hi-lo)*sz)) (λhne=>hsp (Nat.lt_of_not_le λhge=>hne (eq_nil_of_length_eq_zero (by rw[hl];omega)))) (by rw[hl];omega)
  (by
   rw[hl];have:hi*sz<=es.length*sz:=Nat.mul_le_mul_right sz hhl;have e2:hi*sz=lo*sz+(hi-lo)*sz:=by rw[<-Nat.add_mul];congr 1;omega
   simp;omega)
  (λu hu=>h1 u (mem_of_mem_drop (mem_of_mem_take hu)))
  (λhne=>by
   have:lo<hi:=by
    rcases Nat.lt_or_ge lo hi with h|h
    .exact h
    .exact absurd (eq_nil_of_length_eq_zero (by rw[hl];omega)) hne
   rw[had oM,qCx];exact hF (by intro e;subst e;simp at hhl;omega))
  (λj u hj=>by
   simp only[getElem?_take,getElem?_drop]at hj;split at hj
   .rename_i hlt;have hpos:lo<hi:=by
     rcases Nat.lt_or_ge lo hi with h|h
     .exact h
     .have:hi-lo=0:=oM;rw[this]at hlt;simp at hlt
    rw[had oM,Addr.add_add];exact hw _ u hj
   .cases hj)
  (λe he=>hz e (mem_of_mem_drop (mem_of_mem_take he)))
  (λi e j c u he hc hu=>by
   have he':es[lo+i]?=some e:=by
    simp only[getElem?_take,getElem?_drop]at he;split at he
    .exact he
    .cases he
   simp only[getElem?_take,getElem?_drop]at hu;split at hu
   .refine h (lo+i) e j c u he' hc ?_;rw[<-hu];congr 1;rw[Nat.add_mul];omega
   .cases hu)
 rw[hl]at key;exact key
theorem qIp {P:Program}{t e:TypeId}{i:TypeInfo}(hd:P.underlying t=some (.slice e))(hi:P.info? e=some i){base:Option Addr}{len cap:Nat}{low high max:Option Value}{l:Int}{hq mq:Option Int}
  (h1:jE0 low l) (h2:zMu high hq) (h3:zMu max mq) (h4:hq=none->mq=none)
  (h0:0<=l) (hl:l<=hq.getD len) (hh:hq.getD len<=mq.getD cap) (hmm:mq.getD cap<=cap) (hc:len<=cap) :
  (Instr.sliceAt t (.slice base len cap) low high max).run P w =
   .ok (.slice (if(mq.getD cap).toNat=l.toNat then base else base.map (·.add (l.toNat*i.size))) ((hq.getD len).toNat-l.toNat) ((mq.getD cap).toNat-l.toNat)) w:=by
 have hb:=qBx (w:=w) (P:=P) (isS:=true) h1 h2 h3 h4 h0 hl hh hmm hc;simp[Instr.sliceAt,Instr.slice,run_underlying hd,hb,yG hi]
theorem zNx {cs:List T}(h:jJ7 cs=true){e:T}(he:e∈cs):e.cells=[e]:=by
 induction cs with
 |nil=>cases he
 |cons x r ih=>
  cases x with
  |int k n=>
   rcases mem_cons.mp he with rfl|he
   .rfl
   .exact ih h he
  |_=>cases h
theorem jIj (R:Rel cx β F fm hm a w){t:TypeId}{x:Operand}{lo hi mx:Option Operand}{ao:AO}{xs:List Operand}{vs:List V}(han:zA9 cx.P t x lo hi mx=some (ao,xs))
  (hv:xU (λx v=>qR β F w v (a.eval x)) xs vs) (hs:(sem ao vs nb).run hm=some ((v,W),l)) :
  Out cx β F fm hm a w v W (Instr.sliceAt t (a.eval x) (lo.map a.eval) (hi.map a.eval) (mx.map a.eval)):=by
 unfold zA9 at han;split at han
 ·
  rename_i hd;cases han;cases hv with
  |cons hx hb=>
   simp only[sem]at hs;unfold qQ7 at hs;split at hs
   .rename_i s bs heq;cases heq;obtain⟨b,hbd,hs⟩:=qH hs;obtain⟨g1,g2,g3,g4⟩:=qEf hbd hb;obtain⟨p,hp,hs⟩:=qH hs;obtain⟨hm0,hs⟩:=qM hs;obtain⟨hr,rfl⟩:=qE hs;cases hr;obtain⟨k0,k1,k2,k3,k4,k5⟩:=qEh hp;rw[hx.str_inv];rw[hm0]at g3;have hmn:mx.map a.eval=none:=by
     rcases g3 with⟨h,_⟩|⟨_,_,_,h⟩
     .exact h
     .cases h
    refine Out.same R ?_ (.t (.str _));have hb2:=qBx (w:=w) (P:=cx.P) (isS:=false) (len:=s.size) (cap:=s.size) g1 g2 (.inl ⟨rfl,rfl⟩) (λ_=>rfl) k0 k1 (by simpa using k2) sM (Nat.le_refl _);rw[hmn];simp only[Instr.sliceAt,Instr.slice,Sem.run_bind,run_underlying hd,Result.andThen_ok,Option.isSome,Bool.false_eq_true,if_false,hb2,Sem.run_pure,k4,k5]
   .cases hs
 ·
  rename_i e hd;simp only[Option.map_eq_some_iff]at han;obtain⟨i,hi',han⟩:=han;cases han;cases hv with
  |cons hx hb=>
   simp only[sem]at hs;unfold qVk at hs;split at hs
   ·
    rename_i es bs heq;cases heq;obtain⟨b,hbd,hs⟩:=qH hs;obtain⟨g1,g2,g3,g4⟩:=qEf hbd hb;obtain⟨p,hp,hs⟩:=qH hs;obtain⟨hz,hs⟩:=qM hs;obtain⟨hr,rfl⟩:=qE hs;cases hr;obtain⟨k0,k1,k2,k3,k4,k5⟩:=qEh hp;cases hx with
    |t hx=>
     cases hxe:a.eval x with
     |slice base len cap=>
      rw[hxe]at hx;have hmq:b.2.1.getD (len:Int)<=b.2.2.getD (cap:Int)/\b.2.2.getD (cap:Int)<=cap/\len=es.length/\len<=cap:=by
       have hlc:len=es.length/\len<=cap:=by cases hx with
        |nil=>exact⟨rfl,Nat.le_refl _⟩
        |sl _ ad _ sz news ha hc hn h1 hF hw hzz hrr=>exact⟨rfl,hc⟩
       obtain⟨rfl,hlc⟩:=hlc;cases hq:b.2.2 with
       |none=>simp only[Option.getD_none];exact⟨oM,oM,trivial,hlc⟩
       |some m=>have:=k3 m hq;simp only[Option.getD_some];exact⟨this.1,oM,trivial,hlc⟩
      obtain⟨q1,q2,q3,q4⟩:=hmq;subst q3;have hrun:=qIp (w:=w) hd hi' (base:=base) (len:=es.length) (cap:=cap) g1 g2 g3 g4 k0 k1 q1 q2 q4;refine Out.same R hrun (.t ?_);rw[<-k4,<-k5];have hp12:p.1<=p.2:=by rw[k4,k5];omega
      have hp2:p.2<=es.length:=by rw[k5];omega
      cases hx with
      |nil=>
       have e1:p.2=0:=by simpa using hp2
       have e2:p.1=0:=oM;have e3:(b.2.2.getD ((0:Nat):Int)).toNat=0:=oM;simp only[e1,e2,e3,drop_nil,take_nil,if_true];exact .nil
      |sl _ ad _ sz news ha hc hn h1 hF hw hzz hrr=>
       have hszi:es≠[]->sz=i.size:=by
        intro hne;cases es with
        |nil=>exact absurd rfl hne
        |cons e0 r=>rw[<-hzz e0 sM,jBv hz sM]
       have hsub:=Rep.sub (F:=F) (w:=w) ha hc hn h1 hF hw hzz hrr (lo:=p.1) (hi:=p.2) (mx:=(b.2.2.getD (cap:Int)).toNat) hp12 hp2 (by rw[k5];omega)
        (if(b.2.2.getD (cap:Int)).toNat=p.1 then ad else ad.add (p.1*i.size))
        (by
         intro hlt;rw[if_neg oM];by_cases hes:es=[]
         .subst hes;have:p.1=0:=by simp at hp2;omega
          rw[this];simp
         .rw[hszi hes])
        (by
         intro hlt;have hes:es≠[]:=by intro e;subst e;simp at hp2;omega
         split;exact ha hes;unfold Addr.add;split;exact ha hes;rfl)
       have hif:(if(b.2.2.getD (cap:Int)).toNat=p.1 then some ad else(some ad).map (·.add (p.1*i.size)))=some (if(b.2.2.getD (cap:Int)).toNat=p.1 then ad else ad.add (p.1*i.size)):=by
        split<;>rfl
       rw[hif];exact hsub
     |_=>rw[hxe]at hx;cases hx
   ·
    rename_i id off len bs heq;cases heq;obtain⟨b,hbd,hs⟩:=qH hs;obtain⟨g1,g2,g3,g4⟩:=qEf hbd hb;obtain⟨p,hp,hs⟩:=qH hs;obtain⟨o,l',ho,hs2,_⟩:=yV hs;obtain⟨k0,k1,k2,k3,k4,k5⟩:=qEh hp;cases o with
    |dead=>cases hs2
    |live z' es wr full=>
     obtain⟨rfl,hs3⟩:=qM hs2;obtain⟨hr,_⟩:=qE hs3;cases hr;have hp12:p.1<=p.2:=by rw[k4,k5];omega
     have hp2:p.2<=len:=by rw[k5];omega
     cases hxe:a.eval x with
     |slice base len' cap=>
      rw[hxe]at hx;cases hx with
      |slv _ sz room hb'=>
       have hM0:b.2.2.getD ((0:Nat):Int)=0:=by
        cases hq:b.2.2 with
        |none=>rfl
        |some x=>
         have:=k3 x hq;have h9:=this.1;have h8:=this.2;have h7:(0:Int)<=b.2.1.getD ((0:Nat):Int):=Int.le_trans k0 k1;have h6:(0:Int)<=x:=Int.le_trans h7 h9;have h5:x<=0:=by simpa using h8
         exact Int.le_antisymm h5 h6
       have hrun:=qIp (w:=w) hd hi' (base:=none) (len:=0) (cap:=0) g1 g2 g3 g4 k0 k1 (by rw[hM0];simpa using k2) (by rw[hM0];simp) (Nat.le_refl _);have e1:p.2=0:=by simpa using hp2
       have e2:p.1=0:=oM;refine Out.same R hrun ?_;rw[<-k4,<-k5,e1,e2,hM0];exact .slv id sz room hb'
      |sl _ _ _ scap bk sz room ad hb' hlc hrm had hsp=>
       obtain⟨c,ce,fz,h2,h3,h4,h5,h6,h7,h8,h9⟩:=R.obj ho hb' rfl;simp only at h9;subst h9;have hM:b.2.1.getD len<=b.2.2.getD (cap:Int)/\b.2.2.getD (cap:Int)<=cap:=by
        cases hq:b.2.2 with
        |none=>simp only[Option.getD_none];omega
        |some x=>
         have:=k3 x hq;simp only[Option.getD_some];omega
       have hrun:=qIp (w:=w) hd hi' (base:=some ad) (len:=len) (cap:=cap) g1 g2 g3 g4 k0 k1 hM.1 hM.2 hlc;refine Out.same R hrun ?_;rw[<-k4,<-k5];generalize hMe:(b.2.2.getD (cap:Int)).toNat=M;have hM2:p.2<=M/\M<=cap:=by rw[<-hMe,k5];omega
       have hif:(if M=p.1 then some ad else(some ad).map (·.add (p.1*i.size)))=some (if M=p.1 then ad else ad.add (p.1*i.size)):=by split<;>rfl
       rw[hif];exact qR.sl (β:=β) (F:=F) (w:=w) id (off+p.1) (p.2-p.1) (M-p.1) bk i.size room (if M=p.1 then ad else ad.add (p.1*i.size)) hb' oM oM
        (by
         intro hlt;rw[if_neg oM,had oM,Addr.add_lit,Nat.add_mul])
        (by split;exact hsp;unfold Addr.add;split;exact hsp;rfl)
     |_=>rw[hxe]at hx;cases hx
   ·
    rename_i bs heq;cases heq;obtain⟨b,hbd,hs⟩:=qH hs;obtain⟨g1,g2,g3,g4⟩:=qEf hbd hb;obtain⟨p,hp,hs⟩:=qH hs;obtain⟨hr,rfl⟩:=qE hs;cases hr;obtain⟨k0,k1,k2,k3,k4,k5⟩:=qEh hp;have hxe:a.eval x=.slice none 0 0:=by
     generalize a.eval x=q at hx;cases hx;rfl
    rw[hxe];have hmq:b.2.1.getD ((0:Nat):Int)<=b.2.2.getD ((0:Nat):Int)/\b.2.2.getD ((0:Nat):Int)<=((0:Nat):Int):=by
     cases hq:b.2.2 with
     |none=>simp only[Option.getD_none];exact⟨k2,Int.le_refl _⟩
     |some m=>have:=k3 m hq;simp only[Option.getD_some];exact⟨this.1,this.2⟩
    have hrun:=qIp (w:=w) hd hi' (base:=none) (len:=0) (cap:=0) g1 g2 g3 g4 k0 k1 hmq.1 hmq.2 (Nat.le_refl _);refine Out.same R hrun ?_;have e1:(b.2.1.getD ((0:Nat):Int)).toNat-b.1.toNat=0:=oM;have e2:(b.2.2.getD ((0:Nat):Int)).toNat-b.1.toNat=0:=oM;rw[e1,e2];simp only[Option.map_none,ite_self];exact .nil
   .cases hs
 ·
  rename_i n e hd;simp only[Option.map_eq_some_iff]at han;obtain⟨i,hi',han⟩:=han;cases han;cases hv with
  |cons hx hb=>
   simp only[sem]at hs;unfold qQ2 at hs;split at hs
   .rename_i id bs heq;cases heq;obtain⟨b,hbd,hs⟩:=qH hs;obtain⟨g1,g2,g3,g4⟩:=qEf hbd hb;obtain⟨p,hp,hs⟩:=qH hs;obtain⟨o,l',ho,hs2,_⟩:=yV hs;obtain⟨k0,k1,k2,k3,k4,k5⟩:=qEh hp;cases o with
    |dead=>cases hs2
    |live z' es wr full=>
     cases full with
     |false=>cases hs2
     |true=>
      obtain⟨⟨rfl,hle,hm0⟩,hs3⟩:=qM hs2;obtain⟨hr,_⟩:=qE hs3;cases hr;have hp12:p.1<=p.2:=by rw[k4,k5];omega
      have hp2:p.2<=n:=by rw[k5];omega
      rw[hm0]at g3 g4;cases hxe:a.eval x with
      |pointer ad=>
       rw[hxe]at hx;cases hx with
       |ref _ _ _ bk sz room hb'=>
        obtain⟨c,ce,fz,h2,h3,h4,h5,h6,h7,h8,h9⟩:=R.obj ho hb' rfl;simp only at h8 h9;subst h9;have hroom:=h8 trivial;have hb2:=qBx (w:=w) (P:=cx.P) (isS:=false) (len:=n) (cap:=n) g1 g2 g3 (λ_=>rfl) k0 k1 (by simpa using k2) sM (Nat.le_refl _);refine Out.same R (x:= .slice (some (if n=p.1 then ⟨bk,0*i.size+0,none⟩ else(⟨bk,0*i.size+0,none⟩:Addr).add (p.1*i.size))) (p.2-p.1) (n-p.1)) ?_ ?_
        .simp only[Instr.sliceAt,Sem.run_bind,run_underlying hd,Result.andThen_ok,Instr.sureAddr,Sem.run_pure,hb2,yG hi',Option.getD_none,Int.toNat_natCast,<-k4,<-k5]
        .have:=qR.sl (β:=β) (F:=F) (w:=w) id p.1 (p.2-p.1) (n-p.1) bk i.size room (if n=p.1 then ⟨bk,0*i.size+0,none⟩ else(⟨bk,0*i.size+0,none⟩:Addr).add (p.1*i.size)) hb' oM oM
          (by
           intro hlt;rw[if_neg oM,Addr.add_lit];simp)
          (by split;rfl;unfold Addr.add;split<;>rfl)
         exact this
      |_=>rw[hxe]at hx;cases hx
   .rename_i cs bs heq;cases heq;obtain⟨b,hbd,hs⟩:=qH hs;obtain⟨g1,g2,g3,g4⟩:=qEf hbd hb;obtain⟨p,hp,hs⟩:=qH hs;obtain⟨⟨hz1,hfl,hle,hm0⟩,hs3⟩:=qM hs;obtain⟨hr,rfl⟩:=qE hs3;cases hr;obtain⟨k0,k1,k2,k3,k4,k5⟩:=qEh hp;have hp12:p.1<=p.2:=by rw[k4,k5];omega
    have hp2:p.2<=n:=by rw[k5];omega
    rw[hm0]at g3 g4;cases hxe:a.eval x with
    |pointer ad=>
     rw[hxe]at hx;cases hx with
     |ro _ ad news ha hn h1 hF hw hrr=>
      have hb2:=qBx (w:=w) (P:=cx.P) (isS:=false) (len:=n) (cap:=n) g1 g2 g3 (λ_=>rfl) k0 k1 (by simpa using k2) sM (Nat.le_refl _);refine Out.same R (x:= .slice (some (if n=p.1 then ad else ad.add (p.1*i.size))) (p.2-p.1) (n-p.1)) ?_ ?_
      .simp only[Instr.sliceAt,Sem.run_bind,run_underlying hd,Result.andThen_ok,Instr.sureAddr,Sem.run_pure,hb2,yG hi',Option.getD_none,Int.toNat_natCast,<-k4,<-k5]
      .have hc1:∀e∈cs,e.cells=[e]:=λe he=>zNx hfl he
       refine .t (Rep.sub (F:=F) (w:=w) (ad:=ad) (cap:=n) (sz:=1) (news:=news) (λ_=>ha) oM oM h1 (λ_=>hF) hw (λe he=>by rw[hc1 e he];rfl) ?_ hp12 oM hp2 _ ?_ ?_)
       .intro k e j c u he hc hu;rw[hc1 e (mem_of_getElem? he)]at hc;cases j with
        |succ j=>simp at hc
        |zero=>
         simp at hc;subst hc;exact hrr k e u he (by simpa using hu)
       .intro hlt;rw[if_neg oM,hz1]
       .intro hlt;split;exact ha;unfold Addr.add;split;exact ha;rfl
    |_=>rw[hxe]at hx;cases hx
   .cases hs
 .cases han
end Go.Eng
end
section
namespace Go.Eng
open List
variable {cx:Cx}{β:Nat->Option BI}{F:Nat->Prop}{fm:Nat->Option V}{hm:Nat->Option Ob}{a:Act}{w:World}
variable {nb:Nat}{v:V}{W:Wr}{l:List Nat}
theorem jIf (R:Rel cx β F fm hm a w){s:TypeId}{x:Operand}{f:Nat}{ao:AO}{xs:List Operand}{vs:List V}(han:zA5 cx.P s x f=some (ao,xs))
  (hv:xU (λx v=>qR β F w v (a.eval x)) xs vs) (hs:(sem ao vs nb).run hm=some ((v,W),l)):Out cx β F fm hm a w v W (Instr.fieldAt s (a.eval x) f):=by
 unfold zA5 at han;split at han
 .rename_i fs hd;split at han
  .rename_i fd hfd;split at han
   .rename_i i hi;split at han
    .cases han
    .rename_i hsz;cases han;obtain⟨p,rfl,hp⟩:=jP hv;have hrun:∀ad,(Instr.fieldAt s (.pointer (some ad)) f).run cx.P w=.ok (.pointer (some (ad.add fd.offset))) w:=by
      intro ad;simp[Instr.fieldAt,run_underlying hd,hfd,Instr.sureAddr,fieldPlace,yG hi,hsz]
     simp only[sem]at hs;unfold qVh at hs;split at hs
     .rename_i id j g heq;cases heq;obtain⟨hr,rfl⟩:=qE hs;cases hr;generalize a.eval x=q at hp;cases hp with
      |ref _ _ _ b sz room hb=>
       refine Out.same R (hrun _) ?_;rw[Addr.add_lit,Nat.add_assoc];exact .ref id j (g+fd.offset) b sz room hb
     .rename_i cs heq;cases heq;obtain⟨hle,hs⟩:=qM hs;obtain⟨hr,rfl⟩:=qE hs;cases hr;generalize a.eval x=q at hp;cases hp with
      |ro _ ad news ha hn h1 hF hw h=>
       refine Out.same R (hrun _) (.ro _ _ (news.drop fd.offset) (by unfold Addr.add;split;exact ha;rfl) (by simp[hn]) (λu hu=>h1 u (mem_of_mem_drop hu)) (by rw[qCx];exact hF)
        (λj u hj=>by rw[Addr.add_add];exact hw _ u (by simpa using hj)) (λj c u hc hu=>h _ c u (by simpa using hc) (by simpa using hu)))
     .cases hs
   .cases han
  .cases han
 .cases han
theorem qY4 (R:Rel cx β F fm hm a w){t e:TypeId}{i:TypeInfo}(hd:cx.P.underlying t=some (.slice e))(hi:cx.P.info? e=some i){p q:Value}{vp vq:V}(hp:qR β F w vp p)(hq:qR β F w vq q)
  (hs:(qQ5 i.size [vp,vq]).run hm=some ((v,W),l)):Out cx β F fm hm a w v W (Instr.indexAt t p q):=by
 have hrun:∀(ad:Addr)(len cap:Nat)(k:IntKind)(j:Int),0<=j->j<len->(Instr.indexAt t (.slice (some ad) len cap) (.int k j)).run cx.P w=.ok (.pointer (some (ad.add (j.toNat*i.size)))) w:=by
  intro ad len cap k j h0 h1;simp[Instr.indexAt,run_underlying hd,asIntOf,h0,h1,yG hi]
 unfold qQ5 at hs;split at hs
 .rename_i id off len ix heq;cases heq;obtain⟨j,hj,hs⟩:=qH hs;obtain⟨⟨h0,h1⟩,hs⟩:=qM hs;obtain⟨o,l',ho,hs2,_⟩:=yV hs;obtain⟨k,rfl⟩:=hq.intArg_inv hj;cases o with
  |dead=>cases hs2
  |live z' es wr full=>
   obtain⟨rfl,hs3⟩:=qM hs2;obtain⟨hr,_⟩:=qE hs3;cases hr;cases hp with
   |slv _ sz room hb=>exact absurd h1 soM
   |sl _ _ _ scap b sz room ad hb hlc hrm had hsp=>
    obtain⟨c,ce,fz,h2,h3,h4,h5,h6,h7,h8,h9⟩:=R.obj ho hb rfl;simp only at h9;subst h9;refine Out.same R (hrun ad len _ k j h0 h1) ?_;have hjn:j.toNat<len:=oM;rw[had oM,Addr.add_lit,<-Nat.add_mul];have:=qR.ref (β:=β) (F:=F) (w:=w) id (off+j.toNat) 0 b i.size room hb;simpa using this
 .rename_i es ix heq;cases heq;obtain⟨j,hj,hs⟩:=qH hs;obtain⟨h0,hs⟩:=qM hs;obtain⟨e0,he,hs⟩:=qH hs;obtain⟨hz,hs⟩:=qM hs;obtain⟨hr,rfl⟩:=qE hs;cases hr;obtain⟨k,rfl⟩:=hq.intArg_inv hj;have hjl:j.toNat<es.length:=(List.getElem?_eq_some_iff.1 he).1;cases hp with
  |t hp=>
   cases hp with
   |nil=>simp at hjl
   |sl _ ad cap sz news ha hc hn h1 hF hw hzz hrr=>
    have hsz:sz=i.size:=by rw[<-hzz e0 (mem_of_getElem? he),hz]
    subst hsz;have hl2:(j.toNat+1)*i.size<=es.length*i.size:=Nat.mul_le_mul_right _ hjl;have e5:(j.toNat+1)*i.size=j.toNat*i.size+i.size:=by rw[Nat.add_mul,Nat.one_mul]
    have ha:=ha (by intro h;subst h;simp at hjl);refine Out.same R (hrun ad _ _ k j h0 oM) (.ro _ _ ((news.drop (j.toNat*i.size)).take i.size) (by unfold Addr.add;split;exact ha;rfl) soM
     (λu hu=>h1 u (mem_of_mem_drop (mem_of_mem_take hu))) (by rw[qCx];exact hF (by intro h;subst h;simp at hjl))
     (λm u hm'=>?_) (λm c u hc' hu=>?_))
    .simp only[getElem?_take,getElem?_drop]at hm';split at hm'
     .rw[Addr.add_add];exact hw _ u hm'
     .cases hm'
    .simp only[getElem?_take,getElem?_drop]at hu;split at hu
     .exact hrr j.toNat e0 m c u he hc' hu
     .cases hu
 .cases hs
theorem qY3 (R:Rel cx β F fm hm a w){t e:TypeId}{n:Nat}{i:TypeInfo}(hd:cx.P.underlying t=some (.array n e))(hi:cx.P.info? e=some i){p q:Value}{vp vq:V}(hp:qR β F w vp p)(hq:qR β F w vq q)
  (hs:(qQ1 n i.size [vp,vq]).run hm=some ((v,W),l)):Out cx β F fm hm a w v W (Instr.indexAt t p q):=by
 have hrun:∀(ad:Addr)(k:IntKind)(j:Int),0<=j->j<n->(Instr.indexAt t (.pointer (some ad)) (.int k j)).run cx.P w=.ok (.pointer (some (ad.add (j.toNat*i.size)))) w:=by
  intro ad k j h0 h1;simp[Instr.indexAt,run_underlying hd,asIntOf,h0,h1,yG hi,Instr.sureAddr]
 unfold qQ1 at hs;split at hs
 .rename_i id i0 f ix heq;cases heq;obtain⟨j,hj,hs⟩:=qH hs;obtain⟨⟨h0,h1⟩,hs⟩:=qM hs;obtain⟨o,l',ho,hs2,_⟩:=yV hs;obtain⟨k,rfl⟩:=hq.intArg_inv hj;cases o with
  |dead=>cases hs2
  |live z' es wr full=>
   cases hp with
   |ref _ _ _ b sz room hb=>
    obtain⟨c,ce,fz,h2,h3,h4,h5,h6,h7,h8,h9⟩:=R.obj ho hb rfl;simp only at h9;subst h9;simp only at hs2;split at hs2
    .rename_i hc;obtain⟨rfl,rfl⟩:=hc;obtain⟨hr,_⟩:=qE hs2;cases hr;refine Out.same R (hrun _ k j h0 h1) ?_;rw[Addr.add_lit];have:=qR.ref (β:=β) (F:=F) (w:=w) id (i0+j.toNat) 0 b i.size room hb;rw[Nat.add_mul]at this;rw[show i0*i.size+0+j.toNat*i.size=i0*i.size+j.toNat*i.size+0 by omega];exact this
    .split at hs2
     .rename_i hc;obtain⟨rfl,rfl⟩:=hc;obtain⟨hr,_⟩:=qE hs2;cases hr;refine Out.same R (hrun _ k j h0 h1) ?_;rw[Addr.add_lit];have:=qR.ref (β:=β) (F:=F) (w:=w) id (i0+j.toNat*i.size) 0 b 1 room hb;rw[show i0*1+0+j.toNat*i.size=(i0+j.toNat*i.size)*1+0 by omega];exact this
     .obtain⟨hr,_⟩:=qE hs2;cases hr;refine Out.same R (hrun _ k j h0 h1) ?_;rw[Addr.add_lit,Nat.add_assoc];exact qR.ref id i0 (f+j.toNat*i.size) b sz room hb
 .rename_i cs ix heq;cases heq;obtain⟨j,hj,hs⟩:=qH hs;obtain⟨⟨h0,h1,hle⟩,hs⟩:=qM hs;obtain⟨hr,rfl⟩:=qE hs;cases hr;obtain⟨k,rfl⟩:=hq.intArg_inv hj;cases hp with
  |ro _ ad news ha hn hone hF hw h=>
   refine Out.same R (hrun _ k j h0 h1) (.ro _ _ (news.drop (j.toNat*i.size)) (by unfold Addr.add;split;exact ha;rfl) (by simp[hn]) (λu hu=>hone u (mem_of_mem_drop hu)) (by rw[qCx];exact hF)
    (λm u hm'=>by rw[Addr.add_add];exact hw _ u (by simpa using hm')) (λm c u hc hu=>h _ c u (by simpa using hc) (by simpa using hu)))
 .cases hs
theorem jIh (R:Rel cx β F fm hm a w){t:TypeId}{x ix:Operand}{ao:AO}{xs:List Operand}{vs:List V}(han:zA7 cx.P t x ix=some (ao,xs))
  (hv:xU (λx v=>qR β F w v (a.eval x)) xs vs) (hs:(sem ao vs nb).run hm=some ((v,W),l)):Out cx β F fm hm a w v W (Instr.indexAt t (a.eval x) (a.eval ix)):=by
 unfold zA7 at han;split at han
 .rename_i e hd;simp only[Option.map_eq_some_iff]at han;obtain⟨i,hi,han⟩:=han;cases han;obtain⟨p,q,rfl,hp,hq⟩:=jQ hv;exact qY4 R hd hi hp hq hs
 .rename_i n e hd;simp only[Option.map_eq_some_iff]at han;obtain⟨i,hi,han⟩:=han;cases han;obtain⟨p,q,rfl,hp,hq⟩:=jQ hv;exact qY3 R hd hi hp hq hs
 .cases han
theorem zL7 {P:Program}{t:TypeId}{i:TypeInfo}{d:TypeDesc}(hi:P.info? t=some i)(hd:P.underlying t=some d){cs:List V}{us:Array Value}{off:Nat}
  (h:qUb cs off i.size (vV d)=some v) (hl:us.size=cs.length) (h1:∀u∈us,u.oneCell'=true)
  (hr:∀(i:Nat)(c:V)(u:Value),cs[i]?=some c->us[i]?=some u->qR β F w c u):∃x,(part t us off).run P w=.ok x w/\qR β F w v x:=by
 have hp:=qW2 (us:=us.toList) h (by simpa using hl) (by simpa using h1) (λi c u hc hu=>hr i c u hc (by simpa using hu));unfold part;rw[Sem.run_bind,zFo hd];simp only[Result.andThen_ok];cases hg:vV d
 .rw[hg]at hp;simp only[Bool.false_eq_true,if_false]at hp⊢;obtain⟨u,hu,hru⟩:=hp;exact⟨u,by rw[show us[off]?=some u by simpa using hu];rfl,hru⟩
 .rw[hg]at hp;simp only[if_true]at hp⊢;obtain⟨hle,hru⟩:=hp;refine⟨_,by simp[yG hi];rfl,?_⟩;have:us.extract off (off+i.size)=((us.toList.drop off).take i.size).toArray:=by
   apply Array.ext';simp
  rw[this];exact hru
theorem qR.agg_inv {cs:List V}{x:Value}(h:qR β F w (.agg cs) x):∃us,x=.agg us/\us.size=cs.length/\(∀u∈us,u.oneCell'=true)/\∀(i:Nat)(c:V)(u:Value),cs[i]?=some c->us[i]?=some u->qR β F w c u:=by
 cases h with|agg _ us hl h1 h=>exact⟨us,rfl,hl,h1,h⟩
theorem qR.tagg_inv {cs:List T}{x:Value}(h:qR β F w (.t (.agg cs)) x):∃us,x=.agg us/\us.size=(cs.map V.t).length/\(∀u∈us,u.oneCell'=true)/\∀(i:Nat)(c:V)(u:Value),(cs.map V.t)[i]?=some c->us[i]?=some u->qR β F w c u:=by
 cases h with
 |t h=>
  cases h with
  |agg _ us hl h1 h=>
   refine⟨us,rfl,by simpa using hl,h1,λi c u hc hu=>?_⟩;rw[getElem?_map,Option.map_eq_some_iff]at hc;obtain⟨c',hc',rfl⟩:=hc;exact .t (h i c' u hc' hu)
theorem jIg (R:Rel cx β F fm hm a w){s:TypeId}{x:Operand}{f:Nat}{ao:AO}{xs:List Operand}{vs:List V}(han:zA6 cx.P s x f=some (ao,xs))
  (hv:xU (λx v=>qR β F w v (a.eval x)) xs vs) (hs:(sem ao vs nb).run hm=some ((v,W),l)):Out cx β F fm hm a w v W (Instr.field s (a.eval x) f):=by
 unfold zA6 at han;split at han
 .rename_i fs hd;split at han
  .rename_i fd hfd;split at han
   .rename_i i d hi hd2;cases han;obtain⟨p,rfl,hp⟩:=jP hv;have fin:∀{cs:List V}{us:Array Value},qUb cs fd.offset i.size (vV d)=some v->a.eval x=.agg us->us.size=cs.length->(∀u∈us,u.oneCell'=true)->
      (∀(i:Nat)(c:V)(u:Value),cs[i]?=some c->us[i]?=some u->qR β F w c u)->Out cx β F fm hm a w v [] (Instr.field s (a.eval x) f):=by
     intro cs us h hx hl h1 hr;obtain⟨y,hy,hry⟩:=zL7 hi hd2 h hl h1 hr;refine Out.same R ?_ hry;rw[hx];simp[Instr.field,run_underlying hd,hfd,asAgg,hy]
    simp only[sem]at hs;unfold qVi at hs;split at hs
    .rename_i cs heq;cases heq;obtain⟨y,hy,hs⟩:=qH hs;obtain⟨hr,rfl⟩:=qE hs;cases hr;obtain⟨us,hx,hl,h1,h2⟩:=hp.agg_inv;exact fin hy hx hl h1 h2
    .rename_i cs heq;cases heq;obtain⟨y,hy,hs⟩:=qH hs;obtain⟨hr,rfl⟩:=qE hs;cases hr;obtain⟨us,hx,hl,h1,h2⟩:=hp.tagg_inv;exact fin hy hx hl h1 h2
    .cases hs
   .cases han
  .cases han
 .cases han
theorem jIi (R:Rel cx β F fm hm a w){t:TypeId}{x ix:Operand}{ao:AO}{xs:List Operand}{vs:List V}(han:zA8 cx.P t x ix=some (ao,xs))
  (hv:xU (λx v=>qR β F w v (a.eval x)) xs vs) (hs:(sem ao vs nb).run hm=some ((v,W),l)):Out cx β F fm hm a w v W (Instr.index t (a.eval x) (a.eval ix)):=by
 unfold zA8 at han;split at han
 .rename_i n e hd;split at han
  .rename_i i d hi hd2;cases han;obtain⟨p,q,rfl,hp,hq⟩:=jQ hv;have fin:∀{cs:List V}{us:Array Value}{k:IntKind}{j:Int},qUb cs (j.toNat*i.size) i.size (vV d)=some v->a.eval x=.agg us->a.eval ix=.int k j->0<=j->j<n->us.size=cs.length->(∀u∈us,u.oneCell'=true)->
     (∀(i:Nat)(c:V)(u:Value),cs[i]?=some c->us[i]?=some u->qR β F w c u)->Out cx β F fm hm a w v [] (Instr.index t (a.eval x) (a.eval ix)):=by
    intro cs us k j h hx hix h0 h1 hl hone hr;obtain⟨y,hy,hry⟩:=zL7 hi hd2 h hl hone hr;refine Out.same R ?_ hry;rw[hx,hix];simp[Instr.index,run_underlying hd,asIntOf,h0,h1,yG hi,hy]
   simp only[sem]at hs;unfold qVj at hs;split at hs
   .rename_i cs iv heq;cases heq;obtain⟨j,hj,hs⟩:=qH hs;obtain⟨⟨h0,h1⟩,hs⟩:=qM hs;obtain⟨y,hy,hs⟩:=qH hs;obtain⟨hr,rfl⟩:=qE hs;cases hr;obtain⟨k,hk⟩:=hq.intArg_inv hj;obtain⟨us,hx,hl,hone,h2⟩:=hp.agg_inv;exact fin hy hx hk h0 h1 hl hone h2
   .rename_i cs iv heq;cases heq;obtain⟨j,hj,hs⟩:=qH hs;obtain⟨⟨h0,h1⟩,hs⟩:=qM hs;obtain⟨y,hy,hs⟩:=qH hs;obtain⟨hr,rfl⟩:=qE hs;cases hr;obtain⟨k,hk⟩:=hq.intArg_inv hj;obtain⟨us,hx,hl,hone,h2⟩:=hp.tagg_inv;exact fin hy hx hk h0 h1 hl hone h2
   .cases hs
  .cases han
 .rename_i hd;cases han;obtain⟨p,q,rfl,hp,hq⟩:=jQ hv;simp only[sem]at hs;unfold qFg at hs;split at hs
  .rename_i s iv heq;cases heq;obtain⟨j,hj,hs⟩:=qH hs;obtain⟨h0,hs⟩:=qM hs;obtain⟨b,hb,hs⟩:=qH hs;obtain⟨hr,rfl⟩:=qE hs;cases hr;obtain⟨k,hk⟩:=hq.intArg_inv hj;rw[hp.str_inv,hk];refine Out.same R (x:= .int .u8 b.toNat) ?_ (.t (.int _ _));have hlt:j.toNat<s.size:=by simpa using(List.getElem?_eq_some_iff.1 hb).1
   have hsb:s[j.toNat]?=some b:=by
    have h2:=(List.getElem?_eq_some_iff.1 hb).2;rw[getElem?_pos s j.toNat hlt];rw[<-h2];simp;rfl
   simp[Instr.index,run_underlying hd,asIntOf,h0,hsb]
  .cases hs
 .cases han
theorem zTz (R:Rel cx β F fm hm a w){i:Nat}{x:Value}{vx:V}(h:qR β F w vx x)(hs:(qHi i [vx]).run hm=some ((v,W),l)):Out cx β F fm hm a w v W (Instr.extract x i):=by
 unfold qHi at hs;split at hs
 .rename_i vs heq;cases heq;obtain⟨y,hy,hs⟩:=qH hs;obtain⟨hr,rfl⟩:=qE hs;cases hr;cases h with
  |tup _ us hl h=>
   have hlt:i<us.size:=by rw[hl];exact(List.getElem?_eq_some_iff.1 hy).1
   exact Out.same R (x:=us[i]) (by simp[Instr.extract,hlt]) (h i _ _ hy (by simp[hlt]))
 .rename_i vs heq;cases heq;obtain⟨y,hy,hs⟩:=qH hs;obtain⟨hr,rfl⟩:=qE hs;cases hr;cases h with
  |t h=>
   cases h with
   |tup _ us hl h=>
    have hlt:i<us.size:=by rw[hl];exact(List.getElem?_eq_some_iff.1 hy).1
    exact Out.same R (x:=us[i]) (by simp[Instr.extract,hlt]) (.t (h i _ _ hy (by simp[hlt])))
 .cases hs
theorem jAe {x:Value}{vx:V}(h:qR β F w vx x)(hs:(qLq [vx]).run hm=some ((v,W),l)):qR β F w v x/\W=[]/\∃ad,x=.pointer (some ad):=by
 unfold qLq at hs;split at hs
 .rename_i id i f heq;cases heq;obtain⟨hr,_⟩:=qE hs;cases hr;cases h with|ref _ _ _ b sz room hb=>exact⟨.ref _ _ _ b sz room hb,rfl,_,rfl⟩
 .rename_i cs heq;cases heq;obtain⟨hr,_⟩:=qE hs;cases hr;cases h with|ro _ ad news ha hn h1 hF hw h=>exact⟨.ro _ ad news ha hn h1 hF hw h,rfl,_,rfl⟩
 .cases hs
end Go.Eng
end
