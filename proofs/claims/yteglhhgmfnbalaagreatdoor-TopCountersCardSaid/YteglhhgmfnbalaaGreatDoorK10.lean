/- A part of an abstract machine, its walks, their tie. -/
import Derived.Test.YteglhhgmfnbalaaGreatDoorK9
set_option linter.all false
section
namespace Go.Eng
open List
theorem yEn {α:Type}:(∀(n:Nat)(l:List α),(l.take n).length=min n l.length)/\(∀(n:Nat)(l:List α),(l.drop n).length=l.length-n)/\(∀(l m:List α),(l++m).length=l.length+m.length)/\(∀(a:α)(l:List α),(a::l).length=l.length+1)/\(([]:List α).length=0)/\(∀(n:Nat)(a:α),(List.replicate n a).length=n)/\(∀(l:List α)(n:Nat)(a:α),(l.set n a).length=l.length):=sM
theorem yEm {α γ:Type}(f:α->γ)(l:List α):(l.map f).length=l.length:=length_map f
theorem dS {p:Prop}(h:p:=by first|omega|(simp only[yEn,yEm];omega)):p:=h
theorem aiG {a b:Prop}(k:b)(h:a:=by first|rfl|omega):a/\b:=⟨h,k⟩
attribute [go_sem] Bool.false_eq_true Int.toNat_natCast Bool.and_self false_and and_false or_true true_or or_false false_or Bool.or_self Bool.or_true Bool.true_or Bool.or_false Bool.false_or Bool.and_false Bool.false_and not_true_eq_false not_false_eq_true and_self length_append length_set take_length Option.getD_some Option.getD_none false_implies implies_true Option.some.injEq forall_eq_apply_imp_iff forall_eq forall_eq' length_drop length_take getElem?_drop Nat.mul_one Nat.one_mul Nat.zero_add Nat.add_zero Nat.sub_zero Nat.add_sub_cancel_left Nat.add_sub_cancel yFu yFw yFv zE6 zIc zQu zUy jAx zXs yEi jUm yEk yEj jN4 jGt zYu jN6 jGv jGx jG0 jGz jGu jQo Nat.min_eq_left Nat.min_eq_right jN7 jGy jGw jN5 Int.cast_ofNat_Int Int.natCast_zero Int.natCast_one
variable {tab:Tab}{gl:Gl}{fs:Fs}{hs:Hs}{Qx:xV}{fm:Nat->Option V}{nb:Nat}{K:V×Wr->List Nat->Prop}
def mv (d s:Nat):zU:=⟨some d,.op .mov,[.tmp s],none⟩
theorem yEx {d s:Nat}:((mv d s).q tab gl fm nb).wp hs K=((⟨some d,.op .mov,[.tmp s],none⟩:zU).q tab gl fm nb).wp hs K:=eR
theorem yEw {d s:Nat}:(mv d s).dst=some d:=eR
def mG (d s t:Nat):zU:=⟨some d,.op .mov,[.tmp s],some (t,true)⟩
theorem yEt {d s t:Nat}:((mG d s t).q tab gl fm nb).wp hs K=((⟨some d,.op .mov,[.tmp s],some (t,true)⟩:zU).q tab gl fm nb).wp hs K:=eR
theorem yEs {d s t:Nat}:(mG d s t).dst=some d:=eR
def mC (d:Nat)(v:V):zU:=⟨some d,.op .mov,[.cst v],none⟩
theorem yEp {d:Nat}{v:V}:((mC d v).q tab gl fm nb).wp hs K=((⟨some d,.op .mov,[.cst v],none⟩:zU).q tab gl fm nb).wp hs K:=eR
theorem yEo {d:Nat}{v:V}:(mC d v).dst=some d:=eR
def oO (d:Nat)(a:AO)(xs:List qHb):zU:=⟨some d,.op a,xs,none⟩
theorem yE3 {d:Nat}{a:AO}{xs:List qHb}:((oO d a xs).q tab gl fm nb).wp hs K=((⟨some d,.op a,xs,none⟩:zU).q tab gl fm nb).wp hs K:=eR
theorem yE2 {d:Nat}{a:AO}{xs:List qHb}:(oO d a xs).dst=some d:=eR
def oG (d t:Nat)(a:AO)(xs:List qHb):zU:=⟨some d,.op a,xs,some (t,true)⟩
theorem yE1 {d t:Nat}{a:AO}{xs:List qHb}:((oG d t a xs).q tab gl fm nb).wp hs K=((⟨some d,.op a,xs,some (t,true)⟩:zU).q tab gl fm nb).wp hs K:=eR
theorem yE0 {d t:Nat}{a:AO}{xs:List qHb}:(oG d t a xs).dst=some d:=eR
def bT (d:Nat)(o:BinOp)(x y:Nat):zU:=⟨some d,.op (.bin o),[.tmp x,.tmp y],none⟩
theorem yD8 {d:Nat}{o:BinOp}{x y:Nat}:((bT d o x y).q tab gl fm nb).wp hs K=((⟨some d,.op (.bin o),[.tmp x,.tmp y],none⟩:zU).q tab gl fm nb).wp hs K:=eR
theorem yD7 {d:Nat}{o:BinOp}{x y:Nat}:(bT d o x y).dst=some d:=eR
def bN (d:Nat)(o:BinOp)(x:Nat)(n:Int):zU:=⟨some d,.op (.bin o),[.tmp x,.cst (.t (.int .i64 n))],none⟩
theorem yD6 {d:Nat}{o:BinOp}{x:Nat}{n:Int}:((bN d o x n).q tab gl fm nb).wp hs K=((⟨some d,.op (.bin o),[.tmp x,.cst (.t (.int .i64 n))],none⟩:zU).q tab gl fm nb).wp hs K:=eR
theorem yD5 {d:Nat}{o:BinOp}{x:Nat}{n:Int}:(bN d o x n).dst=some d:=eR
def cL (d f:Nat)(k:Bool)(xs:List qHb):zU:=⟨some d,.call f k,xs,none⟩
theorem yEe {d f:Nat}{k:Bool}{xs:List qHb}:((cL d f k xs).q tab gl fm nb).wp hs K=((⟨some d,.call f k,xs,none⟩:zU).q tab gl fm nb).wp hs K:=eR
theorem yEd {d f:Nat}{k:Bool}{xs:List qHb}:(cL d f k xs).dst=some d:=eR
def mF (d s t:Nat):zU:=⟨some d,.op .mov,[.tmp s],some (t,false)⟩
theorem yEr {d s t:Nat}:((mF d s t).q tab gl fm nb).wp hs K=((⟨some d,.op .mov,[.tmp s],some (t,false)⟩:zU).q tab gl fm nb).wp hs K:=eR
theorem yEq {d s t:Nat}:(mF d s t).dst=some d:=eR
def oF (d t:Nat)(a:AO)(xs:List qHb):zU:=⟨some d,.op a,xs,some (t,false)⟩
theorem yEz {d t:Nat}{a:AO}{xs:List qHb}:((oF d t a xs).q tab gl fm nb).wp hs K=((⟨some d,.op a,xs,some (t,false)⟩:zU).q tab gl fm nb).wp hs K:=eR
theorem yEy {d t:Nat}{a:AO}{xs:List qHb}:(oF d t a xs).dst=some d:=eR
def cG (d t f:Nat)(k:Bool)(xs:List qHb):zU:=⟨some d,.call f k,xs,some (t,true)⟩
theorem yEc {d t f:Nat}{k:Bool}{xs:List qHb}:((cG d t f k xs).q tab gl fm nb).wp hs K=((⟨some d,.call f k,xs,some (t,true)⟩:zU).q tab gl fm nb).wp hs K:=eR
theorem yEb {d t f:Nat}{k:Bool}{xs:List qHb}:(cG d t f k xs).dst=some d:=eR
def cF (d t f:Nat)(k:Bool)(xs:List qHb):zU:=⟨some d,.call f k,xs,some (t,false)⟩
theorem yEa {d t f:Nat}{k:Bool}{xs:List qHb}:((cF d t f k xs).q tab gl fm nb).wp hs K=((⟨some d,.call f k,xs,some (t,false)⟩:zU).q tab gl fm nb).wp hs K:=eR
theorem yD9 {d t f:Nat}{k:Bool}{xs:List qHb}:(cF d t f k xs).dst=some d:=eR
attribute [go_sem ↓] yEr yEz yEc yEa
attribute [go_sem] yEq yEy yEb yD9
def oS (n x y:Nat):zU:=⟨none,.op (.store n),[.tmp x,.tmp y],none⟩
theorem yE5 {n x y:Nat}:((oS n x y).q tab gl fm nb).wp hs K=((⟨none,.op (.store n),[.tmp x,.tmp y],none⟩:zU).q tab gl fm nb).wp hs K:=eR
theorem yE4 {n x y:Nat}:(oS n x y).dst=none:=eR
def rG (nb:Nat)(os:List zU):AC:= .reg nb none os
theorem yE6 {os:List zU}:(rG nb os).wp tab gl fs hs Qx=(AC.reg nb none os).wp tab gl fs hs Qx:=eR
attribute [go_sem ↓] yE6 yEx yEt yEp yE3 yE1 yD8 yD6 yEe yE5
attribute [go_sem] yEw yEs yEo yE2 yE0 yD7 yD5 yEd yE4
attribute [go_sem] Int.reduceAdd Int.reduceBEq Int.reduceDiv Int.reduceEq Int.reduceFDiv Int.reduceGE Int.reduceGT Int.reduceLE Int.reduceLT Int.reduceMod Int.reduceMul Int.reduceNeg Int.reducePow Int.reduceSub Int.reduceTDiv Int.reduceTMod Int.reduceToNat Nat.reduceAdd Nat.reduceBEq Nat.reduceBneDiff Nat.reduceDiv Nat.reduceEqDiff Nat.reduceGT Nat.reduceLT Nat.reduceLeDiff Nat.reduceMod Nat.reduceMul Nat.reducePow Nat.reduceSub reduceCtorEq
attribute [go_sem ↓] reduceIte
theorem mcn {α β:Type}:(∀(f:α->β)(a:α)(l:List α),List.map f (a::l)=f a::List.map f l)/\∀f:α->β,List.map f []=[]:=⟨λ_ _ _=>rfl,λ_=>rfl⟩
theorem oms {α β:Type}{f:α->β}{a:α}:Option.map f (some a)=some (f a):=rfl
end Go.Eng
end
section
namespace Go.Eng
open List
def qMf (s:List UInt8):T:= .str ⟨s.toArray⟩
theorem jA3 {s:List UInt8}:T.str ⟨s.toArray⟩=qMf s:=eR
theorem qVz (b:ByteArray):∀(n i:Nat)(r:List UInt8),n=b.size-i->ByteArray.toList.loop b i r=r.reverse++b.data.toList.drop i
 |0,i,r,h=>by
  unfold ByteArray.toList.loop;rw[if_neg oM];have:b.data.toList.drop i=[]:=drop_eq_nil_of_le (by have:b.data.toList.length=b.size:=rfl;omega);rw[this,append_nil]
 |n+1,i,r,h=>by
  unfold ByteArray.toList.loop;have hi:i<b.size:=oM;have hl:b.data.toList.length=b.size:=rfl;rw[if_pos hi,qVz b n (i+1) _ oM];have e:b.data.toList.drop i=b.data.toList[i]'(oM)::b.data.toList.drop (i+1):=drop_eq_getElem_cons oM;rw[e];have e2:b.get! i=b.data.toList[i]'(oM):=by
   show b.data[i]! = _;have hi':i<b.data.size:=hi;rw[getElem!_pos b.data i hi'];simp
  rw[e2];simp
theorem zJ7 {s:List UInt8}:(ByteArray.mk s.toArray).toList=s:=by
 unfold ByteArray.toList;rw[qVz _ _ 0 [] rfl];simp
theorem zWm {a b:List UInt8}:qJu .eql (qMf a) (qMf b)=some (.bool (decide (a=b))):=by
 show some (T.bool ((ByteArray.mk a.toArray).toList==(ByteArray.mk b.toArray).toList))=_;rw[zJ7,zJ7];by_cases h:a=b<;>simp[h]
theorem zWn {a b:List UInt8}:qJu .neq (qMf a) (qMf b)=some (.bool (!decide (a=b))):=by
 show some (T.bool (!((ByteArray.mk a.toArray).toList==(ByteArray.mk b.toArray).toList)))=_;rw[zJ7,zJ7];by_cases h:a=b<;>simp[h]
theorem zP4 {a b:List UInt8}(h:a.length+b.length<=9223372036854775807):qJu .add (qMf a) (qMf b)=some (qMf (a++b)):=by
 show(if(ByteArray.mk a.toArray).size+(ByteArray.mk b.toArray).size<=maxLen then some (T.str (ByteArray.mk a.toArray++ByteArray.mk b.toArray)) else none)=_;have h1:(ByteArray.mk a.toArray).size=a.length:=rfl;have h2:(ByteArray.mk b.toArray).size=b.length:=rfl;have h3:maxLen=9223372036854775807:=by decide
 rw[h1,h2,h3,if_pos h];have e:ByteArray.mk a.toArray++ByteArray.mk b.toArray=⟨(a++b).toArray⟩:=by
  apply ByteArray.ext;simp[ByteArray.data_append]
 rw[e];rfl
theorem zUq {a:List UInt8}:qSp [.t (qMf a)]=.ret (.t (.int .i64 a.length),[]):=eR
theorem qXm {a:List UInt8}{k:IntKind}{i:Nat}(h:i<a.length):qFg [.t (qMf a),.t (.int k (i:Nat))]=.ret (.t (qA (a.getD i 0)),[]):=by
 have e:(ByteArray.mk a.toArray).data.toList[(i:Int).toNat]?=some (a.getD i 0):=by simp[List.getD,h]
 simp only[qMf,qFg,vY,Q.of,Q.bind,Q.assert,e];rw[if_pos oM]
theorem zZ9 {a:List UInt8}{nb:Nat}:zAt nb [.t (qMf a)]=Q.assert (qDy a.length 1) (.free nb (.ret (.sl nb 0 a.length,[(nb,.live 1 ((a.map qA).map V.t) true false)]))):=by
 have h1:(ByteArray.mk a.toArray).size=a.length:=rfl;have h2:((ByteArray.mk a.toArray).data.toList.map λb=>V.t (qA b))=(a.map qA).map V.t:=by simp[map_map,Function.comp_def]
 simp only[qMf,zAt,h1,h2]
theorem zEa {bs:List UInt8}:qHz ((bs.map qA).map V.t)=some bs:=by
 have:=qQc (bs:=bs);rw[map_map];exact this
theorem zMm {a b:List UInt8}:(qMf a=qMf b)=(a=b):=by
 apply propext;constructor
 .intro h;have h1:=congrArg (λx=>match x with|T.str s=>s.data.toList|_=>[]) h;simpa [qMf]using h1
 .rintro rfl;rfl
theorem jJa {s:List UInt8}:(qMf s).cells=[qMf s]:=eR
theorem jJm {s:List UInt8}:(V.t (qMf s)).cells=[V.t (qMf s)]:=eR
theorem jJs {s:List UInt8}:(V.t (qMf s)).plain=true:=eR
theorem zIv {s:List UInt8}:(V.t (qMf s)).single=true:=eR
theorem zRd {s:List UInt8}:(qMf s).flat=true:=eR
attribute [go_sem ↓] zWm zWn zP4 zUq qXm zZ9
attribute [go_sem] jA3 zEa zMm jJa jJm jJs zIv zRd
end Go.Eng
end
section
namespace Go.Eng
open List
variable {tab:Tab}{gl:Gl}{fs:Fs}{hs:Hs}{Qx:xV}
def qYo {σ:Type}(Inv:σ->Prop)(μ:σ->Nat)(fI:σ->Fs)(hI:σ->Hs)(s:σ)(fs:Fs)(hs:Hs):Prop:=∃t,Inv t/\μ t<μ s/\qL fs hs (fI t) (hI t)
def jS1 {σ:Type}(Inv:σ->Prop)(μ:σ->Nat)(fI:σ->Fs)(hI:σ->Hs)(s:σ)(Qx:xV):xV:=λe fs' hs'=>match e with|.normal=>qYo Inv μ fI hI s fs' hs'|e=>Qx e fs' hs'
theorem zIa {σ:Type}{Inv:σ->Prop}{μ:σ->Nat}{fI:σ->Fs}{hI:σ->Hs}{s:σ}:jS1 Inv μ fI hI s Qx .normal fs hs=qYo Inv μ fI hI s fs hs:=eR
theorem zR1 {σ:Type}{Inv:σ->Prop}{μ:σ->Nat}{fI:σ->Fs}{hI:σ->Hs}{s:σ}{id:Nat}:jS1 Inv μ fI hI s Qx (.exit id) fs hs=Qx (.exit id) fs hs:=eR
theorem zX1 {σ:Type}{Inv:σ->Prop}{μ:σ->Nat}{fI:σ->Fs}{hI:σ->Hs}{s:σ}:jS1 Inv μ fI hI s Qx .ret fs hs=Qx .ret fs hs:=eR
attribute [go_sem] zIa zR1 zX1
theorem qYo.of {σ:Type}{Inv:σ->Prop}{μ:σ->Nat}{fI:σ->Fs}{hI:σ->Hs}{s:σ}(t:σ)(h1:Inv t)(h2:μ t<μ s)(h3:qL fs hs (fI t) (hI t)):qYo Inv μ fI hI s fs hs:=⟨t,h1,h2,h3⟩
theorem jZ {a:AC}{σ:Type}(Inv:σ->Prop)(μ:σ->Nat)(fI:σ->Fs)(hI:σ->Hs)(s0:σ)(hP:Inv s0)(h0:qL fs hs (fI s0) (hI s0))(h:∀s,Inv s->a.wp tab gl (fI s) (hI s) (jS1 Inv μ fI hI s Qx)):qYv tab gl a fs hs Qx:=by
 refine qLk (ι := { s:σ // Inv s }) (λi=>(fI i.1,hI i.1)) (λi=>μ i.1) ⟨s0,hP⟩ h0 (λi=>?_);refine zX (λe f g hq=>?_) (h i.1 i.2);cases e with
 |normal=>
  obtain⟨t,h1,h2,h3⟩:=hq;exact⟨⟨t,h1⟩,h2,h3⟩
 |exit id=>exact hq
 |ret=>exact hq
end Go.Eng
end
section
set_option maxRecDepth 20000
namespace Go.Eng
open List
theorem u8f (n:Nat)(h:n<256):T.int .u8 (no_index (OfNat.ofNat n))=qA (OfNat.ofNat n):=by
 have e:(UInt8.ofNat n).toNat=n:=by rw[UInt8.toNat_ofNat'];omega
 show T.int .u8 (Int.ofNat n)=T.int .u8 (((UInt8.ofNat n).toNat:Nat):Int);rw[e];rfl
theorem yDj (n:Nat)(h:n<4294967296):T.int .u32 (no_index (OfNat.ofNat n))=jG (OfNat.ofNat n):=by
 have e:(UInt32.ofNat n).toNat=n:=by rw[UInt32.toNat_ofNat'];omega
 show T.int .u32 (Int.ofNat n)=T.int .u32 (((UInt32.ofNat n).toNat:Nat):Int);rw[e];rfl
theorem yDi (s:List UInt8):T.str ⟨Array.mk s⟩=qMf s:=rfl
theorem yDa (x:V):[x,x,x,x,x,x,x,x,x,x,x,x,x,x,x,x,x,x,x,x,x,x,x,x,x,x,x,x,x,x,x,x,x,x,x,x,x,x,x,x,x,x,x,x,x,x,x,x,x,x,x,x,x,x,x,x,x,x,x,x,x,x,x,x]=List.replicate 64 x:=rfl
theorem yDb (x:V):[x,x,x,x,x,x,x,x,x,x,x,x,x,x,x,x,x,x,x,x,x,x,x,x,x,x,x,x,x,x,x,x,x,x,x,x,x,x,x,x,x,x,x,x,x,x,x,x,x,x,x,x,x,x,x,x,x,x,x,x,x,x,x,x,x,x,x,x,x,x,x,x,x,x,x,x,x,x,x,x]=List.replicate 80 x:=rfl
theorem jPf (x:V):[x,x,x,x,x,x,x,x,x,x,x,x,x,x,x,x,x,x,x,x,x,x,x,x,x,x,x,x,x,x,x,x,x,x,x,x,x,x,x,x,x,x,x,x,x,x,x,x,x,x,x,x,x,x,x,x,x,x,x,x,x,x,x,x,x,x,x,x,x,x,x,x,x,x,x,x,x,x,x,x,x,x,x,x,x,x,x,x,x,x,x,x,x,x,x,x,x,x,x,x,x,x,x,x,x,x,x,x,x,x,x,x,x,x,x,x,x,x,x,x,x,x,x,x,x,x,x,x,x,x,x,x,x,x,x,x]=List.replicate 136 x:=rfl
end Go.Eng
end
