/- A part of an abstract machine, its walks, their tie. -/
import Derived.Test.YtekghmfbgbhobaaGreatDoorS2
set_option linter.all false
section
namespace Go.Eng
variable {cx:Cx} {β:Nat→Option BI} {F:Nat→Prop} {fm:Nat→Option V} {hm:Nat→Option Ob} {a:Act} {w:World}
def Src (β:Nat→Option BI)(F:Nat→Prop)(w:World)(xs:List V)(z:Nat)(news:List Value):Prop:=
 news.length=xs.length*z∧(∀ u∈news,u.oneCell'=true) ∧ ∀ (i:Nat) (y:V),xs[i]?=some y→y.cells.length=z ∧ ∀ (j:Nat) (q:V),y.cells[j]?=some q → ∃ u,news[i*z+j]?=some u∧qV β F w q u∧u.oneCell'=true
theorem Src.mono {β':Nat→Option BI}{F':Nat→Prop}{w':World}{xs:List V}{z:Nat}{news:List Value}(h:Src β F w xs z news)(hβ : ∀ i bi,β i=some bi→β' i=some bi)(hF : ∀ b,F b→F' b)
  (hw : ∀ b,F b→w'.heap[b]?=w.heap[b]?):Src β' F' w' xs z news:=
 ⟨h.1,h.2.1,fun i y hy=>let ⟨a,b⟩:=h.2.2 i y hy;⟨a,fun j q hq=>let ⟨u,c,d,e⟩:=b j q hq;⟨u,c,d.mono hβ hF hw,e⟩⟩⟩
theorem qZ6 {z:Nat}{es:List V}(h:zOk z es=true){i:Nat}{y:V}(hy:es[i]?=some y):y.cells.length=z:=by
 unfold zOk at h;rw[List.all_eq_true] at h;simpa using h y (List.mem_of_getElem? hy)
theorem zTz {z:Nat}{es:List T}(h:qPv z es=true){y:T}(hy:y∈es):y.cells.length=z:=by
 unfold qPv at h;rw[List.all_eq_true] at h;simpa using h y hy
theorem qLe (e:T):(V.t e).cells=e.cells.map .t:=by
 cases e<;>rfl
theorem xN {e:T}{j:Nat}{q:V}(h:(V.t e).cells[j]?=some q) : ∃ c,e.cells[j]?=some c∧q = .t c:=by
 rw[qLe,List.getElem?_map,Option.map_eq_some_iff] at h;obtain⟨c,h1,h2⟩:=h;exact⟨c,h1,h2.symm⟩
theorem qPi (R:Rel cx β F fm hm a w){v:V}{x:Value}{xs:List V}{l:List Nat}{z:Nat}(h:(qB6 v).run hm=some (xs,l))(hz:zOk z xs=true)(hv:qV β F w v x) :
  (x = .slice none 0 0∧xs=[]) ∨ ∃ ad cap news,x = .slice (some ad) xs.length cap∧True∧Src β F w xs z news ∧ ∀ j u,news[j]?=some u→w.cell? (ad.add j)=some u:=by
 unfold qB6 at h;split at h
 ·simp only[Q.run,Option.some.injEq,Prod.mk.injEq] at h;obtain⟨rfl,rfl⟩:=h;cases hv;exact .inl ⟨rfl,rfl⟩
 ·rename_i es;simp only[Q.run,Option.some.injEq,Prod.mk.injEq] at h;obtain⟨rfl,rfl⟩:=h;cases hv with
  | t hv=>
   cases hv with
   | nil=>exact .inl ⟨rfl,rfl⟩
   | sl _ ad cap sz news ha hc hn h1 hF hw hzz hr=>
    refine .inr ⟨ad,cap,news,sM,trivial,⟨?_,h1,fun i y hy=>?_⟩,hw⟩
    ·rw[List.length_map,hn];cases es with
     | nil=>simp
     | cons e r=>
      have:=qZ6 hz (i:=0) (y:= .t e) sM;rw[qLe,List.length_map,hzz e sM] at this;rw[this]
    ·rw[List.getElem?_map,Option.map_eq_some_iff] at hy;obtain⟨e,he,rfl⟩:=hy;have hk:=qZ6 hz (i:=i) (y:= .t e) (by simp[he]);refine⟨hk,fun j q hq=>?_⟩;obtain⟨c,hc',rfl⟩:=xN hq;have hsz:sz=z:=by rw[qLe,List.length_map,hzz e (List.mem_of_getElem? he)] at hk;exact hk
     subst hsz;have hj:j<sz:=by rw[←hzz e (List.mem_of_getElem? he)];exact (List.getElem?_eq_some_iff.1 hc').1
     have hi:i<es.length:=(List.getElem?_eq_some_iff.1 he).1;have hlt:i*sz+j<news.length:=by rw[hn];exact qQ0 hi hj
     exact⟨news[i*sz+j],by simp[hlt],.t (hr i e j c _ he hc' (by simp[hlt])),h1 _ sM⟩
 ·rename_i id off len;simp only[Q.run] at h;cases ho:hm id with
  | none=>rw[ho] at h;cases h
  | some o=>
   rw[ho] at h;cases o with
   | dead=>simp[Q.run] at h
   | live z0 es wr full=>
    by_cases hle:off+len≤es.length
    ·simp only[Q.assert,hle,if_true,Q.run,Option.some.injEq,Prod.mk.injEq] at h;obtain⟨rfl,rfl⟩:=h
     ·cases hv with
      | slv _ sz room hb=>exact .inl ⟨rfl,sM⟩
      | sl _ _ _ scap b sz room ad hb hlc hr had hs=>
       obtain⟨c,e,fz,h2,h3,h4,h5,h6,h7,h8,_⟩:=R.obj ho hb rfl;simp only at h4 h5 h7;have hxl:((es.drop off).take len).length=len:=soM;refine .inr ⟨ad,scap,(c.toList.drop (off*sz)).take (len*sz),by rw[hxl],trivial,⟨?_,?_,?_⟩,?_⟩
       ·have hlen:((c.toList.drop (off*sz)).take (len*sz)).length=len*sz:=by
         have:(off+len)*sz≤room*sz:=Nat.mul_le_mul_right sz oM;have e2:(off+len)*sz=off*sz+len*sz:=by rw[Nat.add_mul]
         simp;omega
        rw[hlen,hxl];cases hq:(es.drop off).take len with
        | nil=>rw[hq] at hxl;simp at hxl;subst hxl;simp
        | cons y r=>
         have h0:((es.drop off).take len)[0]?=some y:=by rw[hq];rfl
         have k1:=qZ6 hz h0;have h0':es[off]?=some y:=by
          simp only[List.getElem?_take,List.getElem?_drop] at h0;split at h0
          ·simpa using h0
          ·cases h0
         rw[←k1,(h7 off y h0').1]
       ·intro u hu;obtain⟨j,hj⟩:=List.getElem?_of_mem hu;simp only[List.getElem?_take,List.getElem?_drop] at hj;split at hj
        ·rename_i hjlt;have hszp:0<sz:=by
          rcases Nat.eq_zero_or_pos sz with h0 | h0
          ·subst h0;simp at hjlt
          ·exact h0
         have hdiv:j/sz<len:=Nat.div_lt_of_lt_mul (by rw[Nat.mul_comm];exact hjlt);have hmod:j%sz<sz:=Nat.mod_lt _ hszp;have hjeq:j/sz*sz+j%sz=j:=by rw[Nat.mul_comm];exact Nat.div_add_mod j sz
         have hel:off+j/sz<es.length:=oM;obtain⟨k1,k2⟩:=h7 (off+j/sz) es[off+j/sz] (by simp[hel]);obtain⟨u',hu',_,hone⟩:=k2 (j%sz) (es[off+j/sz].cells[j%sz]'(oM)) sM;have:(off+j/sz)*sz+j%sz=off*sz+j:=by rw[Nat.add_mul];omega
         rw[this] at hu';have hj':c[off*sz+j]?=some u:=by simpa using hj
         rw[hj'] at hu';cases hu';exact hone
        ·cases hj
       ·intro i y hy;have hk:=qZ6 hz hy;have hy':es[off+i]?=some y∧i<len:=by
         simp only[List.getElem?_take,List.getElem?_drop] at hy;split at hy
         ·rename_i hlt;exact⟨hy,hlt⟩
         ·cases hy
        obtain⟨k1,k2⟩:=h7 (off+i) y hy'.1;have hsz:sz=z:=oM;subst hsz;refine⟨hk,fun j q hq=>?_⟩;obtain⟨u,hu,hr',ho'⟩:=k2 j q hq;have hj:j<sz:=by rw[←k1];exact (List.getElem?_eq_some_iff.1 hq).1
        refine⟨u,?_,hr',ho'⟩;simp only[List.getElem?_take,List.getElem?_drop];rw[if_pos (qQ0 hy'.2 hj)];have:off*sz+(i*sz+j)=(off+i)*sz+j:=by rw[Nat.add_mul];omega
        rw[this];simpa using hu
       ·intro j u hu;simp only[List.getElem?_take,List.getElem?_drop] at hu;split at hu
        ·rename_i hjlt;have hlt:0<scap:=by
          rcases Nat.eq_zero_or_pos len with h0 | h0
          ·subst h0;simp at hjlt
          ·omega
         rw[had hlt,Addr.add_lit,cell_of_row w b _ c e fz h2];simpa using hu
        ·cases hu
    ·simp[Q.assert,hle,Q.run] at h
 ·simp[Q.run] at h
section
variable {P:Program}
theorem qEh (t t' ty e e':TypeId)(i:TypeInfo)(ht:P.underlying t=some (.slice e))(ht':P.underlying t'=some (.slice e'))(hi:P.info? e=some i)
  (base:Option Addr) (sLen sCap:Nat) (x:Option Addr) (n cp:Nat) (news:List Value) (hn:x=none→news=[]) (hl:news.length=n*i.size)
  (hnews : ∀ ad,x=some ad → ∀ j u,news[j]?=some u→w.cell? (ad.add j)=some u) (hroom:sLen+n≤sCap) (w':World)
  (hst : ∀ ad,base=some ad→(storeCells (ad.add (sLen*i.size)) news).run P w = .ok () w') (hb:base=none→w'=w) :
  (Builtin.append_ #[t,t'] ty #[.slice base sLen sCap,.slice x n cp]).run P w = .ok (.slice base (sLen+n) sCap) w':=by
 have hf:(Builtin.firstCells i.size n (.slice x n cp)).run P w = .ok news.toArray w:=by
  cases x with
  | none=>simp[Builtin.firstCells,hn rfl]
  | some ad=>exact run_firstCells_some w i.size n ad n cp news hl (hnews ad rfl)
 cases base with
 | none=>simp[Builtin.append_,run_underlying ht,run_underlying ht',sizeOf,typeInfo,hi,Builtin.lenOf,hroom,hf,hb rfl]
 | some ad=>simp[Builtin.append_,run_underlying ht,run_underlying ht',sizeOf,typeInfo,hi,Builtin.lenOf,hroom,hf,hst ad rfl]
theorem zBm (t t' ty e e':TypeId)(i:TypeInfo)(z:Value)(ht:P.underlying t=some (.slice e))(ht':P.underlying t'=some (.slice e'))(hi:P.info? e=some i)(hz:i.zero=some z)
  (base:Option Addr) (sLen sCap:Nat) (olds:List Value) (hbn:base=none→olds=[]) (hlo:olds.length=sLen*i.size) (holds : ∀ ad,base=some ad → ∀ j v,olds[j]?=some v→w.cell? (ad.add j)=some v)
  (x:Option Addr) (n cp:Nat) (news:List Value) (hn:x=none→news=[]) (hl:news.length=n*i.size)
  (hnews : ∀ ad,x=some ad → ∀ j u,news[j]?=some u→w.cell? (ad.add j)=some u)
  (hg:sCap<sLen+n) (h63:sLen+n≤maxLen) (hfit:(sLen+n)*i.bytes≤140737488355328) :
  (Builtin.append_ #[t,t'] ty #[.slice base sLen sCap,.slice x n cp]).run P w =
   .ok (.slice (some ⟨w.heap.size,0,none⟩) (sLen+n) (grownCap w (sLen+n) sCap e))
    (w.drew.alloc (.cells (olds.toArray++news.toArray++Builtin.zeroCells z.cells (grownCap w (sLen+n) sCap e-(sLen+n))) e)):=by
 have hnn : ¬ (sLen+n≤sCap):=oM;have h63' : ¬ (9223372036854775807<((sLen:Int)+(n:Int))):=by unfold maxLen at h63;omega
 have h48:=growslice_fits hg hfit;have h48' : ¬ (281474976710656<Builtin.nextslicecap (sLen+n) sCap*i.bytes):=oM;have hf:(Builtin.firstCells i.size n (.slice x n cp)).run P w.drew = .ok news.toArray w.drew:=by
  cases x with
  | none=>simp[Builtin.firstCells,hn rfl]
  | some ad=>exact run_firstCells_some w.drew i.size n ad n cp news hl (by simpa using hnews ad rfl)
 have hfo:(Builtin.firstCells i.size sLen (.slice base sLen sCap)).run P w.drew = .ok olds.toArray w.drew:=by
  cases base with
  | none=>simp[Builtin.firstCells,hbn rfl]
  | some ad=>exact run_firstCells_some w.drew i.size sLen ad sLen sCap olds hlo (by simpa using holds ad rfl)
 simp[Builtin.append_,run_underlying ht,run_underlying ht',sizeOf,typeInfo,zeroValue,hi,hz,Builtin.lenOf,hnn,h63',h48',Question.forced,hf,hfo,newRow,grownCap];congr 2;apply Array.ext';simp[List.append_assoc]
end
theorem Src.get {xs:List V}{z:Nat}{news:List Value}(h:Src β F w xs z news){i:Nat}{y:V}(hy:xs[i]?=some y){j:Nat}{q:V}(hq:y.cells[j]?=some q) :
  ∃ u,news[i*z+j]?=some u∧qV β F w q u∧u.oneCell'=true:=(h.2.2 i y hy).2 j q hq
theorem qJz {es xs:List V}{z:Nat}{olds news:List Value}(h1:Src β F w es z olds)(h2:Src β F w xs z news)(rest:List Value):yS β F w (es++xs) z (olds++news++rest).toArray:=by
 intro i y hy;rw[List.getElem?_append] at hy;split at hy
 ·rename_i hlt;refine⟨(h1.2.2 i y hy).1,fun j q hq=>?_⟩;obtain⟨u,hu,hr,ho⟩:=h1.get hy hq;refine⟨u,?_,hr,ho⟩;have:i*z+j<olds.length:=(List.getElem?_eq_some_iff.1 hu).1;rw[List.getElem?_toArray,List.append_assoc,List.getElem?_append_left this];exact hu
 ·rename_i hlt;refine⟨(h2.2.2 _ y hy).1,fun j q hq=>?_⟩;obtain⟨u,hu,hr,ho⟩:=h2.get hy hq;refine⟨u,?_,hr,ho⟩;have hn:(i-es.length)*z+j<news.length:=(List.getElem?_eq_some_iff.1 hu).1;have he:i*z+j=olds.length+((i-es.length)*z+j):=by
   rw[h1.1,←Nat.add_assoc,←Nat.add_mul];congr 2;omega
  rw[List.getElem?_toArray,List.append_assoc,he,List.getElem?_append_right oM,List.getElem?_append_left oM];rw[←hu];congr 1;omega
theorem yS.src {es:List V}{sz:Nat}{c:Array Value}{room:Nat}(h:yS β F w es sz c)(hc:c.size=room*sz)(hl:es.length≤room):Src β F w es sz (c.toList.take (es.length*sz)):=by
 have hle:es.length*sz≤room*sz:=Nat.mul_le_mul_right sz hl;refine⟨soM,fun u hu=>?_,fun i y hy=>⟨(h i y hy).1,fun j q hq=>?_⟩⟩
 ·obtain⟨j,hj⟩:=List.getElem?_of_mem hu;simp only[List.getElem?_take] at hj;split at hj
  ·rename_i hjlt;have hszp:0<sz:=by
    rcases Nat.eq_zero_or_pos sz with h0 | h0
    ·subst h0;simp at hjlt
    ·exact h0
   have hdiv:j/sz<es.length:=Nat.div_lt_of_lt_mul (by rw[Nat.mul_comm];exact hjlt);have hmod:j%sz<sz:=Nat.mod_lt _ hszp;have hjeq:j/sz*sz+j%sz=j:=by rw[Nat.mul_comm];exact Nat.div_add_mod j sz
   obtain⟨k1,k2⟩:=h (j/sz) es[j/sz] (by simp[hdiv]);obtain⟨u',hu',_,hone⟩:=k2 (j%sz) (es[j/sz].cells[j%sz]'(oM)) sM;rw[hjeq] at hu';have hj':c[j]?=some u:=by simpa using hj
   rw[hj'] at hu';cases hu';exact hone
  ·cases hj
 ·obtain⟨u,hu,hr,ho⟩:=(h i y hy).2 j q hq;refine⟨u,?_,hr,ho⟩;have hi:i<es.length:=(List.getElem?_eq_some_iff.1 hy).1;have hj:j<sz:=by rw[←(h i y hy).1];exact (List.getElem?_eq_some_iff.1 hq).1
  rw[List.getElem?_take,if_pos (qQ0 hi hj)];simpa using hu
theorem zOx {id nb:Nat}{o p q:Ob}:upd (upd hm [(id,o),(nb,p)]) [(nb,q)]=upd hm [(id,o),(nb,q)]:=by
 funext j;simp only[upd];by_cases h:j=nb<;>simp[h]
end Go.Eng
end
section
namespace Go.Eng
variable {cx:Cx} {β:Nat→Option BI} {F:Nat→Prop} {fm:Nat→Option V} {hm:Nat→Option Ob} {a:Act} {w:World}
theorem qCo (w:World)(need old:Nat)(e:TypeId)(h:need≤maxLen):need≤grownCap w need old e∧grownCap w need old e≤maxLen:=
 ⟨grownCap_ge w need old e,grownCap_le_maxLen w need old e h⟩
theorem qX7 (R:Rel cx β F fm hm a w){nb:Nat}(hnb:hm nb=none){t t' ty e e':TypeId}{i:TypeInfo}{z:Value}(ht:cx.P.underlying t=some (.slice e))(ht':cx.P.underlying t'=some (.slice e'))
  (hi:cx.P.info? e=some i) (hz:i.zero=some z) (hzs:z.cells.size=i.size)
  {es xs:List V} {olds news:List Value} (hs1:Src β F w es i.size olds) (hs2:Src β F w xs i.size news)
  {base:Option Addr} {sCap:Nat} (hbn:base=none→olds=[]) (holds : ∀ ad,base=some ad → ∀ j v,olds[j]?=some v→w.cell? (ad.add j)=some v)
  {x:Option Addr} {cp:Nat} (hn:x=none→news=[]) (hnews : ∀ ad,x=some ad → ∀ j u,news[j]?=some u→w.cell? (ad.add j)=some u)
  (hg:sCap<es.length+xs.length) (h63:es.length+xs.length≤maxLen) (hfit:(es.length+xs.length)*i.bytes≤140737488355328) :
  Out cx β F fm hm a w (.sl nb 0 (es.length+xs.length)) [(nb,.live i.size (es++xs) true false)] (Builtin.append_ #[t,t'] ty #[.slice base es.length sCap,.slice x xs.length cp]):=by
 have hrun:=zBm (w:=w) t t' ty e e' i z ht ht' hi hz base es.length sCap olds hbn hs1.1 holds x xs.length cp news hn hs2.1 hnews hg h63 hfit;obtain⟨hge,hmx⟩:=qCo w (es.length+xs.length) sCap e h63;have hsz:(olds.toArray++news.toArray++Builtin.zeroCells z.cells (grownCap w (es.length+xs.length) sCap e-(es.length+xs.length))).size=grownCap w (es.length+xs.length) sCap e*i.size:=by
  simp only[Array.size_append,List.size_toArray,size_zeroCells,hzs,hs1.1,hs2.1,←Nat.add_mul];congr 1;omega
 have hH:=qJz hs1 hs2 (Builtin.zeroCells z.cells (grownCap w (es.length+xs.length) sCap e-(es.length+xs.length))).toList;have hal:=R.drew.alloc (w':=w.drew.alloc (.cells (olds.toArray++news.toArray++Builtin.zeroCells z.cells (grownCap w (es.length+xs.length) sCap e-(es.length+xs.length))) e)) (nb:=nb) hnb
  (fz:=(0,0)) (wr:=true) (es:=es++xs) (full:=false) (sz:=i.size) (room:=grownCap w (es.length+xs.length) sCap e) rfl rfl rfl rfl rfl (fun j=>⟨fun _=>sM,sM⟩) hsz
  (by simpa using hge) hmx sM (by
   have:(olds.toArray++news.toArray++Builtin.zeroCells z.cells (grownCap w (es.length+xs.length) sCap e-(es.length+xs.length))) =
     (olds++news++(Builtin.zeroCells z.cells (grownCap w (es.length+xs.length) sCap e-(es.length+xs.length))).toList).toArray:=by
    apply Array.ext';simp
   rw[this];exact hH.mono (fun _ _ h=>h) (fun _ h=>h) (fun _ _=>rfl))
 refine⟨_,_,_,hrun,hal.1,?_,hal.2⟩;have:=qV.sl (β:=qUy β nb ⟨some w.heap.size,i.size,grownCap w (es.length+xs.length) sCap e⟩) (F:=F) (w:=w.drew.alloc (.cells (olds.toArray++news.toArray++Builtin.zeroCells z.cells (grownCap w (es.length+xs.length) sCap e-(es.length+xs.length))) e))
  nb 0 (es.length+xs.length) (grownCap w (es.length+xs.length) sCap e) w.heap.size i.size (grownCap w (es.length+xs.length) sCap e) ⟨w.heap.size,0,none⟩ zF oM oM (fun _=>sM) rfl
 simpa using this
theorem qT7 {z:Nat}:Src β F w [] z []:=⟨sM,sM,by intro i y hy;simp at hy⟩
theorem qU4 (R:Rel cx β F fm hm a w){nb:Nat}(hnb:hm nb=none){t t' ty e e':TypeId}{i:TypeInfo}{z:Value}(ht:cx.P.underlying t=some (.slice e))(ht':cx.P.underlying t'=some (.slice e'))
  (hi:cx.P.info? e=some i) (hz:i.zero=some z) (hzs:z.cells.size=i.size)
  {v:V} {x:Value} {xs:List V} {l:List Nat} (hx:(qB6 v).run hm=some (xs,l)) (hzo:zOk i.size xs=true) (hv:qV β F w v x) (hsz:qCa xs.length i.bytes) :
  Out cx β F fm hm a w (.sl nb 0 xs.length) [(nb,.live i.size xs true false)] (Builtin.append_ #[t,t'] ty #[.slice none 0 0,x]):=by
 rcases qPi R hx hzo hv with⟨rfl,rfl⟩ | ⟨ad,cap,news,rfl,has,hs,hw⟩
 ·have hvt:=R.virt hnb (full:=false) i.size;refine⟨_,_,_,qEh t t' ty e e' i ht ht' hi none 0 0 none 0 0 [] (fun _=>rfl) sM sM (Nat.le_refl _) w sM (fun _=>rfl),hvt.1,?_,hvt.2⟩;exact .slv nb i.size 0 zF
 ·by_cases h0:xs.length=0
  ·have:xs=[]:=List.eq_nil_of_length_eq_zero h0;subst this;have hn:news=[]:=List.eq_nil_of_length_eq_zero (by simpa using hs.1);subst hn;have hvt:=R.virt hnb (full:=false) i.size;refine⟨_,_,_,qEh t t' ty e e' i ht ht' hi none 0 0 (some ad) 0 cap [] sM sM sM (Nat.le_refl _) w sM (fun _=>rfl),hvt.1,?_,hvt.2⟩;exact .slv nb i.size 0 zF
  ·have:=qX7 (es:=[]) R hnb (t:=t) (t':=t') (ty:=ty) ht ht' hi hz hzs qT7 hs (base:=none) (sCap:=0) (fun _=>rfl) sM (x:=some ad) (cp:=cap) sM (by intro ad' h;cases h;exact hw)
    soM (by simpa using hsz.1) (by simpa using hsz.2)
   simpa using this
theorem qU5 (R:Rel cx β F fm hm a w){nb:Nat}(hnb:hm nb=none){t t' ty e e':TypeId}{i:TypeInfo}{z:Value}(ht:cx.P.underlying t=some (.slice e))(ht':cx.P.underlying t'=some (.slice e'))
  (hi:cx.P.info? e=some i) (hz:i.zero=some z) (hzs:z.cells.size=i.size)
  {v:V} {x:Value} {xs:List V} {l:List Nat} (hx:(qB6 v).run hm=some (xs,l)) (hzo:zOk i.size xs=true) (hv:qV β F w v x)
  {id len:Nat} {p:Value} (hp:qV β F w (.sl id 0 len) p) {es:List V} {full:Bool} (hid:hm id=some (.live i.size es true full)) (hel:es.length=len)
  (hsz:qCa (len+xs.length) i.bytes) (h100:100≤id) :
  Out cx β F fm hm a w (.sl nb 0 (len+xs.length)) [(id,.dead),(nb,.live i.size (es++xs) true false)] (Builtin.append_ #[t,t'] ty #[p,x]):=by
 have hne:id≠nb:=fun h=>by subst h;rw[hid] at hnb;cases hnb
 have hk:=R.kill hid;have hkn:upd hm [(id,.dead)] nb=none:=by simp[upd,Ne.symm hne,hnb]
 have hsrc:=qPi R hx hzo hv;have post : ∀ {s:Sem Value} {m:Nat},Out cx β F fm (upd hm [(id,.dead)]) a w (.sl nb 0 m) [(nb,.live i.size (es++xs) true false)] s→
   Out cx β F fm hm a w (.sl nb 0 m) [(id,.dead),(nb,.live i.size (es++xs) true false)] s:=fun ⟨x,w',β',h1,h2,h3,h4⟩=>⟨x,w',β',h1,h2,h3,h4⟩
 obtain⟨xp,cap,news,hxeq,hxn,hs,hw⟩ : ∃ xp cap news,x = .slice xp xs.length cap∧(xp=none→news=[])∧Src β F w xs i.size news∧(∀ ad,xp=some ad → ∀ j u,news[j]?=some u→w.cell? (ad.add j)=some u):=by
  rcases hsrc with⟨rfl,rfl⟩ | ⟨ad,cap,news,rfl,has,hs,hw⟩
  ·exact⟨none,0,[],rfl,fun _=>rfl,qT7,sM⟩
  ·exact⟨some ad,cap,news,rfl,sM,hs,by intro ad' h;cases h;exact hw⟩
 subst hxeq;cases hp with
 | slv _ sz room hb=>
  obtain⟨bi',hb',hok⟩:=R.hp id _ hid;rw[hb] at hb';cases hb';simp only[qFj] at hok;obtain⟨_,_,hnil,_⟩:=hok;subst hnil;by_cases h0:xs.length=0
  ·have:xs=[]:=List.eq_nil_of_length_eq_zero h0;subst this;have hn:news=[]:=List.eq_nil_of_length_eq_zero (by simpa using hs.1);subst hn;have hvt:=hk.virt hkn (full:=false) i.size;refine post ⟨_,_,_,qEh t t' ty e e' i ht ht' hi none 0 0 xp 0 cap [] hxn sM sM (Nat.le_refl _) w sM (fun _=>rfl),hvt.1,?_,hvt.2⟩;exact .slv nb i.size 0 zF
  ·have:=qX7 (es:=[]) hk hkn (t:=t) (t':=t') (ty:=ty) ht ht' hi hz hzs qT7 hs (base:=none) (sCap:=0) (fun _=>rfl) sM (x:=xp) (cp:=cap) hxn hw
    soM (by simpa using hsz.1) (by simpa using hsz.2)
   exact post (by simpa using this)
 | sl _ _ _ scap b sz room bad hb hlc hr had hspot=>
  subst hel;obtain⟨c,ce,fz,h2,h3,h4,h5,h6,h7,h8,h9⟩:=R.obj hid hb rfl;simp only at h4 h5 h6 h7 h8 h9;subst h9;have hold:=h7.src h4 h5;by_cases hroom:es.length+xs.length≤scap
  ·have hroom':es.length+xs.length≤room:=oM;have hre:=R.rename hid hb hnb h100;have hle:es.length*i.size+xs.length*i.size≤c.size:=by
    rw[h4,←Nat.add_mul];exact Nat.mul_le_mul_right _ hroom'
   have hst:(storeCells (bad.add (es.length*i.size)) news).run cx.P w = .ok () (w.setCells b (es.length*i.size) news):=by
    by_cases hrp:0<scap
    ·have hbad:=had hrp;simp only[Nat.zero_mul] at hbad;subst hbad;rw[Addr.add_lit,Nat.zero_add];exact wT h2 h3 (by rw[hs.1];exact hle) hs.2.1
    ·have hx0:xs.length=0:=oM;have hn:news=[]:=List.eq_nil_of_length_eq_zero (by rw[hs.1,hx0];simp);subst hn;rfl
   have hrel:=qBu hre.1 (id:=nb) (z:=i.size) (es:=es) (es':=es++xs) (full:=full) (full':=false) (by simp[upd]) zF h2 h3 h4 (o:=es.length*i.size) (vs:=news) (by simpa using hroom') sM (by
    intro k y hy;rw[List.getElem?_append] at hy;split at hy
    ·rename_i hlt;obtain⟨k1,k2⟩:=h7 k y hy;refine⟨k1,fun j q hq=>?_⟩;obtain⟨u,hu,hru,hou⟩:=k2 j q hq;have hj:j<i.size:=by rw[←k1];exact (List.getElem?_eq_some_iff.1 hq).1
     exact⟨u,by rw[qCu _ _ _ _ (.inl (qQ0 hlt hj))];exact hu,hru.mono hre.2 (fun _ h=>h) (fun _ _=>rfl),hou⟩
    ·rename_i hlt;obtain⟨k1,k2⟩:=hs.2.2 _ y hy;refine⟨k1,fun j q hq=>?_⟩;obtain⟨u,hu,hru,hou⟩:=k2 j q hq;have hult:(k-es.length)*i.size+j<news.length:=(List.getElem?_eq_some_iff.1 hu).1;have:=qN4 news c (es.length*i.size) (by rw[hs.1];exact hle) _ hult;have he:es.length*i.size+((k-es.length)*i.size+j)=k*i.size+j:=by
      rw[←Nat.add_assoc,←Nat.add_mul];congr 2;omega
     rw[he] at this;exact⟨u,by rw[this];exact hu,hru.mono hre.2 (fun _ h=>h) (fun _ _=>rfl),hou⟩)
   rw[zOx] at hrel;refine⟨_,_,_,qEh t t' ty e e' i ht ht' hi (some bad) es.length scap xp xs.length cap news hxn hs.1 hw hroom _ (by intro ad h;cases h;exact hst) sM,hrel,?_,hre.2⟩;exact .sl nb 0 (es.length+xs.length) scap b i.size room bad zF hroom hr had hspot
  ·
   have:=qX7 hk hkn (t:=t) (t':=t') (ty:=ty) ht ht' hi hz hzs hold hs (base:=some bad) (sCap:=scap) sM (by
     intro ad h j u hu;cases h;simp only[List.getElem?_take] at hu;split at hu
     ·rename_i hlt;have hrp:0<scap:=by
       rcases Nat.eq_zero_or_pos es.length with h0 | h0
       ·rw[h0] at hlt;simp at hlt
       ·omega
      rw[had hrp,Addr.add_lit,cell_of_row w b _ c ce fz h2];simpa using hu
     ·cases hu) (x:=xp) (cp:=cap) hxn hw oM hsz.1 hsz.2
   exact post this
end Go.Eng
end
section
namespace Go.Eng
variable {cx:Cx} {β:Nat→Option BI} {F:Nat→Prop} {fm:Nat→Option V} {hm:Nat→Option Ob} {a:Act} {w:World}
def zJ6 (agg:Bool):Value→Option V
 | .agg cs=>if agg then (cs.toList.mapM V.ofConst).map V.mk else none
 | v=>if agg then none else V.ofConst v
def qJ3 (cs:Array Value):Bool:=cs.all Value.oneCell'
theorem qOd {agg:Bool}{z:Value}{v:V}(h:zJ6 agg z=some v)(h1:qJ3 z.cells=true):qV β F w v z∧v.plain=true:=by
 have h1' : ∀ u∈z.cells,u.oneCell'=true:=by
  unfold qJ3 at h1;rw[Array.all_eq_true_iff_forall_mem] at h1;exact h1
 unfold zJ6 at h;split at h
 ·rename_i cs;split at h
  ·simp only[Option.map_eq_some_iff] at h;obtain⟨vs,hvs,rfl⟩:=h;obtain⟨hl,hg⟩:=qOx hvs;refine⟨qV.mk (by simpa using hl.symm) h1' (fun i c u hc hu=>qAz (hg i u c (by simpa using hu) hc)),?_⟩;unfold V.mk;split<;>rfl
  ·cases h
 ·rename_i hne;split at h
  ·cases h
  ·have hr:qV β F w v z:=qAz h;refine⟨hr,hr.one_plain ?_⟩;have hz:z.cells = #[z]:=by
    cases z with
    | agg cs=>exact absurd rfl (hne cs)
    | _=>rfl
   exact h1' z (by rw[hz];simp)
theorem zRb {z:Array Value}{n i j:Nat}(hi:i<n)(hj:j<z.size):(madeCells z (n*z.size))[i*z.size+j]?=some z[j]:=by
 have hlt:=qQ0 hi hj;have hmod:(i*z.size+j)%z.size=j:=by rw[Nat.mul_comm,Nat.mul_add_mod];exact Nat.mod_eq_of_lt hj
 simp[madeCells,hlt,hmod,hj]
theorem qJ0 {v:V}{z:Value}(hr:qV β F w v z)(hp:v.plain=true){n l:Nat}(hl:l≤n):yS β F w (List.replicate l v) v.cells.length (madeCells z.cells (n*v.cells.length)):=by
 obtain⟨h1,h2⟩:=hr.cells;intro i y hy;rw[List.getElem?_replicate] at hy;split at hy
 ·rename_i hi;cases hy;refine⟨rfl,fun j q hq=>?_⟩;have hj:j<z.cells.size:=by rw[h1];exact (List.getElem?_eq_some_iff.1 hq).1
  rw[←h1];exact⟨z.cells[j],zRb oM hj,h2 j q _ hq (by simp[hj]),hr.plain_one hp _ sM⟩
 ·cases hy
theorem zRu (R:Rel cx β F fm hm a w){nb:Nat}(hnb:hm nb=none){t e:TypeId}{i:TypeInfo}{z:Value}{agg:Bool}{zv:V}(ht:cx.P.underlying t=some (.slice e))
  (hi:cx.P.info? e=some i) (hz:i.zero=some z) (hzv:zJ6 agg z=some zv) (h1:qJ3 z.cells=true) (hsize:zv.cells.length=i.size)
  {lv cv:V} {lx cxv:Value} {l c:Int} (hl:qV β F w lv lx) (hc:qV β F w cv cxv) (hl':vO lv=some l) (hc':vO cv=some c) (h0:0≤l) (hlc:l≤c) (hsz:qCa c.toNat i.bytes) :
  Out cx β F fm hm a w (.sl nb 0 l.toNat) [(nb,.live i.size (List.replicate l.toNat zv) true false)] (Instr.makeSlice t lx cxv):=by
 obtain⟨kl,rfl⟩:=hl.intArg_inv hl';obtain⟨kc,rfl⟩:=hc.intArg_inv hc';obtain⟨hr,hp⟩:=qOd (β:=β) (F:=F) (w:=w) hzv h1;obtain⟨s1,s2⟩:=hsz;have hcn:(c.toNat:Int)=c:=Int.toNat_of_nonneg oM;have hrun:=run_make (P:=cx.P) w t e i z ht hi hz kl kc l c h0 hlc (by
  have:((c.toNat*i.bytes:Nat):Int)≤140737488355328:=oM;rw[Int.natCast_mul,hcn,Int.mul_comm] at this;omega) (by unfold maxLen at s1;omega)
 have hzsz:z.cells.size=i.size:=by rw[hr.cells.1,hsize]
 have hal:=R.alloc (w':=w.alloc (.cells (madeCells z.cells (c.toNat*i.size)) e)) (nb:=nb) hnb (fz:=(0,0)) (wr:=true) (es:=List.replicate l.toNat zv) (full:=false) (sz:=i.size) (room:=c.toNat)
  rfl rfl rfl rfl rfl (fun j=>⟨fun _=>sM,sM⟩) (size_madeCells _ _) soM s1 sM (by rw[←hsize];exact qJ0 hr hp oM)
 refine⟨_,_,_,hrun,hal.1,?_,hal.2⟩;have:=qV.sl (β:=qUy β nb ⟨some w.heap.size,i.size,c.toNat⟩) (F:=F) (w:=w.alloc (.cells (madeCells z.cells (c.toNat*i.size)) e)) nb 0 l.toNat c.toNat w.heap.size i.size c.toNat ⟨w.heap.size,0,none⟩ zF oM oM (fun _=>sM) rfl;simpa using this
theorem zD2 (b:UInt8):(V.t (qA b)).cells=[.t (qA b)]:=rfl
theorem zYm (R:Rel cx β F fm hm a w){nb:Nat}(hnb:hm nb=none){src dst e:TypeId}(hs:cx.P.underlying src=some .string)(hd:cx.P.underlying dst=some (.slice e))(he:cx.P.underlying e=some (.int .u8))
  {s:ByteArray} (hsz:qCa s.size 1) :
  Out cx β F fm hm a w (.sl nb 0 s.size) [(nb,.live 1 (s.data.toList.map fun b=> .t (qA b)) true false)] (convert src dst (.string s)):=by
 have hrun:=run_bytes_of_string (P:=cx.P) w src dst e s hs hd he;obtain⟨hge,hmx⟩:=qCo w s.size 0 e hsz.1;have hsize:(bytesRow s (grownCap w s.size 0 e)).size=grownCap w s.size 0 e*1:=by
  simp[bytesRow];have:s.data.size=s.size:=rfl;omega
 have hlen:(s.data.toList.map fun b=>V.t (qA b)).length=s.size:=sM;have hal:=R.drew.alloc (w':=w.drew.alloc (.cells (bytesRow s (grownCap w s.size 0 e)) e ((bytesRow s (grownCap w s.size 0 e)).size,(bytesRow s (grownCap w s.size 0 e)).size+1))) (nb:=nb) hnb
  (wr:=true) (es:=s.data.toList.map fun b=> .t (qA b)) (full:=false) (sz:=1) (room:=grownCap w s.size 0 e)
  rfl rfl rfl rfl rfl (fun j=>⟨fun hj=>oM,sM⟩) hsize (by rw[hlen];exact hge) hmx sM (by
   intro i y hy;rw[List.getElem?_map,Option.map_eq_some_iff] at hy;obtain⟨b,hb,rfl⟩:=hy;rw[zD2];refine⟨rfl,fun j q hq=>?_⟩;cases j with
   | succ j=>simp at hq
   | zero=>
    simp at hq;subst hq;have hi:i<s.data.size:=by simpa using (List.getElem?_eq_some_iff.1 hb).1
    have hb':s.data[i]=b:=by
     have:=(List.getElem?_eq_some_iff.1 hb).2;simpa using this
    refine⟨.int .u8 b.toNat,?_,.t (.int _ _),rfl⟩;simp only[bytesRow,Nat.mul_one,Nat.add_zero];rw[Array.getElem?_append_left (by simpa using hi)];rw[Array.getElem?_map,Array.getElem?_eq_getElem hi,hb'];rfl)
 refine⟨_,_,_,hrun,hal.1,?_,hal.2⟩;have:=qV.sl (β:=qUy β nb ⟨some w.heap.size,1,grownCap w s.size 0 e⟩) (F:=F)
  (w:=w.drew.alloc (.cells (bytesRow s (grownCap w s.size 0 e)) e ((bytesRow s (grownCap w s.size 0 e)).size,(bytesRow s (grownCap w s.size 0 e)).size+1)))
  nb 0 s.size (grownCap w s.size 0 e) w.heap.size 1 (grownCap w s.size 0 e) ⟨w.heap.size,0,none⟩ zF oM oM (fun _=>sM) rfl
 simpa using this
theorem qSz : ∀ {es:List V} {bs:List UInt8},qG2 es=some bs → ∃ ns:List Int,es=ns.map (fun n=>V.t (.int .u8 n))∧bs=ns.map (fun n=>UInt8.ofNat n.toNat)
 | [],bs,h=>by simp[qG2] at h;subst h;exact⟨[],rfl,rfl⟩
 | v::r,bs,h=>by
  unfold qG2 at h;split at h
  ·rename_i heq;cases heq
  ·rename_i n r' heq;cases heq;simp only[Option.map_eq_some_iff] at h;obtain⟨bs',h1,rfl⟩:=h;obtain⟨ns,h2,h3⟩:=qSz h1;exact⟨n::ns,by simp[h2],by simp[h3]⟩
  ·cases h
theorem qJx : ∀ (l:List Int) (r:ByteArray),l.foldl (fun r n=>r.push (UInt8.ofNat n.toNat)) r=⟨r.data++(l.map fun n=>UInt8.ofNat n.toNat).toArray⟩
 | [],r=>sM
 | n::l,r=>by
  simp only[List.map_cons,List.foldl_cons];rw[qJx l];simp[ByteArray.push]
theorem qRc (l:List Int):l.foldl (fun r n=>r.push (UInt8.ofNat n.toNat)) ByteArray.empty=⟨(l.map fun n=>UInt8.ofNat n.toNat).toArray⟩:=by
 rw[qJx];congr 1;apply Array.ext';rw[Array.toList_append];rfl
theorem zYk (R:Rel cx β F fm hm a w){src dst e:TypeId}(hs:cx.P.underlying src=some (.slice e))(he:cx.P.underlying e=some (.int .u8))(hd:cx.P.underlying dst=some .string)
  {v:V} {x:Value} {es:List V} {l:List Nat} (hx:(qB6 v).run hm=some (es,l)) (hv:qV β F w v x) {bs:List UInt8} (hb:qG2 es=some bs) :
  Out cx β F fm hm a w (.t (.str ⟨bs.toArray⟩)) [] (convert src dst x):=by
 obtain⟨ns,rfl,rfl⟩:=qSz hb;have hz:zOk 1 (ns.map fun n=>V.t (.int .u8 n))=true:=by
  unfold zOk;rw[List.all_eq_true];intro y hy;simp at hy;obtain⟨n,_,rfl⟩:=hy;rfl
 have hc : ∀ x,(convert src dst x).run cx.P w=(Conv.bytesToString x).run cx.P w ∨ ∀ a n c,x≠ .slice a n c:=by
  intro x;cases x<;>first | (right;intro a n c h;cases h;done) | left
  simp[convert,run_underlying hs,run_underlying hd,run_underlying he]
 rcases qPi R hx hz hv with⟨rfl,hnil⟩ | ⟨ad,cap,news,rfl,has,hsrc,hw⟩
 ·have:ns=[]:=by simpa using hnil
  subst this;refine Out.same R ((hc _).resolve_right (fun h=>h _ _ _ rfl) |>.trans (by simp[Conv.bytesToString];rfl)) (.t (.str _))
 ·have hn:news=ns.map (Value.int .u8):=by
   apply List.ext_getElem?;intro j;by_cases hj:j<ns.length
   ·obtain⟨u,hu,hr,_⟩:=hsrc.get (i:=j) (y:= .t (.int .u8 ns[j])) (by simp[hj]) (j:=0) (q:= .t (.int .u8 ns[j])) rfl;rw[hr.int_inv] at hu;simp only[Nat.mul_one,Nat.add_zero] at hu;rw[hu];simp[hj]
   ·have:news.length=ns.length:=by simpa using hsrc.1
    rw[List.getElem?_eq_none oM,List.getElem?_eq_none soM]
  subst hn;have hl:=run_loadCells_list (P:=cx.P) w ad _ hw;have hrun:=run_bytesToString (P:=cx.P) w ad (ns.map fun n=>V.t (.int .u8 n)).length cap ns (by
   rw[List.length_map];rw[List.length_map] at hl;exact hl)
  refine Out.same R ((hc _).resolve_right (fun h=>h _ _ _ rfl) |>.trans hrun) ?_;rw[qRc];exact .t (.str _)
theorem qU2 (off:Nat)(vs:List Value) : ∀ (k:Nat) (c:Array Value),((vs.zipIdx k).foldl (fun cs (x:Value×Nat)=>cs.setIfInBounds (off+x.2) x.1) c)=zHq c (off+k) vs:=by
 induction vs with
 | nil=>intro k c;rfl
 | cons v r ih=>
  intro k c;rw[List.zipIdx_cons,List.foldl_cons,ih];rfl
theorem qJy (off:Nat)(vs c:Array Value):(vs.zipIdx.foldl (fun cs (x,j)=>cs.setIfInBounds (off+j) x) c)=zHq c off vs.toList:=by
 have:=qU2 off vs.toList 0 c;rw[Nat.add_zero] at this;rw[←this,←Array.foldl_toList,Array.toList_zipIdx]
def qQt (β:Nat→Option BI)(F:Nat→Prop)(w:World)(cs:List V)(c:Array Value):Prop:=
 c.size=cs.length∧(∀ u∈c,u.oneCell'=true) ∧ ∀ (i:Nat) (y:V) (u:Value),cs[i]?=some y→c[i]?=some u→qV β F w y u
theorem qQt.set {cs:List V}{c:Array Value}(h:qQt β F w cs c){v:V}{x:Value}(hv:qV β F w v x)(hp:v.plain=true){off:Nat}(hle:off+v.cells.length≤cs.length) :
  qQt β F w (zT cs off v.cells) (zHq c off x.cells.toList):=by
 obtain⟨h1,h2,h3⟩:=h;obtain⟨k1,k2⟩:=hv.cells;have hone:=hv.plain_one hp;have hxl:x.cells.toList.length=v.cells.length:=by simp[k1]
 have get : ∀ (i:Nat) (u:Value),(zHq c off x.cells.toList)[i]?=some u→(off≤i∧i<off+v.cells.length∧x.cells[i-off]?=some u)∨((i<off∨off+v.cells.length≤i)∧c[i]?=some u):=by
  intro i u hu;by_cases hi:off≤i∧i<off+v.cells.length
  ·left;have:=qN4 x.cells.toList c off oM (i-off) oM;rw[show off+(i-off)=i by omega,hu] at this;exact⟨hi.1,hi.2,by simpa using this.symm⟩
  ·right;rw[qCu _ _ _ _ oM] at hu;exact⟨oM,hu⟩
 refine⟨by rw[qPf,qAx _ _ _ hle,h1],fun u hu=>?_,fun i y u hy hu=>?_⟩
 ·obtain⟨i,hi⟩:=Array.getElem?_of_mem hu;rcases get i u hi with⟨_,_,hx⟩ | ⟨_,hx⟩
  ·exact hone u (Array.mem_of_getElem? hx)
  ·exact h2 u (Array.mem_of_getElem? hx)
 ·rw[qBg _ _ _ hle] at hy;rcases get i u hu with⟨g1,g2,hx⟩ | ⟨g1,hx⟩
  ·rw[if_pos ⟨g1,g2⟩] at hy;exact k2 _ y u hy hx
  ·rw[if_neg oM] at hy;exact h3 i y u hy hx
theorem qNx (place:Nat→Option (Nat×Nat)) : ∀ {ps:List (Nat×Value)} {pl:List (Nat×Nat)} {vs cs cs':List V} {c:Array Value},
  ps.map (fun p=>place p.1)=pl.map some→qAh (fun (p:Nat×Value) v=>qV β F w v p.2) ps vs→qQt β F w cs c→qU1 cs pl vs=some cs'→
   ∃ c',Instr.fill place c ps=some c'∧qQt β F w cs' c'
 | [],pl,vs,cs,cs',c,hpl,hall,hc,hf=>by
  cases hall;have:pl=[]:=by simpa using hpl.symm
  subst this;simp[qU1] at hf;subst hf;exact⟨c,rfl,hc⟩
 | (i,x)::ps,pl,vs,cs,cs',c,hpl,hall,hc,hf=>by
  cases hall with
  | cons hv hr=>
   rename_i v vs';cases pl with
   | nil=>simp at hpl
   | cons q pl'=>
    obtain⟨off,n⟩:=q;simp only[List.map_cons,List.cons.injEq] at hpl;simp only[qU1] at hf;split at hf
    ·rename_i hcond;obtain⟨g1,g2,g3⟩:=hcond;have hv':qV β F w v x:=hv;have hxs:=hv'.cells.1;have hset:=hc.set hv' g3 (off:=off) oM;obtain⟨c',h1,h2⟩:=qNx place hpl.2 hr hset hf;refine⟨c',?_,h2⟩;unfold Instr.fill;rw[hpl.1];simp only;rw[if_neg (by
      have:=hc.1;simp only[Bool.or_eq_true,decide_eq_true_eq,ne_eq];omega),qJy]
     exact h1
    ·cases hf
theorem qS7 {z len:Nat} : ∀ {ps:List (Nat×Value)} {ix:List Nat} {vs es es':List V} {c:Array Value},
  ps.map (·.1)=ix→qAh (fun (p:Nat×Value) v=>qV β F w v p.2) ps vs→es.length=len→c.size=len*z→yS β F w es z c→qU0 z es ix vs=some es'→
   ∃ c',Instr.fill (fun i=>some (i*z,z)) c ps=some c'∧c'.size=len*z∧es'.length=len∧yS β F w es' z c'
 | [],ix,vs,es,es',c,hpl,hall,hl,hs,hH,hf=>by
  cases hall;subst hpl;simp[qU0] at hf;subst hf;exact⟨c,rfl,hs,hl,hH⟩
 | (i,x)::ps,ix,vs,es,es',c,hpl,hall,hl,hs,hH,hf=>by
  cases hall with
  | cons hv hr=>
   rename_i v vs';subst hpl;simp only[List.map_cons,qU0] at hf;split at hf
   ·rename_i hcond;obtain⟨g1,g2,g3⟩:=hcond;have hv':qV β F w v x:=hv;obtain⟨k1,k2⟩:=hv'.cells;have hone:=hv'.plain_one g3;have hle:(i+1)*z≤len*z:=Nat.mul_le_mul_right z oM;have e5:(i+1)*z=i*z+z:=by rw[Nat.add_mul,Nat.one_mul]
    have hxl:x.cells.toList.length=z:=by simp[k1,g1]
    have hH':yS β F w (es.set i v) z (zHq c (i*z) x.cells.toList):=by
     intro k y hy;by_cases hk:k=i
     ·subst hk;rw[List.getElem?_set_self g2] at hy;cases hy;refine⟨g1,fun j q hq=>?_⟩;have hj:j<z:=by rw[←g1];exact (List.getElem?_eq_some_iff.1 hq).1
      have:=qN4 x.cells.toList c (k*z) oM j oM;have hjx:j<x.cells.size:=by rw[k1];omega
      exact⟨x.cells[j],by rw[this];simp[hjx],k2 j q _ hq (by simp[hjx]),hone _ sM⟩
     ·rw[List.getElem?_set_ne (Ne.symm hk)] at hy;obtain⟨m1,m2⟩:=hH k y hy;refine⟨m1,fun j q hq=>?_⟩;obtain⟨u,hu,hru,hou⟩:=m2 j q hq;have hj:j<z:=by rw[←m1];exact (List.getElem?_eq_some_iff.1 hq).1
      refine⟨u,?_,hru,hou⟩;rw[qCu _ _ _ _ ?_];exact hu;rcases Nat.lt_or_gt_of_ne hk with h | h
      ·have h':(k+1)*z≤i*z:=Nat.mul_le_mul_right z h;have:(k+1)*z=k*z+z:=by rw[Nat.add_mul,Nat.one_mul]
       omega
      ·have h':(i+1)*z≤k*z:=Nat.mul_le_mul_right z h;omega
    obtain⟨c',h1,h2,h3,h4⟩:=qS7 (ix:=ps.map (·.1)) rfl hr (by simpa using hl) (by rw[qPf];exact hs) hH' hf;refine⟨c',?_,h2,h3,h4⟩;unfold Instr.fill;simp only;rw[if_neg (by
     simp only[Bool.or_eq_true,decide_eq_true_eq,ne_eq];omega),qJy]
    exact h1
   ·cases hf
end Go.Eng
end
section
namespace Go.Eng
variable {cx:Cx} {β:Nat→Option BI} {F:Nat→Prop} {fm:Nat→Option V} {hm:Nat→Option Ob} {a:Act} {w:World}
theorem qH {α γ:Type}{o:Option α}{f:α→Q γ}{r:γ×List Nat}(h:((Q.of o).bind f).run hm=some r) : ∃ x,o=some x∧(f x).run hm=some r:=by
 cases o with
 | none=>cases h
 | some x=>exact⟨x,rfl,h⟩
theorem qM {α:Type}{b:Prop}[Decidable b]{q:Q α}{r:α×List Nat}(h:(Q.assert b q).run hm=some r):b∧q.run hm=some r:=by
 unfold Q.assert at h;split at h
 ·exact⟨by assumption,h⟩
 ·cases h
theorem yZ {α:Type}{id:Nat}{k:Ob→Q α}{x:α}{l:List Nat}(h:(Q.get id k).run hm=some (x,l)) : ∃ o l',hm id=some o∧(k o).run hm=some (x,l')∧l=id::l':=by
 simp only[Q.run] at h;cases ho:hm id with
 | none=>rw[ho] at h;cases h
 | some o=>
  rw[ho] at h;simp only at h;cases hk:(k o).run hm with
  | none=>rw[hk] at h;cases h
  | some p=>
   obtain⟨x',l'⟩:=p;rw[hk] at h;simp only[Option.some.injEq,Prod.mk.injEq] at h;obtain⟨rfl,rfl⟩:=h;exact⟨o,l',rfl,hk,rfl⟩
theorem kM {α:Type}{id:Nat}{k:Q α}{x:α}{l:List Nat}(h:(Q.free id k).run hm=some (x,l)):hm id=none ∧ ∃ l',k.run hm=some (x,l')∧l=id::l':=by
 simp only[Q.run] at h;cases ho:hm id with
 | some o=>rw[ho] at h;cases h
 | none=>
  rw[ho] at h;simp only at h;cases hk:k.run hm with
  | none=>rw[hk] at h;cases h
  | some p=>
   obtain⟨x',l'⟩:=p;rw[hk] at h;simp only[Option.some.injEq,Prod.mk.injEq] at h;obtain⟨rfl,rfl⟩:=h;exact⟨rfl,l',rfl,rfl⟩
theorem zB {α γ:Type}{q:Q α}{f:α→Q γ}{r:γ}{l:List Nat}(h:(q.bind f).run hm=some (r,l)) : ∃ x l1 l2,q.run hm=some (x,l1)∧(f x).run hm=some (r,l2)∧l=l1++l2:=by
 rw[Q.run_bind] at h;cases hq:q.run hm with
 | none=>rw[hq] at h;cases h
 | some p=>
  obtain⟨x,l1⟩:=p;rw[hq] at h;simp only at h;cases hf:(f x).run hm with
  | none=>rw[hf] at h;cases h
  | some p2=>
   obtain⟨r2,l2⟩:=p2;rw[hf] at h;simp only[Option.some.injEq,Prod.mk.injEq] at h;obtain⟨rfl,rfl⟩:=h;exact⟨x,l1,l2,rfl,hf,rfl⟩
theorem qE {α:Type}{x y:α}{l:List Nat}(h:(Q.ret x).run hm=some (y,l)):y=x∧l=[]:=by
 simp only[Q.run,Option.some.injEq,Prod.mk.injEq] at h;exact⟨h.1.symm,h.2.symm⟩
def qYa (P:Program)(fs:Array Field)(ps:List Nat):Option (List (Nat×Nat)):=
 ps.mapM fun i=>(fs[i]?).bind fun f=>(P.info? f.type).map fun j=>(f.offset,j.size)
def qR0 (P:Program)(e:TypeId):Option (AO×List Operand):=
 match P.underlying e,P.info? e with
 | some d,some i=>
  match i.zero with
  | some z=>
   if qJ3 z.cells then
    match d with
    | .array _ _=>(z.cells.toList.mapM V.ofConst).bind fun cs=>if cs.length≤1000000 then some (.new 1 cs,[]) else none
    | d=>(zJ6 (vL d) z).map fun v=>(.new v.cells.length [v],[])
   else none
  | none=>none
 | _,_=>none
def qXi (P:Program)(t:TypeId)(ps:List (Nat×Operand)):Option (AO×List Operand):=
 match P.underlying t,(P.info? t).bind (·.zero) with
 | some (.struct fs),some (.agg z)=>
  if qJ3 z∧(fs.all fun f=>(P.info? f.type).isSome)=true then (z.toList.mapM V.ofConst).bind fun cs=>(qYa P fs (ps.map (·.1))).map fun pl=>(.build cs pl,ps.map (·.2)) else none
 | some (.array _ e),some (.agg z)=>
  if qJ3 z then (z.toList.mapM V.ofConst).bind fun cs=>(P.info? e).map fun j=>(.build cs (ps.map fun p=>(p.1*j.size,j.size)),ps.map (·.2)) else none
 | _,_=>none
def qSr (P:Program)(t:TypeId)(len:Nat)(ps:List (Nat×Operand)):Option (AO×List Operand):=
 match P.underlying t with
 | some (.slice e)=>
  match P.info? e,P.underlying e with
  | some i,some d=>
   match i.zero with
   | some z=>
    if qJ3 z.cells then (zJ6 (vL d) z).bind fun v=>if v.cells.length=i.size∧0<i.size∧len*i.size≤16777216 then some (.bslice i.size len v (ps.map (·.1)),ps.map (·.2)) else none
    else none
   | none=>none
  | _,_=>none
 | _=>none
def qPy (P:Program)(t:TypeId)(x:Operand):Option (AO×List Operand):=
 match P.info? t,P.underlying t with
 | some i,some d=>if vL d∨i.size=1 then some (.load i.size (vL d),[x]) else none
 | _,_=>none
def qWs (P:Program)(src dst:TypeId)(x:Operand):Option (AO×List Operand):=
 match P.underlying src,P.underlying dst with
 | some (.int _),some (.int k)=>some (.conv k,[x])
 | some .string,some .string=>some (.smov,[x])
 | some .string,some (.slice e)=>match P.underlying e with
  | some (.int .u8)=>some (.s2b,[x])
  | _=>none
 | some (.slice e),some .string=>match P.underlying e with
  | some (.int .u8)=>some (.b2s,[x])
  | _=>none
 | some (.slice _),some (.slice e)=>if src=dst then match P.underlying e with
   | some (.int .u8)=>some (.idsl,[x])
   | _=>none
  else none
 | _,_=>none
def zKd (P:Program)(t:TypeId)(l c:Operand):Option (AO×List Operand):=
 match P.underlying t with
 | some (.slice e)=>
  match P.info? e,P.underlying e with
  | some i,some d=>
   match i.zero with
   | some z=>if qJ3 z.cells then (zJ6 (vL d) z).bind fun v=>if v.cells.length=i.size then some (.mkslice i.size i.bytes v,[l,c]) else none else none
   | none=>none
  | _,_=>none
 | _=>none
def qXn (P:Program)(t:TypeId)(x:Operand)(lo hi mx:Option Operand):Option (AO×List Operand):=
 match P.underlying t with
 | some .string=>some (.sslice lo.isSome hi.isSome mx.isSome,x::(lo.toList++hi.toList++mx.toList))
 | some (.slice e)=>(P.info? e).map fun i=>(.slice i.size lo.isSome hi.isSome mx.isSome,x::(lo.toList++hi.toList++mx.toList))
 | some (.array n e)=>(P.info? e).map fun i=>(.aslice n i.size lo.isSome hi.isSome mx.isSome,x::(lo.toList++hi.toList++mx.toList))
 | _=>none
def qXj (P:Program)(s:TypeId)(x:Operand)(f:Nat):Option (AO×List Operand):=
 match P.underlying s with
 | some (.struct fs)=>match fs[f]? with
  | some fd=>match P.info? fd.type with
   | some i=>if i.size=0 then none else some (.faddr fd.offset,[x])
   | none=>none
  | none=>none
 | _=>none
def qXk (P:Program)(s:TypeId)(x:Operand)(f:Nat):Option (AO×List Operand):=
 match P.underlying s with
 | some (.struct fs)=>match fs[f]? with
  | some fd=>match P.info? fd.type,P.underlying fd.type with
   | some i,some d=>some (.field fd.offset i.size (vL d),[x])
   | _,_=>none
  | none=>none
 | _=>none
def qXl (P:Program)(t:TypeId)(x ix:Operand):Option (AO×List Operand):=
 match P.underlying t with
 | some (.slice e)=>(P.info? e).map fun i=>(.iaddr i.size,[x,ix])
 | some (.array n e)=>(P.info? e).map fun i=>(.aaddr n i.size,[x,ix])
 | _=>none
def qXm (P:Program)(t:TypeId)(x ix:Operand):Option (AO×List Operand):=
 match P.underlying t with
 | some (.array n e)=>match P.info? e,P.underlying e with
  | some i,some d=>some (.index n i.size (vL d),[x,ix])
  | _,_=>none
 | some .string=>some (.sindex,[x,ix])
 | _=>none
def qWr (P:Program)(b:Builtin)(args:List Operand)(ts:List TypeId):Option (AO×List Operand):=
 match b,args,ts with
 | .len,[x],t::_=>match P.underlying t with
  | some .string=>some (.slen,[x])
  | some (.slice _)=>some (.len,[x])
  | some (.array n _)=>some (.lenc n,[x])
  | some (.pointer p)=>match P.underlying p with
   | some (.array n _)=>some (.lenc n,[x])
   | _=>none
  | _=>none
 | .append,[s,x],t::t'::_=>match P.underlying t,P.underlying t' with
  | some (.slice e),some (.slice _)=>match P.info? e with
   | some i=>match i.zero with
    | some z=>if z.cells.size=i.size then some (.append i.size i.bytes,[s,x]) else none
    | none=>none
   | none=>none
  | some (.slice e),some .string=>match P.info? e with
   | some i=>match i.zero with
    | some z=>if z.cells.size=i.size∧i.size=1∧i.bytes=1 then some (.appstr,[s,x]) else none
    | none=>none
   | none=>none
  | _,_=>none
 | .copy,[d,x],t::t'::_=>match P.underlying t,P.underlying t' with
  | some (.slice e),some (.slice _)=>(P.info? e).map fun i=>(.copy i.size,[d,x])
  | _,_=>none
 | .min,[x,y],_=>some (.min,[x,y])
 | .max,[x,y],_=>some (.max,[x,y])
 | _,_,_=>none
def zKe (fn:Fn)(first caps:Array Operand):Option (AO×List Operand):=
 match fn with
 | .func f=>if first.size=0 then some (.mkfn f,caps.toList) else if first.size=1∧caps.size=0 then some (.mkbd f,first.toList) else none
 | _=>none
def zGl (P:Program)(t:TypeId)(n:Nat)(e:TypeId)(neg:Bool)(x y:Operand):Option (AO×List Operand):=
 match P.underlying e,P.info? e with
 | some (.int k),some i=>if i.size=1∧P.eqGuardType P.depth t=false then some (.aeq n k neg,[x,y]) else none
 | _,_=>none
def zGm (P:Program)(t:TypeId)(fs:Array Field)(neg:Bool)(x y:Operand):Option (AO×List Operand):=
 match fs.toList with
 | f::_=>match P.underlying f.type with
  | some (.int k)=>if zAq P k fs.toList 0=true∧P.eqGuardType P.depth t=false∧P.stoodInHeld t=false then some (.aeq fs.size k neg,[x,y]) else none
  | _=>none
 | []=>none
def zKf (P:Program):Op→Option (AO×List Operand)
 | .move x=>some (.mov,[x])
 | .assign x=>some (.mov,[x])
 | .pick c x y=>some (.pick,[c,x,y])
 | .alloc e=>qR0 P e
 | .box e x=>match P.underlying e with
  | some (.array _ _)=>some (.boxArr,[x])
  | some _=>some (.box,[x])
  | none=>none
 | .build t ps=>qXi P t ps.toList
 | .buildSlice t len ps=>qSr P t len ps.toList
 | .load t x=>qPy P t x
 | .store t x v=>(P.info? t).map fun i=>(.store i.size,[x,v])
 | .nilCheck x=>some (.nilchk,[x])
 | .binOp op t x y _=>match op,P.underlying t with
  | .eql,some .bool=>some (.beq false,[x,y])
  | .neq,some .bool=>some (.beq true,[x,y])
  | .eql,some (.slice _)=>some (.nileq false,[x,y])
  | .neq,some (.slice _)=>some (.nileq true,[x,y])
  | .eql,some (.array n e)=>zGl P t n e false x y
  | .neq,some (.array n e)=>zGl P t n e true x y
  | .eql,some (.struct fs)=>zGm P t fs false x y
  | .neq,some (.struct fs)=>zGm P t fs true x y
  | op,_=>some (.bin op,[x,y])
 | .unOp op _ x=>some (.un op,[x])
 | .convert s d x=>qWs P s d x
 | .makeFunc fn first caps=>zKe fn first caps
 | .makeSlice t l c=>zKd P t l c
 | .slice t x lo hi mx=>qXn P t x lo hi mx
 | .fieldAddr s x f=>qXj P s x f
 | .field s x f=>qXk P s x f
 | .indexAddr t x ix=>qXl P t x ix
 | .index t x ix=>qXm P t x ix
 | .extract x i=>some (.extract i,[x])
 | .call { callee:= .builtin b,args,argTypes }=>qWr P b args.toList argTypes.toList
 | _=>none
end Go.Eng
end
