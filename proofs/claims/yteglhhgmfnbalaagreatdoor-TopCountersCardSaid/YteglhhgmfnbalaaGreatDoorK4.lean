/- A part of an abstract machine, its walks, their tie. -/
import Derived.Test.YteglhhgmfnbalaaGreatDoorK3
set_option linter.all false
section
namespace Go.Eng
open List
variable {cx:Cx}{β:Nat->Option BI}{F:Nat->Prop}{fm:Nat->Option V}{hm:Nat->Option Ob}{a:Act}{w:World}
variable {nb:Nat}{v:V}{W:Wr}{l:List Nat}
theorem jWz (R:Rel cx β F fm hm a w){t e ty:TypeId}{ts:Array TypeId}(ht:ts[0]?=some t)(hd:cx.P.underlying t=some (.slice e)){x:Value}{vx:V}(h:qR β F w vx x)
  (hs:(zFw [vx]).run hm=some ((v,W),l)):Out cx β F fm hm a w v W (Builtin.len_ ts ty #[x]):=by
 have fin:∀{b:Option Addr}{n c:Nat},x=.slice b n c->v=.t (.int .i64 n)->W=[]->Out cx β F fm hm a w v W (Builtin.len_ ts ty #[x]):=by
  intro b n c hx hv hW;subst hx hv hW;exact Out.same R (x:= .int .i64 n) (by simp[Builtin.len_,ht,run_underlying hd,goInt]) (.t (.int _ _))
 unfold zFw at hs;split at hs
 .rename_i es heq;cases heq;obtain⟨hr,_⟩:=qE hs;cases hr;cases h with
  |t h=>
   cases h with
   |nil=>exact fin rfl rfl rfl
   |sl=>exact fin rfl rfl rfl
 .rename_i heq;cases heq;obtain⟨hr,_⟩:=qE hs;cases hr;cases h with
  |sl=>exact fin rfl rfl rfl
  |slv=>exact fin rfl rfl rfl
 .rename_i heq;cases heq;obtain⟨hr,_⟩:=qE hs;cases hr;cases h;exact fin rfl rfl rfl
 .cases hs
theorem jPx (R:Rel cx β F fm hm a w){t ty:TypeId}{ts:Array TypeId}(ht:ts[0]?=some t)(hd:cx.P.underlying t=some .string){x:Value}{vx:V}(h:qR β F w vx x)
  (hs:(qSp [vx]).run hm=some ((v,W),l)):Out cx β F fm hm a w v W (Builtin.len_ ts ty #[x]):=by
 unfold qSp at hs;split at hs
 .rename_i s heq;cases heq;obtain⟨hr,_⟩:=qE hs;cases hr;rw[h.str_inv];exact Out.same R (x:= .int .i64 s.size) (by simp[Builtin.len_,ht,run_underlying hd,goInt]) (.t (.int _ _))
 .cases hs
theorem zD6 {α:Type}{xs:Array α}{x y:α}{r:List α}(h:xs.toList=x::y::r):xs[0]?=some x/\xs[1]?=some y:=by
 rw[<-Array.getElem?_toList,<-Array.getElem?_toList,h];simp
theorem qQ0 {P:Program}{ts:Array TypeId}{t t' ty:TypeId}(h0:ts[0]?=some t)(h1:ts[1]?=some t')(args:Array Value):Builtin.append_ ts ty args=Builtin.append_ #[t,t'] ty args:=by
 unfold Builtin.append_;simp only[h0,h1];rfl
theorem jAa (R:Rel cx β F fm hm a w){t t' e e' ty:TypeId}{ts:Array TypeId}(h0:ts[0]?=some t)(h1:ts[1]?=some t')(ht:cx.P.underlying t=some (.slice e))(ht':cx.P.underlying t'=some (.slice e'))
  {i:TypeInfo} {z:Value} (hi:cx.P.info? e=some i) (hz:i.zero=some z) (hzs:z.cells.size=i.size) {p q:Value} {vp vq:V} (hp:qR β F w vp p) (hq:qR β F w vq q)
  (hs:(qHh i.size i.bytes nb [vp,vq]).run hm=some ((v,W),l)):Out cx β F fm hm a w v W (Builtin.append_ ts ty #[p,q]):=by
 rw[qQ0 (P:=cx.P) h0 h1];simp only[qHh]at hs;obtain⟨xs,l1,l2,hx,hs,_⟩:=qS hs;obtain⟨hzo,hs⟩:=qM hs;split at hs
 .obtain⟨hsz,hs⟩:=qM hs;obtain⟨hnb,l',hr,_⟩:=xT hs;obtain⟨hr1,_⟩:=qE hr;cases hr1;cases hp;exact qYy R hnb ht ht' hi hz hzs hx hzo hq hsz
 .rename_i id len;obtain⟨o,l',ho,hs2,_⟩:=yV hs;cases o with
  |dead=>cases hs2
  |live z' es wr full=>
   cases wr with
   |false=>cases hs2
   |true=>
    obtain⟨⟨rfl,hel,hsz,h100⟩,hs3⟩:=qM hs2;obtain⟨hnb,l',hr,_⟩:=xT hs3;obtain⟨hr1,_⟩:=qE hr;cases hr1;exact qYz R hnb ht ht' hi hz hzs hx hzo hq hp ho hel hsz h100
 .cases hs
theorem qI3 {P:Program}(t t' ty e:TypeId)(i:TypeInfo)(ht:P.underlying t=some (.slice e))(ht':P.underlying t'=some .string)(hi:P.info? e=some i)
  (base:Option Addr) (sLen sCap:Nat) (s:ByteArray) (hroom:sLen+s.size<=sCap) (w':World)
  (hst:∀ad,base=some ad->(storeCells (ad.add (sLen*i.size)) (s.data.toList.map λb=>Value.int .u8 b.toNat)).run P w=.ok () w') (hb:base=none->w'=w) :
  (Builtin.append_ #[t,t'] ty #[.slice base sLen sCap,.string s]).run P w=.ok (.slice base (sLen+s.size) sCap) w':=by
 have hx:(s.extract 0 s.size)=s:=ByteArray.extract_zero_size;have hf:(Builtin.firstCells i.size s.size (.string s)).run P w=.ok (s.data.toList.map λb=>Value.int .u8 b.toNat).toArray w:=by
  simp only[Builtin.firstCells,hx,Sem.run_pure];congr 1;apply Array.ext';simp
 cases base with
 |none=>simp[Builtin.append_,run_underlying ht,run_underlying ht',sizeOf,typeInfo,hi,Builtin.lenOf,hroom,hf,hb rfl]
 |some ad=>simp[Builtin.append_,run_underlying ht,run_underlying ht',sizeOf,typeInfo,hi,Builtin.lenOf,hroom,hf,hst ad rfl]
theorem qI4 {P:Program}(t t' ty e:TypeId)(i:TypeInfo)(z:Value)(ht:P.underlying t=some (.slice e))(ht':P.underlying t'=some .string)(hi:P.info? e=some i)(hz:i.zero=some z)
  (base:Option Addr) (sLen sCap:Nat) (olds:List Value) (hbn:base=none->olds=[]) (hlo:olds.length=sLen*i.size) (holds:∀ad,base=some ad->∀j v,olds[j]?=some v->w.cell? (ad.add j)=some v)
  (s:ByteArray) (hg:sCap<sLen+s.size) (h63:sLen+s.size<=maxLen) (hfit:(sLen+s.size)*i.bytes<=140737488355328) :
  (Builtin.append_ #[t,t'] ty #[.slice base sLen sCap,.string s]).run P w =
   .ok (.slice (some ⟨w.heap.size,0,none⟩) (sLen+s.size) (grownCap w (sLen+s.size) sCap e))
    (w.drew.alloc (.cells (olds.toArray++(s.data.toList.map λb=>Value.int .u8 b.toNat).toArray++Builtin.zeroCells z.cells (grownCap w (sLen+s.size) sCap e-(sLen+s.size))) e)):=by
 have hnn:¬ (sLen+s.size<=sCap):=oM;have h63':¬ (9223372036854775807<((sLen:Int)+(s.size:Int))):=by unfold maxLen at h63;omega
 have h48:=growslice_fits hg hfit;have h48':¬ (281474976710656<Builtin.nextslicecap (sLen+s.size) sCap*i.bytes):=oM;have hx:(s.extract 0 s.size)=s:=ByteArray.extract_zero_size;have hfo:(Builtin.firstCells i.size sLen (.slice base sLen sCap)).run P w.drew=.ok olds.toArray w.drew:=by
  cases base with
  |none=>simp[Builtin.firstCells,hbn rfl]
  |some ad=>exact run_firstCells_some w.drew i.size sLen ad sLen sCap olds hlo (by simpa using holds ad rfl)
 have hf:(Builtin.firstCells i.size s.size (.string s)).run P w.drew=.ok (s.data.map λb=>Value.int .u8 b.toNat) w.drew:=by
  simp only[Builtin.firstCells,hx,Sem.run_pure]
 simp[Builtin.append_,run_underlying ht,run_underlying ht',sizeOf,typeInfo,zeroValue,hi,hz,Builtin.lenOf,hnn,h63',h48',Question.forced,hf,hfo,newRow,grownCap];congr 2;apply Array.ext';simp[append_assoc]
theorem zUt (s:ByteArray):Src β F w (s.data.toList.map λb=>V.t (qA b)) 1 (s.data.toList.map λb=>Value.int .u8 b.toNat):=by
 refine⟨sM,λu hu=>?_,λi y hy=>?_⟩
 .simp only[mem_map]at hu;obtain⟨b,_,rfl⟩:=hu;rfl
 .rw[getElem?_map,Option.map_eq_some_iff]at hy;obtain⟨b,hb,rfl⟩:=hy;refine⟨rfl,λj q hq=>?_⟩;cases j with
  |succ j=>simp[V.cells,qA]at hq
  |zero=>
   simp[V.cells,qA]at hq;subst hq;exact⟨.int .u8 b.toNat,by simp[hb],.t (.int _ _),rfl⟩
theorem jAb (R:Rel cx β F fm hm a w){t t' e ty:TypeId}{ts:Array TypeId}(h0:ts[0]?=some t)(h1:ts[1]?=some t')(ht:cx.P.underlying t=some (.slice e))(ht':cx.P.underlying t'=some .string)
  {i:TypeInfo} {z:Value} (hi:cx.P.info? e=some i) (hz:i.zero=some z) (hzs:z.cells.size=i.size) (hi1:i.size=1) (hib:i.bytes=1) {p q:Value} {vp vq:V} (hp:qR β F w vp p) (hq:qR β F w vq q)
  (hs:(qC1 nb [vp,vq]).run hm=some ((v,W),l)):Out cx β F fm hm a w v W (Builtin.append_ ts ty #[p,q]):=by
 rw[qQ0 (P:=cx.P) h0 h1];unfold qC1 at hs;split at hs
 .rename_i id len st heq;cases heq;obtain⟨o,l',ho,hs2,_⟩:=yV hs;cases o with
  |dead=>cases hs2
  |live z' es wr full=>
   cases wr with
   |false=>cases hs2
   |true=>
    obtain⟨⟨rfl,hel,hsz,h100⟩,hs3⟩:=qM hs2;obtain⟨hnb,l',hr,_⟩:=xT hs3;obtain⟨hr1,_⟩:=qE hr;cases hr1;rw[hq.str_inv];have hne:id≠nb:=λh=>by subst h;rw[ho]at hnb;cases hnb
    have hk:=R.kill ho;have hkn:upd hm [(id,.dead)] nb=none:=by simp[upd,Ne.symm hne,hnb]
    have hsrc:Src β F w (st.data.toList.map λ(b:UInt8)=>V.t (qA b)) 1 (st.data.toList.map λ(b:UInt8)=>Value.int .u8 b.toNat):=zUt st;have hlen:(st.data.toList.map λ(b:UInt8)=>V.t (qA b)).length=st.size:=sM;cases hp with
    |slv _ sz room hb=>
     obtain⟨bi',hb',hok⟩:=R.hp id _ ho;rw[hb]at hb';cases hb';simp only[qG9]at hok;obtain⟨_,_,hnil,_⟩:=hok;subst hnil;by_cases hz0:st.size=0
     .have hd0:st.data.toList.map (λb=>V.t (qA b))=[]:=eq_nil_of_length_eq_zero (by rw[hlen,hz0]);have hvt:=hk.virt hkn (full:=false) 1;refine⟨.slice none (0+st.size) 0,w,_,qI3 t t' ty e i ht ht' hi none 0 0 st oM w sM (λ_=>rfl),?_,?_,hvt.2⟩
      .rw[hd0];exact hvt.1
      .rw[hz0];exact .slv nb 1 0 zG
     .have hrun:=qI4 (w:=w) t t' ty e i z ht ht' hi hz none 0 0 [] (λ_=>rfl) sM sM st oM hsz.1 (by rw[hib];exact hsz.2);obtain⟨hge,hmx⟩:=qD7 w (0+st.size) 0 e hsz.1;have hH:=qLi (es:=[]) qXo hsrc (Builtin.zeroCells z.cells (grownCap w (0+st.size) 0 e-(0+st.size))).toList;have hal:=hk.drew.alloc (w':=w.drew.alloc (.cells (([]:List Value).toArray++(st.data.toList.map λ(b:UInt8)=>Value.int .u8 b.toNat).toArray++Builtin.zeroCells z.cells (grownCap w (0+st.size) 0 e-(0+st.size))) e)) (nb:=nb) hkn
       (fz:=(0,0)) (wr:=true) (es:=[]++st.data.toList.map λ(b:UInt8)=>V.t (qA b)) (full:=false) (sz:=1) (room:=grownCap w (0+st.size) 0 e) rfl rfl rfl rfl rfl (λj=>⟨λ_=>sM,sM⟩)
       (by
        have hds:st.data.size=st.size:=rfl;simp only[Array.size_append,size_toArray,size_zeroCells,hzs,hi1,length_map,Array.length_toList,length_nil];omega)
       (by simp only[nil_append];rw[hlen];omega) hmx sM (by
        have:(([]:List Value).toArray++(st.data.toList.map λ(b:UInt8)=>Value.int .u8 b.toNat).toArray++Builtin.zeroCells z.cells (grownCap w (0+st.size) 0 e-(0+st.size))) =
          ([]++(st.data.toList.map λ(b:UInt8)=>Value.int .u8 b.toNat)++(Builtin.zeroCells z.cells (grownCap w (0+st.size) 0 e-(0+st.size))).toList).toArray:=by
         apply Array.ext';simp
        rw[this];exact hH.mono (λ_ _ h=>h) (λ_ h=>h) (λ_ _=>rfl))
      refine⟨_,_,_,hrun,hal.1,?_,hal.2⟩;have:=qR.sl (β:=qYp β nb ⟨some w.heap.size,1,grownCap w (0+st.size) 0 e⟩) (F:=F) (w:=w.drew.alloc (.cells (([]:List Value).toArray++(st.data.toList.map λ(b:UInt8)=>Value.int .u8 b.toNat).toArray++Builtin.zeroCells z.cells (grownCap w (0+st.size) 0 e-(0+st.size))) e))
       nb 0 (0+st.size) (grownCap w (0+st.size) 0 e) w.heap.size 1 (grownCap w (0+st.size) 0 e) ⟨w.heap.size,0,none⟩ zG oM oM (λ_=>sM) rfl
      simpa using this
    |sl _ _ _ scap b sz room bad hb hlc hrm had hspot=>
     subst hel;obtain⟨c,ce,fz,h2,h3,h4,h5,h6,h7,h8,h9⟩:=R.obj ho hb rfl;simp only at h4 h5 h6 h7 h8 h9;subst h9;have hold:=h7.src h4 h5;by_cases hroom:es.length+st.size<=scap
     .have hroom':es.length+st.size<=room:=oM;have hre:=R.rename ho hb hnb h100;have hvl:(st.data.toList.map λ(b:UInt8)=>Value.int .u8 b.toNat).length=st.size:=sM;have hle:es.length*1+(st.data.toList.map λ(b:UInt8)=>Value.int .u8 b.toNat).length<=c.size:=by
       rw[h4,hvl];omega
      have hst:(storeCells (bad.add (es.length*i.size)) (st.data.toList.map λ(b:UInt8)=>Value.int .u8 b.toNat)).run cx.P w=.ok () (w.setCells b (es.length*1) (st.data.toList.map λ(b:UInt8)=>Value.int .u8 b.toNat)):=by
       by_cases hrp:0<scap
       .have hbad:=had hrp;simp only[Nat.zero_mul]at hbad;subst hbad;rw[Addr.add_lit,Nat.zero_add,hi1];exact vW h2 h3 hle hsrc.2.1
       .have hx0:st.size=0:=oM;have hn:(st.data.toList.map λ(b:UInt8)=>Value.int .u8 b.toNat)=[]:=eq_nil_of_length_eq_zero (by rw[hvl,hx0]);rw[hn];rfl
      have hrel:=qA7 hre.1 (id:=nb) (z:=1) (es:=es) (es':=es++st.data.toList.map λ(b:UInt8)=>V.t (qA b)) (full:=full) (full':=false) (by simp[upd]) zG h2 h3 h4 (o:=es.length*1) (vs:=st.data.toList.map λ(b:UInt8)=>Value.int .u8 b.toNat)
       (by rw[length_append,hlen];omega) sM (by
       intro k y hy;rw[getElem?_append]at hy;split at hy
       .rename_i hlt;obtain⟨k1,k2⟩:=h7 k y hy;refine⟨k1,λj q hq=>?_⟩;obtain⟨u,hu,hru,hou⟩:=k2 j q hq;have hj:j<1:=by rw[<-k1];exact(List.getElem?_eq_some_iff.1 hq).1
        exact⟨u,by rw[qCv _ _ _ _ (.inl (qQq hlt hj))];exact hu,hru.mono hre.2 (λ_ h=>h) (λ_ _=>rfl),hou⟩
       .rename_i hlt;obtain⟨k1,k2⟩:=hsrc.2.2 _ y hy;refine⟨k1,λj q hq=>?_⟩;obtain⟨u,hu,hru,hou⟩:=k2 j q hq;have hult:(k-es.length)*1+j<(st.data.toList.map λ(b:UInt8)=>Value.int .u8 b.toNat).length:=(List.getElem?_eq_some_iff.1 hu).1;have:=qPq (st.data.toList.map λ(b:UInt8)=>Value.int .u8 b.toNat) c (es.length*1) hle _ hult;have he:es.length*1+((k-es.length)*1+j)=k*1+j:=oM;rw[he]at this;exact⟨u,by rw[this];exact hu,hru.mono hre.2 (λ_ h=>h) (λ_ _=>rfl),hou⟩)
      rw[zU3]at hrel;refine⟨_,_,_,qI3 t t' ty e i ht ht' hi (some bad) es.length scap st (by simpa using hroom) _ (by intro ad h;cases h;exact hst) sM,hrel,?_,hre.2⟩;exact .sl nb 0 (es.length+st.size) scap b 1 room bad zG hroom hrm had hspot
     .have hrun:=qI4 (w:=w) t t' ty e i z ht ht' hi hz (some bad) es.length scap (c.toList.take (es.length*1)) sM (by rw[hold.1,hi1]) (by
       intro ad h j u hu;cases h;simp only[getElem?_take]at hu;split at hu
       .rename_i hlt;have hrp:0<scap:=oM;rw[had hrp,Addr.add_lit,cell_of_row w b _ c ce fz h2];simpa using hu
       .cases hu) st oM hsz.1 (by rw[hib];exact hsz.2)
      obtain⟨hge,hmx⟩:=qD7 w (es.length+st.size) scap e hsz.1;have hH:=qLi hold hsrc (Builtin.zeroCells z.cells (grownCap w (es.length+st.size) scap e-(es.length+st.size))).toList;have hal:=hk.drew.alloc (w':=w.drew.alloc (.cells ((c.toList.take (es.length*1)).toArray++(st.data.toList.map λ(b:UInt8)=>Value.int .u8 b.toNat).toArray++Builtin.zeroCells z.cells (grownCap w (es.length+st.size) scap e-(es.length+st.size))) e)) (nb:=nb) hkn
       (fz:=(0,0)) (wr:=true) (es:=es++st.data.toList.map λ(b:UInt8)=>V.t (qA b)) (full:=false) (sz:=1) (room:=grownCap w (es.length+st.size) scap e) rfl rfl rfl rfl rfl (λj=>⟨λ_=>sM,sM⟩)
       (by
        have hds:st.data.size=st.size:=rfl;have:=hold.1;simp only[Array.size_append,size_toArray,size_zeroCells,hzs,hi1,length_map,Array.length_toList,this];omega)
       (by rw[length_append,hlen];omega) hmx sM (by
        have:((c.toList.take (es.length*1)).toArray++(st.data.toList.map λ(b:UInt8)=>Value.int .u8 b.toNat).toArray++Builtin.zeroCells z.cells (grownCap w (es.length+st.size) scap e-(es.length+st.size))) =
          (c.toList.take (es.length*1)++(st.data.toList.map λ(b:UInt8)=>Value.int .u8 b.toNat)++(Builtin.zeroCells z.cells (grownCap w (es.length+st.size) scap e-(es.length+st.size))).toList).toArray:=by
         apply Array.ext';simp
        rw[this];exact hH.mono (λ_ _ h=>h) (λ_ h=>h) (λ_ _=>rfl))
      refine⟨_,_,_,hrun,hal.1,?_,hal.2⟩;have:=qR.sl (β:=qYp β nb ⟨some w.heap.size,1,grownCap w (es.length+st.size) scap e⟩) (F:=F) (w:=w.drew.alloc (.cells ((c.toList.take (es.length*1)).toArray++(st.data.toList.map λ(b:UInt8)=>Value.int .u8 b.toNat).toArray++Builtin.zeroCells z.cells (grownCap w (es.length+st.size) scap e-(es.length+st.size))) e))
       nb 0 (es.length+st.size) (grownCap w (es.length+st.size) scap e) w.heap.size 1 (grownCap w (es.length+st.size) scap e) ⟨w.heap.size,0,none⟩ zG oM oM (λ_=>sM) rfl
      simpa using this
 .cases hs
end Go.Eng
end
section
namespace Go.Eng
open List
variable {cx:Cx}{β:Nat->Option BI}{F:Nat->Prop}{fm:Nat->Option V}{hm:Nat->Option Ob}{a:Act}{w:World}
variable {nb:Nat}{v:V}{W:Wr}{l:List Nat}
theorem qTx {P:Program}{ts:Array TypeId}{t ty e:TypeId}{i:TypeInfo}(h0:ts[0]?=some t)(_h1:(ts[1]?).isSome)(ht:P.underlying t=some (.slice e))(hi:P.info? e=some i)
  (base:Option Addr) (dLen dCap:Nat) (x:Option Addr) (n cp:Nat) (news:List Value) (hn:x=none->news=[]) (hl:news.length=n*i.size)
  (hnews:∀ad,x=some ad->∀j u,news[j]?=some u->w.cell? (ad.add j)=some u) (w':World)
  (hst:∀ad,base=some ad->(storeCells ad (news.take (Nat.min n dLen*i.size))).run P w=.ok () w') (hb:base=none->w'=w) :
  (Builtin.copy_ ts ty #[.slice base dLen dCap,.slice x n cp]).run P w=.ok (.int .i64 (Nat.min n dLen:Nat)) w':=by
 have hle:Nat.min n dLen*i.size<=n*i.size:=Nat.mul_le_mul_right _ (Nat.min_le_left _ _);have hf:(Builtin.firstCells i.size (Nat.min n dLen) (.slice x n cp)).run P w=.ok (news.take (Nat.min n dLen*i.size)).toArray w:=by
  cases x with
  |none=>simp[Builtin.firstCells,hn rfl]
  |some ad=>exact run_firstCells_some w i.size (Nat.min n dLen) ad n cp _ (by rw[length_take,hl];omega) (λj u hu=>by
    simp only[getElem?_take]at hu;split at hu
    .exact hnews ad rfl j u hu
    .cases hu)
 cases base with
 |none=>simp[Builtin.copy_,h0,run_underlying ht,sizeOf,typeInfo,hi,Builtin.lenOf,hf,hb rfl,goInt]
 |some ad=>simp[Builtin.copy_,h0,run_underlying ht,sizeOf,typeInfo,hi,Builtin.lenOf,hf,hst ad rfl,goInt]
theorem jPu (R:Rel cx β F fm hm a w){t t' e e' ty:TypeId}{ts:Array TypeId}(h0:ts[0]?=some t)(h1:ts[1]?=some t')(ht:cx.P.underlying t=some (.slice e))(_ht':cx.P.underlying t'=some (.slice e'))
  {i:TypeInfo} (hi:cx.P.info? e=some i) {p q:Value} {vp vq:V} (hp:qR β F w vp p) (hq:qR β F w vq q)
  (hs:(qXj i.size [vp,vq]).run hm=some ((v,W),l)):Out cx β F fm hm a w v W (Builtin.copy_ ts ty #[p,q]):=by
 simp only[qXj]at hs;obtain⟨xs,l1,l2,hx,hs1,_⟩:=qS hs;obtain⟨hzo,hsb⟩:=qM hs1;clear hs hs1;obtain⟨xp,cap,news,hxeq,hxn,hsrc,hw⟩:∃xp cap news,q=.slice xp xs.length cap/\(xp=none->news=[])/\Src β F w xs i.size news/\(∀ad,xp=some ad->∀j u,news[j]?=some u->w.cell? (ad.add j)=some u):=by
  rcases qRc R hx hzo hq with⟨rfl,rfl⟩|⟨ad,cap,news,rfl,has,hs,hw⟩
  .exact⟨none,0,[],rfl,λ_=>rfl,qXo,sM⟩
  .exact⟨some ad,cap,news,rfl,sM,hs,by intro ad' h;cases h;exact hw⟩
 subst hxeq;split at hsb
 .rename_i id off len;obtain⟨o,l',ho,hs2,_⟩:=yV hsb;cases o with
  |dead=>cases hs2
  |live z' es wr full=>
   cases wr with
   |false=>cases hs2
   |true=>
    obtain⟨⟨hle,rfl⟩,hs3⟩:=qM hs2;obtain⟨hr1,_⟩:=qE hs3;cases hr1;have hxt:(xs.take len).length=Nat.min xs.length len:=by rw[length_take];exact Nat.min_comm _ _
    have hmn:Nat.min xs.length len<=len:=Nat.min_le_right _ _;have hmn2:Nat.min xs.length len<=xs.length:=Nat.min_le_left _ _;cases hp with
    |slv _ sz room hb=>
     obtain⟨bi',hb',hok⟩:=R.hp id _ ho;rw[hb]at hb';cases hb';simp only[qG9]at hok;obtain⟨_,_,hnil,_⟩:=hok;subst hnil;have hrun:=qTx (w:=w) (ty:=ty) h0 (by rw[h1];rfl) ht hi none 0 0 xp xs.length cap news hxn hsrc.1 hw w sM (λ_=>rfl);refine⟨_,w,β,hrun,?_,.t (.int _ _),λ_ _ h=>h⟩;have he:zY ([]:List V) 0 (xs.take 0)=[]:=by simp[zY]
     rw[he];have hsame:upd hm [(id,.live i.size [] true full)]=hm:=by
      funext j;by_cases hj:j=id
      .subst hj;simp[upd,ho]
      .simp[upd,hj]
     rw[hsame];exact R
    |sl _ _ _ scap b sz room bad hb hlc hr had hspot=>
     obtain⟨c,ce,fz,h2,h3,h4,h5,h6,h7,h8,h9⟩:=R.obj ho hb rfl;simp only at h4 h5 h6 h7 h8 h9;subst h9;have hnl:(news.take (Nat.min xs.length len*i.size)).length=Nat.min xs.length len*i.size:=by
      have:Nat.min xs.length len*i.size<=xs.length*i.size:=Nat.mul_le_mul_right _ hmn2;rw[length_take,hsrc.1];omega
     have hcl:off*i.size+Nat.min xs.length len*i.size<=c.size:=by
      rw[h4,<-Nat.add_mul];exact Nat.mul_le_mul_right _ oM
     have hst:∀ad,some bad=some ad->(storeCells ad (news.take (Nat.min xs.length len*i.size))).run cx.P w=.ok () (w.setCells b (off*i.size) (news.take (Nat.min xs.length len*i.size))):=by
      intro ad hh;cases hh;by_cases hlt:0<scap
      .rw[had hlt];exact vW h2 h3 (by rw[hnl];exact hcl) (λu hu=>hsrc.2.1 u (mem_of_mem_take hu))
      .have hz:Nat.min xs.length len=0:=oM;rw[hz];simp[storeCells];rfl
     have hrun:=qTx (w:=w) (ty:=ty) h0 (by rw[h1];rfl) ht hi (some bad) len scap xp xs.length cap news hxn hsrc.1 hw _ hst sM;refine⟨_,_,β,hrun,qA7 R ho hb h2 h3 h4 (by rw[qI2 _ _ _ hle,hxt];exact Nat.max_le.2 ⟨h5,oM⟩) (λh=>by rw[qI2 _ _ _ hle,hxt];have h10:=h8 h;rw[h10];exact(Nat.max_eq_left oM).symm) ?_,.t (.int _ _),λ_ _ h=>h⟩;intro k y hy;rw[qQp _ _ _ hle]at hy;split at hy
     .rename_i hk;have hy':xs[k-off]?=some y:=by
       simp only[getElem?_take]at hy;split at hy
       .exact hy
       .cases hy
      obtain⟨m1,m2⟩:=hsrc.2.2 _ y hy';refine⟨m1,λj r hr'=>?_⟩;obtain⟨u,hu,hru,hou⟩:=m2 j r hr';have hj:j<i.size:=by rw[<-m1];exact(List.getElem?_eq_some_iff.1 hr').1
      have hlt:(k-off)*i.size+j<Nat.min xs.length len*i.size:=qQq (by rw[hxt]at hk;omega) hj;have:=qPq (news.take (Nat.min xs.length len*i.size)) c (off*i.size) (by rw[hnl];exact hcl) ((k-off)*i.size+j) (by rw[hnl];exact hlt);have he:off*i.size+((k-off)*i.size+j)=k*i.size+j:=by
       rw[<-Nat.add_assoc,<-Nat.add_mul];congr 2;omega
      rw[he]at this;refine⟨u,?_,hru,hou⟩;rw[this,getElem?_take,if_pos hlt];exact hu
     .rename_i hk;obtain⟨m1,m2⟩:=h7 k y hy;refine⟨m1,λj r hr'=>?_⟩;obtain⟨u,hu,hru,hou⟩:=m2 j r hr';have hj:j<i.size:=by rw[<-m1];exact(List.getElem?_eq_some_iff.1 hr').1
      refine⟨u,?_,hru,hou⟩;rw[qCv _ _ _ _ ?_];exact hu;rw[hnl];rw[hxt]at hk;by_cases hko:k<off
      .left;exact qQq hko hj
      .right;have:(off+Nat.min xs.length len)*i.size<=k*i.size:=Nat.mul_le_mul_right _ oM;rw[Nat.add_mul]at this;omega
 .cases hsb
theorem qY2 {P:Program}{ts:Array TypeId}{t ty e:TypeId}{i:TypeInfo}{z:Value}(h0:ts[0]?=some t)(ht:P.underlying t=some (.slice e))(hi:P.info? e=some i)(hz:i.zero=some z)
  (ad:Addr) (n cp:Nat) (w':World) (hst:(storeCells ad (Builtin.zeroCells z.cells n).toList).run P w=.ok () w') (hn:0<n) :
  (Builtin.clear_ ts ty #[.slice (some ad) n cp]).run P w=.ok (.tuple #[]) w':=by
 cases n with
 |zero=>omega
 |succ n=>simp[Builtin.clear_,h0,run_underlying ht,zeroValue,typeInfo,hi,hz,hst]
theorem jIb (R:Rel cx β F fm hm a w){t e ty:TypeId}{ts:Array TypeId}(h0:ts[0]?=some t)(ht:cx.P.underlying t=some (.slice e))
  {i:TypeInfo} (hi:cx.P.info? e=some i) {z:Value} (hz:i.zero=some z) (hzs:z.cells.size=i.size) (hz1:qF0 z.cells=true) {p:Value} {vp:V} (hp:qR β F w vp p)
  (hs:(zFv i.size [vp]).run hm=some ((v,W),l)):Out cx β F fm hm a w v W (Builtin.clear_ ts ty #[p]):=by
 unfold zFv at hs;split at hs
 .rename_i id off len heq;cases heq;obtain⟨o,l',ho,hs2,_⟩:=yV hs;cases o with
  |dead=>cases hs2
  |live z' es wr full=>
   cases wr with
   |false=>cases hs2
   |true=>
    obtain⟨⟨rfl,hlen⟩,hs3⟩:=qM hs2;obtain⟨hr1,_⟩:=qE hs3;cases hr1;have htup:∀{β:Nat->Option BI}{F:Nat->Prop}{w:World},qR β F w (.tup []) (.tuple #[]):= .tup [] #[] rfl (by intro i c u hc;simp at hc);have hz1':∀u∈z.cells,u.oneCell'=true:=by
     intro u hu;unfold qF0 at hz1;rw[Array.all_eq_true_iff_forall_mem]at hz1;exact hz1 u hu
    have hall:∀n,∀u∈(Builtin.zeroCells z.cells n).toList,u.oneCell'=true:=by
     intro n u hu;simp only[Builtin.zeroCells,Array.toList_map,Array.toList_range,mem_map,mem_range]at hu;obtain⟨k,hk,rfl⟩:=hu;have hp0:0<z.cells.size:=by
      rcases Nat.eq_zero_or_pos z.cells.size with h|h
      .rw[h]at hk;simp at hk
      .exact h
     have hm:k%z.cells.size<z.cells.size:=Nat.mod_lt _ hp0;rw[getElem!_pos z.cells (k%z.cells.size) hm];exact hz1' _ (Array.getElem_mem hm)
    cases hp with
    |slv _ sz room hb=>omega
    |sl _ _ _ scap b sz room bad hb hlc hr had hspot=>
     obtain⟨c,ce,fz,h2,h3,h4,h5,h6,h7,h8,h9⟩:=R.obj ho hb rfl;simp only at h4 h5 h6 h7 h8 h9;subst h9;have hnl:(Builtin.zeroCells z.cells len).toList.length=len*i.size:=by rw[Array.length_toList,size_zeroCells,hzs]
     have hcl:off*i.size+len*i.size<=c.size:=by
      rw[h4,<-Nat.add_mul];exact Nat.mul_le_mul_right _ oM
     have hst:(storeCells bad (Builtin.zeroCells z.cells len).toList).run cx.P w=.ok () (w.setCells b (off*i.size) (Builtin.zeroCells z.cells len).toList):=by
      rw[had oM];exact vW h2 h3 (by rw[hnl];exact hcl) (hall len)
     have hrun:=qY2 (w:=w) (ty:=ty) h0 ht hi hz bad len scap _ hst hlen;refine⟨_,_,β,hrun,qA7 R ho hb h2 h3 h4 (by rw[length_take];omega) (λh=>by cases h) ?_,htup,λ_ _ h=>h⟩;intro k y hy;rw[getElem?_take]at hy;split at hy
     .rename_i hk;obtain⟨m1,m2⟩:=h7 k y hy;refine⟨m1,λj r hr'=>?_⟩;obtain⟨u,hu,hru,hou⟩:=m2 j r hr';have hj:j<i.size:=by rw[<-m1];exact(List.getElem?_eq_some_iff.1 hr').1
      refine⟨u,?_,hru,hou⟩;rw[qCv _ _ _ _ (.inl (qQq hk hj))];exact hu
     .cases hy
 .cases hs
theorem qMy {P:Program}{w:World}{op:BinOp}{t:TypeId}{x y:Operand}{b:Option Addr}{n c:Nat}{q:Value}:(eqGuard op t x y (.slice b n c) q).run P w=.ok () w:=by cases op<;>rfl
theorem qI7 {P:Program}(w:World)(d:Nat)(t e:TypeId)(b:Option Addr)(n c:Nat)(h:P.underlying t=some (.slice e)):(Op.equalIn (d+1) t (.slice b n c) (.slice none 0 0)).run P w=.ok b.isNone w:=by
 cases b<;>simp[Op.equalIn,run_underlying h]
theorem zTw {t e:TypeId}(h:cx.P.underlying t=some (.slice e))(x y:Operand)(b:Option Addr)(n c:Nat):(do eqGuard .eql t x y (.slice b n c) (.slice none 0 0);binOp .eql t (.slice b n c) (.slice none 0 0):Sem Value).run cx.P w=.ok (.bool b.isNone) w:=by
 have h1:(Op.equal t (.slice b n c) (.slice none 0 0)).run cx.P w=.ok b.isNone w:=qI7 w 9999 t e b n c h;rw[Sem.run_bind,qMy];simp only[Result.andThen_ok,binOp];simp[h1]
theorem zTx {t e:TypeId}(h:cx.P.underlying t=some (.slice e))(x y:Operand)(b:Option Addr)(n c:Nat):(do eqGuard .neq t x y (.slice b n c) (.slice none 0 0);binOp .neq t (.slice b n c) (.slice none 0 0):Sem Value).run cx.P w=.ok (.bool (!b.isNone)) w:=by
 have h1:(Op.equal t (.slice b n c) (.slice none 0 0)).run cx.P w=.ok b.isNone w:=qI7 w 9999 t e b n c h;rw[Sem.run_bind,qMy];simp only[Result.andThen_ok,binOp];simp[h1]
theorem qWw {neg:Bool}{vp vq v:V}{W:Wr}{l:List Nat}{p q:Value}(hp:qR β F w vp p)(hq:qR β F w vq q)(hs:(qQ6 neg [vp,vq]).run hm=some ((v,W),l)) :
  W=[]/\q=.slice none 0 0/\∃b n c,p=.slice b n c/\qR β F w v (.bool (if neg then !b.isNone else b.isNone)):=by
 unfold qQ6 at hs;split at hs
 .rename_i es heq;cases heq;obtain⟨hr,_⟩:=qE hs;cases hr;cases hq;refine⟨rfl,rfl,?_⟩;cases hp with
  |t h=>
   cases h with
   |nil=>exact⟨none,0,0,rfl,.bq _⟩
   |sl _ a cap sz news ha hc hn h1 hF hw hz h=>
    refine⟨some a,_,cap,rfl,?_⟩;cases es with
    |nil=>exact .bq _
    |cons x r=>cases neg<;>exact .t (.bool _)
 .rename_i id off len heq;cases heq;obtain⟨hr,_⟩:=qE hs;cases hr;cases hq;refine⟨rfl,rfl,?_⟩;cases hp with
  |sl _ _ _ cap b sz room a hb hlc hr ha hsp=>
   refine⟨some a,_,cap,rfl,?_⟩;split
   .exact .bq _
   .cases neg<;>exact .t (.bool _)
  |slv _ sz room hb=>exact⟨none,0,0,rfl,.bq _⟩
 .rename_i heq;cases heq;obtain⟨hr,_⟩:=qE hs;cases hr;cases hq;cases hp;refine⟨rfl,rfl,none,0,0,rfl,?_⟩;cases neg<;>exact .t (.bool _)
 .cases hs
theorem zZb (R:Rel cx β F fm hm a w){src e:TypeId}(hd:cx.P.underlying src=some (.slice e))(he:cx.P.underlying e=some (.int .u8)){id off len z:Nat}{es:List V}{full:Bool}(ho:hm id=some (.live z es true full))(hlen:0<len)(hne:0<es.length)
  {x:Value} (hx:qR β F w (.sl id off len) x):Out cx β F fm hm a w (.sl id off len) [(id,.live z es true full)] (convert src src x):=by
 cases hx with
 |slv _ sz room hb=>omega
 |sl _ _ _ cap b sz room ad hb hlc hr ha hs=>
  obtain⟨c,ce,fz,h2,h3,h4,h5,h6,h7,h8,h9⟩:=R.obj ho hb rfl;have had:=ha oM;subst had;have hrun:(convert src src (.slice (some ⟨b,off*sz,none⟩) len cap)).run cx.P w=.ok (.slice (some ⟨b,off*sz,none⟩) len cap) (w.freeze ⟨b,c.size,none⟩ 1):=by
   simp[convert,run_underlying hd,run_underlying he,markStringish,Go.shape,Go.freeze,World.shape?,h2,Sem.run]
  have hthis:(w.freeze ⟨b,c.size,none⟩ 1).heap[b]?=some (.cells c ce (if fz.1==fz.2 then(c.size,c.size+1) else(min fz.1 c.size,max fz.2 (c.size+1)))):=by
   simp[World.freeze,Array.getElem?_modify,h2]
  have hw:=R.write (w':=w.freeze ⟨b,c.size,none⟩ 1) ho hb rfl rfl rfl rfl (by simp[World.freeze]) (λk hk=>by simp[World.freeze,Array.getElem?_modify,Ne.symm hk]) hthis
   (λj=>by
    obtain⟨q1,q2⟩:=h3 j;split
    .exact⟨λhj=>by simp only;omega,by simp only;omega⟩
    .rename_i hne';have hlt:fz.1≠fz.2:=by simpa using hne'
     have q3:¬ fz.1<c.size:=λh=>by
      have:=(h3 fz.1).1 h;omega
     exact⟨λhj=>by simp only;omega,by simp only;omega⟩) h4 h5 h8 h7
  exact⟨_,_,β,hrun,hw,.sl id off len cap b sz room _ hb hlc hr ha hs,λ_ _ h=>h⟩
theorem Rel.trunc (R:Rel cx β F fm hm a w){id z:Nat}{es:List V}{full:Bool}(ho:hm id=some (.live z es true full))(n:Nat):Rel cx β F fm (upd hm [(id,.live z (es.take n) true false)]) a w:=by
 obtain⟨bi,hb,hok⟩:=R.hp id _ ho;have back:∀(k:Nat)(o:Ob),upd hm [(id,.live z (es.take n) true false)] k=some o->o≠ .dead->∃o',hm k=some o'/\o'≠ .dead:=by
  intro k o h1 h2;by_cases h:k=id
  .subst h;exact⟨_,ho,sM⟩
  .rw[qQ h]at h1;exact⟨o,h1,h2⟩
 refine R.step (λ_ _ h=>h) rfl rfl rfl (Nat.le_refl _) (λb _=>.inl rfl) (λj o' ho'=>?_) (λj hn=>?_) (λi j bi bj b oi oj h1 h2 h3 h4 h5 h6 h7 h8=>?_) (λj z' es' full' bi' b h1 h2 h3=>?_) (λj bi' b h1 h2=>R.blt j bi' b h1 h2)
 .by_cases h:j=id
  .subst h;rw[zO]at ho';cases ho';refine⟨bi,hb,?_⟩;unfold qG9 at hok⊢;obtain⟨g1,_,g3⟩:=hok;refine⟨g1,⟨(λh=>by simp at h),?_⟩⟩;cases hbk:bi.blk with
   |none=>
    simp only[hbk]at g3⊢;exact⟨by rw[g3.1];simp,g3.2⟩
   |some b=>
    simp only[hbk]at g3⊢;obtain⟨c,e,fz,k1,k2,k3,k4,k5,k6,k7⟩:=g3;refine⟨c,e,fz,k1,k2,k3,by rw[length_take];omega,k5,λi x hx=>?_,k7⟩;rw[getElem?_take]at hx;split at hx
    .exact k6 i x hx
    .cases hx
  .rw[qQ h]at ho';exact R.hp j o' ho'
 .by_cases h:j=id
  .subst h;rw[zO]at hn;cases hn
  .rw[qQ h]at hn;exact R.dom j hn
 .obtain⟨o1,p1,p2⟩:=back i oi h5 h7;obtain⟨o2,p3,p4⟩:=back j oj h6 h8;exact R.inj i j bi bj b o1 o2 h1 h2 h3 h4 p1 p3 p2 p4
 .by_cases h:j=id
  .subst h;exact R.old j z es full bi' b ho h2 h3
  .rw[qQ h]at h1;exact R.old j z' es' full' bi' b h1 h2 h3
theorem zCa (R:Rel cx β F fm hm a w){o:Oper}{ao:AO}{xs:List Operand}{vs:List V}(han:zPt cx.P o.op=some (ao,xs))
  (hv:xU (λx v=>qR β F w v (a.eval x)) xs vs) (hs:(sem ao vs nb).run hm=some ((v,W),l)):jB0 cx β F fm hm a w v W (execOp a.eval o):=by
 obtain⟨dst,op,ty,pos,after,guard⟩:=o;have mov:∀{x:Operand},ao=.mov->xs=[x]->jB0 cx β F fm hm a w v W (pure (.value (a.eval x))):=by
  intro x h1 h2;subst h1 h2;obtain⟨p,rfl,hp⟩:=jP hv;simp only[sem,zMe]at hs;obtain⟨hr,_⟩:=qE hs;cases hr;exact(jG7 R hp).o
 cases op<;>simp only[zPt]at han<;>(try(cases han;done))
 case move x=>cases han;exact mov rfl rfl
 case assign x=>cases han;exact mov rfl rfl
 case pick c x y=>
  cases han;obtain⟨p,q,r,rfl,hp,hq,hr⟩:=qZ7 hv;have:=jPw R hs ⟨p,q,r,rfl,hp,hq,hr⟩;obtain⟨u,w',β',h1,h2,h3,h4⟩:=this;refine⟨.value u,w',β',u,?_,.inl rfl,h2,h3,h4⟩;simp only[execOp];simp only[Sem.run_bind]at h1⊢;cases hb:(asBool (a.eval c)).run cx.P w with
  |ok b w1=>
   rw[hb]at h1;simp only[Result.andThen_ok,Sem.run_pure,Result.ok.injEq]at h1⊢;exact⟨by rw[h1.1],h1.2⟩
  |halt h w1=>rw[hb]at h1;cases h1
 case alloc e=>
  have hx0:xs=[]:=by
   unfold qU4 at han;split at han
   .split at han
    .split at han
     .split at han
      .simp only[Option.bind_eq_some_iff]at han;obtain⟨cs,_,han⟩:=han;split at han
       .cases han;rfl
       .cases han
      .simp only[Option.map_eq_some_iff]at han;obtain⟨zv,_,han⟩:=han;cases han;rfl
     .cases han
    .cases han
   .cases han
  subst hx0;cases hv;exact(jW0 R han hs).1.o
 case box e x=>
  split at han
  .cases han;obtain⟨p,rfl,hp⟩:=jP hv;exact(jAc R hp hs).o
  .cases han;obtain⟨p,rfl,hp⟩:=jP hv;exact(jWx R hp hs).o
  .cases han
 case build t ps=>exact(jIa R han hv hs).o
 case buildSlice t n ps=>exact(jAd R han hv hs).o
 case load t x=>exact(jPv R han hv hs).o
 case store t x y=>
  simp only[Option.map_eq_some_iff]at han;obtain⟨i,hi,han⟩:=han;cases han;obtain⟨p,q,rfl,hp,hq⟩:=jQ hv;obtain⟨h1,rfl⟩:=jIk R hi hp hq hs;exact h1.o
 case nilCheck x=>
  cases han;obtain⟨p,rfl,hp⟩:=jP hv;obtain⟨h1,rfl,ad,hx⟩:=jAe hp hs;refine⟨.value (a.eval x),w,β,a.eval x,?_,.inl rfl,R,h1,λ_ _ h=>h⟩;simp[execOp,hx]
 case binOp op t x y yt=>
  split at han
  .rename_i hd;cases han;obtain⟨p,q,rfl,hp,hq⟩:=jQ hv;simp only[sem]at hs;unfold zFt at hs;split at hs
   .rename_i b c heq;cases heq;obtain⟨hr,_⟩:=qE hs;cases hr;refine⟨.value (.bool (b==c)),w,β,.bool (b==c),?_,.inl rfl,R,.t (.bool _),λ_ _ h=>h⟩;have e1:=hp.bool_inv;have e2:=hq.bool_inv;simp only[execOp,e1,e2,Sem.run_bind,qI5,Result.andThen_ok,run_eql_bool w t b c hd,Sem.run_pure]
   .cases hs
  .rename_i hd;cases han;obtain⟨p,q,rfl,hp,hq⟩:=jQ hv;simp only[sem]at hs;unfold zFt at hs;split at hs
   .rename_i b c heq;cases heq;obtain⟨hr,_⟩:=qE hs;cases hr;refine⟨.value (.bool (!(b==c))),w,β,.bool (!(b==c)),?_,.inl rfl,R,.t (.bool _),λ_ _ h=>h⟩;have e1:=hp.bool_inv;have e2:=hq.bool_inv;simp only[execOp,e1,e2,Sem.run_bind,qI5,Result.andThen_ok,run_neq_bool w t b c hd,Sem.run_pure]
   .cases hs
  .rename_i e hd;cases han;obtain⟨p,q,rfl,hp,hq⟩:=jQ hv;simp only[sem]at hs;obtain⟨rfl,e2,b,n,c,e1,hr⟩:=qWw hp hq hs;refine⟨.value (.bool b.isNone),w,β,.bool b.isNone,?_,.inl rfl,R,hr,λ_ _ h=>h⟩;simp only[execOp,e1,e2];rw[Sem.run_bind,zTw hd];rfl
  .rename_i e hd;cases han;obtain⟨p,q,rfl,hp,hq⟩:=jQ hv;simp only[sem]at hs;obtain⟨rfl,e2,b,n,c,e1,hr⟩:=qWw hp hq hs;refine⟨.value (.bool (!b.isNone)),w,β,.bool (!b.isNone),?_,.inl rfl,R,hr,λ_ _ h=>h⟩;simp only[execOp,e1,e2];rw[Sem.run_bind,zTx hd];rfl
  .rename_i n e hd;unfold zJ4 at han;split at han
   .rename_i k i hk hi;split at han
    .rename_i hc;cases han;obtain⟨hz,hg⟩:=hc;obtain⟨p,q,rfl,hp,hq⟩:=jQ hv;simp only[sem]at hs;unfold qXi at hs;split at hs
     .rename_i xs ys heq;cases heq;obtain⟨a',ha,hs⟩:=qH hs;obtain⟨b',hb,hs⟩:=qH hs;obtain⟨⟨la,lb⟩,hs⟩:=qM hs;obtain⟨hr,_⟩:=qE hs;cases hr;have e1:=qF4 hp ha;have e2:=qF4 hq hb;have hrun:=zTv w false x y t e n k hd hk (λw=>by rw[yG hi,hz]) hg a' b' la lb;refine⟨_,w,β,_,?_,.inl rfl,R,.t (.bool _),λ_ _ h=>h⟩;simp only[execOp,e1,e2];simp only[Bool.false_eq_true,if_false]at hrun;rw[Sem.run_bind,hrun];rfl
     .cases hs
    .cases han
   .cases han
  .rename_i n e hd;unfold zJ4 at han;split at han
   .rename_i k i hk hi;split at han
    .rename_i hc;cases han;obtain⟨hz,hg⟩:=hc;obtain⟨p,q,rfl,hp,hq⟩:=jQ hv;simp only[sem]at hs;unfold qXi at hs;split at hs
     .rename_i xs ys heq;cases heq;obtain⟨a',ha,hs⟩:=qH hs;obtain⟨b',hb,hs⟩:=qH hs;obtain⟨⟨la,lb⟩,hs⟩:=qM hs;obtain⟨hr,_⟩:=qE hs;cases hr;have e1:=qF4 hp ha;have e2:=qF4 hq hb;have hrun:=zTv w true x y t e n k hd hk (λw=>by rw[yG hi,hz]) hg a' b' la lb;refine⟨_,w,β,_,?_,.inl rfl,R,.t (.bool _),λ_ _ h=>h⟩;simp only[execOp,e1,e2];simp only[if_true]at hrun;rw[Sem.run_bind,hrun];rfl
     .cases hs
    .cases han
   .cases han
  .rename_i fs hd;unfold zJ5 at han;split at han
   .split at han
    .rename_i k hk;split at han
     .rename_i hc;cases han;obtain⟨hf,hg,hst⟩:=hc;obtain⟨p,q,rfl,hp,hq⟩:=jQ hv;simp only[sem]at hs;unfold qXi at hs;split at hs
      .rename_i xs ys heq;cases heq;obtain⟨a',ha,hs⟩:=qH hs;obtain⟨b',hb,hs⟩:=qH hs;obtain⟨⟨la,lb⟩,hs⟩:=qM hs;obtain⟨hr,_⟩:=qE hs;cases hr;have e1:=qF4 hp ha;have e2:=qF4 hq hb;have hrun:=zL6 w false x y t fs k hd hf hg hst a' b' la lb;refine⟨_,w,β,_,?_,.inl rfl,R,.t (.bool _),λ_ _ h=>h⟩;simp only[execOp,e1,e2];simp only[Bool.false_eq_true,if_false]at hrun;rw[Sem.run_bind,hrun];rfl
      .cases hs
     .cases han
    .cases han
   .cases han
  .rename_i fs hd;unfold zJ5 at han;split at han
   .split at han
    .rename_i k hk;split at han
     .rename_i hc;cases han;obtain⟨hf,hg,hst⟩:=hc;obtain⟨p,q,rfl,hp,hq⟩:=jQ hv;simp only[sem]at hs;unfold qXi at hs;split at hs
      .rename_i xs ys heq;cases heq;obtain⟨a',ha,hs⟩:=qH hs;obtain⟨b',hb,hs⟩:=qH hs;obtain⟨⟨la,lb⟩,hs⟩:=qM hs;obtain⟨hr,_⟩:=qE hs;cases hr;have e1:=qF4 hp ha;have e2:=qF4 hq hb;have hrun:=zL6 w true x y t fs k hd hf hg hst a' b' la lb;refine⟨_,w,β,_,?_,.inl rfl,R,.t (.bool _),λ_ _ h=>h⟩;simp only[execOp,e1,e2];simp only[if_true]at hrun;rw[Sem.run_bind,hrun];rfl
      .cases hs
     .cases han
    .cases han
   .cases han
  .cases han;obtain⟨p,q,rfl,hp,hq⟩:=jQ hv;simp only[sem]at hs;unfold zMb at hs;split at hs
   .rename_i p' q' heq;cases heq;obtain⟨r,hbr,hs⟩:=qH hs;obtain⟨hr,_⟩:=qE hs;cases hr;cases hp with
    |t hp=>
     cases hq with
     |t hq=>
      obtain⟨u,h1,h2⟩:=zP5 (P:=cx.P) (t:=t) (xo:=x) (yo:=y) hbr hp hq;refine⟨.value u,w,β,u,?_,.inl rfl,R,.t h2,λ_ _ h=>h⟩;simp only[execOp];rw[Sem.run_bind,h1];rfl
   .cases hs
 case unOp op t x=>
  cases han;obtain⟨p,rfl,hp⟩:=jP hv;simp only[sem]at hs;unfold jAh at hs;split at hs
  .rename_i p' heq;cases heq;obtain⟨r,hbr,hs⟩:=qH hs;obtain⟨hr,_⟩:=qE hs;cases hr;cases hp with
   |t hp=>
    obtain⟨u,h1,h2⟩:=jA9 (P:=cx.P) hbr hp;exact(Out.same R h1 (.t h2)).o
  .cases hs
 case convert s d x=>
  unfold qZ9 at han;split at han
  .rename_i k0 k hsrc hdst;cases han;obtain⟨p,rfl,hp⟩:=jP hv;simp only[sem]at hs;unfold qIq at hs;split at hs
   .rename_i k1 n heq;cases heq;obtain⟨hr,_⟩:=qE hs;cases hr;have e1:=hp.int_inv;have:=Out.same R (x:= .int k (k.wrap n)) (s:=convert s d (a.eval x)) (by rw[e1];simp[convert,run_underlying hsrc,run_underlying hdst,Conv.intToInt]) (.t (.int _ _));exact this.o
   .cases hs
  .rename_i hsrc hdst;cases han;obtain⟨p,rfl,hp⟩:=jP hv;simp only[sem]at hs;unfold zCo at hs;split at hs
   .rename_i st heq;cases heq;obtain⟨hr,_⟩:=qE hs;cases hr;have e1:=hp.str_inv;exact(Out.same R (x:= .string st) (s:=convert s d (a.eval x)) (by rw[e1];simp[convert,run_underlying hsrc,run_underlying hdst]) (.t (.str _))).o
   .cases hs
  .rename_i e hsrc hdst;split at han
   .rename_i he;cases han;obtain⟨p,rfl,hp⟩:=jP hv;simp only[sem]at hs;unfold zAt at hs;split at hs
    .rename_i st heq;cases heq;obtain⟨hsz,hs⟩:=qM hs;obtain⟨hnb,l',hr,_⟩:=xT hs;obtain⟨hr1,_⟩:=qE hr;cases hr1;have:=jG8 R hnb hsrc hdst he hsz;rw[<-hp.str_inv]at this;exact this.o
    .cases hs
   .cases han
  .rename_i e hsrc hdst;split at han
   .rename_i he;cases han;obtain⟨p,rfl,hp⟩:=jP hv;simp only[sem,zMa]at hs;obtain⟨es,l1,l2,hx,hs,_⟩:=qS hs;obtain⟨bs,hbs,hs⟩:=qH hs;obtain⟨hr,_⟩:=qE hs;cases hr;exact(jG6 R hsrc he hdst hx hp hbs).o
   .cases han
  .rename_i e hsrc hdst;split at han
   .rename_i hsd;subst hsd;split at han
    .rename_i he;cases han;obtain⟨p,rfl,hp⟩:=jP hv;simp only[sem]at hs;unfold zCl at hs;split at hs
     .rename_i id off len heq;cases heq;obtain⟨ob,l',ho,hs2,_⟩:=yV hs;cases ob with
      |dead=>cases hs2
      |live z es wr full=>
       cases wr with
       |false=>cases hs2
       |true=>
        obtain⟨⟨hlen,hne⟩,hs3⟩:=qM hs2;obtain⟨hr,_⟩:=qE hs3;cases hr;exact(zZb R hdst he ho hlen hne hp).o
     .cases hs
    .cases han
   .cases han
  .cases han
 case makeFunc fn first caps=>
  unfold zPs at han;split at han
  .rename_i f;split at han
   .rename_i hf0;cases han;simp only[sem,zCn]at hs;obtain⟨hr,_⟩:=qE hs;cases hr;have hfe:first = #[]:=Array.eq_empty_of_size_eq_zero hf0
    subst hfe;have hl:=hv.length;have:=Out.same R (x:= .func (.func f) #[] (caps.map a.eval)) (s:=Instr.makeFunc (.func f) (#[].map a.eval) (caps.map a.eval)) (v:= .fn f vs) (by simp[Instr.makeFunc])
     (.fn f vs _ (by simpa using hl) (λi c u hc hu=>by
      obtain⟨x,hx,hr⟩:=hv.get i c hc;have:(caps.map a.eval)[i]?=some (a.eval x):=by
       rw[Array.getElem?_map];rw[Array.getElem?_toList]at hx;rw[hx];rfl
      rw[this]at hu;cases hu;exact hr))
    exact this.o
   .split at han
    .rename_i hf1;cases han;obtain⟨hf1,hc0⟩:=hf1;have hce:caps = #[]:=Array.eq_empty_of_size_eq_zero hc0;subst hce;obtain⟨r0,hr0⟩:∃r0,first = #[r0]:=by
      obtain⟨l⟩:=first
      match l,hf1 with
      |[r0],_=>exact⟨r0,rfl⟩
     subst hr0;obtain⟨p,rfl,hp⟩:=jP hv;simp only[sem]at hs;unfold zCm at hs;split at hs
     .rename_i id i fo heq;cases heq;obtain⟨hr,_⟩:=qE hs;cases hr;generalize h0:a.eval r0=y0 at hp;cases hp with
      |ref _ _ _ b sz room hb=>
       have:=Out.same R (x:= .func (.func f) #[.pointer (some ⟨b,i*sz+fo,none⟩)] #[]) (s:=Instr.makeFunc (.func f) (#[r0].map a.eval) (#[].map a.eval)) (v:= .bd f id i fo) (by simp[Instr.makeFunc,h0])
        (.bd f id i fo b sz room hb)
       exact this.o
     .cases hs
    .cases han
  .cases han
 case makeSlice t p q=>
  unfold zPr at han;split at han
  .rename_i e ht;split at han
   .rename_i i d hi hd;split at han
    .rename_i z hz;split at han
     .rename_i hone;simp only[Option.bind_eq_some_iff]at han;obtain⟨zv,hzv,han⟩:=han;split at han
      .rename_i hsz;cases han;obtain⟨x,y,rfl,hx,hy⟩:=jQ hv;simp only[sem,jAg]at hs;obtain⟨ln,hln,hs⟩:=qH hs;obtain⟨cn,hcn,hs⟩:=qH hs;obtain⟨⟨h0,hlc,hso⟩,hs⟩:=qM hs;obtain⟨hnb,l',hr,_⟩:=xT hs;obtain⟨hr1,_⟩:=qE hr;cases hr1;exact(zZc R hnb ht hi hz hzv hone hsz hx hy hln hcn h0 hlc hso).o
      .cases han
     .cases han
    .cases han
   .cases han
  .cases han
 case slice t x lo hi mx=>exact(jIj R han hv hs).o
 case fieldAddr s x f=>exact(jIf R han hv hs).o
 case field s x f=>exact(jIg R han hv hs).o
 case indexAddr t x ix=>exact(jIh R han hv hs).o
 case index t x ix=>exact(jIi R han hv hs).o
 case extract x i=>
  cases han;obtain⟨p,rfl,hp⟩:=jP hv;exact(zTz R hp hs).o
 case call c=>
  obtain⟨callee,args,ts⟩:=c;cases callee with
  |value f=>cases han
  |invoke r m=>cases han
  |builtin b=>
   simp only at han;have red:∀{s:Sem Value}(_:∀cs,builtin b ts ty cs (args.map a.eval)=(do pure (.value (<-s)))),Out cx β F fm hm a w v W s->jB0 cx β F fm hm a w v W (execOp a.eval ⟨dst,.call ⟨.builtin b,args,ts⟩,ty,pos,after,guard⟩):=by
    intro s h1 h2;have:execOp a.eval ⟨dst,.call ⟨.builtin b,args,ts⟩,ty,pos,after,guard⟩=(do pure (.value (<-s))):=by
     rw[<-h1];simp only[execOp,resolve];rfl
    rw[this];exact h2.o
   have arg1:∀{x:Operand},args.toList=[x]->args.map a.eval = #[a.eval x]:=λh=>by apply Array.ext';simp[h]
   have arg2:∀{x y:Operand},args.toList=[x,y]->args.map a.eval = #[a.eval x,a.eval y]:=λh=>by apply Array.ext';simp[h]
   unfold qZ8 at han;split at han
   ·
    rename_i x t r hargs hts;have ht0:ts[0]?=some t:=by rw[<-Array.getElem?_toList,hts];rfl
    split at han
    .rename_i hd;cases han;obtain⟨p,rfl,hp⟩:=jP hv;exact red (s:=Builtin.len_ ts ty #[a.eval x]) (λcs=>by simp only[builtin,arg1 hargs]) (jPx R ht0 hd hp hs)
    .rename_i e hd;cases han;obtain⟨p,rfl,hp⟩:=jP hv;exact red (s:=Builtin.len_ ts ty #[a.eval x]) (λcs=>by simp only[builtin,arg1 hargs]) (jWz R ht0 hd hp hs)
    .rename_i n e hd;cases han;obtain⟨p,rfl,hp⟩:=jP hv;simp only[sem,qXk]at hs;obtain⟨hr,_⟩:=qE hs;cases hr;exact red (s:=Builtin.len_ ts ty #[a.eval x]) (λcs=>by simp only[builtin,arg1 hargs]) (Out.same R (x:= .int .i64 n) (by simp[Builtin.len_,ht0,run_underlying hd,goInt]) (.t (.int _ _)))
    .rename_i e hd;split at han
     .rename_i n e2 hd2;cases han;obtain⟨p,rfl,hp⟩:=jP hv;simp only[sem,qXk]at hs;obtain⟨hr,_⟩:=qE hs;cases hr;exact red (s:=Builtin.len_ ts ty #[a.eval x]) (λcs=>by simp only[builtin,arg1 hargs]) (Out.same R (x:= .int .i64 n) (by simp[Builtin.len_,ht0,run_underlying hd,run_underlying hd2,goInt]) (.t (.int _ _)))
     .cases han
    .cases han
   ·
    rename_i x y t t' r hargs hts;obtain⟨ht0,ht1⟩:=zD6 hts;split at han
    .rename_i e e' hd hd';split at han
     .rename_i i hi;split at han
      .rename_i z hz;split at han
       .rename_i hzs;cases han;obtain⟨p,q,rfl,hp,hq⟩:=jQ hv;exact red (s:=Builtin.append_ ts ty #[a.eval x,a.eval y]) (λcs=>by simp only[builtin,arg2 hargs]) (jAa R ht0 ht1 hd hd' hi hz hzs hp hq hs)
       .cases han
      .cases han
     .cases han
    .rename_i e hd hd';split at han
     .rename_i i hi;split at han
      .rename_i z hz;split at han
       .rename_i hzs;cases han;obtain⟨p,q,rfl,hp,hq⟩:=jQ hv;exact red (s:=Builtin.append_ ts ty #[a.eval x,a.eval y]) (λcs=>by simp only[builtin,arg2 hargs]) (jAb R ht0 ht1 hd hd' hi hz hzs.1 hzs.2.1 hzs.2.2 hp hq hs)
       .cases han
      .cases han
     .cases han
    .cases han
   ·
    rename_i x y t t' r hargs hts;obtain⟨ht0,ht1⟩:=zD6 hts;split at han
    .rename_i e e' hd hd';simp only[Option.map_eq_some_iff]at han;obtain⟨i,hi,han⟩:=han;cases han;obtain⟨p,q,rfl,hp,hq⟩:=jQ hv;exact red (s:=Builtin.copy_ ts ty #[a.eval x,a.eval y]) (λcs=>by simp only[builtin,arg2 hargs]) (jPu R ht0 ht1 hd hd' hi hp hq hs)
    .cases han
   ·
    rename_i x t r hargs hts;have ht0:ts[0]?=some t:=by rw[<-Array.getElem?_toList,hts];rfl
    split at han
    .rename_i e hd;split at han
     .rename_i i hi;split at han
      .rename_i z hz;split at han
       .rename_i hzs;cases han;obtain⟨p,rfl,hp⟩:=jP hv;exact red (s:=Builtin.clear_ ts ty #[a.eval x]) (λcs=>by simp only[builtin,arg1 hargs]) (jIb R ht0 hd hi hz hzs.1 hzs.2 hp hs)
       .cases han
      .cases han
     .cases han
    .cases han
   ·
    rename_i x y hargs;cases han;obtain⟨p,q,rfl,hp,hq⟩:=jQ hv;simp only[sem]at hs;unfold zMd at hs;split at hs
    .rename_i k n k' m heq;cases heq;obtain⟨hr,_⟩:=qE hs;cases hr;have e1:=hp.int_inv;have e2:=hq.int_inv;exact red (s:=Builtin.min_ ts ty #[a.eval x,a.eval y]) (λcs=>by simp only[builtin,arg2 hargs]) (Out.same R (x:= .int k (if m<n then m else n)) (by rw[e1,e2];simp[Builtin.min_,Builtin.min2]) (.t (.int _ _)))
    .cases hs
   ·
    rename_i x y hargs;cases han;obtain⟨p,q,rfl,hp,hq⟩:=jQ hv;simp only[sem]at hs;unfold zMc at hs;split at hs
    .rename_i k n k' m heq;cases heq;obtain⟨hr,_⟩:=qE hs;cases hr;have e1:=hp.int_inv;have e2:=hq.int_inv;exact red (s:=Builtin.max_ ts ty #[a.eval x,a.eval y]) (λcs=>by simp only[builtin,arg2 hargs]) (Out.same R (x:= .int k (if m>n then m else n)) (by rw[e1,e2];simp[Builtin.max_,Builtin.max2]) (.t (.int _ _)))
    .cases hs
   .cases han
theorem AO.cut_or (o:AO):(∃z b,o=.append z b/\o.cut=.appendt z b)\/o.cut=o:=by
 cases o<;>first|exact .inl ⟨_,_,rfl,rfl⟩|exact .inr rfl
theorem zFe (R:Rel cx β F fm hm a w){o:Oper}{z b:Nat}{xs:List Operand}{vs:List V}(han:zPt cx.P o.op=some (.append z b,xs))
  (hv:xU (λx v=>qR β F w v (a.eval x)) xs vs) (hs:(sem (.appendt z b) vs nb).run hm=some ((v,W),l)):jB0 cx β F fm hm a w v W (execOp a.eval o):=by
 simp only[sem]at hs;unfold qL6 at hs;split at hs
 .rename_i id len ts;obtain⟨hz,hs⟩:=qM hs;obtain⟨ob,l',ho,hs2,_⟩:=yV hs;cases ob with
  |dead=>cases hs2
  |live z' es wr full=>
   cases wr with
   |false=>cases hs2
   |true=>
    obtain⟨⟨⟨rfl,hle⟩,hsz,h100⟩,hs3⟩:=qM hs2;obtain⟨hnb,l'',hr,_⟩:=xT hs3;obtain⟨hr1,_⟩:=qE hr;cases hr1;have hne:id≠nb:=λh=>by subst h;rw[ho]at hnb;cases hnb
    have hl:(es.take len).length=len:=by rw[length_take];omega
    have hnb':upd hm [(id,.live z' (es.take len) true false)] nb=none:=by rw[qQ (Ne.symm hne)];exact hnb
    have hs':(sem (.append z' b) [.sl id 0 len,.t (.sl ts)] nb).run (upd hm [(id,.live z' (es.take len) true false)])=some ((.sl nb 0 (len+ts.length),[(id,.dead),(nb,.live z' (es.take len++ts.map .t) true false)]),[id,nb]):=by
     simp only[sem,qHh,qDm,Q.bind,Q.assert,hz,if_true,length_map];simp only[Q.run,zO,hl,hsz,h100,and_self,if_true,hnb']
    have h:=zCa (R.trunc ho len) han hv hs';have e:upd (upd hm [(id,.live z' (es.take len) true false)]) [(id,.dead),(nb,.live z' (es.take len++ts.map .t) true false)]=upd hm [(id,.dead),(nb,.live z' (es.take len++ts.map .t) true false)]:=by
     funext j;simp only[upd];split
     .rfl
     .split<;>rfl
    unfold jB0 at h⊢;rw[e]at h;exact h
 .cases hs
end Go.Eng
end
section
namespace Go.Eng
open List
mutual
def V.ren (ρ:Nat->Nat):V->V
 |.t x=>.t x
 |.nil=>.nil
 |.ref id i f=>.ref (ρ id) i f
 |.ro cs=>.ro cs
 |.sl id off len=>.sl (ρ id) off len
 |.agg cs=>.agg (qFn ρ cs)
 |.tup cs=>.tup (qFn ρ cs)
 |.fn f cs=>.fn f (qFn ρ cs)
 |.bd g id i f=>.bd g (ρ id) i f
 |.bq=>.bq
def qFn (ρ:Nat->Nat):List V->List V
 |[]=>[]
 |c::r=>c.ren ρ::qFn ρ r
end
theorem zJ (ρ:Nat->Nat)(l:List V):qFn ρ l=l.map (V.ren ρ):=by
 induction l with
 |nil=>rfl
 |cons c r ih=>simp[qFn,ih]
theorem jD1 (ρ:Nat->Nat)(ts:List T):qFn ρ (ts.map .t)=ts.map .t:=by
 rw[zJ,map_map];apply map_congr_left;intro x _;rfl
def Ob.ren (ρ:Nat->Nat):Ob->Ob
 |.live z es wr full=>.live z (qFn ρ es) wr full
 |.dead=>.dead
theorem qJv (ρ:Nat->Nat)(v:V):(v.ren ρ).cells=qFn ρ v.cells:=by
 cases v with
 |t x=>cases x<;>simp[V.ren,V.cells,qFn,jD1]
 |_=>simp[V.ren,V.cells,qFn]
variable {β:Nat->Option BI}{F:Nat->Prop}{w:World}
theorem qR.ren {ρ:Nat->Nat}{v:V}{x:Value}(h:qR (λk=>β (ρ k)) F w v x):qR β F w (v.ren ρ) x:=by
 induction h with
 |t h=>exact .t h
 |nil=>exact .nil
 |ref id i f b sz room hb=>exact .ref _ i f b sz room hb
 |bd g id i f b sz room hb=>exact .bd g _ i f b sz room hb
 |bq b=>exact .bq b
 |ro cs a news ha hn h1 hF hw h=>exact .ro cs a news ha hn h1 hF hw h
 |sl id off len cap b sz room a hb hlc hr ha hs=>exact .sl _ off len cap b sz room a hb hlc hr ha hs
 |slv id sz room hb=>exact .slv _ sz room hb
 |agg cs vs hl h1 _ ih=>
  simp only[V.ren,zJ];refine .agg _ vs (by simpa using hl) h1 (λi c u hc hu=>?_);rw[getElem?_map,Option.map_eq_some_iff]at hc;obtain⟨c',hc',rfl⟩:=hc;exact ih i c' u hc' hu
 |tup cs vs hl _ ih=>
  simp only[V.ren,zJ];refine .tup _ vs (by simpa using hl) (λi c u hc hu=>?_);rw[getElem?_map,Option.map_eq_some_iff]at hc;obtain⟨c',hc',rfl⟩:=hc;exact ih i c' u hc' hu
 |fn f cs vs hl _ ih=>
  simp only[V.ren,zJ];refine .fn f _ vs (by simpa using hl) (λi c u hc hu=>?_);rw[getElem?_map,Option.map_eq_some_iff]at hc;obtain⟨c',hc',rfl⟩:=hc;exact ih i c' u hc' hu
theorem qR.unren {ρ:Nat->Nat}{u:V}{x:Value}(h:qR β F w u x):∀{v:V},v.ren ρ=u->qR (λk=>β (ρ k)) F w v x:=by
 induction h with
 |t h=>intro v hv;cases v<;>simp only[V.ren]at hv<;>first|(cases hv;exact .t h)|cases hv
 |nil=>intro v hv;cases v<;>simp only[V.ren]at hv<;>first|(cases hv;exact .nil)|cases hv
 |ref id i f b sz room hb=>intro v hv;cases v<;>simp only[V.ren]at hv<;>first|(cases hv;exact .ref _ i f b sz room hb)|cases hv
 |bd g id i f b sz room hb=>intro v hv;cases v<;>simp only[V.ren]at hv<;>first|(cases hv;exact .bd g _ i f b sz room hb)|cases hv
 |bq b=>intro v hv;cases v<;>simp only[V.ren]at hv<;>first|(cases hv;exact .bq b)|cases hv
 |ro cs a news ha hn h1 hF hw h=>intro v hv;cases v<;>simp only[V.ren]at hv<;>first|(cases hv;exact .ro cs a news ha hn h1 hF hw h)|cases hv
 |sl id off len cap b sz room a hb hlc hr ha hs=>intro v hv;cases v<;>simp only[V.ren]at hv<;>first|(cases hv;exact .sl _ off len cap b sz room a hb hlc hr ha hs)|cases hv
 |slv id sz room hb=>intro v hv;cases v<;>simp only[V.ren]at hv<;>first|(cases hv;exact .slv _ sz room hb)|cases hv
 |agg cs vs hl h1 _ ih=>
  intro v hv;cases v<;>simp only[V.ren]at hv<;>cases hv;rw[zJ]at hl ih;refine .agg _ vs (by simpa using hl) h1 (λi c u hc hu=>ih i (c.ren ρ) u (by rw[getElem?_map,hc];rfl) hu rfl)
 |tup cs vs hl _ ih=>
  intro v hv;cases v<;>simp only[V.ren]at hv<;>cases hv;rw[zJ]at hl ih;refine .tup _ vs (by simpa using hl) (λi c u hc hu=>ih i (c.ren ρ) u (by rw[getElem?_map,hc];rfl) hu rfl)
 |fn f cs vs hl _ ih=>
  intro v hv;cases v<;>simp only[V.ren]at hv<;>cases hv;rw[zJ]at hl ih;refine .fn f _ vs (by simpa using hl) (λi c u hc hu=>ih i (c.ren ρ) u (by rw[getElem?_map,hc];rfl) hu rfl)
theorem vB.ren {ρ:Nat->Nat}{es:List V}{sz:Nat}{c:Array Value}(h:vB (λk=>β (ρ k)) F w es sz c):vB β F w (qFn ρ es) sz c:=by
 intro i x hx;rw[zJ,getElem?_map,Option.map_eq_some_iff]at hx;obtain⟨x',hx',rfl⟩:=hx;obtain⟨h1,h2⟩:=h i x' hx';rw[qJv,zJ];refine⟨by simpa using h1,λj y hy=>?_⟩;rw[getElem?_map,Option.map_eq_some_iff]at hy;obtain⟨y',hy',rfl⟩:=hy;obtain⟨u,hu,hr,ho⟩:=h2 j y' hy';exact⟨u,hu,hr.ren,ho⟩
theorem vB.unren {ρ:Nat->Nat}{es:List V}{sz:Nat}{c:Array Value}(h:vB β F w (qFn ρ es) sz c):vB (λk=>β (ρ k)) F w es sz c:=by
 intro i x hx;obtain⟨h1,h2⟩:=h i (x.ren ρ) (by rw[zJ,getElem?_map,hx];rfl);rw[qJv,zJ]at h1 h2;refine⟨by simpa using h1,λj y hy=>?_⟩;obtain⟨u,hu,hr,ho⟩:=h2 j (y.ren ρ) (by rw[getElem?_map,hy];rfl);exact⟨u,hu,hr.unren rfl,ho⟩
theorem qG9.ren {ρ:Nat->Nat}{bi:BI}{o:Ob}(h:qG9 (λk=>β (ρ k)) F w bi o):qG9 β F w bi (o.ren ρ):=by
 cases o with
 |dead=>trivial
 |live z es wr full=>
  simp only[Ob.ren];unfold qG9 at *;obtain⟨h1,h2,h3⟩:=h;refine⟨h1,by rw[zJ,length_map];exact h2,?_⟩;cases hb:bi.blk with
  |none=>simp only[hb]at h3⊢;exact⟨by rw[h3.1];rfl,h3.2⟩
  |some b=>
   simp only[hb]at h3⊢;obtain⟨c,e,fz,g1,g2,g3,g4,g5,g6,g7⟩:=h3;exact⟨c,e,fz,g1,g2,g3,by rw[zJ,length_map];exact g4,g5,g6.ren,g7⟩
theorem qG9.unren {ρ:Nat->Nat}{bi:BI}{o:Ob}(h:qG9 β F w bi (o.ren ρ)):qG9 (λk=>β (ρ k)) F w bi o:=by
 cases o with
 |dead=>trivial
 |live z es wr full=>
  simp only[Ob.ren]at h;unfold qG9 at *;obtain⟨h1,h2,h3⟩:=h;rw[zJ,length_map]at h2;refine⟨h1,h2,?_⟩;cases hb:bi.blk with
  |none=>
   simp only[hb]at h3⊢;refine⟨?_,h3.2⟩;have:=h3.1;rw[zJ]at this;simpa using this
  |some b=>
   simp only[hb]at h3⊢;obtain⟨c,e,fz,g1,g2,g3,g4,g5,g6,g7⟩:=h3;rw[zJ,length_map]at g4;exact⟨c,e,fz,g1,g2,g3,g4,g5,g6.unren,g7⟩
structure zVp (β:Nat->Option BI)(F:Nat->Prop)(w:World)(obs:List Ob):Prop where
 ok:∀(k:Nat)(o:Ob),obs[k]?=some o->∃bi,β k=some bi/\qG9 β F w bi o/\∃z es full,o=.live z es true full
 dom:∀k,obs.length<=k->β k=none
 inj:∀i j bi bj b,β i=some bi->β j=some bj->bi.blk=some b->bj.blk=some b->i=j
 blt:∀k bi b,β k=some bi->bi.blk=some b->b<w.heap.size/\¬ F b
structure zPk (G:Nat->Option (List T))(F:Nat->Prop)(w:World):Prop where
 Fw:∀b,F b->b<w.heap.size
 gl:∀g cs,G g=some cs->qR (λ_=>none) F w (.ro cs) (.pointer (some ⟨g,0,none⟩))
 gs:∀g cs,G g=some cs->GSz w g cs.length
structure qLw (w:World)(β:Nat->Option BI)(F:Nat->Prop)(ins:List Ob)(r:V)(outs:List Ob)(x:Value)(β':Nat->Option BI)(F':Nat->Prop)(w':World):Prop where
 fits:zVp β' F' w' outs
 res:qR β' F' w' r x
 old:∀k,k<ins.length->β' k=β k
 new:∀k bi b,ins.length<=k->β' k=some bi->bi.blk=some b->w.heap.size<=b
 F:∀b,b<w.heap.size->(F' b↔F b)
 Fw:∀b,F' b->b<w'.heap.size
 os:w'.os=w.os
 tape:w'.tape=w.tape
 output:w'.output=w.output
 size:w.heap.size<=w'.heap.size
 frame:∀b,b<w.heap.size->(∀k bi,β k=some bi->bi.blk≠some b)->w'.heap[b]?=w.heap[b]?
def zJz (P:Program)(G:Nat->Option (List T))(f:FuncId)(aS:List V)(ins:List Ob)(r:V)(outs:List Ob):Prop:=
 ∀(w:World)(β:Nat->Option BI)(F:Nat->Prop)(vals:Array Value),zPk G F w->zVp β F w ins->xU (qR β F w) aS vals.toList->
  Calls P f vals w (λe w'=>∃x β' F',e=.returned x/\qLw w β F ins r outs x β' F' w')
variable {cx:Cx}{fm:Nat->Option V}{hm:Nat->Option Ob}{a:Act}
theorem Rel.freeze (R:Rel cx β F fm hm a w){id z:Nat}{es:List V}{full:Bool}(hid:hm id=some (.live z es true full))(h100:100<=id){bi:BI}(hb:β id=some bi) :
  Rel cx β (λb=>F b\/bi.blk=some b) fm (upd hm [(id,.live z es false full)]) a w:=by
 have hF:∀b,F b->F b\/bi.blk=some b:=λ_ h=>.inl h
 have hnew:∀b,bi.blk=some b->cx.w0.heap.size<=b:=by
  intro b hbk;rcases R.old id z es full bi b hid hb hbk with h|h
  .exact h
  .omega
 refine⟨R.tsz,R.dfr,λt v hv=>?_,λj o ho=>?_,λj hn=>?_,λi j bi' bj b oi oj h1 h2 h3 h4 h5 h6 h7 h8=>?_,R.os,R.tape,R.output,R.size,R.ext,λj z' es' full' bi' b h1 h2 h3=>?_,λb hib hFb=>?_,R.inw,λb hb'=>?_,λb hb'=>?_,R.blt,λg cs hg=>(R.gl g cs hg).mono (λ_ _ h=>h) hF (λ_ _=>rfl),R.ext0,R.gs⟩
 .obtain⟨x,h1,h2⟩:=R.fr t v hv;exact⟨x,h1,h2.mono (λ_ _ h=>h) hF (λ_ _=>rfl)⟩
 .by_cases hj:j=id
  .subst hj;rw[zO]at ho;cases ho;obtain⟨bi',h1,h2⟩:=R.hp j _ hid;rw[hb]at h1;cases h1;refine⟨bi,hb,?_⟩;unfold qG9 at h2⊢;obtain⟨g1,g2,g3⟩:=h2;refine⟨g1,g2,?_⟩;cases hbk:bi.blk with
   |none=>simp only[hbk]at g3⊢;exact g3
   |some b=>
    simp only[hbk]at g3⊢;obtain⟨c,e,fz,k1,k2,k3,k4,k5,k6,k7⟩:=g3;exact⟨c,e,fz,k1,k2,k3,k4,k5,k6.mono (λ_ _ h=>h) (by intro b' h;exact .inl h) (λ_ _=>rfl),sM⟩
  .rw[qQ hj]at ho;obtain⟨bi',h1,h2⟩:=R.hp j o ho;refine⟨bi',h1,?_⟩;by_cases hd:o=.dead
   .subst hd;trivial
   refine h2.mono (λ_ _ h=>h) hF (λ_ _=>rfl) (λb hbk _=>⟨rfl,λh=>?_⟩);rcases h with h|h
   .exact h
   .exact absurd (R.inj j id bi' bi b o _ h1 hb hbk h ho hid hd sM) hj
 .by_cases hj:j=id
  .subst hj;rw[zO]at hn;cases hn
  .rw[qQ hj]at hn;exact R.dom j hn
 .have live:∀j o,upd hm [(id,.live z es false full)] j=some o->o≠ .dead->∃o',hm j=some o'/\o'≠ .dead:=by
   intro j o hj hd;by_cases h:j=id
   .subst h;exact⟨_,hid,sM⟩
   .rw[qQ h]at hj;exact⟨o,hj,hd⟩
  obtain⟨oi',a1,a2⟩:=live i oi h5 h7;obtain⟨oj',b1,b2⟩:=live j oj h6 h8;exact R.inj i j bi' bj b oi' oj' h1 h2 h3 h4 a1 b1 a2 b2
 .by_cases hj:j=id
  .subst hj;rw[zO]at h1;cases h1
  .rw[qQ hj]at h1;exact R.old j z' es' full' bi' b h1 h2 h3
 .rcases hFb with h|h
  .exact R.inF b hib h
  ·
   exact absurd (hnew b h) (by have:=R.inw b hib;omega)
 .rcases hb' with h|h
  .exact R.Fw b h
  .exact R.blt id bi b hb h
 .constructor
  .intro h;rcases h with h|h
   .exact(R.F0 b hb').1 h
   .have:=hnew b h;omega
  .intro h;exact .inl ((R.F0 b hb').2 h)
end Go.Eng
end
