/- A part of an abstract machine, its walks, their tie. -/
import Derived.Test.YtekghmfbgbhobaaGreatDoorD41
import Derived.Test.YtekghmfbgbhobaaGreatDoorD22
import Derived.Test.YtekghmfbgbhobaaGreatDoorD42
import Derived.Test.YtekghmfbgbhobaaGreatDoorD28
set_option linter.all false
section
set_option maxHeartbeats 64000000
set_option maxRecDepth 20000
namespace Go.Eng
def At (b:List UInt8)(p:Nat)(r:List UInt8):Prop := ∃ h,h.length=p∧b=h++r
theorem At.next {b q r:List UInt8}{p:Nat}(h:At b p (q++r)):At b (p+q.length) r:=by
 obtain⟨h,rfl,rfl⟩:=h;exact⟨h++q,sM,sM⟩
theorem At.uint {b r:List UInt8}{p k:Nat}{n:Int}(h:At b p (beI k n k++r))(hk:k=8∧(0≤n∧n<9223372036854775808)∨k=2∧(0≤n∧n<65536)∨k=1∧(0≤n∧n<256)):qL (b,p,0) k=(n,(b,p+k,0))∧At b (p+k) r:=by
 have hn:=h.next;obtain⟨t,rfl,hb⟩:=h;have e:((beV (beI k n k):Nat):Int)=n:=by
  rw[zG8];rcases hk with⟨rfl,h⟩ | ⟨rfl,h⟩ | ⟨rfl,h⟩
  ·have:=zEh (n:=n) oM;have e:(256:Nat)^8=18446744073709551616:=by decide
   rw[e];omega
  ·have:=zEh (n:=n) oM;have e:(256:Nat)^2=65536:=by decide
   rw[e];omega
  ·have:=zEh (n:=n) oM;omega
 have:=qWm (b:=b) (p:=t) (q:=beI k n k) (t:=r) (k:=k) (by rw[hb,List.append_assoc]) qA5 oM;rw[e] at this;rw[qA5] at hn;exact⟨this,hn⟩
theorem jG5 {n:Int}:[bY n]=beI 1 n 1:=by simp[beI,bY]
theorem At.byte {b r:List UInt8}{p:Nat}{n:Int}(h:At b p (bY n::r))(hn:0≤n∧n<256):qL (b,p,0) 1=(n,(b,p+1,0))∧At b (p+1) r:=by
 have h':At b p (beI 1 n 1++r):=by rw[←jG5];exact h
 exact h'.uint (.inr (.inr ⟨rfl,hn⟩))
theorem At.small {b r:List UInt8}{p:Nat}{n m:Int}(h:At b p (bY n::r))(hn:0≤n∧n<256)(hm:n≤m):qHk (b,p,0) m=(n,(b,p+1,0))∧At b (p+1) r:=by
 have h1:=h.byte hn;refine⟨?_,h1.2⟩;unfold qHk;rw[h1.1,if_neg (fun g=>by have:=g.2;simp only at this;omega)]
theorem jNs {w:Bool}:bO w=bY (if w then 1 else 0):=by cases w<;>rfl
theorem At.flag {b r:List UInt8}{p:Nat}{w:Bool}(h:At b p (bO w::r)):qHk (b,p,0) 1=((if w then 1 else 0),(b,p+1,0))∧At b (p+1) r:=by
 rw[jNs] at h;exact h.small (by cases w<;>decide) (by cases w<;>decide)
theorem zP1 {w:Bool}:(((if w then 1 else 0:Int))==1)=w:=by cases w<;>rfl
theorem At.blob {b x r:List UInt8}{p:Nat}(h:At b p (beI 2 (x.length:Int) 2++(x++r)))(hx:x.length≤4096):zA (b,p,0) 4096=(x,(b,p+2+x.length,0))∧At b (p+2+x.length) r:=by
 have h2:=h.next;rw[qA5] at h2;have h3:=h2.next;obtain⟨t,rfl,hb⟩:=h;exact⟨zRp (b:=b) (p:=t) (x:=x) (t:=r) (most:=4096) (by rw[hb];simp only[List.append_assoc]) hx oM,h3⟩
def wB (x:List UInt8):List UInt8:=beI 2 (x.length:Int) 2++x
theorem zUq {b x:List UInt8}:blL b x=b++wB x:=by unfold blL wB;rw[List.append_assoc]
theorem At.wbl {b x r:List UInt8}{p:Nat}(h:At b p (wB x++r))(hx:x.length≤4096):zA (b,p,0) 4096=(x,(b,p+2+x.length,0))∧At b (p+2+x.length) r:=by
 unfold wB at h;rw[List.append_assoc] at h;exact h.blob hx
def wX (x:Ix):List UInt8:=bY x.n::bY x.kd::bY x.ar::(beI 2 x.sz 2++(bO x.wr::(wB x.po++(wB x.au++wB x.da))))
theorem jOl {b:List UInt8}{x:Ix}:ixE b x=b++wX x:=by
 unfold ixE wX;simp only[zUq,List.append_assoc,List.cons_append,List.nil_append]
def wL (k:Lv):List UInt8:=wB k.un++[bY k.us]
theorem jO1 {b:List UInt8}{k:Lv}:lvE b k=b++wL k:=by unfold lvE wL;rw[zUq,List.append_assoc]
theorem zD2 {α:Type}{f:List UInt8→α→List UInt8}{w:α→List UInt8}(h : ∀ b x,f b x=b++w x) : ∀ {l:List α} {b:List UInt8},l.foldl f b=b++l.flatMap w
 | [],b=>sM
 | x::r,b=>by
  rw[List.foldl_cons,zD2 h (l:=r),h,List.flatMap_cons,List.append_assoc]
def wN (l:List Int):List UInt8:=l.flatMap fun n=>beI 8 n 8
theorem jO9 {b:List UInt8}{l:List Int}:nuE b l=b++wN l:=zD2 (f:=fun b n=>b++beI 8 n 8) (fun _ _=>rfl)
theorem jHt (s:Sa):zDh s=1::(bY s.act::(s.sd.flatMap wB++(s.au.flatMap wB++(wB s.en++(beI 8 s.res 8++(beI 8 s.rst 8++(beI 8 s.clk 8++(bO s.ord::(wB (qBk s.bk s.u)++(beI 8 s.mc 8++(bY s.ix.length::(s.ix.flatMap wX++(beI 8 s.lk.fa 8++(beI 8 s.lk.mx 8++(beI 8 s.lk.rc 8++(beI 8 s.lk.si 8++(beI 8 s.lk.cl 8++(beI 8 s.lk.pe 8++(bY s.ks.length::s.ks.flatMap wL))))))))))))))))))):=by
 unfold zDh eA9 eA8 eA7 eA6 eA5 eA4 eA3 eA0;simp only[zD2 (f:=lvE) (fun b k=>jO1),zD2 (f:=ixE) (fun b k=>jOl),zD2 (f:=blL) (fun b k=>zUq),zUq,jO9,wN,List.flatMap_cons,List.flatMap_nil,List.append_nil,List.append_assoc,List.cons_append,List.nil_append]
theorem At.many {α:Type}{w:α→List UInt8}{f:Rd→α×Rd}{F:Rd→Nat→List α×Rd}(h0 : ∀ s,F s 0=([],s))(hF : ∀ s n,F s (n+1)=((F s n).1++[(f (F s n).2).1],(f (F s n).2).2)){b:List UInt8}{l:List α}(hf : ∀ x∈l,∀ p r,At b p (w x++r) → ∃ q,f (b,p,0)=(x,(b,q,0))∧At b q r){p:Nat}{r:List UInt8}(h:At b p (l.flatMap w++r)) : ∃ q,F (b,p,0) l.length=(l,(b,q,0))∧At b q r:=by
 have key : ∀ k,k≤l.length → ∃ q,F (b,p,0) k=(l.take k,(b,q,0))∧At b q ((l.drop k).flatMap w++r):=by
  intro k
  induction k with
  | zero=>intro _;exact⟨p,h0 _,by simpa using h⟩
  | succ k ih=>
   intro hk;obtain⟨q,h1,h2⟩:=ih oM;have hd:l.drop k=l[k]::l.drop (k+1):=List.drop_eq_getElem_cons oM;rw[hd,List.flatMap_cons,List.append_assoc] at h2;obtain⟨q2,h3,h4⟩:=hf _ (List.getElem_mem oM) _ _ h2;refine⟨q2,?_,h4⟩;rw[hF,h1];simp only[h3];rw[List.take_succ_eq_append_getElem oM]
 obtain⟨q,h1,h2⟩:=key l.length (Nat.le_refl _);rw[List.take_length] at h1;rw[List.drop_length] at h2;exact⟨q,h1,by simpa using h2⟩
theorem At.blobs {b:List UInt8}{l:List (List UInt8)}{p n:Nat}{r:List UInt8}(hn:l.length=n)(h:At b p (l.flatMap wB++r))(hx : ∀ x∈l,x.length≤4096) : ∃ q,qMf (b,p,0) n=(l,(b,q,0))∧At b q r:=by
 subst hn;exact At.many (f:=fun s=>zA s 4096) (F:=qMf) (fun _=>rfl) (fun _ _=>rfl) (fun x hm p r g=>⟨_,(g.wbl (hx x hm)).1,(g.wbl (hx x hm)).2⟩) h
theorem At.ix {b:List UInt8}{x:Ix}(ho:x.Ok){p:Nat}{r:List UInt8}(h:At b p (wX x++r)) : ∃ q,qT0 (b,p,0)=(x,(b,q,0))∧At b q r:=by
 have hl:=ho.le;unfold Ix.Ok at ho;unfold wX at h;simp only[List.cons_append,List.append_assoc] at h;obtain⟨a1,h1⟩:=h.byte oM;obtain⟨a2,h2⟩:=h1.byte oM;obtain⟨a3,h3⟩:=h2.byte oM;obtain⟨a4,h4⟩:=h3.uint (.inr (.inl ⟨rfl,oM⟩));obtain⟨a5,h5⟩:=h4.flag;obtain⟨a6,h6⟩:=h5.wbl oM;obtain⟨a7,h7⟩:=h6.wbl oM;obtain⟨a8,h8⟩:=h7.wbl oM;refine⟨_,?_,h8⟩;simp only[qT0,a1,a2,a3,a4,a5,a6,a7,a8,zP1]
theorem At.lv {b:List UInt8}{k:Lv}(ho:k.Ok){p:Nat}{r:List UInt8}(h:At b p (wL k++r)) : ∃ q,zWk (b,p,0)=(k,(b,q,0))∧At b q r:=by
 unfold Lv.Ok at ho;unfold wL at h;simp only[List.cons_append,List.append_assoc,List.nil_append] at h;obtain⟨a1,h1⟩:=h.wbl oM;obtain⟨a2,h2⟩:=h1.byte oM;refine⟨_,?_,h2⟩;simp only[zWk,a1,a2]
theorem ShA.shp {act:Int}{bk:List zB}(ha:1≤act∧act≤3)(h:ShA act bk):Shp act bk:=by
 obtain⟨b0,b1,rfl,h0,h1,z0,z1⟩:=h;have hn:kF act=[if act%2=1 then qCf 0 else [],if act/2%2=1 then qCf 1 else []]:=qD9 oM;have k0:List.length b0=List.length (if act%2=1 then qCf 0 else []):=by
  rw[h0];split
  ·exact qK.symm
  ·rfl
 have k1:List.length b1=List.length (if act/2%2=1 then qCf 1 else []):=by
  rw[h1];split
  ·exact qK.symm
  ·rfl
 refine⟨by rw[hn];rfl,?_,?_⟩
 ·funext a;rw[hn]
  match a with
  | 0=>exact k0
  | 1=>exact k1
  | n+2=>rfl
 ·intro a ha' x hx;rcases (by omega:a=0∨a=1) with rfl | rfl
  ·exact z0 x hx
  ·exact z1 x hx
theorem BkS.shp {act:Int}{bk:List zB}(h:BkS act bk) : ∃ s,Shp s bk:=by
 rcases h with rfl | ⟨ha,h⟩
 ·exact⟨0,rfl,rfl,RZ.nil⟩
 ·exact⟨act,h.shp ha⟩
theorem jB0 {act u:Int}{bk:List zB}(h:BkS act bk)(hu:0≤u∧u<9223372036854775808):dcT (qBk bk u)=(bk,u,0):=by
 obtain⟨s,hs⟩:=h.shp;have e:=(zAx (qBk bk u)).1.symm.trans (jBz h.rv hs hu);unfold jN at e;injection e with e;injection e with e1 e2;injection e1 with e1;injection e1 with e1;injection e1 with e1 e3;injection e1 with e1;injection e3 with e3;injection e3 with _ e3;injection e2 with e2;injection e2 with e2;injection e2 with _ e2;generalize dcT (qBk bk u)=z at *;obtain⟨x,y,w⟩:=z;simp only at e1 e2 e3;rw[qB9 (fun _ _=>qVl) e1,e2,e3]
theorem zUy {s:Sa}(h:s.Ok)(hr:s.res<9223372036854775808∧s.rst<9223372036854775808∧s.u<9223372036854775808):zMe (zDh s)=(s,0):=by
 obtain⟨b,hb⟩ : ∃ b,zDh s=b:=⟨_,rfl⟩;have h0:At b 0 b:=⟨[],rfl,rfl⟩;have hw:=jHt s;rw[hb] at hw ⊢;have lk:=h.lk;unfold Lk.Ok at lk;have x1:=h.act;have x2:=h.res;have x3:=h.rst;have x4:=h.clk;have x5:=h.u;have x6:=h.mc;have x7:=h.en;have le:=zA0 (u:=s.u) h.bk.rv;have g0:At b 0 (bY 1::(bY s.act::(s.sd.flatMap wB++(s.au.flatMap wB++(wB s.en++(beI 8 s.res 8++(beI 8 s.rst 8++(beI 8 s.clk 8++(bO s.ord::(wB (qBk s.bk s.u)++(beI 8 s.mc 8++(bY s.ix.length::(s.ix.flatMap wX++(beI 8 s.lk.fa 8++(beI 8 s.lk.mx 8++(beI 8 s.lk.rc 8++(beI 8 s.lk.si 8++(beI 8 s.lk.cl 8++(beI 8 s.lk.pe 8++(bY s.ks.length::(s.ks.flatMap wL++[]))))))))))))))))))))):=by
  rw[List.append_nil];rw[show bY 1=1 from rfl,←hw];exact h0
 obtain⟨a0,g1⟩:=g0.byte oM;obtain⟨a1,g2⟩:=g1.small (m:=3) oM oM;obtain⟨p2,a2,g3⟩:=g2.blobs h.sd.1 (fun x hx=>by have:=h.sd.2 x hx;omega);obtain⟨p3,a3,g4⟩:=g3.blobs h.au.1 (fun x hx=>by have:=h.au.2 x hx;omega);obtain⟨a4,g5⟩:=g4.wbl oM;obtain⟨a5,g6⟩:=g5.uint (.inl ⟨rfl,oM⟩);obtain⟨a6,g7⟩:=g6.uint (.inl ⟨rfl,oM⟩);obtain⟨a7,g8⟩:=g7.uint (.inl ⟨rfl,oM⟩);obtain⟨a8,g9⟩:=g8.flag;obtain⟨a9',g10⟩:=g9.wbl oM;generalize hp9:p3+2+s.en.length+8+8+8+1=p9 at *;have a9:qWl (b,p9,0)=((s.bk,s.u),(b,p9+2+(qBk s.bk s.u).length,0)):=by
  unfold qWl;rw[a9',if_neg sM,jB0 h.bk ⟨x5,hr.2.2⟩]
 obtain⟨a10,g11⟩:=g10.uint (.inl ⟨rfl,oM⟩);obtain⟨a11,g12⟩:=g11.small (m:=6) (by have:=h.ix.1;omega) (by have:=h.ix.1;omega);obtain⟨p12,a12,g13⟩:=At.many (f:=qT0) (F:=qUw) (fun _=>rfl) (fun _ _=>rfl) (fun x hx p r g=>At.ix (h.ix.2 x hx) g) g12;obtain⟨a13,g14⟩:=g13.uint (.inl ⟨rfl,oM⟩);obtain⟨a14,g15⟩:=g14.uint (.inl ⟨rfl,oM⟩);obtain⟨a15,g16⟩:=g15.uint (.inl ⟨rfl,oM⟩);obtain⟨a16,g17⟩:=g16.uint (.inl ⟨rfl,oM⟩);obtain⟨a17,g18⟩:=g17.uint (.inl ⟨rfl,oM⟩);obtain⟨a18,g19⟩:=g18.uint (.inl ⟨rfl,oM⟩);obtain⟨a19,g20⟩:=g19.small (m:=8) (by have:=h.ks.1;omega) (by have:=h.ks.1;omega);obtain⟨p20,a20,g21⟩:=At.many (f:=zWk) (F:=qTm) (fun _=>rfl) (fun _ _=>rfl) (fun x hx p r g=>At.lv (h.ks.2 x hx) g) g20;have hend:vS (b,p20,0)=0:=by
  obtain⟨t,ht,hb'⟩:=g21;rw[List.append_nil] at hb';subst hb';unfold vS;rw[if_neg (fun g=>by have:=g.2;simp only at this;omega)]
 have hsa:zBf (b,1,0)=(s,(b,p20,0)):=by
  simp only[zBf,Nat.zero_add,a1,a2,a3,a4,a5,a6,a7,a8,a9,a10,a11,Int.toNat_natCast,a12,a13,a14,a15,a16,a17,a18,a19,a20,zP1,hp9]
 unfold zMe;rw[a0];simp only[Nat.zero_add];rw[hsa];simp only[hend];simp
end Go.Eng
end
