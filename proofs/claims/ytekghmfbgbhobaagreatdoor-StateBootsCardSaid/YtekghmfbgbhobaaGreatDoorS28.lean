/- A part of an abstract machine, its walks, their tie. -/
import Derived.Test.YtekghmfbgbhobaaGreatDoorS27
import Derived.Test.YtekghmfbgbhobaaGreatDoorS22
import Derived.Test.YtekghmfbgbhobaaGreatDoorS12
import Derived.Test.YtekghmfbgbhobaaGreatDoorS24
set_option linter.all false
section
set_option maxHeartbeats 64000000
set_option maxRecDepth 20000
namespace Go.Eng
variable (tab:Tab) (gl:Gl)
def blL (b x:List UInt8):List UInt8:=b++beI 2 (x.length:Int) 2++x
theorem zKm {b x:List UInt8}:(blL b x).length=b.length+2+x.length:=by unfold blL;rw[List.length_append,List.length_append,qIv]
def qG3:Ct where
 α:=List UInt8×List UInt8
 aS x:=[.t (.sl (x.1.map qA)),.t (.sl (x.2.map qA))]
 ins _:=[]
 pre x:=x.1.length<100000000∧x.2.length≤65535
 r x:= .sl 0 0 (x.1.length+2+x.2.length)
 outs x:=[.live 1 (((blL x.1 x.2).map qA).map V.t) true false]
 inj:=by
  rintro⟨a,b⟩ ⟨c,d⟩ h _;simp only[List.cons.injEq,V.t.injEq,T.sl.injEq,and_true,yC] at h;obtain⟨rfl,rfl⟩:=h;exact⟨rfl,rfl⟩
theorem zWn {b x:List UInt8}(h:b.length<100000000∧x.length≤65535):qG3.fs [.t (.sl (b.map qA)),.t (.sl (x.map qA))] []=some (.sl 0 0 (b.length+2+x.length),[.live 1 (((blL b x).map qA).map V.t) true false]):=qG3.eq (b,x) h
theorem zF5 (h1:LkC tab 42 vN)(b x:List UInt8)(hb:b.length<100000000)(hx:x.length≤65535) :
  qIo.1.wp tab gl (qD 0 [.t (.sl (b.map qA)),.t (.sl (x.map qA))]) (qD 0 []) (xU [] [(4,none)] 0 (fun r o=>r = .sl 0 0 (b.length+2+x.length)∧o=[.live 1 (((blL b x).map qA).map V.t) true false])):=by
 have hu:=jAe (b:=b) (n:=(x.length:Int)) oM;have hl:(b++beI 2 (x.length:Int) 2).length=b.length+2:=by rw[List.length_append,qIv]
 have hbl:blL b x=b++beI 2 (x.length:Int) 2++x:=rfl;have hno : ¬ 65535<(x.length:Int):=oM;rw[hbl];generalize b++beI 2 (x.length:Int) 2=B at *;simp(disch:=omega)only[go_sem,qIo,h1,hu,hl,hno,List.take_length]
def jHs (r k:Int)(n m:Nat):Prop:=r<0∨11<r∨k<1∨5<k∨n≠2∨64<m
instance {r k:Int}{n m:Nat}:Decidable (jHs r k n m):=by unfold jHs;infer_instance
theorem zTa {a:Nat}{k':IntKind}(h:a<1000000):qXp .shl .i64 (a:Int) k' 8=some (.int .i64 ((256*a:Nat):Int)):=by
 change (if (8:Int)<0 then none else some (T.int .i64 (IntKind.i64.wrap ((a:Int)*2^min (8:Int).toNat 64))))=_;rw[if_neg oM,show (a:Int)*2^min (8:Int).toNat 64=((256*a:Nat):Int) by
  rw[show min (8:Int).toNat 64=8 from rfl];omega,xX oM]
theorem zYh {a:Nat}{x:UInt8}(h:a<1000000):qXp .or .i64 ((256*a:Nat):Int) .i64 (x.toNat:Int)=some (.int .i64 ((256*a+x.toNat:Nat):Int)):=by
 have hx:=x.toNat_lt;change some (T.int .i64 (IntKind.i64.wrap ((BitVec.ofInt 64 ((256*a:Nat):Int) ||| BitVec.ofInt 64 (x.toNat:Int)).toNat:Int)))=_;have e:(BitVec.ofInt 64 ((256*a:Nat):Int) ||| BitVec.ofInt 64 (x.toNat:Int)).toNat=256*a+x.toNat:=by
  rw[BitVec.toNat_or,BitVec.toNat_ofInt,BitVec.toNat_ofInt,Int.emod_eq_of_lt oM oM,Int.emod_eq_of_lt oM oM,Int.toNat_natCast,Int.toNat_natCast,or8 oM]
 rw[e,xX oM]
attribute [go_sem ↓] zTa zYh
def qB9 (s:Rd)(most:Nat):List UInt8×Rd:=
 if s.2.2≠0 then ([],s) else if s.1.length<s.2.1+2 then ([],(s.1,s.2.1,2))
 else if most<beV ((s.1.drop s.2.1).take 2) then ([],(s.1,s.2.1,4))
 else if s.1.length<s.2.1+2+beV ((s.1.drop s.2.1).take 2) then ([],(s.1,s.2.1,2))
 else ((s.1.drop (s.2.1+2)).take (beV ((s.1.drop s.2.1).take 2)),(s.1,s.2.1+2+beV ((s.1.drop s.2.1).take 2),0))
def qG4:Ct where
 α:=Rd×Nat
 aS x:=[.ref 0 0 0,.t (.int .i64 x.2)]
 ins x:=[qOz x.1]
 pre x:=qN2 x.1∧x.2≤65535
 r x:= .t (.sl ((qB9 x.1 x.2).1.map qA))
 outs x:=[qOz (qB9 x.1 x.2).2]
 inj:=by
  rintro⟨s,a⟩ ⟨t,c⟩ h1 h2;simp only[List.cons.injEq,V.t.injEq,T.int.injEq,true_and,and_true,Int.natCast_inj] at h1;simp only[List.cons.injEq,and_true] at h2;subst h1;cases qKk h2;exact⟨rfl,rfl⟩
theorem zRx {s:Rd}{k:Nat}(h:qN2 s∧k≤65535):qG4.fs [.ref 0 0 0,.t (.int .i64 k)] [rdO s]=some (.t (.sl ((qB9 s k).1.map qA)),[rdO (qB9 s k).2]):=qG4.eq (s,k) h
theorem jK1 {b:List UInt8}{a:Nat}(h:a+2≤b.length):List.take 2 (List.drop a b)=[b.getD a 0,b.getD (a+1) 0]:=by
 have e:List.drop a b=b[a]'(oM)::b[a+1]'(oM)::List.drop (a+2) b:=by
  rw[List.drop_eq_getElem_cons oM,List.drop_eq_getElem_cons oM]
 have g0:b.getD a 0=b[a]'(oM):=by simp[List.getD,show a<b.length by omega]
 have g1:b.getD (a+1) 0=b[a+1]'(oM):=by simp[List.getD,show a+1<b.length by omega]
 rw[e,g0,g1];rfl
theorem jPy {x y:UInt8}:beV [x,y]=256*x.toNat+y.toNat:=by simp[beV]
theorem zM4 {s:Rd}{k:Nat}:(qB9 s k).1.length≤k:=by
 unfold qB9;split
 ·simp
 ·split
  ·simp
  ·split
   ·simp
   ·split
    ·simp
    ·simp only[List.length_take];omega
theorem zM5 {s:Rd}{k:Nat}(h:qN2 s):qN2 (qB9 s k).2:=by
 unfold qB9;unfold qN2 at *;split
 ·exact h
 ·split
  ·exact h
  ·split
   ·exact h
   ·split
    ·exact h
    ·exact⟨by simp only;omega,h.2⟩
theorem qPr (h1:LkC tab 89 kB)(s:Rd)(hs:qN2 s)(k:Nat)(hk:k≤65535) :
  jP.1.wp tab gl (qD 0 [.ref 0 0 0,.t (.int .i64 k)]) (qD 0 [qOz s]) (qY [(4,none)] 1 (fun r o=>r = .t (.sl ((qB9 s k).1.map qA))∧o=[qOz (qB9 s k).2])):=by
 obtain⟨b,a,e⟩:=s;have ha:a≤b.length∧b.length<1000000000:=hs;by_cases he:e=0
 ·subst he;by_cases hl:b.length<a+2
  ·have hr:qB9 (b,a,0) k=([],(b,a,2)):=by unfold qB9;simp[hl]
   rw[hr];have ht:=qX2 (b:=b) (a:=a) (k:=2) ⟨ha.1,ha.2,oM,oM⟩;have k2:((2:Nat):Int)=2:=rfl;rw[k2] at ht;simp(disch:=omega)only[go_sem,jP,vA,h1,ht,List.map_nil]
  ·have t2:=jK1 (b:=b) (a:=a) oM;have ht:=qX3 (b:=b) (a:=a) (k:=2) ⟨ha.1,ha.2,oM⟩;have k2:((2:Nat):Int)=2:=rfl;rw[k2] at ht;have hb:=jPy (x:=b.getD a 0) (y:=b.getD (a+1) 0);have hx:=(b.getD a 0).toNat_lt;have hy:=(b.getD (a+1) 0).toNat_lt;have hr:qB9 (b,a,0) k=if k<256*(b.getD a 0).toNat+(b.getD (a+1) 0).toNat then ([],(b,a,4)) else if b.length<a+2+(256*(b.getD a 0).toNat+(b.getD (a+1) 0).toNat) then ([],(b,a,2)) else ((b.drop (a+2)).take (256*(b.getD a 0).toNat+(b.getD (a+1) 0).toNat),(b,a+2+(256*(b.getD a 0).toNat+(b.getD (a+1) 0).toNat),0)):=by
    unfold qB9;simp only[t2,hb];rw[if_neg sM,if_neg hl]
   rw[hr];have hn:((b.getD a 0).toNat<256)∧(b.getD (a+1) 0).toNat<256:=⟨hx,hy⟩;generalize hN:256*(b.getD a 0).toNat+(b.getD (a+1) 0).toNat=N at *;have hN2:N≤65535:=oM;by_cases c1:k<N
   ·rw[if_pos c1];simp(disch:=omega)only[go_sem,jP,vA,h1,ht,hN,c1,List.map_nil];rfl
   ·rw[if_neg c1];by_cases c2:b.length<a+2+N
    ·rw[if_pos c2];have ht2:=qX2 (b:=b) (a:=a) (k:=2+N) ⟨ha.1,ha.2,oM,oM⟩;simp(disch:=omega)only[go_sem,jP,vA,h1,ht,hN,ht2,c1,List.map_nil];rfl
    ·rw[if_neg c2];have ht2:=qX3 (b:=b) (a:=a) (k:=2+N) ⟨ha.1,ha.2,oM⟩;have hc:(List.take N (List.drop (a+2) b)).length=N:=by simp only[List.length_take,List.length_drop];omega
     have tt:List.take N (List.take N (List.drop (a+2) b))=List.take N (List.drop (a+2) b):=List.take_of_length_le oM;have e1:a+(2+N)-N=a+2:=oM;have e2:a+(2+N)-(a+2)=N:=oM;have e3:a+2+N=a+(2+N):=oM;rw[e3];simp(disch:=omega)only[go_sem,jP,vA,h1,ht,hN,ht2,c1,e1,e2,hc,tt];exact⟨rfl,rfl⟩
 ·have hr:qB9 (b,a,e) k=([],(b,a,e)):=by unfold qB9;rw[if_pos he]
  rw[hr];simp(disch:=omega)only[go_sem,jP,vA,ne_eq,he,List.map_nil]
def vB:Ct where
 α:=List UInt8×Nat
 aS x:=[.t (.sl (x.1.map qA)),.t (.int .i64 x.2)]
 ins _:=[]
 pre x:=x.1.length≤9223372036854775807∧x.2≤1000000
 r x:= .t (.sl ((x.1.take x.2).map qA))
 outs _:=[]
 inj:=by
  rintro⟨a,b⟩ ⟨c,d⟩ h _;simp only[List.cons.injEq,V.t.injEq,T.sl.injEq,T.int.injEq,true_and,and_true,yC,Int.natCast_inj] at h;obtain⟨rfl,rfl⟩:=h;exact⟨rfl,rfl⟩
theorem qA2 {b:List UInt8}{n:Nat}(h:b.length≤9223372036854775807∧n≤1000000):vB.fs [.t (.sl (b.map qA)),.t (.int .i64 n)] []=some (.t (.sl ((b.take n).map qA)),[]):=vB.eq (b,n) h
theorem zJt (b:List UInt8)(n:Nat)(h1:b.length≤9223372036854775807)(h2:n≤1000000) :
  qF4.1.wp tab gl (qD 0 [.t (.sl (b.map qA)),.t (.int .i64 n)]) (qD 0 []) (qY [(4,none)] 0 (fun r o=>r = .t (.sl ((b.take n).map qA))∧o=[])):=by
 by_cases h:n<b.length
 ·simp(disch:=omega)only[go_sem,qF4,h]
 ·have e:b.take n=b:=List.take_of_length_le oM;simp(disch:=omega)only[go_sem,qF4,h,e]
theorem zKh {a b:UInt8}:qCv .and (qA a) (qA b)=some (qA (a &&& b)):=by
 change some (T.int .u8 (IntKind.u8.wrap ((BitVec.ofInt 8 (a.toNat:Int) &&& BitVec.ofInt 8 (b.toNat:Int)).toNat:Int)))=_;have e : ∀ x:UInt8,BitVec.ofInt 8 (x.toNat:Int)=x.toBitVec:=fun x=>BitVec.eq_of_toNat_eq sM
 rw[e,e,←UInt8.toBitVec_and,qKa];have:=(a &&& b).toNat_lt;unfold qA;rw[UInt8.toNat_toBitVec];congr 2;omega
theorem zAf {a b:UInt8}(h:b.toNat≠0):qCv .rem (qA a) (qA b)=some (qA (a%b)):=by
 have h2:(b.toNat:Int)≠0:=oM;change (if IntKind.u8=IntKind.u8∧(b.toNat:Int)≠0 then some (T.int .u8 ((a.toNat:Int).tmod (b.toNat:Int))) else none)=_;rw[if_pos ⟨rfl,h2⟩];have e:(a.toNat:Int).tmod (b.toNat:Int)=((a%b).toNat:Int):=by rw[UInt8.toNat_mod];rfl
 rw[e];rfl
def qKy:Ct where
 α:=Int×Int
 aS x:=[.t (.int .i64 x.1),.t (.int .i64 x.2)]
 ins _:=[]
 pre x:=(-9223372036854775808≤x.1∧x.1<9223372036854775808)∧(-9223372036854775808≤x.2∧x.2<9223372036854775808)
 r x:= .t (.int .i64 (qF1 x.1 x.2))
 outs _:=[]
 inj:=by
  rintro⟨a,b⟩ ⟨c,d⟩ h _;simp only[List.cons.injEq,V.t.injEq,T.int.injEq,true_and,and_true] at h;obtain⟨rfl,rfl⟩:=h;exact⟨rfl,rfl⟩
theorem qDz {a b:Int}(h:(-9223372036854775808≤a∧a<9223372036854775808)∧(-9223372036854775808≤b∧b<9223372036854775808)):qKy.fs [.t (.int .i64 a),.t (.int .i64 b)] []=some (.t (.int .i64 (qF1 a b)),[]):=qKy.eq (a,b) h
theorem qAy {a m:Int}(h:1≤m):0≤qF1 a m∧qF1 a m<m:=by
 unfold qF1;rw[if_neg oM];exact⟨Int.emod_nonneg _ oM,Int.emod_lt_of_pos _ oM⟩
def rI (n:Int):Prop := -9223372036854775808≤n∧n<9223372036854775808
def evX (e:Ev):Prop:=e.2.2.1.length≤9223372036854775807∧(∀ x∈e.2.2.1,x.length≤9223372036854775807)∧e.2.2.2.length≤9223372036854775807
abbrev Im:=Int×List UInt8×Int×List UInt8
def imM (x:Im):Prop:=x.2.1.length≤9223372036854775807∧x.2.2.2.length<1000000000∧rI x.1∧rI x.2.2.1
def imX (x:Im):Prop:=rI x.1∧rI x.2.2.1∧x.2.1.length≤9223372036854775807∧x.2.2.2.length≤9223372036854775807
theorem imM.x {x:Im}(h:imM x):imX x:=⟨h.2.2.1,h.2.2.2,h.1,by have:=h.2.1;omega⟩
def okN (c:UInt8):Bool:=(!decide (c.toNat<97) && !decide (c.toNat>122))||((!decide (c.toNat<48) && !decide (c.toNat>57))||decide (c=45))
def jJq (s:List UInt8):Bool:=(!decide (s.length<1) && !decide (12<s.length))&&s.all okN
def lnS (out:List (List UInt8))(line:List UInt8):List UInt8→List (List UInt8)
 | []=>if 0<line.length then [] else out
 | c::r=>if c=10 then (if line.length=0∨4≤out.length then [] else lnS (out++[line]) [] r) else if okC c=true then lnS out (line++[c]) r else []
def lnL (p:List UInt8):List (List UInt8):=lnS [] [] p
def jIf (r v:Int):Prop:=r<1∨4<r∨v<0∨1000000<v
instance {r v:Int}:Decidable (jIf r v):=by unfold jIf;infer_instance
def jIl (x:Im):Int:=if jIf x.1 x.2.2.1 then 1 else if jJq x.2.1=false then 43 else if 64<x.2.2.2.length then 4 else if x.1=4∧(lnL x.2.2.2).length=0 then 40 else 0
def chF (pre:List Im):List Im→Int
 | []=>if pre.any (fun y=>decide (y.1=1))&&pre.any (fun y=>decide (y.1=3)) then 0 else 40
 | x::r=>if jIl x≠0 then jIl x else if pre≠[]∧x.1<(pre.getLastD (0,[],0,[])).1 then 41 else if pre.any (fun y=>decide (y.1=x.1)&&decide (y.2.1=x.2.1)) then 42 else chF (pre++[x]) r
def chP (l:List Im):Prop := ∀ r,chF [] (l++r)=chF l r
structure ChO (r:Int) (l:List Im):Prop where
 p:chP l
 ok : ∀ x∈l,jIl x=0
 le : ∀ x∈l,x.1≤r
theorem ChO.up {r q:Int}{l:List Im}(h:ChO r l)(hq:r≤q):ChO q l:=⟨h.p,h.ok,fun x hx=>by have:=h.le x hx;omega⟩
theorem evM.x {e:Ev}(h:evM e):evX e:=⟨by have:=h.1.1;omega,fun x hx=>by have:=h.1.2 x hx;omega,by have:=h.2;omega⟩
abbrev Rg:=List zE×Int
def rpS (x:Rg)(e:Ev):Rg:=if e.2.1=5 then x else zW6 x 0 e.1 e.2.2.1
def rp0 (act:Int):Rg:=(qCr act,0)
def ShA (act:Int)(bk:List zE):Prop := ∃ b0 b1:zE,bk=[b0,b1]∧List.length b0=(if act%2=1 then 16 else 0)∧List.length b1=(if act/2%2=1 then 16 else 0)∧(∀ x∈b0,x.length=20) ∧ ∀ x∈b1,x.length=32
theorem ShA.new {act:Int}(ha:1≤act∧act≤3):ShA act (qCr act):=by
 have h:qCr act=[if act%2=1 then qFe 0 else [],if act/2%2=1 then qFe 1 else []]:=qHm oM;refine⟨_,_,h,?_,?_,fun x hx=>?_,fun x hx=>?_⟩
 ·split
  ·exact qK
  ·rfl
 ·split
  ·exact qK
  ·rfl
 ·split at hx
  ·exact zG7 (a:=0) x hx
  ·simp at hx
 ·split at hx
  ·exact zG7 (a:=1) x hx
  ·simp at hx
theorem ShA.rv {act:Int}{bk:List zE}(h:ShA act bk):RV bk:=by
 obtain⟨b0,b1,rfl,h0,h1,z0,z1⟩:=h;refine⟨.two _ _ ?_ ?_,fun b hb x hx=>?_⟩
 ·split at h0
  ·exact .inr h0
  ·exact .inl h0
 ·split at h1
  ·exact .inr h1
  ·exact .inl h1
 ·simp only[List.mem_cons,List.not_mem_nil,or_false] at hb;rcases hb with rfl | rfl
  ·have:=z0 x hx;omega
  ·have:=z1 x hx;omega
theorem ShA.ext {act:Int}{bk:List zE}(h:ShA act bk)(i:Nat)(ds:List (List UInt8)):ShA act (qP3 bk i ds):=by
 obtain⟨b0,b1,rfl,h0,h1,z0,z1⟩:=h;rw[zAn];refine⟨_,_,rfl,qZ.trans h0,qZ.trans h1,?_,?_⟩
 ·unfold qBy;split
  ·exact qYl z0 (qHs (a:=0))
  ·exact z0
 ·unfold qBy;split
  ·exact qYl z1 (qHs (a:=1))
  ·exact z1
def RQ (act:Int)(n:Nat)(x:Rg):Prop:=ShA act x.1∧0≤x.2∧x.2≤n
theorem RQ.zero {act:Int}(ha:1≤act∧act≤3):RQ act 0 (rp0 act):=⟨ShA.new ha,by simp[rp0],by simp[rp0]⟩
theorem RQ.up {act:Int}{n m:Nat}{x:Rg}(h:RQ act n x)(hm:n≤m):RQ act m x:=⟨h.1,h.2.1,by have:=h.2.2;omega⟩
theorem RQ.ext {act:Int}{n:Nat}{x:Rg}(h:RQ act n x)(l i:Int)(ds:List (List UInt8)):RQ act (n+1) (zW6 x l i ds):=by
 unfold zW6;split
 ·exact⟨h.1.ext _ _,by have:=h.2.1;simp only;omega,by have:=h.2.2;simp only;omega⟩
 ·exact h.up oM
theorem RQ.step {act:Int}{n:Nat}{x:Rg}{e:Ev}(h:RQ act n x):RQ act (n+1) (rpS x e):=by
 unfold rpS;split
 ·exact h.up oM
 ·exact h.ext _ _ _
structure Pu where
 kd:Int
 ar:Int
 ht:Int
 po:List UInt8
 un:List UInt8
 deriving Inhabited
structure Sn where
 au:List UInt8
 sd:List UInt8
 da:List UInt8
 deriving Inhabited
structure Obj where
 p:Pu
 s:Sn
 h:Int
 deriving Inhabited
structure Ses where
 kd:Int
 no:List UInt8
 dg:List UInt8
 up:Int
 lo:Int
 cm:Int
 dl:Int
 av:Bool
 deriving Inhabited
structure Ix where
 n:Int
 kd:Int
 ar:Int
 sz:Int
 po:List UInt8
 au:List UInt8
 wr:Bool
 da:List UInt8
 deriving Inhabited
structure Lv where
 un:List UInt8
 us:Int
 deriving Inhabited
structure Lk where
 fa:Int
 mx:Int
 rc:Int
 si:Int
 cl:Int
 pe:Int
 deriving Inhabited
structure Sa where
 sd:List (List UInt8)
 au:List (List UInt8)
 en:List UInt8
 act:Int
 res:Int
 rst:Int
 clk:Int
 ord:Bool
 bk:List zE
 u:Int
 mc:Int
 ix:List Ix
 lk:Lk
 ks:List Lv
 deriving Inhabited
structure St where
 a:Sa
 on:Bool
 off:Bool
 bk:List zE
 u:Int
 clk:Int
 safe:Bool
 dr:Int
 ses:List Ses
 obs:List Obj
 rl:List Int
 wl:List Int
 deriving Inhabited
structure Az where
 s:Int
 no:List UInt8
 va:List UInt8
 deriving Inhabited
structure Rq where
 co:Int
 hs:List Int
 au:List Az
 ns:List Int
 bl:List (List UInt8)
 deriving Inhabited
structure Rs where
 e:Int
 ns:List Int
 bl:List (List UInt8)
 no:List (List UInt8)
 deriving Inhabited
structure Asr where
 kd:Int
 s0:Int
 s1:Int
 dg:List UInt8
 n:Int
 op:Int
 od:List UInt8
 nm:List UInt8
 rf:List UInt8
 br:List (List UInt8)
 deriving Inhabited
def iT (n:Int):T:= .int .i64 n
def puA (x:Pu):T:= .agg [.int .i64 x.kd,.int .i64 x.ar,.int .i64 x.ht,.sl (x.po.map qA),.sl (x.un.map qA)]
def snA (x:Sn):T:= .agg [.sl (x.au.map qA),.sl (x.sd.map qA),.sl (x.da.map qA)]
def vF (x:Obj):T:= .agg [.int .i64 x.p.kd,.int .i64 x.p.ar,.int .i64 x.p.ht,.sl (x.p.po.map qA),.sl (x.p.un.map qA),.sl (x.s.au.map qA),.sl (x.s.sd.map qA),.sl (x.s.da.map qA),.int .i64 x.h]
def zZ (x:Ses):T:= .agg [.int .i64 x.kd,.sl (x.no.map qA),.sl (x.dg.map qA),.int .i64 x.up,.int .i64 x.lo,.int .i64 x.cm,.int .i64 x.dl,.bool x.av]
def ixA (x:Ix):T:= .agg [.int .i64 x.n,.int .i64 x.kd,.int .i64 x.ar,.int .i64 x.sz,.sl (x.po.map qA),.sl (x.au.map qA),.bool x.wr,.sl (x.da.map qA)]
def lvA (x:Lv):T:= .agg [.sl (x.un.map qA),.int .i64 x.us]
def lkA (x:Lk):T:= .agg [.int .i64 x.fa,.int .i64 x.mx,.int .i64 x.rc,.int .i64 x.si,.int .i64 x.cl,.int .i64 x.pe]
def saA (x:Sa):T:= .agg [.sl (x.sd.map bsT),.sl (x.au.map bsT),.sl (x.en.map qA),.int .i64 x.act,.int .i64 x.res,.int .i64 x.rst,.int .i64 x.clk,.bool x.ord,.sl (x.bk.map vM),.int .i64 x.u,.int .i64 x.mc,.sl (x.ix.map ixA),
 .int .i64 x.lk.fa,.int .i64 x.lk.mx,.int .i64 x.lk.rc,.int .i64 x.lk.si,.int .i64 x.lk.cl,.int .i64 x.lk.pe,.sl (x.ks.map lvA)]
def stA (x:St):T:= .agg [.sl (x.a.sd.map bsT),.sl (x.a.au.map bsT),.sl (x.a.en.map qA),.int .i64 x.a.act,.int .i64 x.a.res,.int .i64 x.a.rst,.int .i64 x.a.clk,.bool x.a.ord,.sl (x.a.bk.map vM),.int .i64 x.a.u,.int .i64 x.a.mc,.sl (x.a.ix.map ixA),
 .int .i64 x.a.lk.fa,.int .i64 x.a.lk.mx,.int .i64 x.a.lk.rc,.int .i64 x.a.lk.si,.int .i64 x.a.lk.cl,.int .i64 x.a.lk.pe,.sl (x.a.ks.map lvA),
 .bool x.on,.bool x.off,.sl (x.bk.map vM),.int .i64 x.u,.int .i64 x.clk,.bool x.safe,.int .i64 x.dr,.sl (x.ses.map zZ),.sl (x.obs.map vF),.sl (x.rl.map iT),.sl (x.wl.map iT)]
def azA (x:Az):T:= .agg [.int .i64 x.s,.sl (x.no.map qA),.sl (x.va.map qA)]
def rqA (x:Rq):T:= .agg [.int .i64 x.co,.sl (x.hs.map iT),.sl (x.au.map azA),.sl (x.ns.map iT),.sl (x.bl.map bsT)]
def rsA (x:Rs):T:= .agg [.int .i64 x.e,.sl (x.ns.map iT),.sl (x.bl.map bsT),.sl (x.no.map bsT)]
def yX (x:Asr):T:= .agg [.int .i64 x.kd,.int .i64 x.s0,.int .i64 x.s1,.sl (x.dg.map qA),.int .i64 x.n,.int .i64 x.op,.sl (x.od.map qA),.sl (x.nm.map qA),.sl (x.rf.map qA),.sl (x.br.map bsT)]
theorem qXx:(∀ (a b:V) (l m:List V),(a::l=b::m)=(a=b∧l=m))∧(∀ (a b:T) (l m:List T),(a::l=b::m)=(a=b∧l=m))∧(∀ a b,(V.t a=V.t b)=(a=b))∧(∀ k (a b:Int),(T.int k a=T.int k b)=(a=b))∧(∀ a b,(T.bool a=T.bool b)=(a=b))∧
  (∀ a b,(T.sl a=T.sl b)=(a=b))∧(∀ a b,(T.agg a=T.agg b)=(a=b))∧(∀ p:Prop,(p∧True)=p)∧(∀ p:Prop,(True∧p)=p)∧(∀ l m:List UInt8,(l.map qA=m.map qA)=(l=m))∧(∀ l m:List (List UInt8),(l.map bsT=m.map bsT)=(l=m))∧(∀ a b:UInt8,(qA a=qA b)=(a=b))∧
  (∀ l m:List zE,(l.map vM=m.map vM)=(l=m))∧(∀ l m:List Int,(l.map iT=m.map iT)=(l=m)):=by
 refine⟨sM,sM,sM,sM,sM,sM,sM,sM,sM,fun _ _=>yC,fun _ _=>qFt,fun _ _=>qOf,fun l m=>propext ⟨qCq (fun _ _=>zAe),fun h=>by rw[h]⟩,fun l m=>propext ⟨qCq (fun a b h=>by simpa [iT] using h),fun h=>by rw[h]⟩⟩
abbrev EI {α:Type}(f:α→T):Prop:=(∀ a b,(f a=f b)=(a=b))∧(∀ l m:List α,(l.map f=m.map f)=(l=m))
theorem qB8 {α:Type}{f:α→T}(h : ∀ a b,f a=f b→a=b):EI f:=⟨fun a b=>propext ⟨h a b,fun h=>by rw[h]⟩,fun l m=>propext ⟨qCq h,fun h=>by rw[h]⟩⟩
theorem jJ2:EI puA:=qB8 (by rintro⟨⟩ ⟨⟩ h;simp only[puA,qXx] at h;obtain⟨rfl,rfl,rfl,rfl,rfl⟩:=h;rfl)
theorem jKu:EI snA:=qB8 (by rintro⟨⟩ ⟨⟩ h;simp only[snA,qXx] at h;obtain⟨rfl,rfl,rfl⟩:=h;rfl)
theorem zVc:EI vF:=qB8 (by rintro⟨⟨⟩,⟨⟩,_⟩ ⟨⟨⟩,⟨⟩,_⟩ h;simp only[vF,qXx] at h;obtain⟨rfl,rfl,rfl,rfl,rfl,rfl,rfl,rfl,rfl⟩:=h;rfl)
theorem zVq:EI zZ:=qB8 (by rintro⟨⟩ ⟨⟩ h;simp only[zZ,qXx] at h;obtain⟨rfl,rfl,rfl,rfl,rfl,rfl,rfl,rfl⟩:=h;rfl)
theorem zXq:EI ixA:=qB8 (by rintro⟨⟩ ⟨⟩ h;simp only[ixA,qXx] at h;obtain⟨rfl,rfl,rfl,rfl,rfl,rfl,rfl,rfl⟩:=h;rfl)
theorem zX3:EI lvA:=qB8 (by rintro⟨⟩ ⟨⟩ h;simp only[lvA,qXx] at h;obtain⟨rfl,rfl⟩:=h;rfl)
theorem jJf:EI lkA:=qB8 (by rintro⟨⟩ ⟨⟩ h;simp only[lkA,qXx] at h;obtain⟨rfl,rfl,rfl,rfl,rfl,rfl⟩:=h;rfl)
theorem jBw:EI azA:=qB8 (by rintro⟨⟩ ⟨⟩ h;simp only[azA,qXx] at h;obtain⟨rfl,rfl,rfl⟩:=h;rfl)
theorem jBs:EI yX:=qB8 (by rintro⟨⟩ ⟨⟩ h;simp only[yX,qXx] at h;obtain⟨rfl,rfl,rfl,rfl,rfl,rfl,rfl,rfl,rfl,rfl⟩:=h;rfl)
theorem jKd:EI rqA:=qB8 (by rintro⟨⟩ ⟨⟩ h;simp only[rqA,qXx,jBw] at h;obtain⟨rfl,rfl,rfl,rfl,rfl⟩:=h;rfl)
theorem jKf:EI rsA:=qB8 (by rintro⟨⟩ ⟨⟩ h;simp only[rsA,qXx] at h;obtain⟨rfl,rfl,rfl,rfl⟩:=h;rfl)
theorem jKl:EI saA:=qB8 (by rintro⟨_,_,_,_,_,_,_,_,_,_,_,_,⟨⟩,_⟩ ⟨_,_,_,_,_,_,_,_,_,_,_,_,⟨⟩,_⟩ h;simp only[saA,qXx,zXq,zX3] at h;obtain⟨rfl,rfl,rfl,rfl,rfl,rfl,rfl,rfl,rfl,rfl,rfl,rfl,rfl,rfl,rfl,rfl,rfl,rfl,rfl⟩:=h;rfl)
theorem jKx:EI stA:=qB8 (by rintro⟨⟨_,_,_,_,_,_,_,_,_,_,_,_,⟨⟩,_⟩,_,_,_,_,_,_,_,_,_,_,_⟩ ⟨⟨_,_,_,_,_,_,_,_,_,_,_,_,⟨⟩,_⟩,_,_,_,_,_,_,_,_,_,_,_⟩ h;simp only[stA,qXx,zXq,zX3,zVq,zVc] at h;obtain⟨rfl,rfl,rfl,rfl,rfl,rfl,rfl,rfl,rfl,rfl,rfl,rfl,rfl,rfl,rfl,rfl,rfl,rfl,rfl,rfl,rfl,rfl,rfl,rfl,rfl,rfl,rfl,rfl,rfl,rfl⟩:=h;rfl)
theorem jIx:EI puA∧EI snA∧EI vF∧EI zZ∧EI ixA∧EI lvA∧EI lkA∧EI azA∧EI yX∧EI rqA∧EI rsA∧EI saA∧EI stA:=⟨jJ2,jKu,zVc,zVq,zXq,zX3,jJf,jBw,jBs,jKd,jKf,jKl,jKx⟩
def Pu.Ok (p:Pu):Prop:=(0≤p.kd∧p.kd≤3)∧(0≤p.ar∧p.ar≤7)∧(0≤p.ht∧p.ht≤3)∧p.po.length≤32∧p.un.length≤32
def Sn.Ok (s:Sn):Prop:=s.au.length≤32∧s.sd.length≤32∧s.da.length≤128
def Obj.Ok (x:Obj):Prop:=x.p.Ok∧x.s.Ok∧(0≤x.h∧x.h≤2)
def Ses.Ok (x:Ses):Prop:=(0≤x.kd∧x.kd≤3)∧x.no.length≤32∧x.dg.length≤32∧(0≤x.lo∧x.lo≤31)∧(0≤x.dl∧x.dl≤1100000000000000)
def Ix.Ok (x:Ix):Prop:=(0≤x.n∧x.n≤255)∧(0≤x.kd∧x.kd≤4)∧(0≤x.ar∧x.ar≤127)∧(0≤x.sz∧x.sz≤128)∧x.po.length≤32∧x.au.length≤32∧x.da.length≤128∧(x.kd=3→x.da.length=8)
def Lv.Ok (x:Lv):Prop:=x.un.length≤32∧0≤x.us∧x.us≤8
def Lk.Ok (x:Lk):Prop:=(0≤x.fa∧x.fa≤100)∧(0≤x.mx∧x.mx≤100)∧(0≤x.rc∧x.rc≤1048576)∧(0≤x.si∧x.si≤1100000000000000)∧(0≤x.cl∧x.cl≤1100000000000000)∧(0≤x.pe∧x.pe≤1048576)
def BkS (act:Int)(bk:List zE):Prop:=bk=[]∨(1≤act∧act≤3)∧ShA act bk
theorem BkS.rv {act:Int}{bk:List zE}(h:BkS act bk):RV bk:=by
 rcases h with rfl | ⟨_,h⟩
 ·exact⟨.nil,sM⟩
 ·exact h.rv
structure Sa.Ok (s:Sa):Prop where
 sd:s.sd.length=3 ∧ ∀ x∈s.sd,x.length≤32
 au:s.au.length=4 ∧ ∀ x∈s.au,x.length≤32
 en:s.en.length=32
 act:0≤s.act∧s.act≤3
 res:0≤s.res
 rst:0≤s.rst
 clk:0≤s.clk∧s.clk≤1099511627776
 bk:BkS s.act s.bk
 u:0≤s.u
 mc:0≤s.mc∧s.mc≤1099511627776
 ix:s.ix.length≤6 ∧ ∀ x∈s.ix,x.Ok
 lk:s.lk.Ok
 ks:s.ks.length≤8 ∧ ∀ x∈s.ks,x.Ok
structure St.Ok (s:St):Prop where
 a:s.a.Ok
 bk:BkS s.a.act s.bk
 u:0≤s.u
 clk:0≤s.clk∧s.clk≤1099511627776
 dr:0≤s.dr
 ses:s.ses.length=3 ∧ ∀ x∈s.ses,x.Ok
 obs:s.obs.length=3 ∧ ∀ x∈s.obs,x.Ok
def St.cn (s:St)(m:Int):Prop:=s.a.res≤m∧s.a.rst≤m∧s.a.u≤m∧s.u≤m∧s.dr≤m∧(s.rl.length:Int)≤m∧(s.wl.length:Int)≤m
def St.up (k:Int)(s t:St):Prop := ∀ m,s.cn m→t.cn (m+k)
theorem St.up.trans {k l:Int}{s t v:St}(h:s.up k t)(g:t.up l v):s.up (k+l) v:=fun m hm=>by rw[←Int.add_assoc];exact g _ (h m hm)
theorem St.cn.le {s:St}{m n:Int}(h:s.cn m)(e:m≤n):s.cn n:=by unfold St.cn at *;omega
theorem St.up.le {k l:Int}{s t:St}(h:s.up k t)(e:k≤l):s.up l t:=fun m hm=>(h m hm).le oM
theorem St.up.rfl' {s:St}{k:Int}(h:0≤k):s.up k s:=fun m hm=>hm.le oM
theorem zP4 {a b:UInt8}:qCv .or (qA a) (qA b)=some (qA (a ||| b)):=by
 change some (T.int .u8 (IntKind.u8.wrap ((BitVec.ofInt 8 (a.toNat:Int) ||| BitVec.ofInt 8 (b.toNat:Int)).toNat:Int)))=_;have e : ∀ x:UInt8,BitVec.ofInt 8 (x.toNat:Int)=x.toBitVec:=fun x=>BitVec.eq_of_toNat_eq sM
 rw[e,e,←UInt8.toBitVec_or,qKa];have:=(a ||| b).toNat_lt;unfold qA;rw[UInt8.toNat_toBitVec];congr 2;omega
end Go.Eng
end
