/- A part of an abstract machine, its walks, their tie. -/
import Derived.Test.YtlhjonbjbiafaaaGreatDoorU21
import Derived.Test.YtlhjonbjbiafaaaGreatDoorU16
import Derived.Test.YtlhjonbjbiafaaaGreatDoorU20
import Derived.Test.YtlhjonbjbiafaaaGreatDoorU9
import Derived.Test.YtlhjonbjbiafaaaGreatDoorU17
set_option linter.all false
section
set_option maxHeartbeats 64000000
set_option maxRecDepth 20000
namespace Go.Eng
variable (tab:Tab) (gl:Gl)
variable {vv:V} {oo:List Ob}
theorem zT0 {a:Nat}{k':IntKind}(h:a<1000000):qOw .shl .i64 (a:Int) k' 8=some (.int .i64 ((256*a:Nat):Int)):=by
 change (if (8:Int)<0 then none else some (T.int .i64 (IntKind.i64.wrap ((a:Int)*2^min (8:Int).toNat 64))))=_;rw[if_neg oM,show (a:Int)*2^min (8:Int).toNat 64=((256*a:Nat):Int) by
  rw[show min (8:Int).toNat 64=8 from rfl];omega,qBp oM]
theorem zY0 {a:Nat}{x:UInt8}(h:a<1000000):qOw .or .i64 ((256*a:Nat):Int) .i64 (x.toNat:Int)=some (.int .i64 ((256*a+x.toNat:Nat):Int)):=by
 have hx:=x.toNat_lt;change some (T.int .i64 (IntKind.i64.wrap ((BitVec.ofInt 64 ((256*a:Nat):Int) ||| BitVec.ofInt 64 (x.toNat:Int)).toNat:Int)))=_;have e:(BitVec.ofInt 64 ((256*a:Nat):Int) ||| BitVec.ofInt 64 (x.toNat:Int)).toNat=256*a+x.toNat:=by
  rw[BitVec.toNat_or,BitVec.toNat_ofInt,BitVec.toNat_ofInt,Int.emod_eq_of_lt oM oM,Int.emod_eq_of_lt oM oM,Int.toNat_natCast,Int.toNat_natCast,or8 oM]
 rw[e,qBp oM]
attribute [go_sem ↓] zT0 zY0
def zZ (s:Rd)(most:Nat):List UInt8×Rd:=
 if s.2.2≠0 then ([],s) else if s.1.length<s.2.1+2 then ([],(s.1,s.2.1,2))
 else if most<beV ((s.1.drop s.2.1).take 2) then ([],(s.1,s.2.1,4))
 else if s.1.length<s.2.1+2+beV ((s.1.drop s.2.1).take 2) then ([],(s.1,s.2.1,2))
 else ((s.1.drop (s.2.1+2)).take (beV ((s.1.drop s.2.1).take 2)),(s.1,s.2.1+2+beV ((s.1.drop s.2.1).take 2),0))
def qJt:Ct where
 α:=Rd×Nat
 aS x:=[.ref 0 0 0,.t (.int .i64 x.2)]
 ins x:=[kP x.1]
 pre x:=qEg x.1∧x.2≤65535
 r x:= .t (.sl ((zZ x.1 x.2).1.map qA))
 outs x:=[kP (zZ x.1 x.2).2]
 inj:=by
  rintro⟨s,a⟩ ⟨t,c⟩ h1 h2;simp only[List.cons.injEq,V.t.injEq,T.int.injEq,true_and,and_true,Int.natCast_inj] at h1;simp only[List.cons.injEq,and_true] at h2;subst h1;cases qCy h2;exact⟨rfl,rfl⟩
theorem qNq {s:Rd}{k:Nat}(h:qEg s∧k≤65535):qJt.fs [.ref 0 0 0,.t (.int .i64 k)] [rdO s]=some (.t (.sl ((zZ s k).1.map qA)),[rdO (zZ s k).2]):=qJt.eq (s,k) h
theorem jGr {b:List UInt8}{a:Nat}(h:a+2≤b.length):List.take 2 (List.drop a b)=[b.getD a 0,b.getD (a+1) 0]:=by
 have e:List.drop a b=b[a]'(oM)::b[a+1]'(oM)::List.drop (a+2) b:=by
  rw[List.drop_eq_getElem_cons oM,List.drop_eq_getElem_cons oM]
 have g0:b.getD a 0=b[a]'(oM):=by simp[List.getD,show a<b.length by omega]
 have g1:b.getD (a+1) 0=b[a+1]'(oM):=by simp[List.getD,show a+1<b.length by omega]
 rw[e,g0,g1];rfl
theorem jP4 {x y:UInt8}:beV [x,y]=256*x.toNat+y.toNat:=by simp[beV]
theorem jTh {s:Rd}{k:Nat}:(zZ s k).1.length≤k:=by
 unfold zZ;split
 ·simp
 ·split
  ·simp
  ·split
   ·simp
   ·split
    ·simp
    ·simp only[List.length_take];omega
theorem jTi {s:Rd}{k:Nat}(h:qEg s):qEg (zZ s k).2:=by
 unfold zZ;unfold qEg at *;split
 ·exact h
 ·split
  ·exact h
  ·split
   ·exact h
   ·split
    ·exact h
    ·exact⟨by simp only;omega,h.2⟩
theorem qOq (h1:LkC tab 138 wR)(h2:LkC tab 137 qO4)(s:Rd)(hs:qEg s)(k:Nat)(hk:k≤65535) :
  jK.1.wp tab gl (qF 0 [.ref 0 0 0,.t (.int .i64 k)]) (qF 0 [kP s]) (zD [(4,none)] 1 (fun r o=>r = .t (.sl ((zZ s k).1.map qA))∧o=[kP (zZ s k).2])):=by
 obtain⟨b,a,e⟩:=s;have ha:a≤b.length∧b.length<1000000000:=hs;by_cases he:e=0
 ·subst he;by_cases hl:b.length<a+2
  ·have hr:zZ (b,a,0) k=([],(b,a,2)):=by unfold zZ;simp[hl]
   rw[hr];have ht:=qY9 (b:=b) (a:=a) (p:=a) (n:=2) (e:=0) ⟨ha.1,ha.2,ha.1,oM,oM⟩;have k2:((2:Nat):Int)=2:=rfl;rw[k2] at ht;simp(disch:=omega)only[go_sem,jK,zN,h1,h2,ht,qMb,List.map_nil]
  ·have t2:=jGr (b:=b) (a:=a) oM;have ht:=qZa (b:=b) (a:=a) (p:=a) (n:=2) (e:=0) ⟨ha.1,ha.2,oM⟩;have k2:((2:Nat):Int)=2:=rfl;rw[k2,t2] at ht;have hb:=jP4 (x:=b.getD a 0) (y:=b.getD (a+1) 0);have hx:=(b.getD a 0).toNat_lt;have hy:=(b.getD (a+1) 0).toNat_lt;have hr:zZ (b,a,0) k=if k<256*(b.getD a 0).toNat+(b.getD (a+1) 0).toNat then ([],(b,a,4)) else if b.length<a+2+(256*(b.getD a 0).toNat+(b.getD (a+1) 0).toNat) then ([],(b,a,2)) else ((b.drop (a+2)).take (256*(b.getD a 0).toNat+(b.getD (a+1) 0).toNat),(b,a+2+(256*(b.getD a 0).toNat+(b.getD (a+1) 0).toNat),0)):=by
    unfold zZ;simp only[t2,hb];rw[if_neg sM,if_neg hl]
   rw[hr];simp only[mcn] at ht;by_cases c1:k<256*(b.getD a 0).toNat+(b.getD (a+1) 0).toNat
   ·rw[if_pos c1];simp(disch:=omega)only[go_sem,jK,zN,h1,h2,ht,qMb,c1,List.map_nil];rfl
   ·rw[if_neg c1];have hn:((b.getD a 0).toNat<256)∧(b.getD (a+1) 0).toNat<256:=⟨hx,hy⟩;generalize hN:256*(b.getD a 0).toNat+(b.getD (a+1) 0).toNat=N at *;have hN2:N≤65535:=oM;by_cases c2:b.length<a+2+N
    ·rw[if_pos c2];have ht2:=qY9 (b:=b) (a:=a) (p:=a+2) (n:=N) (e:=0) ⟨ha.1,ha.2,oM,oM,c2⟩;simp(disch:=omega)only[go_sem,jK,zN,h1,h2,ht,hN,ht2,qMb,c1,List.map_nil];rfl
    ·rw[if_neg c2];have ht2:=qZa (b:=b) (a:=a) (p:=a+2) (n:=N) (e:=0) ⟨ha.1,ha.2,oM⟩;have hc:(List.take N (List.drop (a+2) b)).length=N:=by simp only[List.length_take,List.length_drop];omega
     have tt:List.take N (List.take N (List.drop (a+2) b))=List.take N (List.drop (a+2) b):=List.take_of_length_le oM;simp(disch:=omega)only[go_sem,jK,zN,h1,h2,ht,hN,ht2,qMb,c1,hc,tt];exact⟨rfl,oM⟩
 ·have hr:zZ (b,a,e) k=([],(b,a,e)):=by unfold zZ;rw[if_pos he]
  rw[hr];simp(disch:=omega)only[go_sem,jK,zN,ne_eq,he,List.map_nil]
theorem qOh (h1:LkC tab 95 kW)(s:Rd)(hs:qEg s)(k:Nat)(hk:k≤65535) :
  jJ.1.wp tab gl (qF 0 [.ref 0 0 0,.t (.int .i64 k)]) (qF 0 [kP s]) (zD [(4,none)] 1 (fun r o=>r = .t (.sl ((zZ s k).1.map qA))∧o=[kP (zZ s k).2])):=by
 obtain⟨b,a,e⟩:=s;have ha:a≤b.length∧b.length<1000000000:=hs;by_cases he:e=0
 ·subst he;by_cases hl:b.length<a+2
  ·have hr:zZ (b,a,0) k=([],(b,a,2)):=by unfold zZ;simp[hl]
   rw[hr];have ht:=zEj (b:=b) (a:=a) (k:=2) ⟨ha.1,ha.2,oM,oM⟩;have k2:((2:Nat):Int)=2:=rfl;rw[k2] at ht;simp(disch:=omega)only[go_sem,jJ,zN,h1,ht,List.map_nil]
  ·have t2:=jGr (b:=b) (a:=a) oM;have ht:=zEk (b:=b) (a:=a) (k:=2) ⟨ha.1,ha.2,oM⟩;have k2:((2:Nat):Int)=2:=rfl;rw[k2] at ht;have hb:=jP4 (x:=b.getD a 0) (y:=b.getD (a+1) 0);have hx:=(b.getD a 0).toNat_lt;have hy:=(b.getD (a+1) 0).toNat_lt;have hr:zZ (b,a,0) k=if k<256*(b.getD a 0).toNat+(b.getD (a+1) 0).toNat then ([],(b,a,4)) else if b.length<a+2+(256*(b.getD a 0).toNat+(b.getD (a+1) 0).toNat) then ([],(b,a,2)) else ((b.drop (a+2)).take (256*(b.getD a 0).toNat+(b.getD (a+1) 0).toNat),(b,a+2+(256*(b.getD a 0).toNat+(b.getD (a+1) 0).toNat),0)):=by
    unfold zZ;simp only[t2,hb];rw[if_neg sM,if_neg hl]
   rw[hr];have hn:((b.getD a 0).toNat<256)∧(b.getD (a+1) 0).toNat<256:=⟨hx,hy⟩;generalize hN:256*(b.getD a 0).toNat+(b.getD (a+1) 0).toNat=N at *;have hN2:N≤65535:=oM;by_cases c1:k<N
   ·rw[if_pos c1];simp(disch:=omega)only[go_sem,jJ,zN,h1,ht,hN,c1,List.map_nil];rfl
   ·rw[if_neg c1];by_cases c2:b.length<a+2+N
    ·rw[if_pos c2];have ht2:=zEj (b:=b) (a:=a) (k:=2+N) ⟨ha.1,ha.2,oM,oM⟩;simp(disch:=omega)only[go_sem,jJ,zN,h1,ht,hN,ht2,c1,List.map_nil];rfl
    ·rw[if_neg c2];have ht2:=zEk (b:=b) (a:=a) (k:=2+N) ⟨ha.1,ha.2,oM⟩;have hc:(List.take N (List.drop (a+2) b)).length=N:=by simp only[List.length_take,List.length_drop];omega
     have tt:List.take N (List.take N (List.drop (a+2) b))=List.take N (List.drop (a+2) b):=List.take_of_length_le oM;have e1:a+(2+N)-N=a+2:=oM;have e2:a+(2+N)-(a+2)=N:=oM;have e3:a+2+N=a+(2+N):=oM;rw[e3];simp(disch:=omega)only[go_sem,jJ,zN,h1,ht,hN,ht2,c1,e1,e2,hc,tt];exact⟨rfl,rfl⟩
 ·have hr:zZ (b,a,e) k=([],(b,a,e)):=by unfold zZ;rw[if_pos he]
  rw[hr];simp(disch:=omega)only[go_sem,jJ,zN,ne_eq,he,List.map_nil]
abbrev Cd:=List UInt8×Nat
def nx (c:Cd)(n:Nat):Nat×Cd:=if c.1.length≤c.2 then (0,c) else ((c.1.getD c.2 0).toNat%n,(c.1,c.2+1))
theorem zBu {b p x t:List UInt8}{most:Nat}(hb:b=p++beI 2 (x.length:Int) 2++x++t)(hx:x.length≤most)(hm:most≤65535):zZ (b,p.length,0) most=(x,(b,p.length+2+x.length,0)):=by
 have hlen:b.length=p.length+2+x.length+t.length:=by rw[hb];simp only[List.length_append,qT]
 have h1:List.take 2 (List.drop p.length b)=beI 2 (x.length:Int) 2:=qSc (t:=x++t) (by rw[hb];simp only[List.append_assoc]) qT;have h2:beV (beI 2 (x.length:Int) 2)=x.length:=by
  rw[qKx];have e:(256:Nat)^2=65536:=by decide
  have:=qNl (n:=(x.length:Int)) oM;rw[e];omega
 have h3:List.take x.length (List.drop (p.length+2) b)=x:=by
  have:=qSc (b:=b) (p:=p++beI 2 (x.length:Int) 2) (q:=x) (t:=t) (k:=x.length) hb rfl;rw[List.length_append,qT] at this;exact this
 unfold zZ;simp only[h1,h2];rw[if_neg sM,if_neg oM,if_neg oM,if_neg oM,h3]
theorem zKq {a b:UInt8}(h:b.toNat≠0):qH8 .rem (qA a) (qA b)=some (qA (a%b)):=by
 have h2:(b.toNat:Int)≠0:=oM;change (if IntKind.u8=IntKind.u8∧(b.toNat:Int)≠0 then some (T.int .u8 ((a.toNat:Int).tmod (b.toNat:Int))) else none)=_;rw[if_pos ⟨rfl,h2⟩];have e:(a.toNat:Int).tmod (b.toNat:Int)=((a%b).toNat:Int):=by rw[UInt8.toNat_mod];rfl
 rw[e];rfl
def rI (n:Int):Prop := -9223372036854775808≤n∧n<9223372036854775808
def evX (e:Ev):Prop:=e.2.2.1.length≤9223372036854775807∧(∀ x∈e.2.2.1,x.length≤9223372036854775807)∧e.2.2.2.length≤9223372036854775807
abbrev Im:=Int×List UInt8×Int×List UInt8
def imM (x:Im):Prop:=x.2.1.length≤9223372036854775807∧x.2.2.2.length<1000000000∧rI x.1∧rI x.2.2.1
def imX (x:Im):Prop:=rI x.1∧rI x.2.2.1∧x.2.1.length≤9223372036854775807∧x.2.2.2.length≤9223372036854775807
theorem imM.x {x:Im}(h:imM x):imX x:=⟨h.2.2.1,h.2.2.2,h.1,by have:=h.2.1;omega⟩
def okN (c:UInt8):Bool:=(!decide (c.toNat<97) && !decide (c.toNat>122))||((!decide (c.toNat<48) && !decide (c.toNat>57))||decide (c=45))
def jKd (s:List UInt8):Bool:=(!decide (s.length<1) && !decide (12<s.length))&&s.all okN
def lnS (out:List (List UInt8))(line:List UInt8):List UInt8→List (List UInt8)
 | []=>if 0<line.length then [] else out
 | c::r=>if c=10 then (if line.length=0∨4≤out.length then [] else lnS (out++[line]) [] r) else if okC c=true then lnS out (line++[c]) r else []
def lnL (p:List UInt8):List (List UInt8):=lnS [] [] p
def jI6 (r v:Int):Prop:=r<1∨4<r∨v<0∨1000000<v
instance {r v:Int}:Decidable (jI6 r v):=by unfold jI6;infer_instance
def jJh (x:Im):Int:=if jI6 x.1 x.2.2.1 then 1 else if jKd x.2.1=false then 43 else if 64<x.2.2.2.length then 4 else if x.1=4∧(lnL x.2.2.2).length=0 then 40 else 0
def chF (pre:List Im):List Im→Int
 | []=>if pre.any (fun y=>decide (y.1=1))&&pre.any (fun y=>decide (y.1=3)) then 0 else 40
 | x::r=>if jJh x≠0 then jJh x else if pre≠[]∧x.1<(pre.getLastD (0,[],0,[])).1 then 41 else if pre.any (fun y=>decide (y.1=x.1)&&decide (y.2.1=x.2.1)) then 42 else chF (pre++[x]) r
def chP (l:List Im):Prop := ∀ r,chF [] (l++r)=chF l r
structure ChO (r:Int) (l:List Im):Prop where
 p:chP l
 ok : ∀ x∈l,jJh x=0
 le : ∀ x∈l,x.1≤r
theorem ChO.up {r q:Int}{l:List Im}(h:ChO r l)(hq:r≤q):ChO q l:=⟨h.p,h.ok,fun x hx=>by have:=h.le x hx;omega⟩
theorem evM.x {e:Ev}(h:evM e):evX e:=⟨by have:=h.1.1;omega,fun x hx=>by have:=h.1.2 x hx;omega,by have:=h.2;omega⟩
abbrev Rg:=List qY×Int
def rpS (x:Rg)(e:Ev):Rg:=if e.2.1=5 then x else zXw x 0 e.1 e.2.2.1
def rp0 (act:Int):Rg:=(yJ act,0)
def ShA (act:Int)(bk:List qY):Prop := ∃ b0 b1:qY,bk=[b0,b1]∧List.length b0=(if act%2=1 then 16 else 0)∧List.length b1=(if act/2%2=1 then 16 else 0)∧(∀ x∈b0,x.length=20) ∧ ∀ x∈b1,x.length=32
theorem ShA.new {act:Int}(ha:1≤act∧act≤3):ShA act (yJ act):=by
 have h:yJ act=[if act%2=1 then qA7 0 else [],if act/2%2=1 then qA7 1 else []]:=qCx oM;refine⟨_,_,h,?_,?_,fun x hx=>?_,fun x hx=>?_⟩
 ·split
  ·exact qM
  ·rfl
 ·split
  ·exact qM
  ·rfl
 ·split at hx
  ·exact zG7 (a:=0) x hx
  ·simp at hx
 ·split at hx
  ·exact zG7 (a:=1) x hx
  ·simp at hx
theorem ShA.rv {act:Int}{bk:List qY}(h:ShA act bk):RV bk:=by
 obtain⟨b0,b1,rfl,h0,h1,z0,z1⟩:=h;refine⟨.two _ _ ?_ ?_,fun b hb x hx=>?_⟩
 ·split at h0
  ·exact .inr h0
  ·exact .inl h0
 ·split at h1
  ·exact .inr h1
  ·exact .inl h1
 ·simp only[List.mem_cons,List.not_mem_nil,or_false] at hb;rcases hb with rfl | rfl
  ·have:=z0 x hx;omega
  ·have:=z1 x hx;omega
theorem ShA.ext {act:Int}{bk:List qY}(h:ShA act bk)(i:Nat)(ds:List (List UInt8)):ShA act (qI9 bk i ds):=by
 obtain⟨b0,b1,rfl,h0,h1,z0,z1⟩:=h;rw[zA0];refine⟨_,_,rfl,qH.trans h0,qH.trans h1,?_,?_⟩
 ·unfold vH;split
  ·exact zEz z0 (qG4 (a:=0))
  ·exact z0
 ·unfold vH;split
  ·exact zEz z1 (qG4 (a:=1))
  ·exact z1
def RQ (act:Int)(n:Nat)(x:Rg):Prop:=ShA act x.1∧0≤x.2∧x.2≤n
theorem RQ.zero {act:Int}(ha:1≤act∧act≤3):RQ act 0 (rp0 act):=⟨ShA.new ha,by simp[rp0],by simp[rp0]⟩
theorem RQ.up {act:Int}{n m:Nat}{x:Rg}(h:RQ act n x)(hm:n≤m):RQ act m x:=⟨h.1,h.2.1,by have:=h.2.2;omega⟩
theorem RQ.ext {act:Int}{n:Nat}{x:Rg}(h:RQ act n x)(l i:Int)(ds:List (List UInt8)):RQ act (n+1) (zXw x l i ds):=by
 unfold zXw;split
 ·exact⟨h.1.ext _ _,by have:=h.2.1;simp only;omega,by have:=h.2.2;simp only;omega⟩
 ·exact h.up oM
theorem RQ.step {act:Int}{n:Nat}{x:Rg}{e:Ev}(h:RQ act n x):RQ act (n+1) (rpS x e):=by
 unfold rpS;split
 ·exact h.up oM
 ·exact h.ext _ _ _
structure Pu where
 kd:Int
 ar:Int
 ht:Int
 po:List UInt8
 un:List UInt8
 deriving Inhabited
structure Sn where
 au:List UInt8
 sd:List UInt8
 da:List UInt8
 deriving Inhabited
structure Obj where
 p:Pu
 s:Sn
 h:Int
 deriving Inhabited
structure Ses where
 kd:Int
 no:List UInt8
 dg:List UInt8
 up:Int
 lo:Int
 cm:Int
 dl:Int
 av:Bool
 deriving Inhabited
structure Ix where
 n:Int
 kd:Int
 ar:Int
 sz:Int
 po:List UInt8
 au:List UInt8
 wr:Bool
 da:List UInt8
 deriving Inhabited
structure Lv where
 un:List UInt8
 us:Int
 deriving Inhabited
structure Lk where
 fa:Int
 mx:Int
 rc:Int
 si:Int
 cl:Int
 pe:Int
 deriving Inhabited
structure Sa where
 sd:List (List UInt8)
 au:List (List UInt8)
 en:List UInt8
 act:Int
 res:Int
 rst:Int
 clk:Int
 ord:Bool
 bk:List qY
 u:Int
 mc:Int
 ix:List Ix
 lk:Lk
 ks:List Lv
 deriving Inhabited
structure St where
 a:Sa
 on:Bool
 off:Bool
 bk:List qY
 u:Int
 clk:Int
 safe:Bool
 dr:Int
 ses:List Ses
 obs:List Obj
 rl:List Int
 wl:List Int
 deriving Inhabited
structure Az where
 s:Int
 no:List UInt8
 va:List UInt8
 deriving Inhabited
structure Rq where
 co:Int
 hs:List Int
 au:List Az
 ns:List Int
 bl:List (List UInt8)
 deriving Inhabited
structure Rs where
 e:Int
 ns:List Int
 bl:List (List UInt8)
 no:List (List UInt8)
 deriving Inhabited
structure Asr where
 kd:Int
 s0:Int
 s1:Int
 dg:List UInt8
 n:Int
 op:Int
 od:List UInt8
 nm:List UInt8
 rf:List UInt8
 br:List (List UInt8)
 deriving Inhabited
def iT (n:Int):T:= .int .i64 n
def puA (x:Pu):T:= .agg [.int .i64 x.kd,.int .i64 x.ar,.int .i64 x.ht,.sl (x.po.map qA),.sl (x.un.map qA)]
def snA (x:Sn):T:= .agg [.sl (x.au.map qA),.sl (x.sd.map qA),.sl (x.da.map qA)]
def qBv (x:Obj):T:= .agg [.int .i64 x.p.kd,.int .i64 x.p.ar,.int .i64 x.p.ht,.sl (x.p.po.map qA),.sl (x.p.un.map qA),.sl (x.s.au.map qA),.sl (x.s.sd.map qA),.sl (x.s.da.map qA),.int .i64 x.h]
def jX (x:Ses):T:= .agg [.int .i64 x.kd,.sl (x.no.map qA),.sl (x.dg.map qA),.int .i64 x.up,.int .i64 x.lo,.int .i64 x.cm,.int .i64 x.dl,.bool x.av]
def ixA (x:Ix):T:= .agg [.int .i64 x.n,.int .i64 x.kd,.int .i64 x.ar,.int .i64 x.sz,.sl (x.po.map qA),.sl (x.au.map qA),.bool x.wr,.sl (x.da.map qA)]
def lvA (x:Lv):T:= .agg [.sl (x.un.map qA),.int .i64 x.us]
def lkA (x:Lk):T:= .agg [.int .i64 x.fa,.int .i64 x.mx,.int .i64 x.rc,.int .i64 x.si,.int .i64 x.cl,.int .i64 x.pe]
def saA (x:Sa):T:= .agg [.sl (x.sd.map bsT),.sl (x.au.map bsT),.sl (x.en.map qA),.int .i64 x.act,.int .i64 x.res,.int .i64 x.rst,.int .i64 x.clk,.bool x.ord,.sl (x.bk.map wQ),.int .i64 x.u,.int .i64 x.mc,.sl (x.ix.map ixA),
 .int .i64 x.lk.fa,.int .i64 x.lk.mx,.int .i64 x.lk.rc,.int .i64 x.lk.si,.int .i64 x.lk.cl,.int .i64 x.lk.pe,.sl (x.ks.map lvA)]
def stA (x:St):T:= .agg [.sl (x.a.sd.map bsT),.sl (x.a.au.map bsT),.sl (x.a.en.map qA),.int .i64 x.a.act,.int .i64 x.a.res,.int .i64 x.a.rst,.int .i64 x.a.clk,.bool x.a.ord,.sl (x.a.bk.map wQ),.int .i64 x.a.u,.int .i64 x.a.mc,.sl (x.a.ix.map ixA),
 .int .i64 x.a.lk.fa,.int .i64 x.a.lk.mx,.int .i64 x.a.lk.rc,.int .i64 x.a.lk.si,.int .i64 x.a.lk.cl,.int .i64 x.a.lk.pe,.sl (x.a.ks.map lvA),
 .bool x.on,.bool x.off,.sl (x.bk.map wQ),.int .i64 x.u,.int .i64 x.clk,.bool x.safe,.int .i64 x.dr,.sl (x.ses.map jX),.sl (x.obs.map qBv),.sl (x.rl.map iT),.sl (x.wl.map iT)]
def azA (x:Az):T:= .agg [.int .i64 x.s,.sl (x.no.map qA),.sl (x.va.map qA)]
def rqA (x:Rq):T:= .agg [.int .i64 x.co,.sl (x.hs.map iT),.sl (x.au.map azA),.sl (x.ns.map iT),.sl (x.bl.map bsT)]
def rsA (x:Rs):T:= .agg [.int .i64 x.e,.sl (x.ns.map iT),.sl (x.bl.map bsT),.sl (x.no.map bsT)]
def jI2 (x:Asr):T:= .agg [.int .i64 x.kd,.int .i64 x.s0,.int .i64 x.s1,.sl (x.dg.map qA),.int .i64 x.n,.int .i64 x.op,.sl (x.od.map qA),.sl (x.nm.map qA),.sl (x.rf.map qA),.sl (x.br.map bsT)]
theorem qAf:(∀ (a b:V) (l m:List V),(a::l=b::m)=(a=b∧l=m))∧(∀ (a b:T) (l m:List T),(a::l=b::m)=(a=b∧l=m))∧(∀ a b,(V.t a=V.t b)=(a=b))∧(∀ k (a b:Int),(T.int k a=T.int k b)=(a=b))∧(∀ a b,(T.bool a=T.bool b)=(a=b))∧
  (∀ a b,(T.sl a=T.sl b)=(a=b))∧(∀ a b,(T.agg a=T.agg b)=(a=b))∧(∀ p:Prop,(p∧True)=p)∧(∀ p:Prop,(True∧p)=p)∧(∀ l m:List UInt8,(l.map qA=m.map qA)=(l=m))∧(∀ l m:List (List UInt8),(l.map bsT=m.map bsT)=(l=m))∧(∀ a b:UInt8,(qA a=qA b)=(a=b))∧
  (∀ l m:List qY,(l.map wQ=m.map wQ)=(l=m))∧(∀ l m:List Int,(l.map iT=m.map iT)=(l=m)):=by
 refine⟨sM,sM,sM,sM,sM,sM,sM,sM,sM,fun _ _=>jB,fun _ _=>qB1,fun _ _=>qM2,fun l m=>propext ⟨qBu (fun _ _=>qSt),fun h=>by rw[h]⟩,fun l m=>propext ⟨qBu (fun a b h=>by simpa [iT] using h),fun h=>by rw[h]⟩⟩
abbrev EI {α:Type}(f:α→T):Prop:=(∀ a b,(f a=f b)=(a=b))∧(∀ l m:List α,(l.map f=m.map f)=(l=m))
theorem xB {α:Type}{f:α→T}(h : ∀ a b,f a=f b→a=b):EI f:=⟨fun a b=>propext ⟨h a b,fun h=>by rw[h]⟩,fun l m=>propext ⟨qBu h,fun h=>by rw[h]⟩⟩
theorem jKl:EI puA:=xB (by rintro⟨⟩ ⟨⟩ h;simp only[puA,qAf] at h;obtain⟨rfl,rfl,rfl,rfl,rfl⟩:=h;rfl)
theorem jK7:EI snA:=xB (by rintro⟨⟩ ⟨⟩ h;simp only[snA,qAf] at h;obtain⟨rfl,rfl,rfl⟩:=h;rfl)
theorem zM2:EI qBv:=xB (by rintro⟨⟨⟩,⟨⟩,_⟩ ⟨⟨⟩,⟨⟩,_⟩ h;simp only[qBv,qAf] at h;obtain⟨rfl,rfl,rfl,rfl,rfl,rfl,rfl,rfl,rfl⟩:=h;rfl)
theorem zHq:EI jX:=xB (by rintro⟨⟩ ⟨⟩ h;simp only[jX,qAf] at h;obtain⟨rfl,rfl,rfl,rfl,rfl,rfl,rfl,rfl⟩:=h;rfl)
theorem zYb:EI ixA:=xB (by rintro⟨⟩ ⟨⟩ h;simp only[ixA,qAf] at h;obtain⟨rfl,rfl,rfl,rfl,rfl,rfl,rfl,rfl⟩:=h;rfl)
theorem zYj:EI lvA:=xB (by rintro⟨⟩ ⟨⟩ h;simp only[lvA,qAf] at h;obtain⟨rfl,rfl⟩:=h;rfl)
theorem jJ8:EI lkA:=xB (by rintro⟨⟩ ⟨⟩ h;simp only[lkA,qAf] at h;obtain⟨rfl,rfl,rfl,rfl,rfl,rfl⟩:=h;rfl)
theorem jCd:EI azA:=xB (by rintro⟨⟩ ⟨⟩ h;simp only[azA,qAf] at h;obtain⟨rfl,rfl,rfl⟩:=h;rfl)
theorem jCb:EI jI2:=xB (by rintro⟨⟩ ⟨⟩ h;simp only[jI2,qAf] at h;obtain⟨rfl,rfl,rfl,rfl,rfl,rfl,rfl,rfl,rfl,rfl⟩:=h;rfl)
theorem zZ1:EI rqA:=xB (by rintro⟨⟩ ⟨⟩ h;simp only[rqA,qAf,jCd] at h;obtain⟨rfl,rfl,rfl,rfl,rfl⟩:=h;rfl)
theorem jKw:EI rsA:=xB (by rintro⟨⟩ ⟨⟩ h;simp only[rsA,qAf] at h;obtain⟨rfl,rfl,rfl,rfl⟩:=h;rfl)
theorem jK3:EI saA:=xB (by rintro⟨_,_,_,_,_,_,_,_,_,_,_,_,⟨⟩,_⟩ ⟨_,_,_,_,_,_,_,_,_,_,_,_,⟨⟩,_⟩ h;simp only[saA,qAf,zYb,zYj] at h;obtain⟨rfl,rfl,rfl,rfl,rfl,rfl,rfl,rfl,rfl,rfl,rfl,rfl,rfl,rfl,rfl,rfl,rfl,rfl,rfl⟩:=h;rfl)
theorem jAt:EI stA:=xB (by rintro⟨⟨_,_,_,_,_,_,_,_,_,_,_,_,⟨⟩,_⟩,_,_,_,_,_,_,_,_,_,_,_⟩ ⟨⟨_,_,_,_,_,_,_,_,_,_,_,_,⟨⟩,_⟩,_,_,_,_,_,_,_,_,_,_,_⟩ h;simp only[stA,qAf,zYb,zYj,zHq,zM2] at h;obtain⟨rfl,rfl,rfl,rfl,rfl,rfl,rfl,rfl,rfl,rfl,rfl,rfl,rfl,rfl,rfl,rfl,rfl,rfl,rfl,rfl,rfl,rfl,rfl,rfl,rfl,rfl,rfl,rfl,rfl,rfl⟩:=h;rfl)
theorem qJ3:EI puA∧EI snA∧EI qBv∧EI jX∧EI ixA∧EI lvA∧EI lkA∧EI azA∧EI jI2∧EI rqA∧EI rsA∧EI saA∧EI stA:=⟨jKl,jK7,zM2,zHq,zYb,zYj,jJ8,jCd,jCb,zZ1,jKw,jK3,jAt⟩
def Pu.Ok (p:Pu):Prop:=(0≤p.kd∧p.kd≤3)∧(0≤p.ar∧p.ar≤7)∧(0≤p.ht∧p.ht≤3)∧p.po.length≤32∧p.un.length≤32
def Sn.Ok (s:Sn):Prop:=s.au.length≤32∧s.sd.length≤32∧s.da.length≤128
def Obj.Ok (x:Obj):Prop:=x.p.Ok∧x.s.Ok∧(0≤x.h∧x.h≤2)
def Ses.Ok (x:Ses):Prop:=(0≤x.kd∧x.kd≤3)∧x.no.length≤32∧x.dg.length≤32∧(0≤x.lo∧x.lo≤31)∧(0≤x.dl∧x.dl≤1100000000000000)
def Ix.Ok (x:Ix):Prop:=(0≤x.n∧x.n≤255)∧(0≤x.kd∧x.kd≤4)∧(0≤x.ar∧x.ar≤127)∧(0≤x.sz∧x.sz≤128)∧x.po.length≤32∧x.au.length≤32∧x.da.length≤128∧(x.kd=3→x.da.length=8)
def Lv.Ok (x:Lv):Prop:=x.un.length≤32∧0≤x.us∧x.us≤8
def Lk.Ok (x:Lk):Prop:=(0≤x.fa∧x.fa≤100)∧(0≤x.mx∧x.mx≤100)∧(0≤x.rc∧x.rc≤1048576)∧(0≤x.si∧x.si≤1100000000000000)∧(0≤x.cl∧x.cl≤1100000000000000)∧(0≤x.pe∧x.pe≤1048576)
def BkS (act:Int)(bk:List qY):Prop:=bk=[]∨(1≤act∧act≤3)∧ShA act bk
theorem BkS.rv {act:Int}{bk:List qY}(h:BkS act bk):RV bk:=by
 rcases h with rfl | ⟨_,h⟩
 ·exact⟨.nil,sM⟩
 ·exact h.rv
structure Sa.Ok (s:Sa):Prop where
 sd:s.sd.length=3 ∧ ∀ x∈s.sd,x.length≤32
 au:s.au.length=4 ∧ ∀ x∈s.au,x.length≤32
 en:s.en.length=32
 act:0≤s.act∧s.act≤3
 res:0≤s.res
 rst:0≤s.rst
 clk:0≤s.clk∧s.clk≤1099511627776
 bk:BkS s.act s.bk
 u:0≤s.u
 mc:0≤s.mc∧s.mc≤1099511627776
 ix:s.ix.length≤6 ∧ ∀ x∈s.ix,x.Ok
 lk:s.lk.Ok
 ks:s.ks.length≤8 ∧ ∀ x∈s.ks,x.Ok
structure St.Ok (s:St):Prop where
 a:s.a.Ok
 bk:BkS s.a.act s.bk
 u:0≤s.u
 clk:0≤s.clk∧s.clk≤1099511627776
 dr:0≤s.dr
 ses:s.ses.length=3 ∧ ∀ x∈s.ses,x.Ok
 obs:s.obs.length=3 ∧ ∀ x∈s.obs,x.Ok
def St.cn (s:St)(m:Int):Prop:=s.a.res≤m∧s.a.rst≤m∧s.a.u≤m∧s.u≤m∧s.dr≤m∧(s.rl.length:Int)≤m∧(s.wl.length:Int)≤m
def St.up (k:Int)(s t:St):Prop := ∀ m,s.cn m→t.cn (m+k)
theorem St.up.trans {k l:Int}{s t v:St}(h:s.up k t)(g:t.up l v):s.up (k+l) v:=fun m hm=>by rw[←Int.add_assoc];exact g _ (h m hm)
theorem St.cn.le {s:St}{m n:Int}(h:s.cn m)(e:m≤n):s.cn n:=by unfold St.cn at *;omega
theorem St.up.le {k l:Int}{s t:St}(h:s.up k t)(e:k≤l):s.up l t:=fun m hm=>(h m hm).le oM
def puT (p u:List UInt8):T:= .agg [.int .i64 3,.int .i64 0,.int .i64 0,.sl (p.map qA),.sl (u.map qA)]
theorem zNc {p u q v:List UInt8}(h:puT p u=puT q v):p=q∧u=v:=by
 simp only[puT,T.agg.injEq,List.cons.injEq,T.sl.injEq,true_and,and_true,jB] at h;exact h
def zAz (p u:List UInt8):List UInt8:=blL (blL [3,0,0] p) u
def qYi (p u:List UInt8):List UInt8:=qFf 6 [zAz p u]
abbrev L32 (p u:List UInt8):Prop:=p.length=32∧u.length=32
theorem qGu {p u:List UInt8}(h:L32 p u):(zAz p u).length=71:=by
 simp[zAz,vU,h.1,h.2]
theorem qMi {p u:List UInt8}:(qYi p u).length=32:=qN
def zGp:Ct where
 α:=Unit
 aS _:=[.t (.int .i64 3)]
 ins _:=[]
 pre _:=True
 r _:= .t (.int .i64 32)
 outs _:=[]
 inj:=fun _ _ _ _=>⟨rfl,rfl⟩
theorem jG0:zGp.fs [.t (.int .i64 3)] []=some (.t (.int .i64 32),[]):=zGp.eq () trivial
theorem qP1:qAh.1.wp tab gl (qF 0 [.t (.int .i64 3)]) (qF 0 []) (zD [(2,none)] 0 (fun r o=>r = .t (.int .i64 32)∧o=[])):=by
 simp(disch:=omega)only[go_sem,qAh]
theorem jQj:qOw .and .i64 0 .i64 4=some (.int .i64 0):=rfl
theorem jQh:qOw .and .i64 0 .i64 1=some (.int .i64 0):=rfl
def qXz:Ct where
 α:=List UInt8×List UInt8
 aS x:=[.t (puT x.1 x.2)]
 ins _:=[]
 pre x:=L32 x.1 x.2
 r _:= .t (.int .i64 0)
 outs _:=[]
 inj:=fun _ _ _ _=>⟨rfl,rfl⟩
theorem zZa {p u:List UInt8}(h:L32 p u):qXz.fs [.t (.agg [.int .i64 3,.int .i64 0,.int .i64 0,.sl (p.map qA),.sl (u.map qA)])] []=some (.t (.int .i64 0),[]):=qXz.eq (p,u) h
theorem zCl (h1:LkC tab 247 zGp)(p u:List UInt8)(h:L32 p u) :
  qF1.1.wp tab gl (qF 0 [.t (puT p u)]) (qF 0 []) (zD [(2,none)] 0 (fun r o=>r = .t (.int .i64 0)∧o=[])):=by
 obtain⟨hp,hu⟩:=h;simp(disch:=omega)only[go_sem,qF1,puT,h1,jG0,hp,hu,↓jQj,↓jQh];all_goals rfl
def qS1:Ct where
 α:=List UInt8×List UInt8
 aS x:=[.t (puT x.1 x.2)]
 ins _:=[]
 pre x:=L32 x.1 x.2
 r _:= .sl 0 0 71
 outs x:=[.live 1 (((zAz x.1 x.2).map qA).map V.t) true false]
 inj:=by
  rintro⟨a,b⟩ ⟨c,d⟩ h _;simp only[List.cons.injEq,V.t.injEq,and_true] at h;obtain⟨rfl,rfl⟩:=zNc h;exact⟨rfl,rfl⟩
theorem zM7 {p u:List UInt8}(h:L32 p u):qS1.fs [.t (.agg [.int .i64 3,.int .i64 0,.int .i64 0,.sl (p.map qA),.sl (u.map qA)])] []=some (.sl 0 0 71,[.live 1 (((zAz p u).map qA).map V.t) true false]):=qS1.eq (p,u) h
theorem qZu (h1:LkC tab 77 qE6)(p u:List UInt8)(h:L32 p u) :
  qEl.1.wp tab gl (qF 0 [.t (puT p u)]) (qF 0 []) (kU [] [(2,none)] 0 (fun r o=>r = .sl 0 0 71∧o=[.live 1 (((zAz p u).map qA).map V.t) true false])):=by
 obtain⟨hp,hu⟩:=h;have b1:=qE5 (b:=[3,0,0]) (x:=p) ⟨by decide,oM⟩;have b2:=qE5 (b:=blL [3,0,0] p) (x:=u) ⟨by simp[vU];omega,oM⟩;simp only[mcn] at b1;have l1:(blL [3,0,0] p).length=37:=by simp[vU,hp]
 have t1:List.take 37 (blL [3,0,0] p)=blL [3,0,0] p:=List.take_of_length_le oM;have k3:T.int .u8 (IntKind.u8.wrap 3)=qA 3:=rfl;have k0:T.int .u8 (IntKind.u8.wrap 0)=qA 0:=rfl;simp(disch:=omega)only[go_sem,qEl,puT,h1,k3,k0,b1,b2,hp,hu,l1,t1,zAz];rfl
def qS2:Ct where
 α:=List UInt8×List UInt8
 aS x:=[.t (puT x.1 x.2)]
 ins _:=[]
 pre x:=L32 x.1 x.2
 r x:= .t (.sl ((qYi x.1 x.2).map qA))
 outs _:=[]
 inj:=by
  rintro⟨a,b⟩ ⟨c,d⟩ h _;simp only[List.cons.injEq,V.t.injEq,and_true] at h;obtain⟨rfl,rfl⟩:=zNc h;exact⟨rfl,rfl⟩
theorem zM8 {p u:List UInt8}(h:L32 p u):qS2.fs [.t (.agg [.int .i64 3,.int .i64 0,.int .i64 0,.sl (p.map qA),.sl (u.map qA)])] []=some (.t (.sl ((qYi p u).map qA)),[]):=qS2.eq (p,u) h
theorem zL6 {t:Nat}{x:List UInt8}(h:x.length≤1000000):(zB t [x]).length<1000000000:=by
 simp only[zB,List.flatMap_cons,List.flatMap_nil,List.length_cons,List.length_append,List.length_nil,qBt];omega
theorem zQ8 {p u:List UInt8}(h:L32 p u):wI.fs [.t (.int .i64 6),.t (.sl [.sl ((zAz p u).map qA)])] []=some (.sl 0 0 32,[.live 1 (((qYi p u).map qA).map V.t) true false]):=wI.eq (6,[zAz p u]) ⟨by show 6<256;omega,zL6 (by rw[qGu h];omega)⟩
theorem zFf (h1:LkC tab 210 qS1)(h2:LkC tab 100 wI)(p u:List UInt8)(h:L32 p u) :
  qHq.1.wp tab gl (qF 0 [.t (puT p u)]) (qF 0 []) (zD [(2,none)] 0 (fun r o=>r = .t (.sl ((qYi p u).map qA))∧o=[])):=by
 have l:=qGu h;have t1:List.take 71 (zAz p u)=zAz p u:=List.take_of_length_le oM;have t2:List.take 32 (qYi p u)=qYi p u:=List.take_of_length_le (by rw[qMi];omega);simp(disch:=omega)only[go_sem,qHq,puT,h1,zM7 h,h2,l,t1,zQ8 h,t2,qMi]
theorem zP6 {a b:UInt8}:qH8 .or (qA a) (qA b)=some (qA (a ||| b)):=by
 change some (T.int .u8 (IntKind.u8.wrap ((BitVec.ofInt 8 (a.toNat:Int) ||| BitVec.ofInt 8 (b.toNat:Int)).toNat:Int)))=_;have e : ∀ x:UInt8,BitVec.ofInt 8 (x.toNat:Int)=x.toBitVec:=fun x=>BitVec.eq_of_toNat_eq sM
 rw[e,e,←UInt8.toBitVec_or,qU3];have:=(a ||| b).toNat_lt;unfold qA;rw[UInt8.toNat_toBitVec];congr 2;omega
def dfx (a b:List UInt8):Nat→UInt8
 | 0=>0
 | k+1=>dfx a b k ||| (a.getD k 0 ^^^ b.getD k 0)
theorem zSh {x y:UInt8}:x ||| y=0↔x=0∧y=0:=by
 constructor
 ·intro h;have h':x.toBitVec ||| y.toBitVec=0#8:=by
   have:=congrArg UInt8.toBitVec h;simpa using this
  have hx:x.toBitVec=0#8:=by
   apply BitVec.eq_of_getLsbD_eq;intro i hi;have:=congrArg (fun v=>v.getLsbD i) h';simp at this ⊢;exact this.1
  have hy:y.toBitVec=0#8:=by
   apply BitVec.eq_of_getLsbD_eq;intro i hi;have:=congrArg (fun v=>v.getLsbD i) h';simp at this ⊢;exact this.2
  exact⟨UInt8.toBitVec_inj.1 (by simpa using hx),UInt8.toBitVec_inj.1 (by simpa using hy)⟩
 ·rintro⟨rfl,rfl⟩;rfl
theorem zO8 {x y:UInt8}:x ^^^ y=0↔x=y:=by
 constructor
 ·intro h;have:(x ^^^ y) ^^^ y=0 ^^^ y:=by rw[h]
  rwa [UInt8.xor_assoc,UInt8.xor_self,UInt8.xor_zero,UInt8.zero_xor] at this
 ·rintro rfl;exact UInt8.xor_self
theorem zGt {a b:List UInt8} : ∀ {n:Nat},dfx a b n=0 ↔ ∀ k,k<n→a.getD k 0=b.getD k 0
 | 0=>by simp[dfx]
 | n+1=>by
  rw[dfx,zSh,zO8,zGt (n:=n)];constructor
  ·rintro⟨h1,h2⟩ k hk;rcases Nat.lt_or_ge k n with h | h
   ·exact h1 k h
   ·rw[show k=n by omega];exact h2
  ·intro h;exact⟨fun k hk=>h k oM,h n oM⟩
theorem jC4 {a b:List UInt8}(hl:a.length=b.length):dfx a b a.length=0↔a=b:=by
 rw[zGt];constructor
 ·intro h;apply List.ext_getElem hl;intro k h1 h2;have:=h k h1;rwa [List.getD_eq_getElem?_getD,List.getD_eq_getElem?_getD,List.getElem?_eq_getElem h1,List.getElem?_eq_getElem h2] at this
 ·rintro rfl k _;rfl
theorem zFg (a b:List UInt8)(h:a.length<1000000000∧b.length<1000000000) :
  qD5.1.wp tab gl (qF 0 [.t (.sl (a.map qA)),.t (.sl (b.map qA))]) (qF 0 []) (zD [(4,none)] 0 (fun r o=>r = .t (.bool (decide (a=b)))∧o=[])):=by
 by_cases hl:a.length=b.length
 ·simp(disch:=omega)only[go_sem,qD5,hl];refine qB b.length (fun k=>[(0,.t (.sl (a.map qA))),(1,.t (.sl (b.map qA))),(5,.t (qA (dfx a b k))),(13,.t (.int .i64 b.length)),(14,.t (.int .i64 k))]) (fun _=>[]) ?_ (fun k hk=>?_)
  ·refine qJ.rd id ?_ ?_ rfl;all_goals simp(disch:=omega)only[go_sem,id]
   all_goals rfl
  ·by_cases hlt:k<b.length
   ·simp(disch:=omega)only[go_sem,hlt,hl,zP6];refine⟨rfl,qJ.rd id ?_ ?_ rfl⟩;all_goals simp(disch:=omega)only[go_sem,id]
    all_goals rfl
   ·have e:k=b.length:=oM;subst e;have hd:=jC4 hl;rw[hl] at hd;simp(disch:=omega)only[go_sem];simp only[hd]
 ·have e:decide (a=b)=false:=decide_eq_false (fun h=>hl (by rw[h]));rw[e];simp(disch:=omega)only[go_sem,qD5,hl]
abbrev tmI (n:Int):Prop:=0≤n∧n≤1099511627776
inductive As where
 | reg (s0 s1:Int) (d:List UInt8)
 | alt (bs:List (List UInt8))
def asT:As→T
 | .reg s0 s1 d=> .agg [.int .i64 1,.int .i64 s0,.int .i64 s1,.sl (d.map qA),.int .i64 0,.int .i64 0,.sl [],.sl [],.sl [],.sl []]
 | .alt bs=> .agg [.int .i64 8,.int .i64 0,.int .i64 0,.sl [],.int .i64 0,.int .i64 0,.sl [],.sl [],.sl [],.sl (bs.map bsT)]
def As.Ok:As→Prop
 | .reg s0 s1 d=>(0≤s0∧s0≤65535)∧(0≤s1∧s1≤65535)∧d.length=32
 | .alt bs=>(2≤bs.length∧bs.length≤8) ∧ ∀ b∈bs,b.length=32
theorem zDl {a b:As}(h:asT a=asT b):a=b:=by
 cases a<;>cases b<;>simp only[asT,T.agg.injEq,List.cons.injEq,T.int.injEq,T.sl.injEq,true_and,and_true,jB,qB1] at h
 ·obtain⟨rfl,rfl,rfl⟩:=h;rfl
 ·exact absurd h.1 (by decide)
 ·exact absurd h.1 (by decide)
 ·subst h;rfl
def qYa (d0:List UInt8):As→List (List UInt8)
 | .reg s0 s1 d=>[d0,qB0 s0 s1,d]
 | .alt bs=>bs
def knd:As→UInt8
 | .reg .. => 1
 | .alt _=>8
def qU9 (d0:List UInt8)(a:As):List UInt8:=qFf 8 ([knd a]::qYa d0 a)
theorem qDr {d0:List UInt8}{a:As}:(qU9 d0 a).length=32:=qN
def z32:List UInt8:=List.replicate 32 0
theorem qAd:z32.length=32:=rfl
def qX0:Ct where
 α:=Int×Int×Int
 aS x:=[.t (.int .i64 x.1),.t (.int .i64 x.2.1),.t (.int .i64 x.2.2)]
 ins _:=[]
 pre _:=True
 r x:= .t (.bool (decide (x.2.1≤x.1)&&decide (x.1≤x.2.2)))
 outs _:=[]
 inj:=by
  rintro⟨a,b,c⟩ ⟨d,e,f⟩ h _;simp only[List.cons.injEq,V.t.injEq,T.int.injEq,true_and,and_true] at h;obtain⟨rfl,rfl,rfl⟩:=h;exact⟨rfl,rfl⟩
theorem qPn {n a b:Int}(h:a≤n∧n≤b):qX0.fs [.t (.int .i64 n),.t (.int .i64 a),.t (.int .i64 b)] []=some (.t (.bool true),[]):=by
 refine (qX0.eq (n,a,b) trivial).trans ?_;show some (V.t (T.bool (decide (a≤n)&&decide (n≤b))),[])=_;simp[h.1,h.2]
theorem qUy (n a b:Int) :
  qCg.1.wp tab gl (qF 0 [.t (.int .i64 n),.t (.int .i64 a),.t (.int .i64 b)]) (qF 0 []) (zD [(6,none)] 0 (fun r o=>r = .t (.bool (decide (a≤n)&&decide (n≤b)))∧o=[])):=by
 by_cases h:a≤n<;>by_cases k:n≤b;all_goals simp(disch:=omega)only[go_sem,qCg,h,k]
 all_goals simp[h,k]
def qXu:Ct where
 α:=Bool
 aS x:=[.t (.bool x)]
 ins _:=[]
 pre _:=True
 r x:= .t (.int .i64 (if x then 0 else 1))
 outs _:=[]
 inj:=by
  intro a b h _;simp only[List.cons.injEq,V.t.injEq,T.bool.injEq,and_true] at h;subst h;exact⟨rfl,rfl⟩
theorem qMk:qXu.fs [.t (.bool true)] []=some (.t (.int .i64 0),[]):=qXu.eq true trivial
theorem qP2 (x:Bool) :
  qAo.1.wp tab gl (qF 0 [.t (.bool x)]) (qF 0 []) (zD [(2,none)] 0 (fun r o=>r = .t (.int .i64 (if x then 0 else 1))∧o=[])):=by
 cases x;all_goals simp(disch:=omega)only[go_sem,qAo]
 all_goals rfl
def qO6:Ct where
 α:=As
 aS x:=[.t (asT x)]
 ins _:=[]
 pre x:=x.Ok
 r _:= .t (.int .i64 0)
 outs _:=[]
 inj:=fun _ _ _ _=>⟨rfl,rfl⟩
theorem zSl {s0 s1:Int}{d:List UInt8}(h:(As.reg s0 s1 d).Ok):qO6.fs [.t (.agg [.int .i64 1,.int .i64 s0,.int .i64 s1,.sl (d.map qA),.int .i64 0,.int .i64 0,.sl [],.sl [],.sl [],.sl []])] []=some (.t (.int .i64 0),[]):=qO6.eq (.reg s0 s1 d) h
theorem zSk {bs:List (List UInt8)}(h:(As.alt bs).Ok):qO6.fs [.t (.agg [.int .i64 8,.int .i64 0,.int .i64 0,.sl [],.int .i64 0,.int .i64 0,.sl [],.sl [],.sl [],.sl (bs.map bsT)])] []=some (.t (.int .i64 0),[]):=qO6.eq (.alt bs) h
theorem zMb {bs:List (List UInt8)}(h : ∀ b∈bs,b.length=32){k:Nat}(hk:k<bs.length):(bs.getD k []).length=32:=by
 rw[List.getD_eq_getElem?_getD,List.getElem?_eq_getElem hk];exact h _ (List.getElem_mem hk)
theorem qWr : ∀ {fs:List (List UInt8)} {t n:Nat},(∀ x∈fs,x.length≤n)→(zB t fs).length≤1+(4+n)*fs.length:=by
 intro fs
 induction fs with
 | nil=>intro t n _;simp[zB]
 | cons x r ih=>
  intro t n h;have h1:=h x sM;have h2:=ih (t:=t) (fun y hy=>h y (by simp[hy]));simp only[zB,List.length_cons,List.flatMap_cons,List.length_append,qBt] at h2 ⊢;rw[Nat.mul_add];omega
theorem zX1 {d0:List UInt8}{a:As}(h0:d0.length=32)(ha:a.Ok):(zB 8 ([knd a]::qYa d0 a)).length<1000000000:=by
 have h : ∀ x∈[knd a]::qYa d0 a,x.length≤32:=by
  intro x hx;rcases List.mem_cons.1 hx with rfl | hx
  ·exact Nat.le_of_ble_eq_true rfl
  ·cases a with
   | reg s0 s1 d=>
    simp only[qYa,List.mem_cons,List.not_mem_nil,or_false] at hx;rcases hx with rfl | rfl | rfl
    ·omega
    ·simp[qB0,qT]
    ·have:=ha.2.2;omega
   | alt bs=>have:=ha.2 x hx;omega
 have hl:([knd a]::qYa d0 a).length≤9:=by
  cases a with
  | reg s0 s1 d=>simp[qYa]
  | alt bs=>have:=ha.1.2;simp[qYa];omega
 have:=qWr (t:=8) h;omega
def qXw:Ct where
 α:=List UInt8×As
 aS x:=[.t (.sl (x.1.map qA)),.t (asT x.2)]
 ins _:=[]
 pre x:=x.1.length=32∧x.2.Ok
 r x:= .sl 0 0 32
 outs x:=[.live 1 (((qU9 x.1 x.2).map qA).map V.t) true false]
 inj:=by
  rintro⟨a,b⟩ ⟨c,d⟩ h _;simp only[List.cons.injEq,V.t.injEq,T.sl.injEq,and_true,jB] at h;obtain⟨rfl,h⟩:=h;rw[zDl h];exact⟨rfl,rfl⟩
theorem zY6 {d0:List UInt8}{a:As}(h0:d0.length=32)(ha:a.Ok):qXw.fs [.t (.sl (d0.map qA)),.t (asT a)] []=some (.sl 0 0 32,[.live 1 (((qU9 d0 a).map qA).map V.t) true false]):=qXw.eq (d0,a) ⟨h0,ha⟩
theorem k1b:T.int .u8 (IntKind.u8.wrap 1)=qA 1:=rfl
theorem k8b:T.int .u8 (IntKind.u8.wrap 8)=qA 8:=rfl
def qS3:Ct where
 α:=Unit
 aS _:=[]
 ins _:=[]
 pre _:=True
 r _:= .sl 0 0 32
 outs _:=[.live 1 ((z32.map qA).map V.t) true false]
 inj:=fun _ _ _ _=>⟨rfl,rfl⟩
theorem zNb:qS3.fs [] []=some (.sl 0 0 32,[.live 1 ((z32.map qA).map V.t) true false]):=qS3.eq () trivial
theorem qV6:qDd.1.wp tab gl (qF 0 []) (qF 0 []) (kU [] [(0,none)] 0 (fun r o=>r = .sl 0 0 32∧o=[.live 1 ((z32.map qA).map V.t) true false])):=by
 simp(disch:=omega)only[go_sem,qDd,z32]
theorem zCy:qF9.1.wp tab gl (qF 0 []) (qF 0 []) (kU [] [(0,none)] 0 (fun r o=>r = .sl 0 0 32∧o=[.live 1 ((z32.map qA).map V.t) true false])):=by
 simp(disch:=omega)only[go_sem,qF9,z32]
def qK0:Ct where
 α:=As
 aS x:=[.t (.sl [asT x])]
 ins _:=[]
 pre x:=x.Ok
 r x:= .t (.sl ((qU9 z32 x).map qA))
 outs _:=[]
 inj:=by
  intro a b h _;simp only[List.cons.injEq,V.t.injEq,T.sl.injEq,and_true] at h;rw[zDl h];exact⟨rfl,rfl⟩
theorem zEn {a:As}(h:a.Ok):qK0.fs [.t (.sl [asT a])] []=some (.t (.sl ((qU9 z32 a).map qA)),[]):=qK0.eq a h
theorem qZ3 (h1:LkC tab 24 qS3)(h2:LkC tab 25 qXw)(a:As)(ha:a.Ok) :
  qEy.1.wp tab gl (qF 0 [.t (.sl [asT a])]) (qF 0 []) (zD [(2,none)] 0 (fun r o=>r = .t (.sl ((qU9 z32 a).map qA))∧o=[])):=by
 have hE:=zY6 qAd ha;have t1:List.take 32 z32=z32:=rfl;have t2:List.take 32 (qU9 z32 a)=qU9 z32 a:=List.take_of_length_le (by rw[qDr];exact Nat.le_refl _);have l1:=qDr (d0:=z32) (a:=a);have l2:=qAd;cases a;all_goals simp only[asT] at *
 all_goals simp(disch:=omega)only[go_sem,qEy,h1,zNb]
 all_goals refine qG 2 ?_
 all_goals simp(disch:=omega)only[go_sem,qD,h2,t1,t2,l1,l2,hE]
def qXy:Ct where
 α:=Int×Int
 aS x:=[.t (.agg [.int .i64 x.1,.int .i64 x.2])]
 ins _:=[]
 pre x:=(0≤x.1∧x.1≤65535)∧(0≤x.2∧x.2≤65535)
 r _:= .t (.bool true)
 outs _:=[]
 inj:=fun _ _ _ _=>⟨rfl,rfl⟩
theorem zY9 {s0 s1:Int}(h0:0≤s0∧s0≤65535)(h1:0≤s1∧s1≤65535):qXy.fs [.t (.agg [.int .i64 s0,.int .i64 s1])] []=some (.t (.bool true),[]):=qXy.eq (s0,s1) ⟨h0,h1⟩
theorem qWc (s0 s1:Int)(h0:0≤s0∧s0≤65535)(h1:0≤s1∧s1≤65535):qDj.1.wp tab gl (qF 0 [.t (.agg [.int .i64 s0,.int .i64 s1])]) (qF 0 []) (zD [(2,none)] 0 (fun r o=>r = .t (.bool true)∧o=[])):=by
 have a1:=h0.1;have a2:=h0.2;have a3:=h1.1;have a4:=h1.2;simp(disch:=omega)only[go_sem,qDj,a1,a2,a3,a4]
def qXv:Ct where
 α:=List (List UInt8)
 aS x:=[.t (.sl (x.map bsT))]
 ins _:=[]
 pre x:=(As.alt x).Ok
 r _:= .t (.bool true)
 outs _:=[]
 inj:=fun _ _ _ _=>⟨rfl,rfl⟩
theorem zY5 {bs:List (List UInt8)}(h:(As.alt bs).Ok):qXv.fs [.t (.sl (bs.map bsT))] []=some (.t (.bool true),[]):=qXv.eq bs h
theorem qUz (bs:List (List UInt8))(ha:(As.alt bs).Ok) :
  qCh.1.wp tab gl (qF 0 [.t (.sl (bs.map bsT))]) (qF 0 []) (zD [(2,none)] 0 (fun r o=>r = .t (.bool true)∧o=[])):=by
 obtain⟨⟨a0,a2⟩,a1⟩:=ha;simp(disch:=omega)only[go_sem,qCh,a0,a2];refine qB bs.length (fun k=>[(0,.t (.sl (bs.map bsT))),(3,.t (.int .i64 k))]) (fun _=>[]) ?_ (fun k hk=>?_)
 ·refine qJ.rd id ?_ ?_ rfl;all_goals simp(disch:=omega)only[go_sem,id]
 ·by_cases hlt:k<bs.length
  ·have hb:=zMb a1 hlt;simp(disch:=omega)only[go_sem,hlt,hb];refine qJ.rd id ?_ ?_ rfl;all_goals simp(disch:=omega)only[go_sem,id]
  ·have e:k=bs.length:=oM;subst e;simp(disch:=omega)only[go_sem]
theorem zCw (h1:LkC tab 68 qXy)(h3:LkC tab 70 qXv)(a:As)(ha:a.Ok) :
  qCs.1.wp tab gl (qF 0 [.t (asT a)]) (qF 0 []) (zD [(2,none)] 0 (fun r o=>r = .t (.int .i64 0)∧o=[])):=by
 cases a with
 | reg s0 s1 d=>
  have l:=ha.2.2;simp(disch:=omega)only[go_sem,qCs,asT,h1,zY9 ha.1 ha.2.1,l]
 | alt bs=>
  simp(disch:=omega)only[go_sem,qCs,asT,h3,zY5 ha]
def qXx:Ct where
 α:=List UInt8×As
 aS x:=[.t (.sl (x.1.map qA)),.t (asT x.2)]
 ins _:=[]
 pre x:=x.1.length=32∧x.2.Ok
 r x:= .sl 0 0 (zB 8 ([knd x.2]::qYa x.1 x.2)).length
 outs x:=[.live 1 (((zB 8 ([knd x.2]::qYa x.1 x.2)).map qA).map V.t) true false]
 inj:=by
  rintro⟨a,b⟩ ⟨c,d⟩ h _;simp only[List.cons.injEq,V.t.injEq,T.sl.injEq,and_true,jB] at h;obtain⟨rfl,h⟩:=h;rw[zDl h];exact⟨rfl,rfl⟩
theorem zY7 {d0:List UInt8}{a:As}(h0:d0.length=32)(ha:a.Ok):qXx.fs [.t (.sl (d0.map qA)),.t (asT a)] []=some (.sl 0 0 (zB 8 ([knd a]::qYa d0 a)).length,[.live 1 (((zB 8 ([knd a]::qYa d0 a)).map qA).map V.t) true false]):=qXx.eq (d0,a) ⟨h0,ha⟩
theorem zCx (h1:LkC tab 22 yR)(h2:LkC tab 35 qEa)(d0:List UInt8)(a:As)(h0:d0.length=32)(ha:a.Ok) :
  qCt.1.wp tab gl (qF 0 [.t (.sl (d0.map qA)),.t (asT a)]) (qF 0 []) (kU [] [(4,none)] 0 (fun r o=>r = .sl 0 0 (zB 8 ([knd a]::qYa d0 a)).length∧o=[.live 1 (((zB 8 ([knd a]::qYa d0 a)).map qA).map V.t) true false])):=by
 have hF:=qRw (t:=8) (fs:=[knd a]::qYa d0 a) ⟨oM,zX1 h0 ha⟩;have hM:=zX1 h0 ha;generalize zB 8 ([knd a]::qYa d0 a)=f at *;have tf:List.take f.length f=f:=List.take_length;cases a with
 | reg s0 s1 d=>
  have hu:=qJ7 (b:=[]) (n:=s0) (by decide);simp only[List.map_nil,List.length_nil,List.nil_append] at hu;have hv:=qJ7 (b:=beI 2 s0 2) (n:=s1) (by rw[qT];omega);rw[qT] at hv;have t2:List.take 2 (beI 2 s0 2)=beI 2 s0 2:=List.take_of_length_le (by rw[qT];exact Nat.le_refl _);have t4:List.take 4 (beI 2 s0 2++beI 2 s1 2)=beI 2 s0 2++beI 2 s1 2:=List.take_of_length_le (by rw[List.length_append,qT,qT];exact Nat.le_refl _);simp only[qYa,qB0,knd,mcn,qO] at hF;rw[show ((8:Nat):Int)=8 from rfl] at hF;simp(disch:=omega)only[go_sem,qCt,asT,h1,hu,hv,qT,t2,t4,k1b,h2,hF,tf];all_goals rfl
 | alt bs=>
  have l:=ha.1;have t1:List.take (1+bs.length) (T.sl [qA 8]::List.map bsT bs)=T.sl [qA 8]::List.map bsT bs:=List.take_of_length_le soM;simp only[qYa,knd,mcn] at hF;rw[show ((8:Nat):Int)=8 from rfl,qO] at hF;simp only[mcn] at hF;simp(disch:=omega)only[go_sem,qCt,asT,k8b,t1,h2,hF,tf];all_goals rfl
theorem qZ4 (h1:LkC tab 38 qO6)(h2:LkC tab 39 qXx)(h3:tab.look 34=some (qQk 32 jC).fs)(d0:List UInt8)(a:As)(h0:d0.length=32)(ha:a.Ok) :
  qBs.1.wp tab gl (qF 0 [.t (.sl (d0.map qA)),.t (asT a)]) (qF 0 []) (kU [] [(4,none)] 0 (fun r o=>r = .sl 0 0 32∧o=[.live 1 (((qU9 d0 a).map qA).map V.t) true false])):=by
 have hF:=zY7 h0 ha;have hM:=zX1 h0 ha;have hS:=zHu (n:=32) (f:=jC) hM;have hX:jC (zB 8 ([knd a]::qYa d0 a))=qU9 d0 a:=rfl;rw[hX] at hS;generalize zB 8 ([knd a]::qYa d0 a)=f at *;have t1:List.take f.length f=f:=List.take_length;cases a with
 | reg s0 s1 d=>
  have hC:=zSl ha;generalize qU9 d0 (.reg s0 s1 d)=x at *;simp only[asT] at *;simp(disch:=omega)only[go_sem,qBs,h1,hC,h2,hF,t1,h3,hS]
 | alt bs=>
  have hC:=zSk ha;generalize qU9 d0 (.alt bs)=x at *;simp only[asT] at *;simp(disch:=omega)only[go_sem,qBs,h1,hC,h2,hF,t1,h3,hS]
theorem zMj:((1024:Nat):Int)=1024:=rfl
def snT (a s d:List UInt8):T:= .agg [.sl (a.map qA),.sl (s.map qA),.sl (d.map qA)]
theorem jAq {a s d b t e:List UInt8}(h:snT a s d=snT b t e):a=b∧s=t∧d=e:=by
 simp only[snT,T.agg.injEq,List.cons.injEq,T.sl.injEq,true_and,and_true,jB] at h;exact h
def jP7:List UInt8:=[115,101,101,100]
def qZc (s d:List UInt8):List UInt8:=qFf 13 [s,d]
theorem qG5 {s d:List UInt8}:(qZc s d).length=32:=qN
theorem zL7 {t:Nat}{x y:List UInt8}(hx:x.length≤1000000)(hy:y.length≤1000000):(zB t [x,y]).length<1000000000:=by
 simp only[zB,List.flatMap_cons,List.flatMap_nil,List.length_cons,List.length_append,List.length_nil,qBt];omega
theorem zQ9 {s d:List UInt8}(hs:s.length≤1000000)(hd:d.length≤1000000):wI.fs [.t (.int .i64 13),.t (.sl [.sl (s.map qA),.sl (d.map qA)])] []=some (.sl 0 0 32,[.live 1 (((qZc s d).map qA).map V.t) true false]):=wI.eq (13,[s,d]) ⟨by show 13<256;omega,zL7 hs hd⟩
def zGo:Ct where
 α:=List UInt8×List UInt8×List UInt8
 aS x:=[.t (.int .i64 3),.t (.int .i64 0),.t (snT x.1 x.2.1 x.2.2)]
 ins _:=[]
 pre x:=x.2.1.length≤1000000∧x.2.2.length≤1000000
 r _:= .sl 0 0 32
 outs x:=[.live 1 (((qZc x.2.1 x.2.2).map qA).map V.t) true false]
 inj:=by
  rintro⟨a,b,c⟩ ⟨d,e,f⟩ h _;simp only[List.cons.injEq,V.t.injEq,true_and,and_true] at h;obtain⟨rfl,rfl,rfl⟩:=jAq h;exact⟨rfl,rfl⟩
theorem jGz {a s d:List UInt8}(h:s.length≤1000000∧d.length≤1000000):zGo.fs [.t (.int .i64 3),.t (.int .i64 0),.t (.agg [.sl (a.map qA),.sl (s.map qA),.sl (d.map qA)])] []=some (.sl 0 0 32,[.live 1 (((qZc s d).map qA).map V.t) true false]):=zGo.eq (a,s,d) h
theorem qZ6 (h2:LkC tab 100 wI)(a s d:List UInt8)(h:s.length≤1000000∧d.length≤1000000) :
  qE4.1.wp tab gl (qF 0 [.t (.int .i64 3),.t (.int .i64 0),.t (snT a s d)]) (qF 0 []) (kU [] [(6,none)] 0 (fun r o=>r = .sl 0 0 32∧o=[.live 1 (((qZc s d).map qA).map V.t) true false])):=by
 simp(disch:=omega)only[go_sem,qE4,snT,h2,zQ9 h.1 h.2]
def zVa:Ct where
 α:=Int
 aS x:=[.t (.int .i64 x)]
 ins _:=[]
 pre _:=True
 r x:= .tup [.t (.agg [.int .i64 0,.int .i64 0,.int .i64 0,.sl [],.sl []]),.t (.agg [.sl [],.sl [],.sl []]),.t (.int .i64 x)]
 outs _:=[]
 inj:=by
  intro a b h _;simp only[List.cons.injEq,V.t.injEq,T.int.injEq,true_and,and_true] at h;subst h;exact⟨rfl,rfl⟩
theorem qZ5 (e:Int):qE3.1.wp tab gl (qF 0 [.t (.int .i64 e)]) (qF 0 []) (zD [(2,some (5,true)),(3,some (3,true)),(4,none)] 0 (fun r o=>r = .tup [.t (.agg [.int .i64 0,.int .i64 0,.int .i64 0,.sl [],.sl []]),.t (.agg [.sl [],.sl [],.sl []]),.t (.int .i64 e)]∧o=[])):=by
 simp(disch:=omega)only[go_sem,qE3]
def qQo (sec:List UInt8):List UInt8:=drv sec jP7 [] 32
theorem zXo {k:List UInt8}(h:k.length≤64):qS0.fs [.t (.sl (k.map qA)),.t (qN9 [115,101,101,100]),.t (.sl []),.t (.int .i64 32)] []=some (.t (.sl ((qQo k).map qA)),[]):=zGv (l:=jP7) (c:=[]) (n:=32) ⟨h,by decide,by decide,oM,oM⟩
def u8I (n:Int):UInt8:=UInt8.ofNat (n%256).toNat
theorem u8w {n:Int}:T.int .u8 (IntKind.u8.wrap n)=qA (u8I n):=by
 unfold qA u8I;rw[qU3];congr 1;have h0:=Int.emod_nonneg n (b:=256) (by decide);have h1:=Int.emod_lt_of_pos n (b:=256) (by decide);rw[UInt8.toNat_ofNat'];omega
def qCu (s:Sa):St:=⟨s,false,false,[],0,0,false,0,[default,default,default],[default,default,default],[],[]⟩
def qS5:ECt where
 α:=Sa
 β:=St
 aS:=fun s=>[.t (saA s)]
 pre:=fun s=>True
 r:=fun r'=> .t (stA r')
 R:=fun s r'=>r'=qCu s
theorem jCh {g:EF qS5}{s:Sa}:qS5.fs g [.t (saA s)] []=some (.t (stA (qCu s)),[]):=fnQ qS5 s trivial
theorem jT6 {s:Sa}(hV:vv = .t (stA (qCu s)))(hO:oo=[]):qS5.K s vv oo:=⟨_,rfl,hV,hO⟩
def zCe (s:St):St := { s with a := { s.a with res:=s.a.res+1,rst:=0,ord:=false,bk:=[],u:=0 },on:=true,bk:=yJ s.a.act,u:=0,clk:=s.a.clk,safe:=s.a.ord }
def jSc (s:St):St := { s with a := { s.a with rst:=s.a.rst+1,ord:=false,bk:=[],u:=0 },on:=true,bk:=zEp s.a.bk,u:=s.a.u,clk:=s.a.clk,safe:=s.a.ord }
def jB0 (s:St)(m:Int):St×Int:=
 if s.on=true∨s.off=true then (default,28) else if m≠0∧m≠1 then (default,1) else if m=1∧s.a.bk.length=0 then (default,16)
 else if m=0 then (zCe s,0) else (jSc s,0)
theorem zMy {act:Int}(ha:1≤act∧act≤3) : ∃ b0 b1:qY,yJ act=[b0,b1]∧kN.fs [.t (.int .i64 act)] []=some (.agg [.sl 0 0 2,.t (.int .i64 0)],[.live 1 [.sl 1 0 b0.length,.sl 2 0 b1.length] true false,.live 1 ((b0.map bsT).map V.t) true false,.live 1 ((b1.map bsT).map V.t) true false]):=by
 obtain⟨b0,b1,e,_⟩:=ShA.new ha;refine⟨b0,b1,e,?_⟩;have h:kN.fs [.t (.int .i64 act)] []=some (twR (yJ act) 0,twO (yJ act)):=kN.eq act trivial;rw[e] at h;exact h
theorem jTk:kN.fs [.t (.int .i64 0)] []=some (.agg [.nil,.t (.int .i64 0)],[]):=kN.eq (0:Int) trivial
def qTb:ECt where
 α:=St×Int
 β:=St×Int
 aS:=fun (s,m)=>[.t (stA s),.t (.int .i64 m)]
 pre:=fun (s,m)=>s.a.Ok∧s.cn 1000000
 r:=fun (y,e)=> .tup [.t (stA y),.t (.int .i64 e)]
 R:=fun (s,m) (y,e)=>y=(jB0 s m).1∧e=(jB0 s m).2
theorem jGi {g:EF qTb}{s:St}{m:Int}(hp:s.a.Ok∧s.cn 1000000) : ∃ (y:St) (e:Int),(y=(jB0 s m).1∧e=(jB0 s m).2)∧qTb.fs g [.t (stA s),.t (.int .i64 m)] []=some (.tup [.t (stA y),.t (.int .i64 e)],[]):=by
 obtain⟨y,h1,h2⟩:=qTb.eq g (s,m) hp;exact⟨y.1,y.2,h1,h2⟩
theorem jS2 {s:St}{m:Int}(y:St)(e:Int)(hR:y=(jB0 s m).1∧e=(jB0 s m).2)(hV:vv = .tup [.t (stA y),.t (.int .i64 e)])(hO:oo=[]):qTb.K (s,m) vv oo:=⟨(y,e),hR,hV,hO⟩
def jP8 (s:St)(k:List qY)(u:Int):St := { qCu { s.a with ord:=s.safe,clk:=s.clk,bk:=k,u:=u } with off:=true }
def jP9 (s:St)(m:Int):St×Int:=
 if s.on=false then (default,28) else if m=0 then (jP8 s [] 0,0) else if m=1 then (jP8 s s.bk s.u,0) else (default,1)
def zLf:ECt where
 α:=St×Int
 β:=St×Int
 aS:=fun (s,m)=>[.t (stA s),.t (.int .i64 m)]
 pre:=fun (s,m)=>True
 r:=fun (y,e)=> .tup [.t (stA y),.t (.int .i64 e)]
 R:=fun (s,m) (y,e)=>y=(jP9 s m).1∧e=(jP9 s m).2
theorem jTq {s:St}{m:Int}(y:St)(e:Int)(hR:y=(jP9 s m).1∧e=(jP9 s m).2)(hV:vv = .tup [.t (stA y),.t (.int .i64 e)])(hO:oo=[]):zLf.K (s,m) vv oo:=⟨(y,e),hR,hV,hO⟩
def jRz (s:St):List UInt8:=beI 8 s.a.res 8++beI 8 s.a.rst 8++beI 8 s.dr 8
def qR1 (s:St)(n:Int):List UInt8:=drv s.a.en [114,97,110,100,111,109] (jRz s) n.toNat
def qPc:ECt where
 α:=St×Int
 β:=St×List UInt8
 aS:=fun (s,n)=>[.t (stA s),.t (.int .i64 n)]
 pre:=fun (s,n)=>s.a.en.length=32∧(0≤s.dr∧s.dr≤1000000000)∧1≤n∧n≤1024
 r:=fun (y,b)=> .tup [.t (stA y),.t (.sl (b.map qA))]
 R:=fun (s,n) (y,b)=>y = { s with dr:=s.dr+1 }∧b=qR1 s n
theorem jFp {g:EF qPc}{s:St}{n:Int}(hp:s.a.en.length=32∧(0≤s.dr∧s.dr≤1000000000)∧1≤n∧n≤1024) : ∃ (y:St) (b:List UInt8),(y = { s with dr:=s.dr+1 }∧b=qR1 s n)∧qPc.fs g [.t (stA s),.t (.int .i64 n)] []=some (.tup [.t (stA y),.t (.sl (b.map qA))],[]):=by
 obtain⟨y,h1,h2⟩:=qPc.eq g (s,n) hp;exact⟨y.1,y.2,h1,h2⟩
theorem jT9 {s:St}{n:Int}(y:St)(b:List UInt8)(hR:y = { s with dr:=s.dr+1 }∧b=qR1 s n)(hV:vv = .tup [.t (stA y),.t (.sl (b.map qA))])(hO:oo=[]):qPc.K (s,n) vv oo:=⟨(y,b),hR,hV,hO⟩
def ixP:List Ix→Int→Nat→Int
 | [],_,_ => -1
 | x::r,h,k=>if h=256+x.n then (k:Int) else ixP r h (k+1)
theorem qX {α:Type}{l:List α}{k:Nat}(h:k<l.length) : ∃ x,l[k]?=some x∧x∈l∧l.drop k=x::l.drop (k+1):=⟨l[k],List.getElem?_eq_getElem h,List.getElem_mem h,List.drop_eq_getElem_cons h⟩
structure Sl2 where
 a:Int
 b:Int
 deriving Inhabited
structure Att where
 key:List UInt8
 no:List UInt8
 res:Int
 rst:Int
 clk:Int
 safe:Bool
 u:Int
 s0:Int
 s1:Int
 dg:List UInt8
 deriving Inhabited
structure Rr where
 bk:List qY
 u:Int
 deriving Inhabited
def jAp (x:Sl2):T:= .agg [.int .i64 x.a,.int .i64 x.b]
def jI3 (x:Att):T:= .agg [.sl (x.key.map qA),.sl (x.no.map qA),.int .i64 x.res,.int .i64 x.rst,.int .i64 x.clk,.bool x.safe,.int .i64 x.u,.int .i64 x.s0,.int .i64 x.s1,.sl (x.dg.map qA)]
def rrA (x:Rr):T:= .agg [.sl (x.bk.map wQ),.int .i64 x.u]
theorem jGh:EI jAp:=xB (by rintro⟨⟩ ⟨⟩ h;simp only[jAp,qAf] at h;obtain⟨rfl,rfl⟩:=h;rfl)
theorem jCc:EI jI3:=xB (by rintro⟨⟩ ⟨⟩ h;simp only[jI3,qAf] at h;obtain⟨rfl,rfl,rfl,rfl,rfl,rfl,rfl,rfl,rfl,rfl⟩:=h;rfl)
theorem jKv:EI rrA:=xB (by rintro⟨⟩ ⟨⟩ h;simp only[rrA,qAf] at h;obtain⟨rfl,rfl⟩:=h;rfl)
theorem jQz:EI jAp∧EI jI3∧EI rrA:=⟨jGh,jCc,jKv⟩
def Asr.B (a:Asr):Prop:=a.dg.length≤4000∧a.od.length≤4000∧a.nm.length≤4000∧a.rf.length≤4000∧a.br.length≤8 ∧ ∀ x∈a.br,x.length≤4000
def Rq.B (q:Rq):Prop:=q.hs.length≤8∧q.au.length≤8∧q.ns.length≤8∧q.bl.length≤8∧(∀ x∈q.bl,x.length≤4000) ∧ ∀ a∈q.au,a.no.length≤4000∧a.va.length≤4000
def jBz:List (Int×Int×Int×Int):=[(-2,0,0,0),(0,0,1,0),(0,0,1,0),(-2,0,0,0),(0,0,0,0),(0,0,2,0),(0,0,1,2),(0,0,1,1),(0,0,1,0),
 (1,1,3,3),(1,1,3,3),(1,1,0,2),(0,0,1,0),(1,1,0,0),(1,1,0,1),(1,1,2,1),(0,0,1,0),(0,0,6,-1),(1,1,2,1),(0,0,1,3),(0,0,1,0),
 (1,1,4,2),(1,1,1,0),(2,1,1,1),(2,1,2,0),(2,1,0,0),(2,1,0,1),(2,1,0,1),(2,1,0,0),(2,1,0,0),(1,1,0,1),(1,1,0,0),(1,1,0,0),(1,1,3,0)]
def qG3 (c:Int):Int×Int×Int×Int:=if c<0∨34≤c then (-2,0,0,0) else jBz.getD c.toNat (-2,0,0,0)
structure Rq.Ok (q:Rq):Prop where
 co:(0≤q.co∧q.co<34)∧(qG3 q.co).1 ≠ -2
 hs:(q.hs.length:Int)=(qG3 q.co).1 ∧ ∀ x∈q.hs,0≤x∧x≤65535
 au:(q.au.length:Int)=(qG3 q.co).2.1 ∧ ∀ a∈q.au,tmI a.s∧a.no.length≤128∧a.va.length≤128
 ns:(q.ns.length:Int)=(qG3 q.co).2.2.1 ∧ ∀ x∈q.ns,tmI x
 bl:((q.bl.length:Int)=(qG3 q.co).2.2.2∨(qG3 q.co).2.2.2 = -1∧q.bl.length≤8) ∧ ∀ x∈q.bl,x.length≤1024
def Rq.h0 (q:Rq):Int:=q.hs.getD 0 0
def Rq.h1 (q:Rq):Int:=q.hs.getD 1 0
def St.Go (k:Int)(s t:St):Prop:=t.Ok∧s.up k t
def zXq:ECt where
 α:=List UInt8×List UInt8
 β:=Int
 aS:=fun (a,b)=>[.t (.sl (a.map qA)),.t (.sl (b.map qA))]
 pre:=fun (a,b)=>a.length≤4000∧b.length≤4000
 r:=fun e=> .t (.int .i64 e)
 R:=fun (a,b) e=>True
theorem jT7 {a b:List UInt8}(e:Int)(hR:True)(hV:vv = .t (.int .i64 e))(hO:oo=[]):zXq.K (a,b) vv oo:=⟨e,hR,hV,hO⟩
def qB5:Ses:=⟨0,[],[],0,0,0,0,false⟩
def zWj (s:St)(h:Int):Int:=if h<768∨3≤h-768 then -1 else if (s.ses.getD (h-768).toNat qB5).kd=0 then -1 else h-768
def qGn:ECt where
 α:=St×Int×Ses
 β:=St
 aS:=fun (s,k,x)=>[.t (stA s),.t (.int .i64 k),.t (jX x)]
 pre:=fun (s,k,x)=>s.ses.length=3∧0≤k∧k≤2
 r:=fun r'=> .t (stA r')
 R:=fun (s,k,x) r'=>r' = { s with ses:=s.ses.set k.toNat x }
theorem zNa {g:EF qGn}{s:St}{k:Int}{x:Ses}(hp:s.ses.length=3∧0≤k∧k≤2):qGn.fs g [.t (stA s),.t (.int .i64 k),.t (jX x)] []=some (.t (stA ({ s with ses:=s.ses.set k.toNat x })),[]):=fnQ qGn (s,k,x) hp
theorem jKk {s:St}{k:Int}{x:Ses}(hV:vv = .t (stA ({ s with ses:=s.ses.set k.toNat x })))(hO:oo=[]):qGn.K (s,k,x) vv oo:=⟨_,rfl,hV,hO⟩
structure Dk where
 ar:List (List UInt8)
 wr:Int
 cut:Int
 tn:Int
 off:Bool
 deriving Inhabited
structure Dv where
 k:Dk
 s:St
 on:Bool
 nx:Int
 deriving Inhabited
structure Fo where
 nm:List UInt8
 va:List UInt8
 po:List UInt8
 pr:Bool
 deriving Inhabited
inductive Av where
 | reg (s0 s1:Int) (d:List UInt8)
 | loc (n:Int)
 | cmd (n:Int)
 | idx (op:Int) (od nm:List UInt8)
 | aut
 | alt (bs:List (List UInt8))
 | apr (nm rf:List UInt8)
 deriving Inhabited
def dkA (x:Dk):T:= .agg [.sl (x.ar.map bsT),.int .i64 x.wr,.int .i64 x.cut,.int .i64 x.tn,.bool x.off]
def dvA (d:Dv):T:= .agg [.sl (d.k.ar.map bsT),.int .i64 d.k.wr,.int .i64 d.k.cut,.int .i64 d.k.tn,.bool d.k.off,
 .sl (d.s.a.sd.map bsT),.sl (d.s.a.au.map bsT),.sl (d.s.a.en.map qA),.int .i64 d.s.a.act,.int .i64 d.s.a.res,.int .i64 d.s.a.rst,.int .i64 d.s.a.clk,.bool d.s.a.ord,.sl (d.s.a.bk.map wQ),.int .i64 d.s.a.u,.int .i64 d.s.a.mc,.sl (d.s.a.ix.map ixA),
 .int .i64 d.s.a.lk.fa,.int .i64 d.s.a.lk.mx,.int .i64 d.s.a.lk.rc,.int .i64 d.s.a.lk.si,.int .i64 d.s.a.lk.cl,.int .i64 d.s.a.lk.pe,.sl (d.s.a.ks.map lvA),
 .bool d.s.on,.bool d.s.off,.sl (d.s.bk.map wQ),.int .i64 d.s.u,.int .i64 d.s.clk,.bool d.s.safe,.int .i64 d.s.dr,.sl (d.s.ses.map jX),.sl (d.s.obs.map qBv),.sl (d.s.rl.map iT),.sl (d.s.wl.map iT),.bool d.on,.int .i64 d.nx]
def foA (x:Fo):T:= .agg [.sl (x.nm.map qA),.sl (x.va.map qA),.sl (x.po.map qA),.bool x.pr]
def avL (k s0 s1:Int)(d:List UInt8)(n op:Int)(od nm rf:List UInt8)(br:List (List UInt8)):T:= .agg [.int .i64 k,.int .i64 s0,.int .i64 s1,.sl (d.map qA),.int .i64 n,.int .i64 op,.sl (od.map qA),.sl (nm.map qA),.sl (rf.map qA),.sl (br.map bsT)]
def avA:Av→T
 | .reg s0 s1 d=>avL 1 s0 s1 d 0 0 [] [] [] []
 | .loc n=>avL 2 0 0 [] n 0 [] [] [] []
 | .cmd n=>avL 3 0 0 [] n 0 [] [] [] []
 | .idx op od nm=>avL 4 0 0 [] 0 op od nm [] []
 | .aut=>avL 7 0 0 [] 0 0 [] [] [] []
 | .alt bs=>avL 8 0 0 [] 0 0 [] [] [] bs
 | .apr nm rf=>avL 9 0 0 [] 0 0 [] nm rf []
theorem jC5:EI dkA:=xB (by rintro⟨⟩ ⟨⟩ h;simp only[dkA,qAf] at h;obtain⟨rfl,rfl,rfl,rfl,rfl⟩:=h;rfl)
theorem jJu:EI foA:=xB (by rintro⟨⟩ ⟨⟩ h;simp only[foA,qAf] at h;obtain⟨rfl,rfl,rfl,rfl⟩:=h;rfl)
theorem jJo:EI dvA:=xB (by
 rintro⟨⟨⟩,s,_,_⟩ ⟨⟨⟩,t,_,_⟩ h;have hs:stA s=stA t:=by
  simp only[dvA,qAf] at h;obtain⟨_,_,_,_,_,h⟩:=h;simp only[stA,qAf];simp only[h,and_self]
 obtain rfl:=(jAt.1 s t).mp hs;simp only[dvA,qAf] at h;obtain⟨rfl,rfl,rfl,rfl,rfl,h⟩:=h;obtain⟨rfl,rfl⟩:=h;rfl)
theorem jI4:EI avA:=xB (by
 intro a b h;cases a<;>cases b<;>simp only[avA,avL,qAf] at h;all_goals first | rfl | (obtain⟨rfl,rfl,rfl⟩:=h;rfl) | (obtain⟨rfl,rfl⟩:=h;rfl) | (subst h;rfl) | exact absurd h.1 (by decide) | (exfalso;revert h;simp))
theorem qRv:EI dkA∧EI dvA∧EI foA∧EI avA:=⟨jC5,jJo,jJu,jI4⟩
def Av.Ok:Av→Prop
 | .reg s0 s1 d=>(0≤s0∧s0≤65535)∧(0≤s1∧s1≤65535)∧d.length=32
 | .loc n=>1≤n∧n≤31
 | .cmd n=>1≤n∧n≤255
 | .idx op od nm=>(0≤op∧op≤3)∧od.length≤128∧nm.length=32
 | .aut=>True
 | .alt bs=>(2≤bs.length∧bs.length≤8) ∧ ∀ b∈bs,b.length=32
 | .apr nm rf=>nm.length=32∧rf.length≤128
def zD7 (d0:List UInt8):Av→List (List UInt8)
 | .reg s0 s1 d=>[d0,qB0 s0 s1,d]
 | .loc n=>[d0,[u8I n]]
 | .cmd n=>[d0,[u8I n]]
 | .idx op od nm=>[d0,[u8I op],od,nm]
 | .aut=>[d0]
 | .alt bs=>bs
 | .apr nm rf=>[nm,rf]
def zVy:Av→UInt8
 | .reg .. => 1
 | .loc _=>2
 | .cmd _=>3
 | .idx .. => 4
 | .aut=>7
 | .alt _=>8
 | .apr .. => 9
def zD3 (d0:List UInt8)(a:Av):List UInt8:=qFf 8 ([zVy a]::zD7 d0 a)
theorem qGv {d0:List UInt8}{a:Av}:(zD3 d0 a).length=32:=qN
theorem jDi {d0:List UInt8}{a:Av}(h0:d0.length=32)(ha:a.Ok):(zB 8 ([zVy a]::zD7 d0 a)).length<1000000000:=by
 have h : ∀ x∈[zVy a]::zD7 d0 a,x.length≤128:=by
  intro x hx;rcases List.mem_cons.1 hx with rfl | hx
  ·exact Nat.le_of_ble_eq_true rfl
  ·cases a<;>simp only[zD7,List.mem_cons,List.not_mem_nil,or_false] at hx<;>simp only[Av.Ok] at ha
   case alt bs=>have:=ha.2 x hx;omega
   all_goals (rcases hx with rfl | rfl | rfl | rfl)<;>first | omega | (simp[qB0,qT];done) | (simp;done) | skip
   all_goals simp_all
 have hl:([zVy a]::zD7 d0 a).length≤9:=by
  cases a<;>simp only[zD7,List.length_cons,List.length_nil]<;>simp only[Av.Ok] at ha<;>omega
 have:=qWr (t:=8) h;omega
def Obj.Se (x:Obj):Prop:=(x=default∨(x.p.kd=3∧x.p.ar=0∧x.p.ht=0∧x.p.po.length=32∧x.p.un.length=32))∧x.s.au.length≤32∧x.s.da.length≤128
def cnI (w:Bool)(d:List UInt8):Ix:=⟨1,2,48,8,[],[],w,d⟩
def Ses.Tp (x:Ses):Prop:=x.dg.length≤32∧x.no.length≤16∧x.dl=0∧(x.kd=0∨(x.dg.length=32∧(x.kd=2∨x.kd=3)∧(0≤x.lo∧x.lo≤31)∧(x.cm=0∨x.cm=13)))
structure Sa.Tp (s:Sa):Prop where
 sd:s.sd.length=3 ∧ ∀ x∈s.sd,x.length=32
 au:s.au=[[],[],[],[]]
 en:s.en.length=32
 act:s.act=2
 res:0≤s.res∧s.res≤1000
 rst:s.rst=0
 clk:s.clk=0
 bk:s.bk=[]∧s.u=0
 mc:0≤s.mc∧s.mc≤1000
 ix:s.ix=[] ∨ ∃ w d,s.ix=[cnI w d]∧d.length=8
 lk:s.lk=⟨0,5,100,0,0,1000⟩
 ks:s.ks=[]
structure St.Tp (s:St):Prop where
 a:s.a.Tp
 on:s.on=true
 off:s.off=false
 clk:s.clk=0
 rl:s.rl=[]
 wl:s.wl=[]
 bk:ShA 2 s.bk
 u:0≤s.u∧s.u≤1000
 dr:0≤s.dr∧s.dr≤1000
 ses:s.ses.length=3 ∧ ∀ x∈s.ses,x.Tp
 obs:s.obs.length=3 ∧ ∀ x∈s.obs,x.Se
end Go.Eng
end
