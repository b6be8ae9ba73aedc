/- A part of an abstract machine, its walks, their tie. -/
import Derived.Test.YtpolalhffkhimaaGreatDoorE20
import Derived.Test.YtpolalhffkhimaaGreatDoorE16
import Derived.Test.YtpolalhffkhimaaGreatDoorE9
import Derived.Test.YtpolalhffkhimaaGreatDoorE17
import Derived.Test.YtpolalhffkhimaaGreatDoorE19
set_option linter.all false
section
set_option maxHeartbeats 64000000
set_option maxRecDepth 20000
namespace Go.Eng
variable (tab:Tab) (gl:Gl)
variable {vv:V} {oo:List Ob}
theorem zCq (x:wD.α)(hx:wD.pre x):jY.1.wp tab gl (qE 0 (wD.aS x)) (qE 0 (wD.ins x)) (zA [(6,none),(7,none)] (wD.ins x).length (fun r o=>r=wD.r x∧o=wD.outs x)):=by
 obtain⟨⟨b,a,e⟩,p,n⟩:=x;obtain⟨h1,h2,h3⟩:=hx;simp only[qD2] at h1 h2 h3;by_cases h:p+n≤b.length
 ·have hr:wD.r ((b,a,e),p,n) = .tup [.t (.sl (((b.drop p).take n).map qA)),.t (.int .i64 0)]:=if_pos h;rw[hr];exact zFh tab gl (b,a,e) h1 p n h
 ·have hr:wD.r ((b,a,e),p,n) = .tup [.t (.sl []),.t (.int .i64 2)]:=if_neg h;rw[hr];show jY.1.wp tab gl (qE 0 [.ref 0 0 0,.t (.int .i64 p),.t (.int .i64 n)]) (qE 0 [kH (b,a,e)]) (zA [(6,none),(7,none)] 1 (fun r o=>r = .tup [.t (.sl []),.t (.int .i64 2)]∧o=[kH (b,a,e)]));simp(disch:=omega)only[go_sem,jY,kH,rdT]
theorem zCo (x:kP.α)(hx:kP.pre x):jV.1.wp tab gl (qE 0 (kP.aS x)) (qE 0 (kP.ins x)) (zA [(4,none)] (kP.ins x).length (fun r o=>r=kP.r x∧o=kP.outs x)):=
 qWp tab gl x.1.1 x.1.2.1 x.1.2.2 x.2 hx.1 hx.2
abbrev Ev:=Int×Int×List (List UInt8)×List UInt8
def evM (e:Ev):Prop:=zV6 e.2.2.1∧e.2.2.2.length<1000000000
def jRg (r k act:Int):Prop:=act<1∨3<act∨r<0∨11<r∨k<1∨5<k
instance {r k act:Int}:Decidable (jRg r k act):=by unfold jRg;infer_instance
def okC (c:UInt8):Bool := !decide (c.toNat<32) && !decide (c.toNat>126)
def blL (b x:List UInt8):List UInt8:=b++beI 2 (x.length:Int) 2++x
theorem vL {b x:List UInt8}:(blL b x).length=b.length+2+x.length:=by unfold blL;rw[List.length_append,List.length_append,qR]
def qGm:Ct where
 α:=List UInt8×List UInt8
 aS x:=[.t (.sl (x.1.map qA)),.t (.sl (x.2.map qA))]
 ins _:=[]
 pre x:=x.1.length<100000000∧x.2.length≤65535
 r x:= .sl 0 0 (x.1.length+2+x.2.length)
 outs x:=[.live 1 (((blL x.1 x.2).map qA).map V.t) true false]
 inj:=by
  rintro⟨a,b⟩ ⟨c,d⟩ h _;simp only[List.cons.injEq,V.t.injEq,T.sl.injEq,and_true,jC] at h;obtain⟨rfl,rfl⟩:=h;exact⟨rfl,rfl⟩
theorem qIb {b x:List UInt8}(h:b.length<100000000∧x.length≤65535):qGm.fs [.t (.sl (b.map qA)),.t (.sl (x.map qA))] []=some (.sl 0 0 (b.length+2+x.length),[.live 1 (((blL b x).map qA).map V.t) true false]):=qGm.eq (b,x) h
theorem zFe (h1:LkC tab 63 yY)(b x:List UInt8)(hb:b.length<100000000)(hx:x.length≤65535) :
  qH9.1.wp tab gl (qE 0 [.t (.sl (b.map qA)),.t (.sl (x.map qA))]) (qE 0 []) (kN [] [(4,none)] 0 (fun r o=>r = .sl 0 0 (b.length+2+x.length)∧o=[.live 1 (((blL b x).map qA).map V.t) true false])):=by
 have hu:=qM7 (b:=b) (n:=(x.length:Int)) oM;have hl:(b++beI 2 (x.length:Int) 2).length=b.length+2:=by rw[List.length_append,qR]
 have hbl:blL b x=b++beI 2 (x.length:Int) 2++x:=rfl;have hno : ¬ 65535<(x.length:Int):=oM;rw[hbl];generalize b++beI 2 (x.length:Int) 2=B at *;simp(disch:=omega)only[go_sem,qH9,h1,hu,hl,hno,List.take_length]
theorem zE9 (h1:LkC tab 10 yY)(b x:List UInt8)(hb:b.length<100000000)(hx:x.length≤65535) :
  qH3.1.wp tab gl (qE 0 [.t (.sl (b.map qA)),.t (.sl (x.map qA))]) (qE 0 []) (kN [] [(4,none)] 0 (fun r o=>r = .sl 0 0 (b.length+2+x.length)∧o=[.live 1 (((blL b x).map qA).map V.t) true false])):=by
 have hu:=qM7 (b:=b) (n:=(x.length:Int)) oM;have hl:(b++beI 2 (x.length:Int) 2).length=b.length+2:=by rw[List.length_append,qR]
 have hbl:blL b x=b++beI 2 (x.length:Int) 2++x:=rfl;have hno : ¬ 65535<(x.length:Int):=oM;rw[hbl];generalize b++beI 2 (x.length:Int) 2=B at *;simp(disch:=omega)only[go_sem,qH3,h1,hu,hl,hno,List.take_length]
def jIz (r k:Int)(n m:Nat):Prop:=r<0∨11<r∨k<1∨5<k∨n≠2∨64<m
instance {r k:Int}{n m:Nat}:Decidable (jIz r k n m):=by unfold jIz;infer_instance
theorem zT4 {a:Nat}{k':IntKind}(h:a<1000000):qNk .shl .i64 (a:Int) k' 8=some (.int .i64 ((256*a:Nat):Int)):=by
 change (if (8:Int)<0 then none else some (T.int .i64 (IntKind.i64.wrap ((a:Int)*2^min (8:Int).toNat 64))))=_;rw[if_neg oM,show (a:Int)*2^min (8:Int).toNat 64=((256*a:Nat):Int) by
  rw[show min (8:Int).toNat 64=8 from rfl];omega,qBg oM]
theorem zZf {a:Nat}{x:UInt8}(h:a<1000000):qNk .or .i64 ((256*a:Nat):Int) .i64 (x.toNat:Int)=some (.int .i64 ((256*a+x.toNat:Nat):Int)):=by
 have hx:=x.toNat_lt;change some (T.int .i64 (IntKind.i64.wrap ((BitVec.ofInt 64 ((256*a:Nat):Int) ||| BitVec.ofInt 64 (x.toNat:Int)).toNat:Int)))=_;have e:(BitVec.ofInt 64 ((256*a:Nat):Int) ||| BitVec.ofInt 64 (x.toNat:Int)).toNat=256*a+x.toNat:=by
  rw[BitVec.toNat_or,BitVec.toNat_ofInt,BitVec.toNat_ofInt,Int.emod_eq_of_lt oM oM,Int.emod_eq_of_lt oM oM,Int.toNat_natCast,Int.toNat_natCast,or8 oM]
 rw[e,qBg oM]
attribute [go_sem ↓] zT4 zZf
def zU (s:Rd)(most:Nat):List UInt8×Rd:=
 if s.2.2≠0 then ([],s) else if s.1.length<s.2.1+2 then ([],(s.1,s.2.1,2))
 else if most<beV ((s.1.drop s.2.1).take 2) then ([],(s.1,s.2.1,4))
 else if s.1.length<s.2.1+2+beV ((s.1.drop s.2.1).take 2) then ([],(s.1,s.2.1,2))
 else ((s.1.drop (s.2.1+2)).take (beV ((s.1.drop s.2.1).take 2)),(s.1,s.2.1+2+beV ((s.1.drop s.2.1).take 2),0))
def qGo:Ct where
 α:=Rd×Nat
 aS x:=[.ref 0 0 0,.t (.int .i64 x.2)]
 ins x:=[kH x.1]
 pre x:=qD2 x.1∧x.2≤65535
 r x:= .t (.sl ((zU x.1 x.2).1.map qA))
 outs x:=[kH (zU x.1 x.2).2]
 inj:=by
  rintro⟨s,a⟩ ⟨t,c⟩ h1 h2;simp only[List.cons.injEq,V.t.injEq,T.int.injEq,true_and,and_true,Int.natCast_inj] at h1;simp only[List.cons.injEq,and_true] at h2;subst h1;cases qCy h2;exact⟨rfl,rfl⟩
theorem qG7 {s:Rd}{k:Nat}(h:qD2 s∧k≤65535):qGo.fs [.ref 0 0 0,.t (.int .i64 k)] [rdO s]=some (.t (.sl ((zU s k).1.map qA)),[rdO (zU s k).2]):=qGo.eq (s,k) h
theorem jHk {b:List UInt8}{a:Nat}(h:a+2≤b.length):List.take 2 (List.drop a b)=[b.getD a 0,b.getD (a+1) 0]:=by
 have e:List.drop a b=b[a]'(oM)::b[a+1]'(oM)::List.drop (a+2) b:=by
  rw[List.drop_eq_getElem_cons oM,List.drop_eq_getElem_cons oM]
 have g0:b.getD a 0=b[a]'(oM):=by simp[List.getD,show a<b.length by omega]
 have g1:b.getD (a+1) 0=b[a+1]'(oM):=by simp[List.getD,show a+1<b.length by omega]
 rw[e,g0,g1];rfl
theorem jRh {x y:UInt8}:beV [x,y]=256*x.toNat+y.toNat:=by simp[beV]
theorem jWb {s:Rd}{k:Nat}:(zU s k).1.length≤k:=by
 unfold zU;split
 ·simp
 ·split
  ·simp
  ·split
   ·simp
   ·split
    ·simp
    ·simp only[List.length_take];omega
theorem jWc {s:Rd}{k:Nat}(h:qD2 s):qD2 (zU s k).2:=by
 unfold zU;unfold qD2 at *;split
 ·exact h
 ·split
  ·exact h
  ·split
   ·exact h
   ·split
    ·exact h
    ·exact⟨by simp only;omega,h.2⟩
theorem qO5 (h1:LkC tab 129 wD)(h2:LkC tab 128 qPi)(s:Rd)(hs:qD2 s)(k:Nat)(hk:k≤65535) :
  jK.1.wp tab gl (qE 0 [.ref 0 0 0,.t (.int .i64 k)]) (qE 0 [kH s]) (zA [(4,none)] 1 (fun r o=>r = .t (.sl ((zU s k).1.map qA))∧o=[kH (zU s k).2])):=by
 obtain⟨b,a,e⟩:=s;have ha:a≤b.length∧b.length<1000000000:=hs;by_cases he:e=0
 ·subst he;by_cases hl:b.length<a+2
  ·have hr:zU (b,a,0) k=([],(b,a,2)):=by unfold zU;simp[hl]
   rw[hr];have ht:=qY2 (b:=b) (a:=a) (p:=a) (n:=2) (e:=0) ⟨ha.1,ha.2,ha.1,oM,oM⟩;have k2:((2:Nat):Int)=2:=rfl;rw[k2] at ht;simp(disch:=omega)only[go_sem,jK,zN,h1,h2,ht,qMq,List.map_nil]
  ·have t2:=jHk (b:=b) (a:=a) oM;have ht:=qY3 (b:=b) (a:=a) (p:=a) (n:=2) (e:=0) ⟨ha.1,ha.2,oM⟩;have k2:((2:Nat):Int)=2:=rfl;rw[k2,t2] at ht;have hb:=jRh (x:=b.getD a 0) (y:=b.getD (a+1) 0);have hx:=(b.getD a 0).toNat_lt;have hy:=(b.getD (a+1) 0).toNat_lt;have hr:zU (b,a,0) k=if k<256*(b.getD a 0).toNat+(b.getD (a+1) 0).toNat then ([],(b,a,4)) else if b.length<a+2+(256*(b.getD a 0).toNat+(b.getD (a+1) 0).toNat) then ([],(b,a,2)) else ((b.drop (a+2)).take (256*(b.getD a 0).toNat+(b.getD (a+1) 0).toNat),(b,a+2+(256*(b.getD a 0).toNat+(b.getD (a+1) 0).toNat),0)):=by
    unfold zU;simp only[t2,hb];rw[if_neg sM,if_neg hl]
   rw[hr];simp only[mcn] at ht;by_cases c1:k<256*(b.getD a 0).toNat+(b.getD (a+1) 0).toNat
   ·rw[if_pos c1];simp(disch:=omega)only[go_sem,jK,zN,h1,h2,ht,qMq,c1,List.map_nil];rfl
   ·rw[if_neg c1];have hn:((b.getD a 0).toNat<256)∧(b.getD (a+1) 0).toNat<256:=⟨hx,hy⟩;generalize hN:256*(b.getD a 0).toNat+(b.getD (a+1) 0).toNat=N at *;have hN2:N≤65535:=oM;by_cases c2:b.length<a+2+N
    ·rw[if_pos c2];have ht2:=qY2 (b:=b) (a:=a) (p:=a+2) (n:=N) (e:=0) ⟨ha.1,ha.2,oM,oM,c2⟩;simp(disch:=omega)only[go_sem,jK,zN,h1,h2,ht,hN,ht2,qMq,c1,List.map_nil];rfl
    ·rw[if_neg c2];have ht2:=qY3 (b:=b) (a:=a) (p:=a+2) (n:=N) (e:=0) ⟨ha.1,ha.2,oM⟩;have hc:(List.take N (List.drop (a+2) b)).length=N:=by simp only[List.length_take,List.length_drop];omega
     have tt:List.take N (List.take N (List.drop (a+2) b))=List.take N (List.drop (a+2) b):=List.take_of_length_le oM;simp(disch:=omega)only[go_sem,jK,zN,h1,h2,ht,hN,ht2,qMq,c1,hc,tt];exact⟨rfl,oM⟩
 ·have hr:zU (b,a,e) k=([],(b,a,e)):=by unfold zU;rw[if_pos he]
  rw[hr];simp(disch:=omega)only[go_sem,jK,zN,ne_eq,he,List.map_nil]
theorem qOw (h1:LkC tab 99 kP)(s:Rd)(hs:qD2 s)(k:Nat)(hk:k≤65535) :
  jJ.1.wp tab gl (qE 0 [.ref 0 0 0,.t (.int .i64 k)]) (qE 0 [kH s]) (zA [(4,none)] 1 (fun r o=>r = .t (.sl ((zU s k).1.map qA))∧o=[kH (zU s k).2])):=by
 obtain⟨b,a,e⟩:=s;have ha:a≤b.length∧b.length<1000000000:=hs;by_cases he:e=0
 ·subst he;by_cases hl:b.length<a+2
  ·have hr:zU (b,a,0) k=([],(b,a,2)):=by unfold zU;simp[hl]
   rw[hr];have ht:=zD8 (b:=b) (a:=a) (k:=2) ⟨ha.1,ha.2,oM,oM⟩;have k2:((2:Nat):Int)=2:=rfl;rw[k2] at ht;simp(disch:=omega)only[go_sem,jJ,zN,h1,ht,List.map_nil]
  ·have t2:=jHk (b:=b) (a:=a) oM;have ht:=zD9 (b:=b) (a:=a) (k:=2) ⟨ha.1,ha.2,oM⟩;have k2:((2:Nat):Int)=2:=rfl;rw[k2] at ht;have hb:=jRh (x:=b.getD a 0) (y:=b.getD (a+1) 0);have hx:=(b.getD a 0).toNat_lt;have hy:=(b.getD (a+1) 0).toNat_lt;have hr:zU (b,a,0) k=if k<256*(b.getD a 0).toNat+(b.getD (a+1) 0).toNat then ([],(b,a,4)) else if b.length<a+2+(256*(b.getD a 0).toNat+(b.getD (a+1) 0).toNat) then ([],(b,a,2)) else ((b.drop (a+2)).take (256*(b.getD a 0).toNat+(b.getD (a+1) 0).toNat),(b,a+2+(256*(b.getD a 0).toNat+(b.getD (a+1) 0).toNat),0)):=by
    unfold zU;simp only[t2,hb];rw[if_neg sM,if_neg hl]
   rw[hr];have hn:((b.getD a 0).toNat<256)∧(b.getD (a+1) 0).toNat<256:=⟨hx,hy⟩;generalize hN:256*(b.getD a 0).toNat+(b.getD (a+1) 0).toNat=N at *;have hN2:N≤65535:=oM;by_cases c1:k<N
   ·rw[if_pos c1];simp(disch:=omega)only[go_sem,jJ,zN,h1,ht,hN,c1,List.map_nil];rfl
   ·rw[if_neg c1];by_cases c2:b.length<a+2+N
    ·rw[if_pos c2];have ht2:=zD8 (b:=b) (a:=a) (k:=2+N) ⟨ha.1,ha.2,oM,oM⟩;simp(disch:=omega)only[go_sem,jJ,zN,h1,ht,hN,ht2,c1,List.map_nil];rfl
    ·rw[if_neg c2];have ht2:=zD9 (b:=b) (a:=a) (k:=2+N) ⟨ha.1,ha.2,oM⟩;have hc:(List.take N (List.drop (a+2) b)).length=N:=by simp only[List.length_take,List.length_drop];omega
     have tt:List.take N (List.take N (List.drop (a+2) b))=List.take N (List.drop (a+2) b):=List.take_of_length_le oM;have e1:a+(2+N)-N=a+2:=oM;have e2:a+(2+N)-(a+2)=N:=oM;have e3:a+2+N=a+(2+N):=oM;rw[e3];simp(disch:=omega)only[go_sem,jJ,zN,h1,ht,hN,ht2,c1,e1,e2,hc,tt];exact⟨rfl,rfl⟩
 ·have hr:zU (b,a,e) k=([],(b,a,e)):=by unfold zU;rw[if_pos he]
  rw[hr];simp(disch:=omega)only[go_sem,jJ,zN,ne_eq,he,List.map_nil]
abbrev Cd:=List UInt8×Nat
def nx (c:Cd)(n:Nat):Nat×Cd:=if c.1.length≤c.2 then (0,c) else ((c.1.getD c.2 0).toNat%n,(c.1,c.2+1))
theorem qOa {b p x t:List UInt8}{most:Nat}(hb:b=p++beI 2 (x.length:Int) 2++x++t)(hx:x.length≤most)(hm:most≤65535):zU (b,p.length,0) most=(x,(b,p.length+2+x.length,0)):=by
 have hlen:b.length=p.length+2+x.length+t.length:=by rw[hb];simp only[List.length_append,qR]
 have h1:List.take 2 (List.drop p.length b)=beI 2 (x.length:Int) 2:=qSr (t:=x++t) (by rw[hb];simp only[List.append_assoc]) qR;have h2:beV (beI 2 (x.length:Int) 2)=x.length:=by
  rw[qK6];have e:(256:Nat)^2=65536:=by decide
  have:=qN7 (n:=(x.length:Int)) oM;rw[e];omega
 have h3:List.take x.length (List.drop (p.length+2) b)=x:=by
  have:=qSr (b:=b) (p:=p++beI 2 (x.length:Int) 2) (q:=x) (t:=t) (k:=x.length) hb rfl;rw[List.length_append,qR] at this;exact this
 unfold zU;simp only[h1,h2];rw[if_neg sM,if_neg oM,if_neg oM,if_neg oM,h3]
theorem qS8 {a b:UInt8}(h:b.toNat≠0):qHp .rem (qA a) (qA b)=some (qA (a%b)):=by
 have h2:(b.toNat:Int)≠0:=oM;change (if IntKind.u8=IntKind.u8∧(b.toNat:Int)≠0 then some (T.int .u8 ((a.toNat:Int).tmod (b.toNat:Int))) else none)=_;rw[if_pos ⟨rfl,h2⟩];have e:(a.toNat:Int).tmod (b.toNat:Int)=((a%b).toNat:Int):=by rw[UInt8.toNat_mod];rfl
 rw[e];rfl
theorem zWf {a:UInt8}:qHp .rem (qA a) (qA 6)=some (qA (a%6)):=qS8 (by decide)
def rI (n:Int):Prop := -9223372036854775808≤n∧n<9223372036854775808
def evX (e:Ev):Prop:=e.2.2.1.length≤9223372036854775807∧(∀ x∈e.2.2.1,x.length≤9223372036854775807)∧e.2.2.2.length≤9223372036854775807
abbrev Im:=Int×List UInt8×Int×List UInt8
def imM (x:Im):Prop:=x.2.1.length≤9223372036854775807∧x.2.2.2.length<1000000000∧rI x.1∧rI x.2.2.1
def imX (x:Im):Prop:=rI x.1∧rI x.2.2.1∧x.2.1.length≤9223372036854775807∧x.2.2.2.length≤9223372036854775807
theorem imM.x {x:Im}(h:imM x):imX x:=⟨h.2.2.1,h.2.2.2,h.1,by have:=h.2.1;omega⟩
def okN (c:UInt8):Bool:=(!decide (c.toNat<97) && !decide (c.toNat>122))||((!decide (c.toNat<48) && !decide (c.toNat>57))||decide (c=45))
def jLe (s:List UInt8):Bool:=(!decide (s.length<1) && !decide (12<s.length))&&s.all okN
def lnS (out:List (List UInt8))(line:List UInt8):List UInt8→List (List UInt8)
 | []=>if 0<line.length then [] else out
 | c::r=>if c=10 then (if line.length=0∨4≤out.length then [] else lnS (out++[line]) [] r) else if okC c=true then lnS out (line++[c]) r else []
def lnL (p:List UInt8):List (List UInt8):=lnS [] [] p
def jJy (r v:Int):Prop:=r<1∨4<r∨v<0∨1000000<v
instance {r v:Int}:Decidable (jJy r v):=by unfold jJy;infer_instance
def jJ9 (x:Im):Int:=if jJy x.1 x.2.2.1 then 1 else if jLe x.2.1=false then 43 else if 64<x.2.2.2.length then 4 else if x.1=4∧(lnL x.2.2.2).length=0 then 40 else 0
def chF (pre:List Im):List Im→Int
 | []=>if pre.any (fun y=>decide (y.1=1))&&pre.any (fun y=>decide (y.1=3)) then 0 else 40
 | x::r=>if jJ9 x≠0 then jJ9 x else if pre≠[]∧x.1<(pre.getLastD (0,[],0,[])).1 then 41 else if pre.any (fun y=>decide (y.1=x.1)&&decide (y.2.1=x.2.1)) then 42 else chF (pre++[x]) r
def chP (l:List Im):Prop := ∀ r,chF [] (l++r)=chF l r
structure ChO (r:Int) (l:List Im):Prop where
 p:chP l
 ok : ∀ x∈l,jJ9 x=0
 le : ∀ x∈l,x.1≤r
theorem ChO.up {r q:Int}{l:List Im}(h:ChO r l)(hq:r≤q):ChO q l:=⟨h.p,h.ok,fun x hx=>by have:=h.le x hx;omega⟩
theorem evM.x {e:Ev}(h:evM e):evX e:=⟨by have:=h.1.1;omega,fun x hx=>by have:=h.1.2 x hx;omega,by have:=h.2;omega⟩
abbrev Rg:=List qX×Int
def rpS (x:Rg)(e:Ev):Rg:=if e.2.1=5 then x else zYh x 0 e.1 e.2.2.1
def rp0 (act:Int):Rg:=(yK act,0)
def ShA (act:Int)(bk:List qX):Prop := ∃ b0 b1:qX,bk=[b0,b1]∧List.length b0=(if act%2=1 then 16 else 0)∧List.length b1=(if act/2%2=1 then 16 else 0)∧(∀ x∈b0,x.length=20) ∧ ∀ x∈b1,x.length=32
theorem ShA.new {act:Int}(ha:1≤act∧act≤3):ShA act (yK act):=by
 have h:yK act=[if act%2=1 then qAw 0 else [],if act/2%2=1 then qAw 1 else []]:=qCx oM;refine⟨_,_,h,?_,?_,fun x hx=>?_,fun x hx=>?_⟩
 ·split
  ·exact qI
  ·rfl
 ·split
  ·exact qI
  ·rfl
 ·split at hx
  ·exact zG1 (a:=0) x hx
  ·simp at hx
 ·split at hx
  ·exact zG1 (a:=1) x hx
  ·simp at hx
theorem ShA.rv {act:Int}{bk:List qX}(h:ShA act bk):RV bk:=by
 obtain⟨b0,b1,rfl,h0,h1,z0,z1⟩:=h;refine⟨.two _ _ ?_ ?_,fun b hb x hx=>?_⟩
 ·split at h0
  ·exact .inr h0
  ·exact .inl h0
 ·split at h1
  ·exact .inr h1
  ·exact .inl h1
 ·simp only[List.mem_cons,List.not_mem_nil,or_false] at hb;rcases hb with rfl | rfl
  ·have:=z0 x hx;omega
  ·have:=z1 x hx;omega
theorem ShA.ext {act:Int}{bk:List qX}(h:ShA act bk)(i:Nat)(ds:List (List UInt8)):ShA act (qRg bk i ds):=by
 obtain⟨b0,b1,rfl,h0,h1,z0,z1⟩:=h;rw[zAx];refine⟨_,_,rfl,qU.trans h0,qU.trans h1,?_,?_⟩
 ·unfold qBz;split
  ·exact zEl z0 (qHa (a:=0))
  ·exact z0
 ·unfold qBz;split
  ·exact zEl z1 (qHa (a:=1))
  ·exact z1
def RQ (act:Int)(n:Nat)(x:Rg):Prop:=ShA act x.1∧0≤x.2∧x.2≤n
theorem RQ.zero {act:Int}(ha:1≤act∧act≤3):RQ act 0 (rp0 act):=⟨ShA.new ha,by simp[rp0],by simp[rp0]⟩
theorem RQ.up {act:Int}{n m:Nat}{x:Rg}(h:RQ act n x)(hm:n≤m):RQ act m x:=⟨h.1,h.2.1,by have:=h.2.2;omega⟩
theorem RQ.ext {act:Int}{n:Nat}{x:Rg}(h:RQ act n x)(l i:Int)(ds:List (List UInt8)):RQ act (n+1) (zYh x l i ds):=by
 unfold zYh;split
 ·exact⟨h.1.ext _ _,by have:=h.2.1;simp only;omega,by have:=h.2.2;simp only;omega⟩
 ·exact h.up oM
theorem RQ.step {act:Int}{n:Nat}{x:Rg}{e:Ev}(h:RQ act n x):RQ act (n+1) (rpS x e):=by
 unfold rpS;split
 ·exact h.up oM
 ·exact h.ext _ _ _
structure Pu where
 kd:Int
 ar:Int
 ht:Int
 po:List UInt8
 un:List UInt8
 deriving Inhabited
structure Sn where
 au:List UInt8
 sd:List UInt8
 da:List UInt8
 deriving Inhabited
structure Obj where
 p:Pu
 s:Sn
 h:Int
 deriving Inhabited
structure Ses where
 kd:Int
 no:List UInt8
 dg:List UInt8
 up:Int
 lo:Int
 cm:Int
 dl:Int
 av:Bool
 deriving Inhabited
structure Ix where
 n:Int
 kd:Int
 ar:Int
 sz:Int
 po:List UInt8
 au:List UInt8
 wr:Bool
 da:List UInt8
 deriving Inhabited
structure Lv where
 un:List UInt8
 us:Int
 deriving Inhabited
structure Lk where
 fa:Int
 mx:Int
 rc:Int
 si:Int
 cl:Int
 pe:Int
 deriving Inhabited
structure Sa where
 sd:List (List UInt8)
 au:List (List UInt8)
 en:List UInt8
 act:Int
 res:Int
 rst:Int
 clk:Int
 ord:Bool
 bk:List qX
 u:Int
 mc:Int
 ix:List Ix
 lk:Lk
 ks:List Lv
 deriving Inhabited
structure St where
 a:Sa
 on:Bool
 off:Bool
 bk:List qX
 u:Int
 clk:Int
 safe:Bool
 dr:Int
 ses:List Ses
 obs:List Obj
 rl:List Int
 wl:List Int
 deriving Inhabited
structure Az where
 s:Int
 no:List UInt8
 va:List UInt8
 deriving Inhabited
structure Rq where
 co:Int
 hs:List Int
 au:List Az
 ns:List Int
 bl:List (List UInt8)
 deriving Inhabited
structure Rs where
 e:Int
 ns:List Int
 bl:List (List UInt8)
 no:List (List UInt8)
 deriving Inhabited
structure Asr where
 kd:Int
 s0:Int
 s1:Int
 dg:List UInt8
 n:Int
 op:Int
 od:List UInt8
 nm:List UInt8
 rf:List UInt8
 br:List (List UInt8)
 deriving Inhabited
def iT (n:Int):T:= .int .i64 n
def puA (x:Pu):T:= .agg [.int .i64 x.kd,.int .i64 x.ar,.int .i64 x.ht,.sl (x.po.map qA),.sl (x.un.map qA)]
def snA (x:Sn):T:= .agg [.sl (x.au.map qA),.sl (x.sd.map qA),.sl (x.da.map qA)]
def qBl (x:Obj):T:= .agg [.int .i64 x.p.kd,.int .i64 x.p.ar,.int .i64 x.p.ht,.sl (x.p.po.map qA),.sl (x.p.un.map qA),.sl (x.s.au.map qA),.sl (x.s.sd.map qA),.sl (x.s.da.map qA),.int .i64 x.h]
def jP (x:Ses):T:= .agg [.int .i64 x.kd,.sl (x.no.map qA),.sl (x.dg.map qA),.int .i64 x.up,.int .i64 x.lo,.int .i64 x.cm,.int .i64 x.dl,.bool x.av]
def ixA (x:Ix):T:= .agg [.int .i64 x.n,.int .i64 x.kd,.int .i64 x.ar,.int .i64 x.sz,.sl (x.po.map qA),.sl (x.au.map qA),.bool x.wr,.sl (x.da.map qA)]
def lvA (x:Lv):T:= .agg [.sl (x.un.map qA),.int .i64 x.us]
def lkA (x:Lk):T:= .agg [.int .i64 x.fa,.int .i64 x.mx,.int .i64 x.rc,.int .i64 x.si,.int .i64 x.cl,.int .i64 x.pe]
def saA (x:Sa):T:= .agg [.sl (x.sd.map bsT),.sl (x.au.map bsT),.sl (x.en.map qA),.int .i64 x.act,.int .i64 x.res,.int .i64 x.rst,.int .i64 x.clk,.bool x.ord,.sl (x.bk.map wY),.int .i64 x.u,.int .i64 x.mc,.sl (x.ix.map ixA),
 .int .i64 x.lk.fa,.int .i64 x.lk.mx,.int .i64 x.lk.rc,.int .i64 x.lk.si,.int .i64 x.lk.cl,.int .i64 x.lk.pe,.sl (x.ks.map lvA)]
def stA (x:St):T:= .agg [.sl (x.a.sd.map bsT),.sl (x.a.au.map bsT),.sl (x.a.en.map qA),.int .i64 x.a.act,.int .i64 x.a.res,.int .i64 x.a.rst,.int .i64 x.a.clk,.bool x.a.ord,.sl (x.a.bk.map wY),.int .i64 x.a.u,.int .i64 x.a.mc,.sl (x.a.ix.map ixA),
 .int .i64 x.a.lk.fa,.int .i64 x.a.lk.mx,.int .i64 x.a.lk.rc,.int .i64 x.a.lk.si,.int .i64 x.a.lk.cl,.int .i64 x.a.lk.pe,.sl (x.a.ks.map lvA),
 .bool x.on,.bool x.off,.sl (x.bk.map wY),.int .i64 x.u,.int .i64 x.clk,.bool x.safe,.int .i64 x.dr,.sl (x.ses.map jP),.sl (x.obs.map qBl),.sl (x.rl.map iT),.sl (x.wl.map iT)]
def azA (x:Az):T:= .agg [.int .i64 x.s,.sl (x.no.map qA),.sl (x.va.map qA)]
def rqA (x:Rq):T:= .agg [.int .i64 x.co,.sl (x.hs.map iT),.sl (x.au.map azA),.sl (x.ns.map iT),.sl (x.bl.map bsT)]
def rsA (x:Rs):T:= .agg [.int .i64 x.e,.sl (x.ns.map iT),.sl (x.bl.map bsT),.sl (x.no.map bsT)]
def jJv (x:Asr):T:= .agg [.int .i64 x.kd,.int .i64 x.s0,.int .i64 x.s1,.sl (x.dg.map qA),.int .i64 x.n,.int .i64 x.op,.sl (x.od.map qA),.sl (x.nm.map qA),.sl (x.rf.map qA),.sl (x.br.map bsT)]
theorem xU:(∀ (a b:V) (l m:List V),(a::l=b::m)=(a=b∧l=m))∧(∀ (a b:T) (l m:List T),(a::l=b::m)=(a=b∧l=m))∧(∀ a b,(V.t a=V.t b)=(a=b))∧(∀ k (a b:Int),(T.int k a=T.int k b)=(a=b))∧(∀ a b,(T.bool a=T.bool b)=(a=b))∧
  (∀ a b,(T.sl a=T.sl b)=(a=b))∧(∀ a b,(T.agg a=T.agg b)=(a=b))∧(∀ p:Prop,(p∧True)=p)∧(∀ p:Prop,(True∧p)=p)∧(∀ l m:List UInt8,(l.map qA=m.map qA)=(l=m))∧(∀ l m:List (List UInt8),(l.map bsT=m.map bsT)=(l=m))∧(∀ a b:UInt8,(qA a=qA b)=(a=b))∧
  (∀ l m:List qX,(l.map wY=m.map wY)=(l=m))∧(∀ l m:List Int,(l.map iT=m.map iT)=(l=m)):=by
 refine⟨sM,sM,sM,sM,sM,sM,sM,sM,sM,fun _ _=>jC,fun _ _=>qBs,fun _ _=>qNn,fun l m=>propext ⟨qBk (fun _ _=>qS7),fun h=>by rw[h]⟩,fun l m=>propext ⟨qBk (fun a b h=>by simpa [iT] using h),fun h=>by rw[h]⟩⟩
abbrev EI {α:Type}(f:α→T):Prop:=(∀ a b,(f a=f b)=(a=b))∧(∀ l m:List α,(l.map f=m.map f)=(l=m))
theorem kS {α:Type}{f:α→T}(h : ∀ a b,f a=f b→a=b):EI f:=⟨fun a b=>propext ⟨h a b,fun h=>by rw[h]⟩,fun l m=>propext ⟨qBk h,fun h=>by rw[h]⟩⟩
theorem jLl:EI puA:=kS (by rintro⟨⟩ ⟨⟩ h;simp only[puA,xU] at h;obtain⟨rfl,rfl,rfl,rfl,rfl⟩:=h;rfl)
theorem jL8:EI snA:=kS (by rintro⟨⟩ ⟨⟩ h;simp only[snA,xU] at h;obtain⟨rfl,rfl,rfl⟩:=h;rfl)
theorem zMu:EI qBl:=kS (by rintro⟨⟨⟩,⟨⟩,_⟩ ⟨⟨⟩,⟨⟩,_⟩ h;simp only[qBl,xU] at h;obtain⟨rfl,rfl,rfl,rfl,rfl,rfl,rfl,rfl,rfl⟩:=h;rfl)
theorem zHh:EI jP:=kS (by rintro⟨⟩ ⟨⟩ h;simp only[jP,xU] at h;obtain⟨rfl,rfl,rfl,rfl,rfl,rfl,rfl,rfl⟩:=h;rfl)
theorem zMa:EI ixA:=kS (by rintro⟨⟩ ⟨⟩ h;simp only[ixA,xU] at h;obtain⟨rfl,rfl,rfl,rfl,rfl,rfl,rfl,rfl⟩:=h;rfl)
theorem zY0:EI lvA:=kS (by rintro⟨⟩ ⟨⟩ h;simp only[lvA,xU] at h;obtain⟨rfl,rfl⟩:=h;rfl)
theorem jK7:EI lkA:=kS (by rintro⟨⟩ ⟨⟩ h;simp only[lkA,xU] at h;obtain⟨rfl,rfl,rfl,rfl,rfl,rfl⟩:=h;rfl)
theorem jCk:EI azA:=kS (by rintro⟨⟩ ⟨⟩ h;simp only[azA,xU] at h;obtain⟨rfl,rfl,rfl⟩:=h;rfl)
theorem jCi:EI jJv:=kS (by rintro⟨⟩ ⟨⟩ h;simp only[jJv,xU] at h;obtain⟨rfl,rfl,rfl,rfl,rfl,rfl,rfl,rfl,rfl,rfl⟩:=h;rfl)
theorem jAb:EI rqA:=kS (by rintro⟨⟩ ⟨⟩ h;simp only[rqA,xU,jCk] at h;obtain⟨rfl,rfl,rfl,rfl,rfl⟩:=h;rfl)
theorem jLv:EI rsA:=kS (by rintro⟨⟩ ⟨⟩ h;simp only[rsA,xU] at h;obtain⟨rfl,rfl,rfl,rfl⟩:=h;rfl)
theorem jL4:EI saA:=kS (by rintro⟨_,_,_,_,_,_,_,_,_,_,_,_,⟨⟩,_⟩ ⟨_,_,_,_,_,_,_,_,_,_,_,_,⟨⟩,_⟩ h;simp only[saA,xU,zMa,zY0] at h;obtain⟨rfl,rfl,rfl,rfl,rfl,rfl,rfl,rfl,rfl,rfl,rfl,rfl,rfl,rfl,rfl,rfl,rfl,rfl,rfl⟩:=h;rfl)
theorem jA4:EI stA:=kS (by rintro⟨⟨_,_,_,_,_,_,_,_,_,_,_,_,⟨⟩,_⟩,_,_,_,_,_,_,_,_,_,_,_⟩ ⟨⟨_,_,_,_,_,_,_,_,_,_,_,_,⟨⟩,_⟩,_,_,_,_,_,_,_,_,_,_,_⟩ h;simp only[stA,xU,zMa,zY0,zHh,zMu] at h;obtain⟨rfl,rfl,rfl,rfl,rfl,rfl,rfl,rfl,rfl,rfl,rfl,rfl,rfl,rfl,rfl,rfl,rfl,rfl,rfl,rfl,rfl,rfl,rfl,rfl,rfl,rfl,rfl,rfl,rfl,rfl⟩:=h;rfl)
theorem qJ7:EI puA∧EI snA∧EI qBl∧EI jP∧EI ixA∧EI lvA∧EI lkA∧EI azA∧EI jJv∧EI rqA∧EI rsA∧EI saA∧EI stA:=⟨jLl,jL8,zMu,zHh,zMa,zY0,jK7,jCk,jCi,jAb,jLv,jL4,jA4⟩
def Pu.Ok (p:Pu):Prop:=(0≤p.kd∧p.kd≤3)∧(0≤p.ar∧p.ar≤7)∧(0≤p.ht∧p.ht≤3)∧p.po.length≤32∧p.un.length≤32
def Sn.Ok (s:Sn):Prop:=s.au.length≤32∧s.sd.length≤32∧s.da.length≤128
def Obj.Ok (x:Obj):Prop:=x.p.Ok∧x.s.Ok∧(0≤x.h∧x.h≤2)
def Ses.Ok (x:Ses):Prop:=(0≤x.kd∧x.kd≤3)∧x.no.length≤32∧x.dg.length≤32∧(0≤x.lo∧x.lo≤31)∧(0≤x.dl∧x.dl≤1100000000000000)
def Ix.Ok (x:Ix):Prop:=(0≤x.n∧x.n≤255)∧(0≤x.kd∧x.kd≤4)∧(0≤x.ar∧x.ar≤127)∧(0≤x.sz∧x.sz≤128)∧x.po.length≤32∧x.au.length≤32∧x.da.length≤128∧(x.kd=3→x.da.length=8)
def Lv.Ok (x:Lv):Prop:=x.un.length≤32∧0≤x.us∧x.us≤8
def Lk.Ok (x:Lk):Prop:=(0≤x.fa∧x.fa≤100)∧(0≤x.mx∧x.mx≤100)∧(0≤x.rc∧x.rc≤1048576)∧(0≤x.si∧x.si≤1100000000000000)∧(0≤x.cl∧x.cl≤1100000000000000)∧(0≤x.pe∧x.pe≤1048576)
def BkS (act:Int)(bk:List qX):Prop:=bk=[]∨(1≤act∧act≤3)∧ShA act bk
theorem BkS.rv {act:Int}{bk:List qX}(h:BkS act bk):RV bk:=by
 rcases h with rfl | ⟨_,h⟩
 ·exact⟨.nil,sM⟩
 ·exact h.rv
structure Sa.Ok (s:Sa):Prop where
 sd:s.sd.length=3 ∧ ∀ x∈s.sd,x.length≤32
 au:s.au.length=4 ∧ ∀ x∈s.au,x.length≤32
 en:s.en.length=32
 act:0≤s.act∧s.act≤3
 res:0≤s.res
 rst:0≤s.rst
 clk:0≤s.clk∧s.clk≤1099511627776
 bk:BkS s.act s.bk
 u:0≤s.u
 mc:0≤s.mc∧s.mc≤1099511627776
 ix:s.ix.length≤6 ∧ ∀ x∈s.ix,x.Ok
 lk:s.lk.Ok
 ks:s.ks.length≤8 ∧ ∀ x∈s.ks,x.Ok
structure St.Ok (s:St):Prop where
 a:s.a.Ok
 bk:BkS s.a.act s.bk
 u:0≤s.u
 clk:0≤s.clk∧s.clk≤1099511627776
 dr:0≤s.dr
 ses:s.ses.length=3 ∧ ∀ x∈s.ses,x.Ok
 obs:s.obs.length=3 ∧ ∀ x∈s.obs,x.Ok
def St.cn (s:St)(m:Int):Prop:=s.a.res≤m∧s.a.rst≤m∧s.a.u≤m∧s.u≤m∧s.dr≤m∧(s.rl.length:Int)≤m∧(s.wl.length:Int)≤m
def St.up (k:Int)(s t:St):Prop := ∀ m,s.cn m→t.cn (m+k)
theorem St.up.trans {k l:Int}{s t v:St}(h:s.up k t)(g:t.up l v):s.up (k+l) v:=fun m hm=>by rw[←Int.add_assoc];exact g _ (h m hm)
theorem St.cn.le {s:St}{m n:Int}(h:s.cn m)(e:m≤n):s.cn n:=by unfold St.cn at *;omega
theorem St.up.le {k l:Int}{s t:St}(h:s.up k t)(e:k≤l):s.up l t:=fun m hm=>(h m hm).le oM
def zPh (p u:List UInt8):List UInt8:=blL (blL [3,0,0] p) u
def zG0 (p u:List UInt8):List UInt8:=qCu 6 [zPh p u]
abbrev L32 (p u:List UInt8):Prop:=p.length=32∧u.length=32
theorem qTo {p u:List UInt8}(h:L32 p u):(zPh p u).length=71:=by
 simp[zPh,vL,h.1,h.2]
theorem zD6 {p u:List UInt8}:(zG0 p u).length=32:=qM
theorem jR3:qNk .and .i64 0 .i64 4=some (.int .i64 0):=rfl
theorem jR1:qNk .and .i64 0 .i64 1=some (.int .i64 0):=rfl
theorem zLw {t:Nat}{x:List UInt8}(h:x.length≤1000000):(qY t [x]).length<1000000000:=by
 simp only[qY,List.flatMap_cons,List.flatMap_nil,List.length_cons,List.length_append,List.length_nil,qAl];omega
theorem zQb {a b:UInt8}:qHp .or (qA a) (qA b)=some (qA (a ||| b)):=by
 change some (T.int .u8 (IntKind.u8.wrap ((BitVec.ofInt 8 (a.toNat:Int) ||| BitVec.ofInt 8 (b.toNat:Int)).toNat:Int)))=_;have e : ∀ x:UInt8,BitVec.ofInt 8 (x.toNat:Int)=x.toBitVec:=fun x=>BitVec.eq_of_toNat_eq sM
 rw[e,e,←UInt8.toBitVec_or,qVl];have:=(a ||| b).toNat_lt;unfold qA;rw[UInt8.toNat_toBitVec];congr 2;omega
def dfx (a b:List UInt8):Nat→UInt8
 | 0=>0
 | k+1=>dfx a b k ||| (a.getD k 0 ^^^ b.getD k 0)
theorem zSo {x y:UInt8}:x ||| y=0↔x=0∧y=0:=by
 constructor
 ·intro h;have h':x.toBitVec ||| y.toBitVec=0#8:=by
   have:=congrArg UInt8.toBitVec h;simpa using this
  have hx:x.toBitVec=0#8:=by
   apply BitVec.eq_of_getLsbD_eq;intro i hi;have:=congrArg (fun v=>v.getLsbD i) h';simp at this ⊢;exact this.1
  have hy:y.toBitVec=0#8:=by
   apply BitVec.eq_of_getLsbD_eq;intro i hi;have:=congrArg (fun v=>v.getLsbD i) h';simp at this ⊢;exact this.2
  exact⟨UInt8.toBitVec_inj.1 (by simpa using hx),UInt8.toBitVec_inj.1 (by simpa using hy)⟩
 ·rintro⟨rfl,rfl⟩;rfl
theorem zO4 {x y:UInt8}:x ^^^ y=0↔x=y:=by
 constructor
 ·intro h;have:(x ^^^ y) ^^^ y=0 ^^^ y:=by rw[h]
  rwa [UInt8.xor_assoc,UInt8.xor_self,UInt8.xor_zero,UInt8.zero_xor] at this
 ·rintro rfl;exact UInt8.xor_self
theorem zGi {a b:List UInt8} : ∀ {n:Nat},dfx a b n=0 ↔ ∀ k,k<n→a.getD k 0=b.getD k 0
 | 0=>by simp[dfx]
 | n+1=>by
  rw[dfx,zSo,zO4,zGi (n:=n)];constructor
  ·rintro⟨h1,h2⟩ k hk;rcases Nat.lt_or_ge k n with h | h
   ·exact h1 k h
   ·rw[show k=n by omega];exact h2
  ·intro h;exact⟨fun k hk=>h k oM,h n oM⟩
theorem jDh {a b:List UInt8}(hl:a.length=b.length):dfx a b a.length=0↔a=b:=by
 rw[zGi];constructor
 ·intro h;apply List.ext_getElem hl;intro k h1 h2;have:=h k h1;rwa [List.getD_eq_getElem?_getD,List.getD_eq_getElem?_getD,List.getElem?_eq_getElem h1,List.getElem?_eq_getElem h2] at this
 ·rintro rfl k _;rfl
theorem zE2 (a b:List UInt8)(h:a.length<1000000000∧b.length<1000000000) :
  qD5.1.wp tab gl (qE 0 [.t (.sl (a.map qA)),.t (.sl (b.map qA))]) (qE 0 []) (zA [(4,none)] 0 (fun r o=>r = .t (.bool (decide (a=b)))∧o=[])):=by
 by_cases hl:a.length=b.length
 ·simp(disch:=omega)only[go_sem,qD5,hl];refine qB b.length (fun k=>[(0,.t (.sl (a.map qA))),(1,.t (.sl (b.map qA))),(5,.t (qA (dfx a b k))),(13,.t (.int .i64 b.length)),(14,.t (.int .i64 k))]) (fun _=>[]) ?_ (fun k hk=>?_)
  ·refine qK.rd id ?_ ?_ rfl;all_goals simp(disch:=omega)only[go_sem,id]
   all_goals rfl
  ·by_cases hlt:k<b.length
   ·simp(disch:=omega)only[go_sem,hlt,hl,zQb];refine⟨rfl,qK.rd id ?_ ?_ rfl⟩;all_goals simp(disch:=omega)only[go_sem,id]
    all_goals rfl
   ·have e:k=b.length:=oM;subst e;have hd:=jDh hl;rw[hl] at hd;simp(disch:=omega)only[go_sem];simp only[hd]
 ·have e:decide (a=b)=false:=decide_eq_false (fun h=>hl (by rw[h]));rw[e];simp(disch:=omega)only[go_sem,qD5,hl]
abbrev tmI (n:Int):Prop:=0≤n∧n≤1099511627776
def zDq:ECt where
 α:=Int×List UInt8×List UInt8
 β:=Bool
 aS:=fun (o,a,b)=>[.t (.int .i64 o),.t (.sl (a.map qA)),.t (.sl (b.map qA))]
 pre:=fun (o,a,b)=>a.length≤4096∧b.length≤4096
 r:=fun r=> .t (.bool r)
 R:=fun (o,a,b) r=>True
theorem jRi {g:EF zDq}{o:Int}{a b:List UInt8}(hp:a.length≤4096∧b.length≤4096) : ∃ (r:Bool),(True)∧zDq.fs g [.t (.int .i64 o),.t (.sl (a.map qA)),.t (.sl (b.map qA))] []=some (.t (.bool r),[]):=zDq.eq g (o,a,b) hp
inductive As where
 | reg (s0 s1:Int) (d:List UInt8)
 | alt (bs:List (List UInt8))
def asT:As→T
 | .reg s0 s1 d=> .agg [.int .i64 1,.int .i64 s0,.int .i64 s1,.sl (d.map qA),.int .i64 0,.int .i64 0,.sl [],.sl [],.sl [],.sl []]
 | .alt bs=> .agg [.int .i64 8,.int .i64 0,.int .i64 0,.sl [],.int .i64 0,.int .i64 0,.sl [],.sl [],.sl [],.sl (bs.map bsT)]
def As.Ok:As→Prop
 | .reg s0 s1 d=>(0≤s0∧s0≤65535)∧(0≤s1∧s1≤65535)∧d.length=32
 | .alt bs=>(2≤bs.length∧bs.length≤8) ∧ ∀ b∈bs,b.length=32
theorem zXk {a b:As}(h:asT a=asT b):a=b:=by
 cases a<;>cases b<;>simp only[asT,T.agg.injEq,List.cons.injEq,T.int.injEq,T.sl.injEq,true_and,and_true,jC,qBs] at h
 ·obtain⟨rfl,rfl,rfl⟩:=h;rfl
 ·exact absurd h.1 (by decide)
 ·exact absurd h.1 (by decide)
 ·subst h;rfl
def jSo (d0:List UInt8):As→List (List UInt8)
 | .reg s0 s1 d=>[d0,qCv s0 s1,d]
 | .alt bs=>bs
def knd:As→UInt8
 | .reg .. => 1
 | .alt _=>8
def jB4 (d0:List UInt8)(a:As):List UInt8:=qCu 8 ([knd a]::jSo d0 a)
theorem zDs {d0:List UInt8}{a:As}:(jB4 d0 a).length=32:=qM
def z32:List UInt8:=List.replicate 32 0
theorem qBh:z32.length=32:=rfl
def qX8:Ct where
 α:=Int×Int×Int
 aS x:=[.t (.int .i64 x.1),.t (.int .i64 x.2.1),.t (.int .i64 x.2.2)]
 ins _:=[]
 pre _:=True
 r x:= .t (.bool (decide (x.2.1≤x.1)&&decide (x.1≤x.2.2)))
 outs _:=[]
 inj:=by
  rintro⟨a,b,c⟩ ⟨d,e,f⟩ h _;simp only[List.cons.injEq,V.t.injEq,T.int.injEq,true_and,and_true] at h;obtain⟨rfl,rfl,rfl⟩:=h;exact⟨rfl,rfl⟩
theorem qP3 {n a b:Int}(h:a≤n∧n≤b):qX8.fs [.t (.int .i64 n),.t (.int .i64 a),.t (.int .i64 b)] []=some (.t (.bool true),[]):=by
 refine (qX8.eq (n,a,b) trivial).trans ?_;show some (V.t (T.bool (decide (a≤n)&&decide (n≤b))),[])=_;simp[h.1,h.2]
theorem qVg (n a b:Int) :
  qCd.1.wp tab gl (qE 0 [.t (.int .i64 n),.t (.int .i64 a),.t (.int .i64 b)]) (qE 0 []) (zA [(6,none)] 0 (fun r o=>r = .t (.bool (decide (a≤n)&&decide (n≤b)))∧o=[])):=by
 by_cases h:a≤n<;>by_cases k:n≤b;all_goals simp(disch:=omega)only[go_sem,qCd,h,k]
 all_goals simp[h,k]
def qX7:Ct where
 α:=Bool
 aS x:=[.t (.bool x)]
 ins _:=[]
 pre _:=True
 r x:= .t (.int .i64 (if x then 0 else 1))
 outs _:=[]
 inj:=by
  intro a b h _;simp only[List.cons.injEq,V.t.injEq,T.bool.injEq,and_true] at h;subst h;exact⟨rfl,rfl⟩
theorem qM0:qX7.fs [.t (.bool true)] []=some (.t (.int .i64 0),[]):=qX7.eq true trivial
theorem qQk (x:Bool) :
  qAd.1.wp tab gl (qE 0 [.t (.bool x)]) (qE 0 []) (zA [(2,none)] 0 (fun r o=>r = .t (.int .i64 (if x then 0 else 1))∧o=[])):=by
 cases x;all_goals simp(disch:=omega)only[go_sem,qAd]
 all_goals rfl
def jUc:Ct where
 α:=As
 aS x:=[.t (asT x)]
 ins _:=[]
 pre x:=x.Ok
 r _:= .t (.int .i64 0)
 outs _:=[]
 inj:=fun _ _ _ _=>⟨rfl,rfl⟩
theorem jUl {s0 s1:Int}{d:List UInt8}(h:(As.reg s0 s1 d).Ok):jUc.fs [.t (.agg [.int .i64 1,.int .i64 s0,.int .i64 s1,.sl (d.map qA),.int .i64 0,.int .i64 0,.sl [],.sl [],.sl [],.sl []])] []=some (.t (.int .i64 0),[]):=jUc.eq (.reg s0 s1 d) h
theorem jUk {bs:List (List UInt8)}(h:(As.alt bs).Ok):jUc.fs [.t (.agg [.int .i64 8,.int .i64 0,.int .i64 0,.sl [],.int .i64 0,.int .i64 0,.sl [],.sl [],.sl [],.sl (bs.map bsT)])] []=some (.t (.int .i64 0),[]):=jUc.eq (.alt bs) h
theorem zL1 {bs:List (List UInt8)}(h : ∀ b∈bs,b.length=32){k:Nat}(hk:k<bs.length):(bs.getD k []).length=32:=by
 rw[List.getD_eq_getElem?_getD,List.getElem?_eq_getElem hk];exact h _ (List.getElem_mem hk)
theorem zH7 : ∀ {fs:List (List UInt8)} {t n:Nat},(∀ x∈fs,x.length≤n)→(qY t fs).length≤1+(4+n)*fs.length:=by
 intro fs
 induction fs with
 | nil=>intro t n _;simp[qY]
 | cons x r ih=>
  intro t n h;have h1:=h x sM;have h2:=ih (t:=t) (fun y hy=>h y (by simp[hy]));simp only[qY,List.length_cons,List.flatMap_cons,List.length_append,qAl] at h2 ⊢;rw[Nat.mul_add];omega
theorem jUm {d0:List UInt8}{a:As}(h0:d0.length=32)(ha:a.Ok):(qY 8 ([knd a]::jSo d0 a)).length<1000000000:=by
 have h : ∀ x∈[knd a]::jSo d0 a,x.length≤32:=by
  intro x hx;rcases List.mem_cons.1 hx with rfl | hx
  ·exact Nat.le_of_ble_eq_true rfl
  ·cases a with
   | reg s0 s1 d=>
    simp only[jSo,List.mem_cons,List.not_mem_nil,or_false] at hx;rcases hx with rfl | rfl | rfl
    ·omega
    ·simp[qCv,qR]
    ·have:=ha.2.2;omega
   | alt bs=>have:=ha.2 x hx;omega
 have hl:([knd a]::jSo d0 a).length≤9:=by
  cases a with
  | reg s0 s1 d=>simp[jSo]
  | alt bs=>have:=ha.1.2;simp[jSo];omega
 have:=zH7 (t:=8) h;omega
def jUd:Ct where
 α:=List UInt8×As
 aS x:=[.t (.sl (x.1.map qA)),.t (asT x.2)]
 ins _:=[]
 pre x:=x.1.length=32∧x.2.Ok
 r x:= .sl 0 0 32
 outs x:=[.live 1 (((jB4 x.1 x.2).map qA).map V.t) true false]
 inj:=by
  rintro⟨a,b⟩ ⟨c,d⟩ h _;simp only[List.cons.injEq,V.t.injEq,T.sl.injEq,and_true,jC] at h;obtain⟨rfl,h⟩:=h;rw[zXk h];exact⟨rfl,rfl⟩
theorem jUo {d0:List UInt8}{a:As}(h0:d0.length=32)(ha:a.Ok):jUd.fs [.t (.sl (d0.map qA)),.t (asT a)] []=some (.sl 0 0 32,[.live 1 (((jB4 d0 a).map qA).map V.t) true false]):=jUd.eq (d0,a) ⟨h0,ha⟩
theorem k1b:T.int .u8 (IntKind.u8.wrap 1)=qA 1:=rfl
theorem k8b:T.int .u8 (IntKind.u8.wrap 8)=qA 8:=rfl
def qTi:Ct where
 α:=Unit
 aS _:=[]
 ins _:=[]
 pre _:=True
 r _:= .sl 0 0 32
 outs _:=[.live 1 ((z32.map qA).map V.t) true false]
 inj:=fun _ _ _ _=>⟨rfl,rfl⟩
theorem zM4:qTi.fs [] []=some (.sl 0 0 32,[.live 1 ((z32.map qA).map V.t) true false]):=qTi.eq () trivial
theorem qWo:qDf.1.wp tab gl (qE 0 []) (qE 0 []) (kN [] [(0,none)] 0 (fun r o=>r = .sl 0 0 32∧o=[.live 1 ((z32.map qA).map V.t) true false])):=by
 simp(disch:=omega)only[go_sem,qDf,z32]
theorem zCn:qGh.1.wp tab gl (qE 0 []) (qE 0 []) (kN [] [(0,none)] 0 (fun r o=>r = .sl 0 0 32∧o=[.live 1 ((z32.map qA).map V.t) true false])):=by
 simp(disch:=omega)only[go_sem,qGh,z32]
def zDl:Ct where
 α:=As
 aS x:=[.t (.sl [asT x])]
 ins _:=[]
 pre x:=x.Ok
 r x:= .t (.sl ((jB4 z32 x).map qA))
 outs _:=[]
 inj:=by
  intro a b h _;simp only[List.cons.injEq,V.t.injEq,T.sl.injEq,and_true] at h;rw[zXk h];exact⟨rfl,rfl⟩
theorem zZk {a:As}(h:a.Ok):zDl.fs [.t (.sl [asT a])] []=some (.t (.sl ((jB4 z32 a).map qA)),[]):=zDl.eq a h
theorem jUg (h1:LkC tab 26 qTi)(h2:LkC tab 27 jUd)(a:As)(ha:a.Ok) :
  qE1.1.wp tab gl (qE 0 [.t (.sl [asT a])]) (qE 0 []) (zA [(2,none)] 0 (fun r o=>r = .t (.sl ((jB4 z32 a).map qA))∧o=[])):=by
 have hE:=jUo qBh ha;have t1:List.take 32 z32=z32:=rfl;have t2:List.take 32 (jB4 z32 a)=jB4 z32 a:=List.take_of_length_le (by rw[zDs];exact Nat.le_refl _);have l1:=zDs (d0:=z32) (a:=a);have l2:=qBh;cases a;all_goals simp only[asT] at *
 all_goals simp(disch:=omega)only[go_sem,qE1,h1,zM4]
 all_goals refine qJ 2 ?_
 all_goals simp(disch:=omega)only[go_sem,qF,h2,t1,t2,l1,l2,hE]
def zX4:Ct where
 α:=Int×Int
 aS x:=[.t (.agg [.int .i64 x.1,.int .i64 x.2])]
 ins _:=[]
 pre x:=(0≤x.1∧x.1≤65535)∧(0≤x.2∧x.2≤65535)
 r _:= .t (.bool true)
 outs _:=[]
 inj:=fun _ _ _ _=>⟨rfl,rfl⟩
theorem jUq {s0 s1:Int}(h0:0≤s0∧s0≤65535)(h1:0≤s1∧s1≤65535):zX4.fs [.t (.agg [.int .i64 s0,.int .i64 s1])] []=some (.t (.bool true),[]):=zX4.eq (s0,s1) ⟨h0,h1⟩
theorem qWr (s0 s1:Int)(h0:0≤s0∧s0≤65535)(h1:0≤s1∧s1≤65535):qDk.1.wp tab gl (qE 0 [.t (.agg [.int .i64 s0,.int .i64 s1])]) (qE 0 []) (zA [(2,none)] 0 (fun r o=>r = .t (.bool true)∧o=[])):=by
 have a1:=h0.1;have a2:=h0.2;have a3:=h1.1;have a4:=h1.2;simp(disch:=omega)only[go_sem,qDk,a1,a2,a3,a4]
def zX3:Ct where
 α:=List (List UInt8)
 aS x:=[.t (.sl (x.map bsT))]
 ins _:=[]
 pre x:=(As.alt x).Ok
 r _:= .t (.bool true)
 outs _:=[]
 inj:=fun _ _ _ _=>⟨rfl,rfl⟩
theorem jUn {bs:List (List UInt8)}(h:(As.alt bs).Ok):zX3.fs [.t (.sl (bs.map bsT))] []=some (.t (.bool true),[]):=zX3.eq bs h
theorem qVh (bs:List (List UInt8))(ha:(As.alt bs).Ok) :
  qCe.1.wp tab gl (qE 0 [.t (.sl (bs.map bsT))]) (qE 0 []) (zA [(2,none)] 0 (fun r o=>r = .t (.bool true)∧o=[])):=by
 obtain⟨⟨a0,a2⟩,a1⟩:=ha;simp(disch:=omega)only[go_sem,qCe,a0,a2];refine qB bs.length (fun k=>[(0,.t (.sl (bs.map bsT))),(3,.t (.int .i64 k))]) (fun _=>[]) ?_ (fun k hk=>?_)
 ·refine qK.rd id ?_ ?_ rfl;all_goals simp(disch:=omega)only[go_sem,id]
 ·by_cases hlt:k<bs.length
  ·have hb:=zL1 a1 hlt;simp(disch:=omega)only[go_sem,hlt,hb];refine qK.rd id ?_ ?_ rfl;all_goals simp(disch:=omega)only[go_sem,id]
  ·have e:k=bs.length:=oM;subst e;simp(disch:=omega)only[go_sem]
theorem jUi (h1:LkC tab 77 zX4)(h3:LkC tab 79 zX3)(a:As)(ha:a.Ok) :
  qCr.1.wp tab gl (qE 0 [.t (asT a)]) (qE 0 []) (zA [(2,none)] 0 (fun r o=>r = .t (.int .i64 0)∧o=[])):=by
 cases a with
 | reg s0 s1 d=>
  have l:=ha.2.2;simp(disch:=omega)only[go_sem,qCr,asT,h1,jUq ha.1 ha.2.1,l]
 | alt bs=>
  simp(disch:=omega)only[go_sem,qCr,asT,h3,jUn ha]
def jUe:Ct where
 α:=List UInt8×As
 aS x:=[.t (.sl (x.1.map qA)),.t (asT x.2)]
 ins _:=[]
 pre x:=x.1.length=32∧x.2.Ok
 r x:= .sl 0 0 (qY 8 ([knd x.2]::jSo x.1 x.2)).length
 outs x:=[.live 1 (((qY 8 ([knd x.2]::jSo x.1 x.2)).map qA).map V.t) true false]
 inj:=by
  rintro⟨a,b⟩ ⟨c,d⟩ h _;simp only[List.cons.injEq,V.t.injEq,T.sl.injEq,and_true,jC] at h;obtain⟨rfl,h⟩:=h;rw[zXk h];exact⟨rfl,rfl⟩
theorem jUp {d0:List UInt8}{a:As}(h0:d0.length=32)(ha:a.Ok):jUe.fs [.t (.sl (d0.map qA)),.t (asT a)] []=some (.sl 0 0 (qY 8 ([knd a]::jSo d0 a)).length,[.live 1 (((qY 8 ([knd a]::jSo d0 a)).map qA).map V.t) true false]):=jUe.eq (d0,a) ⟨h0,ha⟩
theorem jUj (h1:LkC tab 10 yY)(h2:LkC tab 42 qEa)(d0:List UInt8)(a:As)(h0:d0.length=32)(ha:a.Ok) :
  qCs.1.wp tab gl (qE 0 [.t (.sl (d0.map qA)),.t (asT a)]) (qE 0 []) (kN [] [(4,none)] 0 (fun r o=>r = .sl 0 0 (qY 8 ([knd a]::jSo d0 a)).length∧o=[.live 1 (((qY 8 ([knd a]::jSo d0 a)).map qA).map V.t) true false])):=by
 have hF:=qSg (t:=8) (fs:=[knd a]::jSo d0 a) ⟨oM,jUm h0 ha⟩;have hM:=jUm h0 ha;generalize qY 8 ([knd a]::jSo d0 a)=f at *;have tf:List.take f.length f=f:=List.take_length;cases a with
 | reg s0 s1 d=>
  have hu:=qM7 (b:=[]) (n:=s0) (by decide);simp only[List.map_nil,List.length_nil,List.nil_append] at hu;have hv:=qM7 (b:=beI 2 s0 2) (n:=s1) (by rw[qR];omega);rw[qR] at hv;have t2:List.take 2 (beI 2 s0 2)=beI 2 s0 2:=List.take_of_length_le (by rw[qR];exact Nat.le_refl _);have t4:List.take 4 (beI 2 s0 2++beI 2 s1 2)=beI 2 s0 2++beI 2 s1 2:=List.take_of_length_le (by rw[List.length_append,qR,qR];exact Nat.le_refl _);simp only[jSo,qCv,knd,mcn,qG] at hF;rw[show ((8:Nat):Int)=8 from rfl] at hF;simp(disch:=omega)only[go_sem,qCs,asT,h1,hu,hv,qR,t2,t4,k1b,h2,hF,tf];all_goals rfl
 | alt bs=>
  have l:=ha.1;have t1:List.take (1+bs.length) (T.sl [qA 8]::List.map bsT bs)=T.sl [qA 8]::List.map bsT bs:=List.take_of_length_le soM;simp only[jSo,knd,mcn] at hF;rw[show ((8:Nat):Int)=8 from rfl,qG] at hF;simp only[mcn] at hF;simp(disch:=omega)only[go_sem,qCs,asT,k8b,t1,h2,hF,tf];all_goals rfl
theorem jUh (h1:LkC tab 43 jUc)(h2:LkC tab 44 jUe)(h3:tab.look 41=some (zAq 32 jQ).fs)(d0:List UInt8)(a:As)(h0:d0.length=32)(ha:a.Ok) :
  qE2.1.wp tab gl (qE 0 [.t (.sl (d0.map qA)),.t (asT a)]) (qE 0 []) (kN [] [(4,none)] 0 (fun r o=>r = .sl 0 0 32∧o=[.live 1 (((jB4 d0 a).map qA).map V.t) true false])):=by
 have hF:=jUp h0 ha;have hM:=jUm h0 ha;have hS:=zWs (n:=32) (f:=jQ) hM;have hX:jQ (qY 8 ([knd a]::jSo d0 a))=jB4 d0 a:=rfl;rw[hX] at hS;generalize qY 8 ([knd a]::jSo d0 a)=f at *;have t1:List.take f.length f=f:=List.take_length;cases a with
 | reg s0 s1 d=>
  have hC:=jUl ha;generalize jB4 d0 (.reg s0 s1 d)=x at *;simp only[asT] at *;simp(disch:=omega)only[go_sem,qE2,h1,hC,h2,hF,t1,h3,hS]
 | alt bs=>
  have hC:=jUk ha;generalize jB4 d0 (.alt bs)=x at *;simp only[asT] at *;simp(disch:=omega)only[go_sem,qE2,h1,hC,h2,hF,t1,h3,hS]
theorem zMb:((1024:Nat):Int)=1024:=rfl
def snT (a s d:List UInt8):T:= .agg [.sl (a.map qA),.sl (s.map qA),.sl (d.map qA)]
theorem jA1 {a s d b t e:List UInt8}(h:snT a s d=snT b t e):a=b∧s=t∧d=e:=by
 simp only[snT,T.agg.injEq,List.cons.injEq,T.sl.injEq,true_and,and_true,jC] at h;exact h
def jRp:List UInt8:=[115,101,101,100]
def qY5 (s d:List UInt8):List UInt8:=qCu 13 [s,d]
theorem qHc {s d:List UInt8}:(qY5 s d).length=32:=qM
theorem zLx {t:Nat}{x y:List UInt8}(hx:x.length≤1000000)(hy:y.length≤1000000):(qY t [x,y]).length<1000000000:=by
 simp only[qY,List.flatMap_cons,List.flatMap_nil,List.length_cons,List.length_append,List.length_nil,qAl];omega
theorem zRe {s d:List UInt8}(hs:s.length≤1000000)(hd:d.length≤1000000):wC.fs [.t (.int .i64 13),.t (.sl [.sl (s.map qA),.sl (d.map qA)])] []=some (.sl 0 0 32,[.live 1 (((qY5 s d).map qA).map V.t) true false]):=wC.eq (13,[s,d]) ⟨by show 13<256;omega,zLx hs hd⟩
def zGe:Ct where
 α:=List UInt8×List UInt8×List UInt8
 aS x:=[.t (.int .i64 3),.t (.int .i64 0),.t (snT x.1 x.2.1 x.2.2)]
 ins _:=[]
 pre x:=x.2.1.length≤1000000∧x.2.2.length≤1000000
 r _:= .sl 0 0 32
 outs x:=[.live 1 (((qY5 x.2.1 x.2.2).map qA).map V.t) true false]
 inj:=by
  rintro⟨a,b,c⟩ ⟨d,e,f⟩ h _;simp only[List.cons.injEq,V.t.injEq,true_and,and_true] at h;obtain⟨rfl,rfl,rfl⟩:=jA1 h;exact⟨rfl,rfl⟩
theorem jHq {a s d:List UInt8}(h:s.length≤1000000∧d.length≤1000000):zGe.fs [.t (.int .i64 3),.t (.int .i64 0),.t (.agg [.sl (a.map qA),.sl (s.map qA),.sl (d.map qA)])] []=some (.sl 0 0 32,[.live 1 (((qY5 s d).map qA).map V.t) true false]):=zGe.eq (a,s,d) h
theorem qZ3 (h2:LkC tab 103 wC)(a s d:List UInt8)(h:s.length≤1000000∧d.length≤1000000) :
  qE8.1.wp tab gl (qE 0 [.t (.int .i64 3),.t (.int .i64 0),.t (snT a s d)]) (qE 0 []) (kN [] [(6,none)] 0 (fun r o=>r = .sl 0 0 32∧o=[.live 1 (((qY5 s d).map qA).map V.t) true false])):=by
 simp(disch:=omega)only[go_sem,qE8,snT,h2,zRe h.1 h.2]
def zVh:Ct where
 α:=Int
 aS x:=[.t (.int .i64 x)]
 ins _:=[]
 pre _:=True
 r x:= .tup [.t (.agg [.int .i64 0,.int .i64 0,.int .i64 0,.sl [],.sl []]),.t (.agg [.sl [],.sl [],.sl []]),.t (.int .i64 x)]
 outs _:=[]
 inj:=by
  intro a b h _;simp only[List.cons.injEq,V.t.injEq,T.int.injEq,true_and,and_true] at h;subst h;exact⟨rfl,rfl⟩
theorem qZ2 (e:Int):qE7.1.wp tab gl (qE 0 [.t (.int .i64 e)]) (qE 0 []) (zA [(2,some (5,true)),(3,some (3,true)),(4,none)] 0 (fun r o=>r = .tup [.t (.agg [.int .i64 0,.int .i64 0,.int .i64 0,.sl [],.sl []]),.t (.agg [.sl [],.sl [],.sl []]),.t (.int .i64 e)]∧o=[])):=by
 simp(disch:=omega)only[go_sem,qE7]
def qQ7 (sec:List UInt8):List UInt8:=drv sec jRp [] 32
theorem zX8 {k:List UInt8}(h:k.length≤64):qTh.fs [.t (.sl (k.map qA)),.t (qKg [115,101,101,100]),.t (.sl []),.t (.int .i64 32)] []=some (.t (.sl ((qQ7 k).map qA)),[]):=zGk (l:=jRp) (c:=[]) (n:=32) ⟨h,by decide,by decide,oM,oM⟩
def u8I (n:Int):UInt8:=UInt8.ofNat (n%256).toNat
theorem u8w {n:Int}:T.int .u8 (IntKind.u8.wrap n)=qA (u8I n):=by
 unfold qA u8I;rw[qVl];congr 1;have h0:=Int.emod_nonneg n (b:=256) (by decide);have h1:=Int.emod_lt_of_pos n (b:=256) (by decide);rw[UInt8.toNat_ofNat'];omega
def kK (s:Sa):St:=⟨s,false,false,[],0,0,false,0,[default,default,default],[default,default,default],[],[]⟩
def qTl:ECt where
 α:=Sa
 β:=St
 aS:=fun s=>[.t (saA s)]
 pre:=fun s=>True
 r:=fun r'=> .t (stA r')
 R:=fun s r'=>r'=kK s
theorem jCr {g:EF qTl}{s:Sa}:qTl.fs g [.t (saA s)] []=some (.t (stA (kK s)),[]):=fnQ qTl s trivial
theorem jW0 {s:Sa}(hV:vv = .t (stA (kK s)))(hO:oo=[]):qTl.K s vv oo:=⟨_,rfl,hV,hO⟩
def qP8 (s:St):St := { s with a := { s.a with res:=s.a.res+1,rst:=0,ord:=false,bk:=[],u:=0 },on:=true,bk:=yK s.a.act,u:=0,clk:=s.a.clk,safe:=s.a.ord }
def jT1 (s:St):St := { s with a := { s.a with rst:=s.a.rst+1,ord:=false,bk:=[],u:=0 },on:=true,bk:=zEd s.a.bk,u:=s.a.u,clk:=s.a.clk,safe:=s.a.ord }
def jB6 (s:St)(m:Int):St×Int:=
 if s.on=true∨s.off=true then (default,28) else if m≠0∧m≠1 then (default,1) else if m=1∧s.a.bk.length=0 then (default,16)
 else if m=0 then (qP8 s,0) else (jT1 s,0)
theorem zZb {act:Int}(ha:1≤act∧act≤3) : ∃ b0 b1:qX,yK act=[b0,b1]∧kM.fs [.t (.int .i64 act)] []=some (.agg [.sl 0 0 2,.t (.int .i64 0)],[.live 1 [.sl 1 0 b0.length,.sl 2 0 b1.length] true false,.live 1 ((b0.map bsT).map V.t) true false,.live 1 ((b1.map bsT).map V.t) true false]):=by
 obtain⟨b0,b1,e,_⟩:=ShA.new ha;refine⟨b0,b1,e,?_⟩;have h:kM.fs [.t (.int .i64 act)] []=some (twR (yK act) 0,twO (yK act)):=kM.eq act trivial;rw[e] at h;exact h
theorem jWe:kM.fs [.t (.int .i64 0)] []=some (.agg [.nil,.t (.int .i64 0)],[]):=kM.eq (0:Int) trivial
def qTn:ECt where
 α:=St×Int
 β:=St×Int
 aS:=fun (s,m)=>[.t (stA s),.t (.int .i64 m)]
 pre:=fun (s,m)=>s.a.Ok∧s.cn 1000000
 r:=fun (y,e)=> .tup [.t (stA y),.t (.int .i64 e)]
 R:=fun (s,m) (y,e)=>y=(jB6 s m).1∧e=(jB6 s m).2
theorem jHa {g:EF qTn}{s:St}{m:Int}(hp:s.a.Ok∧s.cn 1000000) : ∃ (y:St) (e:Int),(y=(jB6 s m).1∧e=(jB6 s m).2)∧qTn.fs g [.t (stA s),.t (.int .i64 m)] []=some (.tup [.t (stA y),.t (.int .i64 e)],[]):=by
 obtain⟨y,h1,h2⟩:=qTn.eq g (s,m) hp;exact⟨y.1,y.2,h1,h2⟩
theorem jVw {s:St}{m:Int}(y:St)(e:Int)(hR:y=(jB6 s m).1∧e=(jB6 s m).2)(hV:vv = .tup [.t (stA y),.t (.int .i64 e)])(hO:oo=[]):qTn.K (s,m) vv oo:=⟨(y,e),hR,hV,hO⟩
def jRq (s:St)(k:List qX)(u:Int):St := { kK { s.a with ord:=s.safe,clk:=s.clk,bk:=k,u:=u } with off:=true }
def jRr (s:St)(m:Int):St×Int:=
 if s.on=false then (default,28) else if m=0 then (jRq s [] 0,0) else if m=1 then (jRq s s.bk s.u,0) else (default,1)
def zK4:ECt where
 α:=St×Int
 β:=St×Int
 aS:=fun (s,m)=>[.t (stA s),.t (.int .i64 m)]
 pre:=fun (s,m)=>True
 r:=fun (y,e)=> .tup [.t (stA y),.t (.int .i64 e)]
 R:=fun (s,m) (y,e)=>y=(jRr s m).1∧e=(jRr s m).2
theorem jWk {s:St}{m:Int}(y:St)(e:Int)(hR:y=(jRr s m).1∧e=(jRr s m).2)(hV:vv = .tup [.t (stA y),.t (.int .i64 e)])(hO:oo=[]):zK4.K (s,m) vv oo:=⟨(y,e),hR,hV,hO⟩
def jTo (s:St):List UInt8:=beI 8 s.a.res 8++beI 8 s.a.rst 8++beI 8 s.dr 8
def qYr (s:St)(n:Int):List UInt8:=drv s.a.en [114,97,110,100,111,109] (jTo s) n.toNat
def qPq:ECt where
 α:=St×Int
 β:=St×List UInt8
 aS:=fun (s,n)=>[.t (stA s),.t (.int .i64 n)]
 pre:=fun (s,n)=>s.a.en.length=32∧(0≤s.dr∧s.dr≤1000000000)∧1≤n∧n≤1024
 r:=fun (y,b)=> .tup [.t (stA y),.t (.sl (b.map qA))]
 R:=fun (s,n) (y,b)=>y = { s with dr:=s.dr+1 }∧b=qYr s n
theorem jGk {g:EF qPq}{s:St}{n:Int}(hp:s.a.en.length=32∧(0≤s.dr∧s.dr≤1000000000)∧1≤n∧n≤1024) : ∃ (y:St) (b:List UInt8),(y = { s with dr:=s.dr+1 }∧b=qYr s n)∧qPq.fs g [.t (stA s),.t (.int .i64 n)] []=some (.tup [.t (stA y),.t (.sl (b.map qA))],[]):=by
 obtain⟨y,h1,h2⟩:=qPq.eq g (s,n) hp;exact⟨y.1,y.2,h1,h2⟩
theorem jW3 {s:St}{n:Int}(y:St)(b:List UInt8)(hR:y = { s with dr:=s.dr+1 }∧b=qYr s n)(hV:vv = .tup [.t (stA y),.t (.sl (b.map qA))])(hO:oo=[]):qPq.K (s,n) vv oo:=⟨(y,b),hR,hV,hO⟩
def ixP:List Ix→Int→Nat→Int
 | [],_,_ => -1
 | x::r,h,k=>if h=256+x.n then (k:Int) else ixP r h (k+1)
theorem zF {α:Type}{l:List α}{k:Nat}(h:k<l.length) : ∃ x,l[k]?=some x∧x∈l∧l.drop k=x::l.drop (k+1):=⟨l[k],List.getElem?_eq_getElem h,List.getElem_mem h,List.drop_eq_getElem_cons h⟩
structure Sl2 where
 a:Int
 b:Int
 deriving Inhabited
structure Att where
 key:List UInt8
 no:List UInt8
 res:Int
 rst:Int
 clk:Int
 safe:Bool
 u:Int
 s0:Int
 s1:Int
 dg:List UInt8
 deriving Inhabited
structure Rr where
 bk:List qX
 u:Int
 deriving Inhabited
def jA0 (x:Sl2):T:= .agg [.int .i64 x.a,.int .i64 x.b]
def jJw (x:Att):T:= .agg [.sl (x.key.map qA),.sl (x.no.map qA),.int .i64 x.res,.int .i64 x.rst,.int .i64 x.clk,.bool x.safe,.int .i64 x.u,.int .i64 x.s0,.int .i64 x.s1,.sl (x.dg.map qA)]
def rrA (x:Rr):T:= .agg [.sl (x.bk.map wY),.int .i64 x.u]
theorem jG9:EI jA0:=kS (by rintro⟨⟩ ⟨⟩ h;simp only[jA0,xU] at h;obtain⟨rfl,rfl⟩:=h;rfl)
theorem jCj:EI jJw:=kS (by rintro⟨⟩ ⟨⟩ h;simp only[jJw,xU] at h;obtain⟨rfl,rfl,rfl,rfl,rfl,rfl,rfl,rfl,rfl,rfl⟩:=h;rfl)
theorem jLu:EI rrA:=kS (by rintro⟨⟩ ⟨⟩ h;simp only[rrA,xU] at h;obtain⟨rfl,rfl⟩:=h;rfl)
theorem jSm:EI jA0∧EI jJw∧EI rrA:=⟨jG9,jCj,jLu⟩
def Asr.B (a:Asr):Prop:=a.dg.length≤4000∧a.od.length≤4000∧a.nm.length≤4000∧a.rf.length≤4000∧a.br.length≤8 ∧ ∀ x∈a.br,x.length≤4000
def Rq.B (q:Rq):Prop:=q.hs.length≤8∧q.au.length≤8∧q.ns.length≤8∧q.bl.length≤8∧(∀ x∈q.bl,x.length≤4000) ∧ ∀ a∈q.au,a.no.length≤4000∧a.va.length≤4000
def jJo:List (Int×Int×Int×Int):=[(-2,0,0,0),(0,0,1,0),(0,0,1,0),(-2,0,0,0),(0,0,0,0),(0,0,2,0),(0,0,1,2),(0,0,1,1),(0,0,1,0),
 (1,1,3,3),(1,1,3,3),(1,1,0,2),(0,0,1,0),(1,1,0,0),(1,1,0,1),(1,1,2,1),(0,0,1,0),(0,0,6,-1),(1,1,2,1),(0,0,1,3),(0,0,1,0),
 (1,1,4,2),(1,1,1,0),(2,1,1,1),(2,1,2,0),(2,1,0,0),(2,1,0,1),(2,1,0,1),(2,1,0,0),(2,1,0,0),(1,1,0,1),(1,1,0,0),(1,1,0,0),(1,1,3,0)]
def qKf (c:Int):Int×Int×Int×Int:=if c<0∨34≤c then (-2,0,0,0) else jJo.getD c.toNat (-2,0,0,0)
structure Rq.Ok (q:Rq):Prop where
 co:(0≤q.co∧q.co<34)∧(qKf q.co).1 ≠ -2
 hs:(q.hs.length:Int)=(qKf q.co).1 ∧ ∀ x∈q.hs,0≤x∧x≤65535
 au:(q.au.length:Int)=(qKf q.co).2.1 ∧ ∀ a∈q.au,tmI a.s∧a.no.length≤128∧a.va.length≤128
 ns:(q.ns.length:Int)=(qKf q.co).2.2.1 ∧ ∀ x∈q.ns,tmI x
 bl:((q.bl.length:Int)=(qKf q.co).2.2.2∨(qKf q.co).2.2.2 = -1∧q.bl.length≤8) ∧ ∀ x∈q.bl,x.length≤1024
def Rq.h0 (q:Rq):Int:=q.hs.getD 0 0
def Rq.h1 (q:Rq):Int:=q.hs.getD 1 0
def St.Go (k:Int)(s t:St):Prop:=t.Ok∧s.up k t
def zYa:ECt where
 α:=List UInt8×List UInt8
 β:=Int
 aS:=fun (a,b)=>[.t (.sl (a.map qA)),.t (.sl (b.map qA))]
 pre:=fun (a,b)=>a.length≤4000∧b.length≤4000
 r:=fun e=> .t (.int .i64 e)
 R:=fun (a,b) e=>True
theorem jW1 {a b:List UInt8}(e:Int)(hR:True)(hV:vv = .t (.int .i64 e))(hO:oo=[]):zYa.K (a,b) vv oo:=⟨e,hR,hV,hO⟩
def qBw:Ses:=⟨0,[],[],0,0,0,0,false⟩
def zWq (s:St)(h:Int):Int:=if h<768∨3≤h-768 then -1 else if (s.ses.getD (h-768).toNat qBw).kd=0 then -1 else h-768
def qGx:ECt where
 α:=St×Int×Ses
 β:=St
 aS:=fun (s,k,x)=>[.t (stA s),.t (.int .i64 k),.t (jP x)]
 pre:=fun (s,k,x)=>s.ses.length=3∧0≤k∧k≤2
 r:=fun r'=> .t (stA r')
 R:=fun (s,k,x) r'=>r' = { s with ses:=s.ses.set k.toNat x }
theorem zM3 {g:EF qGx}{s:St}{k:Int}{x:Ses}(hp:s.ses.length=3∧0≤k∧k≤2):qGx.fs g [.t (stA s),.t (.int .i64 k),.t (jP x)] []=some (.t (stA ({ s with ses:=s.ses.set k.toNat x })),[]):=fnQ qGx (s,k,x) hp
theorem jLk {s:St}{k:Int}{x:Ses}(hV:vv = .t (stA ({ s with ses:=s.ses.set k.toNat x })))(hO:oo=[]):qGx.K (s,k,x) vv oo:=⟨_,rfl,hV,hO⟩
structure Dk where
 ar:List (List UInt8)
 wr:Int
 cut:Int
 tn:Int
 off:Bool
 deriving Inhabited
structure Dv where
 k:Dk
 s:St
 on:Bool
 nx:Int
 deriving Inhabited
structure Fo where
 nm:List UInt8
 va:List UInt8
 po:List UInt8
 pr:Bool
 deriving Inhabited
inductive Av where
 | reg (s0 s1:Int) (d:List UInt8)
 | loc (n:Int)
 | cmd (n:Int)
 | idx (n op:Int) (od nm:List UInt8)
 | aut
 | alt (bs:List (List UInt8))
 | apr (nm rf:List UInt8)
 deriving Inhabited
def dkA (x:Dk):T:= .agg [.sl (x.ar.map bsT),.int .i64 x.wr,.int .i64 x.cut,.int .i64 x.tn,.bool x.off]
def dvA (d:Dv):T:= .agg [.sl (d.k.ar.map bsT),.int .i64 d.k.wr,.int .i64 d.k.cut,.int .i64 d.k.tn,.bool d.k.off,
 .sl (d.s.a.sd.map bsT),.sl (d.s.a.au.map bsT),.sl (d.s.a.en.map qA),.int .i64 d.s.a.act,.int .i64 d.s.a.res,.int .i64 d.s.a.rst,.int .i64 d.s.a.clk,.bool d.s.a.ord,.sl (d.s.a.bk.map wY),.int .i64 d.s.a.u,.int .i64 d.s.a.mc,.sl (d.s.a.ix.map ixA),
 .int .i64 d.s.a.lk.fa,.int .i64 d.s.a.lk.mx,.int .i64 d.s.a.lk.rc,.int .i64 d.s.a.lk.si,.int .i64 d.s.a.lk.cl,.int .i64 d.s.a.lk.pe,.sl (d.s.a.ks.map lvA),
 .bool d.s.on,.bool d.s.off,.sl (d.s.bk.map wY),.int .i64 d.s.u,.int .i64 d.s.clk,.bool d.s.safe,.int .i64 d.s.dr,.sl (d.s.ses.map jP),.sl (d.s.obs.map qBl),.sl (d.s.rl.map iT),.sl (d.s.wl.map iT),.bool d.on,.int .i64 d.nx]
def foA (x:Fo):T:= .agg [.sl (x.nm.map qA),.sl (x.va.map qA),.sl (x.po.map qA),.bool x.pr]
def avL (k s0 s1:Int)(d:List UInt8)(n op:Int)(od nm rf:List UInt8)(br:List (List UInt8)):T:= .agg [.int .i64 k,.int .i64 s0,.int .i64 s1,.sl (d.map qA),.int .i64 n,.int .i64 op,.sl (od.map qA),.sl (nm.map qA),.sl (rf.map qA),.sl (br.map bsT)]
def avA:Av→T
 | .reg s0 s1 d=>avL 1 s0 s1 d 0 0 [] [] [] []
 | .loc n=>avL 2 0 0 [] n 0 [] [] [] []
 | .cmd n=>avL 3 0 0 [] n 0 [] [] [] []
 | .idx n op od nm=>avL 4 0 0 [] n op od nm [] []
 | .aut=>avL 7 0 0 [] 0 0 [] [] [] []
 | .alt bs=>avL 8 0 0 [] 0 0 [] [] [] bs
 | .apr nm rf=>avL 9 0 0 [] 0 0 [] nm rf []
theorem jDi:EI dkA:=kS (by rintro⟨⟩ ⟨⟩ h;simp only[dkA,xU] at h;obtain⟨rfl,rfl,rfl,rfl,rfl⟩:=h;rfl)
theorem jKr:EI foA:=kS (by rintro⟨⟩ ⟨⟩ h;simp only[foA,xU] at h;obtain⟨rfl,rfl,rfl,rfl⟩:=h;rfl)
theorem jKi:EI dvA:=kS (by
 rintro⟨⟨⟩,s,_,_⟩ ⟨⟨⟩,t,_,_⟩ h;have hs:stA s=stA t:=by
  simp only[dvA,xU] at h;obtain⟨_,_,_,_,_,h⟩:=h;simp only[stA,xU];simp only[h,and_self]
 obtain rfl:=(jA4.1 s t).mp hs;simp only[dvA,xU] at h;obtain⟨rfl,rfl,rfl,rfl,rfl,h⟩:=h;obtain⟨rfl,rfl⟩:=h;rfl)
theorem zP0:EI avA:=kS (by
 intro a b h;cases a<;>cases b<;>simp only[avA,avL,xU] at h;all_goals first | rfl | (obtain⟨rfl,rfl,rfl,rfl⟩:=h;rfl) | (obtain⟨rfl,rfl,rfl⟩:=h;rfl) | (obtain⟨rfl,rfl⟩:=h;rfl) | (subst h;rfl) | exact absurd h.1 (by decide) | (exfalso;revert h;simp))
theorem qSf:EI dkA∧EI dvA∧EI foA∧EI avA:=⟨jDi,jKi,jKr,zP0⟩
def Av.Ok:Av→Prop
 | .reg s0 s1 d=>(0≤s0∧s0≤65535)∧(0≤s1∧s1≤65535)∧d.length=32
 | .loc n=>1≤n∧n≤31
 | .cmd n=>1≤n∧n≤255
 | .idx _ op od nm=>(0≤op∧op≤3)∧od.length≤128∧nm.length=32
 | .aut=>True
 | .alt bs=>(2≤bs.length∧bs.length≤8) ∧ ∀ b∈bs,b.length=32
 | .apr nm rf=>nm.length=32∧rf.length≤128
def qPu (d0:List UInt8):Av→List (List UInt8)
 | .reg s0 s1 d=>[d0,qCv s0 s1,d]
 | .loc n=>[d0,[u8I n]]
 | .cmd n=>[d0,[u8I n]]
 | .idx _ op od nm=>[d0,[u8I op],od,nm]
 | .aut=>[d0]
 | .alt bs=>bs
 | .apr nm rf=>[nm,rf]
def qW7:Av→UInt8
 | .reg .. => 1
 | .loc _=>2
 | .cmd _=>3
 | .idx .. => 4
 | .aut=>7
 | .alt _=>8
 | .apr .. => 9
def qPt (d0:List UInt8)(a:Av):List UInt8:=qCu 8 ([qW7 a]::qPu d0 a)
theorem qBd {d0:List UInt8}{a:Av}:(qPt d0 a).length=32:=qM
theorem zGn {d0:List UInt8}{a:Av}(h0:d0.length=32)(ha:a.Ok):(qY 8 ([qW7 a]::qPu d0 a)).length<1000000000:=by
 have h : ∀ x∈[qW7 a]::qPu d0 a,x.length≤128:=by
  intro x hx;rcases List.mem_cons.1 hx with rfl | hx
  ·exact Nat.le_of_ble_eq_true rfl
  ·cases a<;>simp only[qPu,List.mem_cons,List.not_mem_nil,or_false] at hx<;>simp only[Av.Ok] at ha
   case alt bs=>have:=ha.2 x hx;omega
   all_goals (rcases hx with rfl | rfl | rfl | rfl)<;>first | omega | (simp[qCv,qR];done) | (simp;done) | skip
   all_goals simp_all
 have hl:([qW7 a]::qPu d0 a).length≤9:=by
  cases a<;>simp only[qPu,List.length_cons,List.length_nil]<;>simp only[Av.Ok] at ha<;>omega
 have:=zH7 (t:=8) h;omega
def Obj.Se (x:Obj):Prop:=(x=default∨(x.p.kd=3∧x.p.ar=0∧x.p.ht=0∧x.p.po.length=32∧x.p.un.length=32))∧x.s.au.length≤32∧x.s.da.length≤128
def cnI (w:Bool)(d:List UInt8):Ix:=⟨1,2,48,8,[],[],w,d⟩
def Ses.Tp (x:Ses):Prop:=x.dg.length≤32∧x.no.length≤16∧x.dl=0∧(x.kd=0∨(x.dg.length=32∧(x.kd=2∨x.kd=3)∧(0≤x.lo∧x.lo≤31)∧(x.cm=0∨x.cm=13)))
structure Sa.Tp (s:Sa):Prop where
 sd:s.sd.length=3 ∧ ∀ x∈s.sd,x.length=32
 au:s.au=[[],[],[],[]]
 en:s.en.length=32
 act:s.act=2
 res:0≤s.res∧s.res≤1000
 rst:s.rst=0
 clk:s.clk=0
 bk:s.bk=[]∧s.u=0
 mc:0≤s.mc∧s.mc≤1000
 ix:s.ix=[] ∨ ∃ w d,s.ix=[cnI w d]∧d.length=8
 lk:s.lk=⟨0,5,100,0,0,1000⟩
 ks:s.ks=[]
structure St.Tp (s:St):Prop where
 a:s.a.Tp
 on:s.on=true
 off:s.off=false
 clk:s.clk=0
 rl:s.rl=[]
 wl:s.wl=[]
 bk:ShA 2 s.bk
 u:0≤s.u∧s.u≤1000
 dr:0≤s.dr∧s.dr≤1000
 ses:s.ses.length=3 ∧ ∀ x∈s.ses,x.Tp
 obs:s.obs.length=3 ∧ ∀ x∈s.obs,x.Se
end Go.Eng
end
