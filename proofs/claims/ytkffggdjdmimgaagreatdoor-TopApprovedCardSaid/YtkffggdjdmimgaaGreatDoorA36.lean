/- A part of the proof. -/
import Derived.Test.YtkffggdjdmimgaaGreatDoorA33
set_option linter.all false
section
set_option maxHeartbeats 64000000
set_option maxRecDepth 100000
namespace Go.Eng
open List
variable (tab:Tab) (gl:Gl)
variable {vv:V} {oo:List Ob}
def brD (cs:List UInt8)(m:Int):List UInt8:=rgD (qZ7 cs (qN0 cs)).bk 0 m
def brP (cs:List UInt8)(m:Int):List UInt8:=zB0 z32 (.reg 0 m (brD cs m))
theorem zBv {cs:List UInt8}{m:Int}:(brP cs m).length=32:=qJo
theorem qEu {cs:List UInt8}{m:Int}:(brD cs m).length=32:=zKr
theorem jC2 {cs:List UInt8}{m:Int}(hm:0≤m∧m≤65535):qI3.fs [.t (mgA (qZ7 cs (qN0 cs))),.t (.agg [.int .i64 0,.int .i64 m])] []=some (.tup [.sl 0 0 32,.t (.int .i64 0)],[.live 1 (((brD cs m).map qA).map V.t) true false]):=
 zSk (zDo cs _).1.rv (zSj (zDo cs _).1 hm)
theorem yCc {h:Int}{k r w:List UInt8}(hh:0≤h∧h≤65535)(lk:k.length≤200)(lr:r.length≤60)(lw:w.length≤1000):(qC (.ap h k r w)).W where
 co:=by show coK 19;unfold coK;omega
 hs:=⟨rfl,zG8⟩
 au:=⟨rfl,zG8⟩
 ns:=⟨rfl,zKe (qM1 hh)⟩
 bl:=⟨.inl rfl,jKf oM oM oM⟩
 le:=by rw[zD1];simp[qC,rqT,w8,qU,zIg];omega
def apY (x:Ses)(u r:List UInt8):Ses := { x with dg:=qNz x.dg (.apr (qN1 (qAe (0::u))) r) }
def apS (s:St)(j:Nat)(x:Ses)(u r:List UInt8):St := { s with ses:=s.ses.set j (apY x u r) }
theorem jDk {u:List UInt8}(hu:u.length=16):(qHq (qAe (0::u))).drop 8=u∧(qHq (qAe (0::u))).length=24:=by
 rw[qMm (by simp[hu])];exact⟨rfl,by simp[hu]⟩
theorem jU8 {s:St}(h:s.Tp){j:Nat}{x:Ses}(hg:s.ses[j]?=some x)(hk:x.kd=2){u r w:List UInt8}(hu:u.length=16)(hr:r.length≤60)(hw:w.length≤1000) :
  SnP s 0 (.ap (768+(j:Int)) (qHq (qAe (0::u))) r w)∧vN s (.ap (768+(j:Int)) (qHq (qAe (0::u))) r w)=(if vrF u (qU5 x.dg r) w=true then (apS s j x u r,⟨0,[],[],[]⟩) else (s,⟨17,[],[],[]⟩))∧(apS s j x u r).Tp:=by
 have hl:=h.ses.1;have hj:=qR0 hg;have hp:=zUm hl hg (.inl hk);have hT:=h.ses.2 x (zNq hg);obtain⟨h32,hk2,hlo,hcm⟩:=hT.2.2.2.resolve_left oM;obtain⟨h8,l8⟩:=jDk hu;have e:vN s (.ap (768+(j:Int)) (qHq (qAe (0::u))) r w)=(if vrF u (qU5 x.dg r) w=true then (apS s j x u r,⟨0,[],[],[]⟩) else (s,⟨17,[],[],[]⟩)):=by
  simp only[vN,h8,apF,hp];by_cases c:vrF u (qU5 x.dg r) w=true
  ·simp only[c,if_true,exS,Int.toNat_natCast];rfl
  ·simp only[c,if_false];rfl
 have hW:(vN s (.ap (768+(j:Int)) (qHq (qAe (0::u))) r w)).2.W∧(vN s (.ap (768+(j:Int)) (qHq (qAe (0::u))) r w)).1.a=s.a:=by
  rw[e];split
  ·exact⟨zPy (by decide),rfl⟩
  ·exact⟨zPy (by decide),rfl⟩
 refine⟨⟨⟨⟨⟨⟨hl,qM1 oM⟩,by rw[hp],by rw[hp];exact hk,by rw[hp];exact h32,hr,hw⟩,u,rfl,hu⟩,.inl (.inr (.inr (.inr (.inr (.inr (.inr ⟨_,_,_,_,rfl⟩)))))),by decide,.inr h.on,.inl (.inr (.inr (.inr (.inr (.inr (.inr ⟨_,_,_,_,rfl⟩))))))⟩,yCc oM oM hr hw,hW.1,by rw[hW.2];exact h.a.B⟩,e,?_⟩;have e32:(qNz x.dg (.apr (qN1 (qAe (0::u))) r)).length=32:=qBe;exact⟨h.a,h.on,h.off,h.clk,h.rl,h.wl,h.bk,h.u,h.dr,⟨by simp[apS,hl],qYv h.ses.2 ⟨Nat.le_of_eq e32,hT.2.1,hT.2.2.1,.inr ⟨e32,hk2,hlo,hcm⟩⟩⟩,h.obs⟩
def ix9 (a:Av):Prop:=(∃ od nm,a = .idx 0 2 od nm∧od.length=8∧nm.length=32) ∨ ∃ nm rf,a = .apr nm rf∧nm.length=32∧rf.length≤60
theorem ix9.ok {a:Av}(h:ix9 a):a.Ok:=by
 rcases h with⟨od,nm,rfl,h1,h2⟩ | ⟨nm,rf,rfl,h1,h2⟩
 ·exact⟨oM,oM,h2⟩
 ·exact⟨h1,oM⟩
def zM0:Ct where
 α:=List UInt8×List UInt8
 aS x:=[.t (.sl (x.1.map qA)),.t (.sl (x.2.map qA))]
 ins _:=[]
 pre x:=x.1.length=32∧x.2.length≤128
 r _:= .t (.int .i64 0)
 outs _:=[]
 inj:=fun _ _ _ _=>⟨rfl,rfl⟩
theorem jEe {a b:List UInt8}(h:a.length=32∧b.length≤128):zM0.fs [.t (.sl (a.map qA)),.t (.sl (b.map qA))] []=some (.t (.int .i64 0),[]):=zM0.eq (a,b) h
theorem zE9 (a b:List UInt8)(h:a.length=32∧b.length≤128):qAb.1.wp tab gl (qE 0 [.t (.sl (a.map qA)),.t (.sl (b.map qA))]) (qE 0 []) (qV [(4,none)] 0 (fun r o=>r = .t (.int .i64 0)∧o=[])):=by
 obtain⟨h1,h2⟩:=h;have h3 : ¬ 128<b.length:=oM;simp(maxSteps:=9^9)(disch:=try exact dS)only[go_sem,qAb,h1,h3]
def zMx:Ct where
 α:=Av
 aS x:=[.t (avA x)]
 ins _:=[]
 pre x:=ix9 x
 r _:= .t (.int .i64 0)
 outs _:=[]
 inj:=fun _ _ _ _=>⟨rfl,rfl⟩
theorem jN1 {a:Av}(h:ix9 a):zMx.fs [.t (avA a)] []=some (.t (.int .i64 0),[]):=zMx.eq a h
theorem zE7 (h2:LkC tab 83 zM0)(a:Av)(ha:ix9 a) :
  wM.1.wp tab gl (qE 0 [.t (avA a)]) (qE 0 []) (qV [(2,none)] 0 (fun r o=>r = .t (.int .i64 0)∧o=[])):=by
 rcases ha with⟨od,nm,rfl,l1,l2⟩ | ⟨nm,rf,rfl,l1,l2⟩
 ·have e:=jEe (a:=nm) (b:=od) ⟨l2,oM⟩;simp(maxSteps:=9^9)(disch:=try exact dS)only[go_sem,wM,avA,avL,h2,e,map_nil]
 ·have e:=jEe (a:=nm) (b:=rf) ⟨l1,oM⟩;simp(maxSteps:=9^9)(disch:=try exact dS)only[go_sem,wM,avA,avL,h2,e,map_nil]
def zMz:Ct where
 α:=List UInt8×Av
 aS x:=[.t (.sl (x.1.map qA)),.t (avA x.2)]
 ins _:=[]
 pre x:=x.1.length=32∧ix9 x.2
 r x:= .sl 0 0 (qZ 8 ([zB6 x.2]::qTs x.1 x.2)).length
 outs x:=[.live 1 (((qZ 8 ([zB6 x.2]::qTs x.1 x.2)).map qA).map V.t) true false]
 inj:=by
  rintro⟨a,b⟩ ⟨c,d⟩ h _;simp only[List.cons.injEq,V.t.injEq,T.sl.injEq,and_true,zN,zXh] at h;obtain⟨rfl,rfl⟩:=h;exact⟨rfl,rfl⟩
theorem jN4 {d0:List UInt8}{a:Av}(h0:d0.length=32)(ha:ix9 a):zMz.fs [.t (.sl (d0.map qA)),.t (avA a)] []=some (.sl 0 0 (qZ 8 ([zB6 a]::qTs d0 a)).length,[.live 1 (((qZ 8 ([zB6 a]::qTs d0 a)).map qA).map V.t) true false]):=zMz.eq (d0,a) ⟨h0,ha⟩
theorem zE8 (h2:LkC tab 54 qEk)(d0:List UInt8)(a:Av)(h0:d0.length=32)(ha:ix9 a) :
  wO.1.wp tab gl (qE 0 [.t (.sl (d0.map qA)),.t (avA a)]) (qE 0 []) (kG [] [(4,none)] 0 (fun r o=>r = .sl 0 0 (qZ 8 ([zB6 a]::qTs d0 a)).length∧o=[.live 1 (((qZ 8 ([zB6 a]::qTs d0 a)).map qA).map V.t) true false])):=by
 have hF:=qRu (t:=8) (fs:=[zB6 a]::qTs d0 a) ⟨oM,zNf h0 ha.ok⟩;have hM:=zNf h0 ha.ok;generalize qZ 8 ([zB6 a]::qTs d0 a)=f at *;have tf:List.take f.length f=f:=take_length;have k4:T.int .u8 (IntKind.u8.wrap 4)=qA 4:=by rfl
 have k9:T.int .u8 (IntKind.u8.wrap 9)=qA 9:=by rfl
 have k2:T.int .u8 (IntKind.u8.wrap 2)=qA (u8I 2):=by rfl
 rcases ha with⟨od,nm,rfl,l1,l2⟩ | ⟨nm,rf,rfl,l1,l2⟩
 ·simp only[qTs,zB6,mcn,qI] at hF;rw[show ((8:Nat):Int)=8 from rfl] at hF;simp(maxSteps:=9^9)(disch:=try exact dS)only[go_sem,wO,avA,avL,k4,k2,h2,hF,tf,map_nil];all_goals rfl
 ·simp only[qTs,zB6,mcn,qI] at hF;rw[show ((8:Nat):Int)=8 from rfl] at hF;simp(maxSteps:=9^9)(disch:=try exact dS)only[go_sem,wO,avA,avL,k9,h2,hF,tf,map_nil];all_goals rfl
def zMy:Ct where
 α:=List UInt8×Av
 aS x:=[.t (.sl (x.1.map qA)),.t (avA x.2)]
 ins _:=[]
 pre x:=x.1.length=32∧ix9 x.2
 r _:= .sl 0 0 32
 outs x:=[.live 1 (((qNz x.1 x.2).map qA).map V.t) true false]
 inj:=by
  rintro⟨a,b⟩ ⟨c,d⟩ h _;simp only[List.cons.injEq,V.t.injEq,T.sl.injEq,and_true,zN,zXh] at h;obtain⟨rfl,rfl⟩:=h;exact⟨rfl,rfl⟩
theorem jN3 {d0:List UInt8}{a:Av}(h0:d0.length=32)(ha:ix9 a):zMy.fs [.t (.sl (d0.map qA)),.t (avA a)] []=some (.sl 0 0 32,[.live 1 (((qNz d0 a).map qA).map V.t) true false]):=zMy.eq (d0,a) ⟨h0,ha⟩
theorem zA7 (h1:LkC tab 51 zMx)(h2:LkC tab 53 zMz)(h3:tab.look 52=some (qNy 32 zT).fs)(d0:List UInt8)(a:Av)(h0:d0.length=32)(ha:ix9 a) :
  wT.1.wp tab gl (qE 0 [.t (.sl (d0.map qA)),.t (avA a)]) (qE 0 []) (kG [] [(4,none)] 0 (fun r o=>r = .sl 0 0 32∧o=[.live 1 (((qNz d0 a).map qA).map V.t) true false])):=by
 have hC:=jN1 ha;have hF:=jN4 h0 ha;have hM:=zNf h0 ha.ok;have hS:=zCe (n:=32) (f:=zT) hM;have hX:zT (qZ 8 ([zB6 a]::qTs d0 a))=qNz d0 a:=rfl;rw[hX] at hS;generalize qZ 8 ([zB6 a]::qTs d0 a)=f at *;have t1:List.take f.length f=f:=take_length;generalize qNz d0 a=x at *;rcases ha with⟨od,nm,rfl,l1,l2⟩ | ⟨nm,rf,rfl,l1,l2⟩;all_goals
  simp only[avA,avL,map_nil] at *;simp(maxSteps:=9^9)(disch:=try exact dS)only[go_sem,wT,h1,hC,h2,hF,t1,h3,hS]
def zBz:Ct where
 α:=Av
 aS x:=[.t (.sl [avA x])]
 ins _:=[]
 pre x:=ix9 x
 r x:= .t (.sl ((qNz z32 x).map qA))
 outs _:=[]
 inj:=by
  intro a b h _;simp only[List.cons.injEq,V.t.injEq,T.sl.injEq,and_true,zXh] at h;subst h;exact⟨rfl,rfl⟩
theorem jN2 {a:Av}(h:ix9 a):zBz.fs [.t (.sl [avA a])] []=some (.t (.sl ((qNz z32 a).map qA)),[]):=zBz.eq a h
theorem zA6 (h1:LkC tab 27 qU7)(h2:LkC tab 28 zMy)(a:Av)(ha:ix9 a) :
  kY.1.wp tab gl (qE 0 [.t (.sl [avA a])]) (qE 0 []) (qV [(2,none)] 0 (fun r o=>r = .t (.sl ((qNz z32 a).map qA))∧o=[])):=by
 have hE:=jN3 qAd ha;have t1:List.take 32 z32=z32:=rfl;have l1:=qBe (d0:=z32) (a:=a);have t2:List.take 32 (qNz z32 a)=qNz z32 a:=take_of_length_le oM;have l2:=qAd;generalize qNz z32 a=x at *;rcases ha with⟨od,nm,rfl,l3,l4⟩ | ⟨nm,rf,rfl,l3,l4⟩;all_goals
  simp only[avA,avL,map_nil] at *;simp(maxSteps:=9^9)(disch:=try exact dS)only[go_sem,kY,h1,zN2];refine qG 2 ?_;simp(maxSteps:=9^9)(disch:=try exact dS)only[go_sem,qD,h2,t1,t2,l1,l2,hE]
noncomputable def zSe:FsB:=⟨orS qHe.fs zBz.fs⟩
theorem zUj {m:Int}{d:List UInt8}(hm:0≤m∧m≤65535)(hd:d.length=32):zSe.fs [.t (.sl [.agg [.int .i64 1,.int .i64 0,.int .i64 m,.sl (d.map qA),.int .i64 0,.int .i64 0,.sl [],.sl [],.sl [],.sl []]])] []=some (.t (.sl ((zB0 z32 (.reg 0 m d)).map qA)),[]):=by
 have e:=zUk (a:= .reg 0 m d) ⟨oM,hm,hd⟩;show orS qHe.fs zBz.fs _ _=_;unfold orS;rw[show qHe.fs [.t (.sl [.agg [.int .i64 1,.int .i64 0,.int .i64 m,.sl (d.map qA),.int .i64 0,.int .i64 0,.sl [],.sl [],.sl [],.sl []]])] []=_ from e]
theorem zUi {nm rf:List UInt8}(h1:nm.length=32)(h2:rf.length≤60):zSe.fs [.t (.sl [.agg [.int .i64 9,.int .i64 0,.int .i64 0,.sl [],.int .i64 0,.int .i64 0,.sl [],.sl (nm.map qA),.sl (rf.map qA),.sl []]])] []=some (.t (.sl ((qNz z32 (.apr nm rf)).map qA)),[]):=by
 have e:=jN2 (a:= .apr nm rf) (.inr ⟨nm,rf,rfl,h1,h2⟩);have e0:qHe.fs [.t (.sl [.agg [.int .i64 9,.int .i64 0,.int .i64 0,.sl [],.int .i64 0,.int .i64 0,.sl [],.sl (nm.map qA),.sl (rf.map qA),.sl []]])] []=none:=by
  unfold Ct.fs;rw[dif_neg];rintro⟨a,h,_⟩;have:=h.1;cases a<;>simp[qHe,asT] at this
 show orS qHe.fs zBz.fs _ _=_;unfold orS;rw[e0];exact e
theorem jSu {d d' nm rf:List UInt8}:qNz d (.apr nm rf)=qNz d' (.apr nm rf):=rfl
def zSq:ECt where
 α:=List UInt8×List UInt8×Int×List UInt8×List UInt8×List UInt8×List UInt8
 β:=Bool
 aS:=fun (ca,cn,m,sk,rf,ot,da)=>[.t (.sl (ca.map qA)),.t (.sl (cn.map qA)),.t (.int .i64 m),.t (.sl (sk.map qA)),.t (.sl (rf.map qA)),.t (.sl (ot.map qA)),.t (.sl (da.map qA))]
 pre:=fun (ca,cn,m,sk,rf,ot,da)=>ca.length≤9223372036854775807∧cn.length≤9223372036854775807∧sk.length≤9223372036854775807∧rf.length≤9223372036854775807∧ot.length≤9223372036854775807∧da.length≤9223372036854775807
 r:=fun r'=> .t (.bool r')
 R:=fun (ca,cn,m,sk,rf,ot,da) r'=>r'=true
theorem qH4 {ca cn:List UInt8}{m:Int}{sk rf ot da:List UInt8}(hV:vv = .t (.bool (true)))(hO:oo=[]):zSq.K (ca,cn,m,sk,rf,ot,da) vv oo:=⟨_,rfl,hV,hO⟩
theorem qUl {g1}(h1:LkE tab 4 qP3 g1){g2}(h2:LkE tab 5 qP6 g2){g3}(h3:LkE tab 7 qB5 g3)(h4:tab.look 6=some zSe.fs){g5}(h5:LkE tab 9 qMg g5)(h6:LkC tab 8 qI3){g7}(h7:LkE tab 11 qD3 g7){g8}(h8:LkE tab 10 qP7 g8){g9}(h9:LkE tab 12 qMf g9){g10}(h10:LkE tab 13 qMh g10){g11}(h11:LkE tab 15 qHo g11){g12}(h12:LkE tab 14 wC g12){g13}(h13:LkE tab 16 qHm g13){g14}(h14:LkE tab 17 qHn g14){g15}(h15:LkE tab 18 qD5 g15){g16}(h16:LkE tab 20 qB4 g16){g17}(h17:LkE tab 19 qAm g17){g18}(h18:LkE tab 22 qHl g18)(h19:LkC tab 21 zGi)(h20:LkC tab 23 qOj)(ca cn:List UInt8)(m:Int)(sk rf ot da:List UInt8)(hp:ca.length≤9223372036854775807∧cn.length≤9223372036854775807∧sk.length≤9223372036854775807∧rf.length≤9223372036854775807∧ot.length≤9223372036854775807∧da.length≤9223372036854775807) :
  zS.1.wp tab gl (qE 0 [.t (.sl (ca.map qA)),.t (.sl (cn.map qA)),.t (.int .i64 m),.t (.sl (sk.map qA)),.t (.sl (rf.map qA)),.t (.sl (ot.map qA)),.t (.sl (da.map qA))]) (qE 0 []) (qV [(14,none)] 0 (zSq.K (ca,cn,m,sk,rf,ot,da))):=by
 obtain⟨hca,hcn,hsk,hrf,hot,hda⟩:=hp;obtain⟨a,rfl,e1⟩ := @jRi g1;by_cases d1:60<sk.length
 ·simp(maxSteps:=9^9)(disch:=try exact dS)only[go_sem,zS,h1,e1,d1];first | exact (qH4 rfl rfl) | exact⟨rfl,(qH4 rfl rfl)⟩ | exact⟨rfl,rfl,(qH4 rfl rfl)⟩ | exact⟨rfl,rfl,rfl,(qH4 rfl rfl)⟩
 by_cases d2:60<rf.length
 ·simp(maxSteps:=9^9)(disch:=try exact dS)only[go_sem,zS,h1,e1,d1,d2];first | exact (qH4 rfl rfl) | exact⟨rfl,(qH4 rfl rfl)⟩ | exact⟨rfl,rfl,(qH4 rfl rfl)⟩ | exact⟨rfl,rfl,rfl,(qH4 rfl rfl)⟩
 by_cases d3:60<ot.length
 ·simp(maxSteps:=9^9)(disch:=try exact dS)only[go_sem,zS,h1,e1,d1,d2,d3];first | exact (qH4 rfl rfl) | exact⟨rfl,(qH4 rfl rfl)⟩ | exact⟨rfl,rfl,(qH4 rfl rfl)⟩ | exact⟨rfl,rfl,rfl,(qH4 rfl rfl)⟩
 by_cases d4:60<da.length
 ·simp(maxSteps:=9^9)(disch:=try exact dS)only[go_sem,zS,h1,e1,d1,d2,d3,d4];first | exact (qH4 rfl rfl) | exact⟨rfl,(qH4 rfl rfl)⟩ | exact⟨rfl,rfl,(qH4 rfl rfl)⟩ | exact⟨rfl,rfl,rfl,(qH4 rfl rfl)⟩
 have hm:0≤m%65536∧m%65536≤65535:=oM;obtain⟨U,⟨u,rfl,hu⟩,e2⟩:=jRo (g:=g2) (s:=sk) (h:=0) ⟨oM,rfl⟩;have hK2:(qAe (0::u)).K2:= .inr ⟨_,rfl,by simp[hu]⟩;have e3:=zOu (g:=g3) hK2;have lN:(qN1 (qAe (0::u))).length=32:=qFt;have e4a:=zUi (nm:=qN1 (qAe (0::u))) (rf:=rf) lN oM;have e4o:=zUi (nm:=qN1 (qAe (0::u))) (rf:=ot) lN oM;have lP:(qNz z32 (.apr (qN1 (qAe (0::u))) rf)).length=32:=qBe;have lF:(qNz z32 (.apr (qN1 (qAe (0::u))) ot)).length=32:=qBe;have e5a:=jFd (g:=g5) (cs:=ca) hca;have e5n:=jFd (g:=g5) (cs:=cn) hcn;have e6a:=jC2 (cs:=ca) hm;have e6n:=jC2 (cs:=cn) hm;have e4ra:=zUj hm (qEu (cs:=ca) (m:=m%65536));rw[show zB0 z32 (.reg 0 (m%65536) (brD ca (m%65536)))=brP ca (m%65536) from rfl] at e4ra;have e4rn:=zUj hm (qEu (cs:=cn) (m:=m%65536));rw[show zB0 z32 (.reg 0 (m%65536) (brD cn (m%65536)))=brP cn (m%65536) from rfl] at e4rn;have lDa := @qEu ca (m%65536);have lDn := @qEu cn (m%65536);have tDa:=take_of_length_le (l:=brD ca (m%65536)) (i:=32) (by rw[qEu];exact Nat.le_refl _);have tDn:=take_of_length_le (l:=brD cn (m%65536)) (i:=32) (by rw[qEu];exact Nat.le_refl _);have lpa := @zBv ca (m%65536);have lpn := @zBv cn (m%65536);have e7g:=zWr (g:=g7) (d:=brP ca (m%65536)) (r:=rf) ⟨oM,oM⟩;have e7h:=zWr (g:=g7) (d:=brP cn (m%65536)) (r:=ot) ⟨oM,oM⟩;obtain⟨W,lW,e8⟩:=jRp (g:=g8) (s:=sk) (h:=0) (l:=0) (m:=qU5 (brP ca (m%65536)) rf) ⟨oM,rfl,rfl,by rw[qFl];omega⟩;obtain⟨l15,fits,⟨rfl,hfit⟩,e15⟩:=jFq (g:=g15) (p:=0::u) (m:=qU5 (brP cn (m%65536)) ot) (sg:=W) ⟨⟨u,rfl,hu⟩,by rw[qFl];omega,oM⟩;have hfit:fits=vrF u (qU5 (brP cn (m%65536)) ot) W:=hfit;obtain⟨E,hE,e16⟩:=zOt (g:=g16) hK2;have lE:E.length=24:=by rw[hE];exact (jDk hu).2
 have tE:List.take 24 E=E:=take_of_length_le oM;rw[lE] at e16;have tW:List.take 561 W=W:=take_of_length_le oM;have hbD:brD cn (m%65536)=rgD (qZ7 cn (qN0 cn)).bk 0 (m%65536):=rfl;have hbP:brP cn (m%65536)=zB0 z32 (.reg 0 (m%65536) (brD cn (m%65536))):=rfl;obtain⟨v,ok,⟨rfl,hv⟩,e9⟩:=jFc (g:=g9) (a:=2) rfl;obtain⟨dk,s,nx,hf,hF,-,-⟩:=jDs;rw[hv,hf] at e9;obtain⟨w,ok,⟨rfl,hw⟩,e10⟩:=jRl (g:=g10) (d:=⟨dk,s,true,nx⟩) (cs:=cn) ⟨⟨hF.hk,rfl,hF.tp,by rw[hF.hu];decide⟩,hcn⟩;rw[hw] at e10;have hyb:=zT2 hF.hb cn (qN0 cn);obtain⟨T0,u0,a0,dr0,se0,ob0⟩:=zKh hF.tp (by rw[hF.hu];decide) cn (qN0 cn) (by unfold qN0;omega);rw[hF.se] at se0;rw[hF.ob] at ob0;rw[hF.hd] at dr0;have hk':=hF.hk;simp only at e10;clear hv hf hw hF u0 a0;generalize hmm:m%65536=mm at *;have hPdef : ∀ d,qNz d (.apr (qN1 (qAe (0::u))) ot)=qNz z32 (.apr (qN1 (qAe (0::u))) ot):=fun _=>jSu
 generalize hNN:qN1 (qAe (0::u))=N at *;generalize qNz z32 (.apr N rf)=P at *;generalize hFF:qNz z32 (.apr N ot)=F at *;generalize zDp s cn (qN0 cn)=y at *;generalize qZ7 cn (qN0 cn)=g at *;generalize qZ7 ca (qN0 ca)=ga at *;generalize brD cn mm=dn at *;generalize brP cn mm=pn at *;generalize brD ca mm=dna at *;generalize brP ca mm=pa at *;obtain⟨q1,⟨en,nm,f1⟩,T1⟩:=jPp T0 (j:=0) (by rw[ob0];rfl) oM (hh:=2) (po:=P) (au:=[]) (da:=da) oM lP sM oM;have i11:qHo.fs g11 [.t (.int .i64 2),.t (.int .i64 3),.t (.int .i64 0),.t (.int .i64 0),.t (.sl (P.map qA)),.t (.sl []),.t (.sl (da.map qA))] []=some (.t (rqA (qC (.pr 2 P [] da))),[]):=jFi (u:=[]);have m1:wC.fs g12 [.t (dvA ⟨dk,y,true,nx⟩),.t (.int .i64 0),.t (rqA (qC (.pr 2 P [] da))),.t (.int .i64 1),.t (.int .i64 2)] []=some (.tup [.t (dvA ⟨dk,prS y 0 2 P [] da,true,nx⟩),.t (rsA ⟨0,[512],[en,nm],[]⟩),.t (.bool true)],[]):=zG9 hk' T0 q1 f1 rfl ⟨rfl,rfl,rfl⟩;obtain⟨s1,hs1⟩ : ∃ s1,prS y 0 2 P [] da=s1:=⟨_,rfl⟩;have ses1:s1.ses=[sd,sd,sd]:=by rw[←hs1];exact se0
 have obs1:s1.obs[0]?=some (qMw y 2 P [] da):=by rw[←hs1];show (y.obs.set 0 _)[0]?=_;rw[ob0];rfl
 have bk1:s1.bk=g.bk:=by rw[←hs1];exact hyb
 have dr1:s1.dr=0:=by rw[←hs1];exact dr0
 rw[hs1] at m1 T1;clear q1 f1 hs1;obtain⟨q2,f2,T2⟩:=jPn T1 (by rw[dr1];decide) (j:=0) (by rw[ses1];rfl) (k:=2) oM;have i13:qHm.fs g13 [.t (.int .i64 2)] []=some (.t (rqA (qC (.op 2))),[]):=jFg;have m2:wC.fs g12 [.t (dvA ⟨dk,s1,true,nx⟩),.t (.int .i64 0),.t (rqA (qC (.op 2))),.t (.int .i64 1),.t (.int .i64 1)] []=some (.tup [.t (dvA ⟨dk,opS s1 0 2,true,nx⟩),.t (rsA ⟨0,[768],[qVc s1 16],[]⟩),.t (.bool true)],[]):=zG9 hk' T1 q2 f2 rfl ⟨rfl,rfl,rfl⟩;obtain⟨x2,hx2⟩ : ∃ x2,nwS s1 2=x2:=⟨_,rfl⟩;obtain⟨s2,hs2⟩ : ∃ s2,opS s1 0 2=s2:=⟨_,rfl⟩;have kd2:x2.kd=2:=by rw[←hx2];rfl
 have up2:x2.up = -1:=by rw[←hx2];rfl
 have cm2:x2.cm=0:=by rw[←hx2];rfl
 have lo2:x2.lo=31:=by rw[←hx2];rfl
 have av2:x2.av=false:=by rw[←hx2];rfl
 have dg2:x2.dg=z32:=by rw[←hx2];rfl
 have ses2:s2.ses=[x2,sd,sd]:=by rw[←hs2,←hx2];show s1.ses.set 0 _=_;rw[ses1];rfl
 have obs2:s2.obs[0]?=some (qMw y 2 P [] da):=by rw[←hs2];exact obs1
 have bk2:s2.bk=g.bk:=by rw[←hs2];exact bk1
 rw[hs2] at m2 T2;clear q2 f2 hs2 hx2;obtain⟨q3,f3,T3⟩:=jPo T2 (j:=0) (x:=x2) (by rw[ses2];rfl) (.inl kd2) (a:= .reg 0 mm []) ⟨rfl,hm,rfl⟩ (by intros;nofun) (.inl up2) (.inl cm2);have i14:qHn.fs g14 [.t (.int .i64 768),.t (.int .i64 1),.t (.agg [.int .i64 0,.int .i64 mm]),.t (.int .i64 0),.t (.int .i64 0),.t (.sl [.sl []])] []=some (.t (rqA (qC (.po 768 (.reg 0 mm [])))),[]):=jFh (s:=⟨0,mm⟩) (b:=[[]]);have m3:wC.fs g12 [.t (dvA ⟨dk,s2,true,nx⟩),.t (.int .i64 0),.t (rqA (qC (.po 768 (.reg 0 mm [])))),.t (.int .i64 0),.t (.int .i64 0)] []=some (.tup [.t (dvA ⟨dk,poS s2 0 x2 (.reg 0 mm []),true,nx⟩),.t (rsA ⟨0,[],[],[]⟩),.t (.bool true)],[]):=zG9 hk' T2 q3 f3 rfl ⟨rfl,rfl,rfl⟩;obtain⟨x3,hx3⟩ : ∃ x3,poY s2 x2 (.reg 0 mm [])=x3:=⟨_,rfl⟩;obtain⟨s3,hs3⟩ : ∃ s3,poS s2 0 x2 (.reg 0 mm [])=s3:=⟨_,rfl⟩;have hy3:x3 = { x2 with up:=s2.u,dg:=pn }:=by
  rw[←hx3,poY];simp only[qD8,kd2,if_true];rw[dg2,bk2,←hbD,hbP];rfl
 have ses3:s3.ses=[x3,sd,sd]:=by rw[←hs3,←hx3];show s2.ses.set 0 _=_;rw[ses2];rfl
 have obs3:s3.obs[0]?=some (qMw y 2 P [] da):=by rw[←hs3];exact obs2
 have u3:s3.u=s2.u:=by rw[←hs3];rfl
 have kd3:x3.kd=2:=by rw[hy3];exact kd2
 have up3:x3.up=s3.u:=by rw[hy3,u3]
 have cm3:x3.cm=0:=by rw[hy3];exact cm2
 have lo3:x3.lo=31:=by rw[hy3];exact lo2
 have av3:x3.av=false:=by rw[hy3];exact av2
 have dg3:x3.dg=pn:=by rw[hy3]
 rw[hs3] at m3 T3;clear q3 f3 hs3 hx3 hy3;obtain⟨q4,f4,T4⟩:=jU8 T3 (j:=0) (x:=x3) (by rw[ses3];rfl) kd3 hu (r:=ot) (w:=W) oM oM;rw[←hE] at q4 f4;rw[dg3,←hfit] at f4;have i18:qHl.fs g18 [.t (.int .i64 13),.t (.int .i64 512),.t (.sl [])] []=some (.t (rqA ⟨13,[512],[],[],[]⟩),[]):=jFf (b:=[]);have i19 := @jLe 13 [512] [] [] [] 768;have i20:=qYq (a:=da) (b:=da) ⟨oM,oM⟩;rw[show decide (da=da)=true by simp] at i20;clear hfit hE;cases fits
 ·rw[if_neg (by decide)] at f4;have m4:qAm.fs g17 [.t (dvA ⟨dk,s3,true,nx⟩),.t (.int .i64 0),.t (rqA (qC (.ap 768 E ot W)))] []=some (.tup [.t (dvA ⟨dk,s3,true,nx⟩),.t (rsA ⟨17,[],[],[]⟩),.t (.bool true)],[]):=zO0 hk' T3 q4 f4 rfl;obtain⟨q5,f5,T5⟩:=jJf T3 (i:=0) (j:=0) (x:=x3) (o:=qMw y 2 P [] da) (v:=[]) (by rw[ses3];rfl) (.inl kd3) obs3 oM rfl sM (fun _=>⟨by rw[lo3];rfl,.inr up3,fun h=>rfl⟩);have hun:unE x3 (qMw y 2 P [] da)=if pn=P then 0 else 11:=by
   unfold unE;rw[if_pos kd3,dg3];rfl
  rw[hun] at f5;have i20':=qYq (a:=pn) (b:=P) ⟨oM,oM⟩;by_cases c5:pn=P
  ·rw[if_pos c5,if_pos rfl] at f5;rw[show decide (pn=P)=true by simpa using c5] at i20';have m5:qAm.fs g17 [.t (dvA ⟨dk,s3,true,nx⟩),.t (.int .i64 0),.t (rqA (qC (.un 512 768 [])))] []=some (.tup [.t (dvA ⟨dk,zBw s3 768,true,nx⟩),.t (rsA ⟨0,[],[da],[]⟩),.t (.bool true)],[]):=zO0 hk' T3 q5 f5 rfl;clear q4 f4 q5 f5 T1 T2 T3 T4 T5 T0 hun hPdef c5;generalize zBw _ _=s5 at m5;generalize qVc _ _=rb at m2;generalize qC (.pr 2 P [] da)=r1 at *;generalize qC (.op 2)=r2 at *;generalize qC (.po 768 (.reg 0 mm []))=r3 at *;generalize (⟨13,[512],[],[],[]⟩:Rq)=r6 at *;simp only[rsA,iT,mcn,qI] at m1 m2 m3;simp only[rsA,rqA,qC,azA,iT,mcn,qI] at m4 m5;simp only[iT,mcn] at i19 e15 e2;simp only[puA,qAe,mcn] at e3 e16;simp(maxSteps:=9^9)(disch:=try exact dS)only[go_sem,zS,zSn,zU6,zSp,zU8,zSo,zU7,zSm,zU5,jKh,jKj,jKi,jKg,hmm,iT,mcn,qI,h1,e1,d1,d2,d3,d4,h2,e2,h3,e3,h4,e4a,h5,e5a,e5n,h6,e6a,e6n,lDa,lDn,tDa,tDn,e4ra,e4rn,h7,e7g,e7h,h8,e8,h9,e9,h10,e10,h11,i11,h12,m1,h13,i13,m2,h14,i14,m3,h15,e15,h16,e16,tE,h17,m4,h18,i18,h19,i19,m5,h20,i20,i20'];repeat refine aiG ?_
   exact qH4 rfl rfl
  ·rw[if_neg c5,if_neg (by decide)] at f5;rw[show decide (pn=P)=false by simpa using c5] at i20';have m5:qAm.fs g17 [.t (dvA ⟨dk,s3,true,nx⟩),.t (.int .i64 0),.t (rqA (qC (.un 512 768 [])))] []=some (.tup [.t (dvA ⟨dk,s3,true,nx⟩),.t (rsA ⟨11,[],[],[]⟩),.t (.bool true)],[]):=zO0 hk' T3 q5 f5 rfl;clear q4 f4 q5 f5 T1 T2 T3 T4 T5 T0 hun hPdef c5;generalize qVc _ _=rb at m2;generalize qC (.pr 2 P [] da)=r1 at *;generalize qC (.op 2)=r2 at *;generalize qC (.po 768 (.reg 0 mm []))=r3 at *;generalize (⟨13,[512],[],[],[]⟩:Rq)=r6 at *;simp only[rsA,iT,mcn,qI] at m1 m2 m3;simp only[rsA,rqA,qC,azA,iT,mcn,qI] at m4 m5;simp only[iT,mcn] at i19 e15 e2;simp only[puA,qAe,mcn] at e3 e16;simp(maxSteps:=9^9)(disch:=try exact dS)only[go_sem,zS,zSn,zU6,zSp,zU8,zSo,zU7,zSm,zU5,jKh,jKj,jKi,jKg,hmm,iT,mcn,qI,h1,e1,d1,d2,d3,d4,h2,e2,h3,e3,h4,e4a,h5,e5a,e5n,h6,e6a,e6n,lDa,lDn,tDa,tDn,e4ra,e4rn,h7,e7g,e7h,h8,e8,h9,e9,h10,e10,h11,i11,h12,m1,h13,i13,m2,h14,i14,m3,h15,e15,h16,e16,tE,h17,m4,h18,i18,h19,i19,m5,h20,i20,i20'];repeat refine aiG ?_
   exact qH4 rfl rfl
 ·rw[if_pos rfl] at f4;have m4:qAm.fs g17 [.t (dvA ⟨dk,s3,true,nx⟩),.t (.int .i64 0),.t (rqA (qC (.ap 768 E ot W)))] []=some (.tup [.t (dvA ⟨dk,apS s3 0 x3 u ot,true,nx⟩),.t (rsA ⟨0,[],[],[]⟩),.t (.bool true)],[]):=zO0 hk' T3 q4 f4 rfl;obtain⟨x4,hx4⟩ : ∃ x4,apY x3 u ot=x4:=⟨_,rfl⟩;obtain⟨s4,hs4⟩ : ∃ s4,apS s3 0 x3 u ot=s4:=⟨_,rfl⟩;have hy4:x4 = { x3 with dg:=F }:=by
   rw[←hx4,apY,hNN,hPdef]
  have ses4:s4.ses=[x4,sd,sd]:=by rw[←hs4,←hx4];show s3.ses.set 0 _=_;rw[ses3];rfl
  have obs4:s4.obs[0]?=some (qMw y 2 P [] da):=by rw[←hs4];exact obs3
  have u4:s4.u=s3.u:=by rw[←hs4];rfl
  rw[hs4] at m4 T4;clear hs4 hx4;obtain⟨q5,f5,T5⟩:=jJf T4 (i:=0) (j:=0) (x:=x4) (o:=qMw y 2 P [] da) (v:=[]) (by rw[ses4];rfl) (.inl (by rw[hy4];exact kd3)) obs4 oM rfl sM (fun _=>⟨by rw[hy4];show x3.lo%2=1;rw[lo3];rfl,.inr (by rw[hy4,u4];exact up3),fun h=>rfl⟩);have hun:unE x4 (qMw y 2 P [] da)=if F=P then 0 else 11:=by
   unfold unE;rw[if_pos (by rw[hy4];exact kd3),hy4];rfl
  rw[hun] at f5;have i20':=qYq (a:=F) (b:=P) ⟨oM,oM⟩;by_cases c5:F=P
  ·rw[if_pos c5,if_pos rfl] at f5;rw[show decide (F=P)=true by simpa using c5] at i20';have m5:qAm.fs g17 [.t (dvA ⟨dk,s4,true,nx⟩),.t (.int .i64 0),.t (rqA (qC (.un 512 768 [])))] []=some (.tup [.t (dvA ⟨dk,zBw s4 768,true,nx⟩),.t (rsA ⟨0,[],[da],[]⟩),.t (.bool true)],[]):=zO0 hk' T4 q5 f5 rfl;clear q4 f4 q5 f5 T1 T2 T3 T4 T5 T0 hun hy4 hPdef c5;generalize zBw _ _=s5 at m5;generalize qVc _ _=rb at m2;generalize qC (.pr 2 P [] da)=r1 at *;generalize qC (.op 2)=r2 at *;generalize qC (.po 768 (.reg 0 mm []))=r3 at *;generalize (⟨13,[512],[],[],[]⟩:Rq)=r6 at *;simp only[rsA,iT,mcn,qI] at m1 m2 m3;simp only[rsA,rqA,qC,azA,iT,mcn,qI] at m4 m5;simp only[iT,mcn] at i19 e15 e2;simp only[puA,qAe,mcn] at e3 e16;simp(maxSteps:=9^9)(disch:=try exact dS)only[go_sem,zS,zSn,zU6,zSp,zU8,zSo,zU7,zSm,zU5,jKh,jKj,jKi,jKg,hmm,iT,mcn,qI,h1,e1,d1,d2,d3,d4,h2,e2,h3,e3,h4,e4a,h5,e5a,e5n,h6,e6a,e6n,lDa,lDn,tDa,tDn,e4ra,e4rn,h7,e7g,e7h,h8,e8,h9,e9,h10,e10,h11,i11,h12,m1,h13,i13,m2,h14,i14,m3,h15,e15,h16,e16,tE,h17,m4,h18,i18,h19,i19,m5,e4o,h20,i20,i20'];repeat refine aiG ?_
   exact qH4 rfl rfl
  ·rw[if_neg c5,if_neg (by decide)] at f5;rw[show decide (F=P)=false by simpa using c5] at i20';have m5:qAm.fs g17 [.t (dvA ⟨dk,s4,true,nx⟩),.t (.int .i64 0),.t (rqA (qC (.un 512 768 [])))] []=some (.tup [.t (dvA ⟨dk,s4,true,nx⟩),.t (rsA ⟨11,[],[],[]⟩),.t (.bool true)],[]):=zO0 hk' T4 q5 f5 rfl;clear q4 f4 q5 f5 T1 T2 T3 T4 T5 T0 hun hy4 hPdef c5;generalize qVc _ _=rb at m2;generalize qC (.pr 2 P [] da)=r1 at *;generalize qC (.op 2)=r2 at *;generalize qC (.po 768 (.reg 0 mm []))=r3 at *;generalize (⟨13,[512],[],[],[]⟩:Rq)=r6 at *;simp only[rsA,iT,mcn,qI] at m1 m2 m3;simp only[rsA,rqA,qC,azA,iT,mcn,qI] at m4 m5;simp only[iT,mcn] at i19 e15 e2;simp only[puA,qAe,mcn] at e3 e16;simp(maxSteps:=9^9)(disch:=try exact dS)only[go_sem,zS,zSn,zU6,zSp,zU8,zSo,zU7,zSm,zU5,jKh,jKj,jKi,jKg,hmm,iT,mcn,qI,h1,e1,d1,d2,d3,d4,h2,e2,h3,e3,h4,e4a,h5,e5a,e5n,h6,e6a,e6n,lDa,lDn,tDa,tDn,e4ra,e4rn,h7,e7g,e7h,h8,e8,h9,e9,h10,e10,h11,i11,h12,m1,h13,i13,m2,h14,i14,m3,h15,e15,h16,e16,tE,h17,m4,h18,i18,h19,i19,m5,e4o,h20,i20,i20'];repeat refine aiG ?_
   exact qH4 rfl rfl
end Go.Eng
end
section
set_option maxRecDepth 100000
namespace Go.Eng
open List
open Go.Proofs Go.Proofs.YtkffggdjdmimgaaGreatDoor
end Go.Eng
end
