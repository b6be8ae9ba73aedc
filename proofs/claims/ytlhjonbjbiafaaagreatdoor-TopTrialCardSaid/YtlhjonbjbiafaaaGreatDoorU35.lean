/- A part of an abstract machine, its walks, their tie. -/
import Derived.Test.YtlhjonbjbiafaaaGreatDoorU30
import Derived.Test.YtlhjonbjbiafaaaGreatDoorU32
set_option linter.all false
section
set_option maxHeartbeats 64000000
set_option maxRecDepth 20000
namespace Go.Eng
variable (tab:Tab) (gl:Gl)
variable {vv:V} {oo:List Ob}
def trA (m:Int)(ks:List UInt8)(i:Nat):Av:=
 let k:=(ks.getD i 0).toNat
 if k%4=0 then .reg 0 (m.fdiv (2^i)%65536) [] else if k%4=1 then .loc (1 ||| (k/4%31):Nat) else if k%4=2 then .cmd 13 else .aut
def flA (bk:List qY):Av→Av
 | .reg s0 s1 _=> .reg s0 s1 (rgD bk s0 s1)
 | a=>a
theorem jF8 {s:St}{x:Ses}{a:Av}:(qA9 s x a).2.1=flA s.bk a:=by cases a<;>rfl
def trD (bk:List qY)(m:Int)(ks:List UInt8):Nat→List UInt8
 | 0=>z32
 | i+1=>zD3 (trD bk m ks i) (flA bk (trA m ks i))
theorem zJm {bk:List qY}{m:Int}{ks:List UInt8} : ∀ i,(trD bk m ks i).length=32
 | 0=>qAd
 | _+1=>qGv
def hlL:Nat→List Int
 | 0=>[]
 | n+1=>hlL n++[768+(n:Int)]
def trO (F da:List UInt8)(o:Obj):Prop:=o.p.kd=3∧o.p.po=F∧o.s.au=[4]∧o.s.da=da
def trI (F da:List UInt8):Nat→St→Prop
 | 0,z=>z.ses=[sd,sd,sd]∧z.obs=[od,od,od]
 | 1,z=>(∃ x0,z.ses=[x0,sd,sd]∧x0.kd=3) ∧ ∃ o,z.obs=[o,od,od]∧trO F da o
 | _,z=>(∃ x0 x1,z.ses=[x0,x1,sd]∧x0.kd=3∧x1.kd=2∧x1.dg=F∧x1.lo%2=1∧(x1.up = -1∨x1.up=z.u)) ∧ ∃ o,z.obs=[o,od,od]∧trO F da o
theorem jGw {F da:List UInt8}{k:Nat}{z:St}(h:trI F da k z)(hk:k<2):frS z.ses 0=(k:Int):=by
 obtain rfl | rfl:k=0∨k=1:=oM
 ·rw[h.1];rfl
 ·obtain⟨⟨x0,h1,h2⟩,-⟩:=h;rw[h1];simp only[frS,h2];rfl
theorem jKn {c:UInt8}:(c.toNat:Int).tdiv 4=((c.toNat/4:Nat):Int):=rfl
theorem jFn {n:Nat}:(n:Int).tmod 31=((n%31:Nat):Int):=rfl
def orI (a b:Int):Int:=IntKind.i64.wrap ((BitVec.ofInt 64 a ||| BitVec.ofInt 64 b).toNat:Int)
theorem jRn {a b:Int}:qOw .or .i64 a .i64 b=some (.int .i64 (orI a b)):=rfl
theorem jRm : ∀ n:Fin 31,orI 1 (n.val:Int)=((1 ||| n.val:Nat):Int):=by decide
theorem jKh : ∀ n:Fin 31,(1≤(1 ||| n.val)∧(1 ||| n.val)≤31)∧(1 ||| n.val)%2=1:=by decide
theorem jLh (m:Int)(ks:List UInt8)(i:Nat):poW (trA m ks i)∧(∀ o od nm,trA m ks i≠ .idx o od nm)∧(∀ bs,trA m ks i≠ .alt bs) ∧ ∀ n,trA m ks i = .loc n→n%2=1:=by
 unfold trA;simp only;split
 ·exact⟨⟨rfl,oM,rfl⟩,by intros;nofun,by intros;nofun,fun n e=>by cases e⟩
 split
 ·obtain⟨h1,h2⟩:=jKh ⟨(ks.getD i 0).toNat/4%31,Nat.mod_lt _ (by decide)⟩;simp only at h1 h2;refine⟨by show (1:Int)≤_∧_≤(31:Int);omega,by intros;nofun,by intros;nofun,fun n e=>?_⟩;cases e;omega
 split
 ·exact⟨rfl,by intros;nofun,by intros;nofun,fun n e=>by cases e⟩
 ·exact⟨trivial,by intros;nofun,by intros;nofun,fun n e=>by cases e⟩
theorem zKj {a b:Int}(ha:0≤a∧a≤31)(hb:0≤b∧b≤31)(h1:a%2=1)(h2:b%2=1):zF7 a b%2=1:=by
 have:=(zPv ⟨a.toNat,oM⟩ ⟨b.toNat,oM⟩ ⟨by show a.toNat%2=1;omega,by show b.toNat%2=1;omega⟩).2;simp only at this;rw[show ((a.toNat:Nat):Int)=a by omega,show ((b.toNat:Nat):Int)=b by omega] at this;exact this
theorem jE2 {s:St}{x:Ses}{a:Av}{U:Int}(hU:s.u=U)(hw:poW a)(hx : ∀ o od nm,a≠ .idx o od nm)(hl : ∀ n,a = .loc n→n%2=1)(h1:x.up = -1∨x.up=U)(h2:x.cm=0∨x.cm=13)(h3:x.lo%2=1)(h4:0≤x.lo∧x.lo≤31) :
  ((poY s x a).up = -1∨(poY s x a).up=U)∧((poY s x a).cm=0∨(poY s x a).cm=13)∧(poY s x a).lo%2=1∧(poY s x a).dg=zD3 x.dg (flA s.bk a):=by
 have e:(poY s x a).dg=zD3 x.dg (flA s.bk a):=by rw[poY,jF8]
 refine⟨?_,?_,?_,e⟩
 ·cases a with
  | reg s0 s1 d=>
   simp only[poY,qA9];split
   ·exact .inr hU
   ·exact h1
  | _=>exact h1
 ·cases a with
  | reg s0 s1 d=>simp only[poY,qA9];split<;>exact h2
  | cmd n=>exact .inr hw
  | _=>exact h2
 ·cases a with
  | reg s0 s1 d=>simp only[poY,qA9];split<;>exact h3
  | loc n=>exact zKj h4 (by simp only[poW] at hw;omega) h3 (hl n rfl)
  | _=>exact h3
def zLe:ECt where
 α:=List UInt8×List UInt8×Int×List UInt8
 β:=Bool
 aS:=fun (cs,ks,m,da)=>[.t (.sl (cs.map qA)),.t (.sl (ks.map qA)),.t (.int .i64 m),.t (.sl (da.map qA))]
 pre:=fun (cs,ks,m,da)=>cs.length≤9223372036854775807∧ks.length≤9223372036854775807∧da.length≤9223372036854775807
 r:=fun r'=> .t (.bool r')
 R:=fun (cs,ks,m,da) r'=>r'=true
theorem qYf {cs ks:List UInt8}{m:Int}{da:List UInt8}(hV:vv = .t (.bool (true)))(hO:oo=[]):zLe.K (cs,ks,m,da) vv oo:=⟨_,rfl,hV,hO⟩
theorem qV0 {g1}(h1:LkE tab 5 qI5 g1){g2}(h2:LkE tab 10 qGr g2){g3}(h3:LkE tab 11 qGs g3){g4}(h4:LkE tab 14 qCj g4){g5}(h5:LkE tab 12 yS g5){g6}(h6:LkE tab 15 kX g6)(h7:LkC tab 9 qK2){g8}(h8:LkE tab 13 qCk g8){g9}(h9:LkE tab 18 qCi g9)(h10:LkC tab 17 qWn){g11}(h11:LkE tab 16 kE g11)(cs ks:List UInt8)(m:Int)(da:List UInt8)(hp:cs.length≤9223372036854775807∧ks.length≤9223372036854775807∧da.length≤9223372036854775807) :
  kL.1.wp tab gl (qF 0 [.t (.sl (cs.map qA)),.t (.sl (ks.map qA)),.t (.int .i64 m),.t (.sl (da.map qA))]) (qF 0 []) (zD [(8,none)] 0 (zLe.K (cs,ks,m,da))):=by
 obtain⟨hcs,hks,hda⟩:=hp;obtain⟨a,rfl,e1⟩ := @zWt g1;by_cases hd:60<da.length
 ·simp(maxSteps:=9^9)(disch:=try exact dS)only[go_sem,kL,h1,e1,hd];first | exact (qYf rfl rfl) | exact⟨rfl,(qYf rfl rfl)⟩ | exact⟨rfl,rfl,(qYf rfl rfl)⟩ | exact⟨rfl,rfl,rfl,(qYf rfl rfl)⟩
 by_cases hk5:5<ks.length
 ·simp(maxSteps:=9^9)(disch:=try exact dS)only[go_sem,kL,h1,e1,hd,hk5];first | exact (qYf rfl rfl) | exact⟨rfl,(qYf rfl rfl)⟩ | exact⟨rfl,rfl,(qYf rfl rfl)⟩ | exact⟨rfl,rfl,rfl,(qYf rfl rfl)⟩
 have hd':da.length≤60:=oM;obtain⟨v,ok,⟨rfl,hv⟩,e2⟩:=zO9 (g:=g2) (a:=2) rfl;obtain⟨dk,s,nx,hf,hF,-,-⟩:=zL5;rw[hv,hf] at e2;obtain⟨w,ok,⟨rfl,hw⟩,e3⟩:=zWu (g:=g3) (d:=⟨dk,s,true,nx⟩) (cs:=cs) ⟨⟨hF.hk,rfl,hF.tp,by rw[hF.hu];decide⟩,hcs⟩;rw[hw] at e3;obtain⟨T0,u0,a0,dr0,se0,ob0⟩:=qYh hF.tp (by rw[hF.hu];decide) cs (qHc cs) (by unfold qHc;omega);rw[hF.se] at se0;rw[hF.ob] at ob0;rw[hF.hd] at dr0;have hk':=hF.hk;simp only at e3;clear hv hf hw hF u0 a0;generalize qWv s cs (qHc cs)=y at *;simp(maxSteps:=9^9)(disch:=try exact dS)only[go_sem,kL,qX5,qYv,qX7,qYx,qX6,qYw,qX4,qYu,h1,e1,hd,hk5,h2,e2,h3,e3];obtain⟨F,hF⟩ : ∃ F,trD y.bk m ks ks.length=F:=⟨_,rfl⟩;have lF:F.length=32:=by rw[←hF];exact zJm _
 obtain⟨B,hB⟩ : ∃ B,y.bk=B:=⟨_,rfl⟩;obtain⟨U,hU⟩ : ∃ U,y.u=U:=⟨_,rfl⟩;rw[hB] at hF;clear e1 e2 e3;refine jV (σ:=Nat×St) (fun t=>t.1≤2∧t.2.Tp∧t.2.bk=B∧t.2.u=U∧t.2.dr=t.1∧trI F da t.1 t.2) (fun t=>2-t.1) (fun t=>[(1,.t (.sl (ks.map qA))),(2,.t (.int .i64 m)),(3,.t (.sl (da.map qA))),(9,.ref 24640 0 0),(11,.sl 9001 0 t.1),(12,.t (.sl ((if t.1=0 then [] else F).map qA))),(13,.t (.int .i64 (if t.1=0 then 0 else 512))),(14,.t (.int .i64 t.1))]) (fun t=>[(9001,.live 1 (((hlL t.1).map iT).map V.t) true false),(24640,.live 37 [.t (dvA ⟨dk,t.2,true,nx⟩)] true true)]) (0,y) ⟨sM,T0,hB,hU,by rw[dr0];rfl,se0,ob0⟩ ?_ ?_
 ·refine qJ.cv0 (hv:=[(9001,.live 1 [] true false)]) (ho:=[(24640,.live 37 [.t (dvA ⟨dk,y,true,nx⟩)] true true)]) id ?_ ?_ rfl rfl;all_goals simp(maxSteps:=9^9)(disch:=try exact dS)only[go_sem,id]
  all_goals rfl
 clear se0 ob0 T0 dr0 hB hU;rintro⟨k,z⟩ ⟨hk,hT,hB,hU,hdr,hI⟩;simp only at hk hT hB hU hdr hI;rcases (by omega:k<2∨k=2) with c | rfl
 rotate_left
 ·obtain⟨⟨x0,x1,hse,hk0,hk1,hd1,hl1,hu1⟩,o,hob,ho1,ho2,ho3,ho4⟩:=hI;have g0:z.ses[0]?=some x0:=by rw[hse];rfl
  have g1':z.ses[1]?=some x1:=by rw[hse];rfl
  have g2':z.obs[0]?=some o:=by rw[hob];rfl
  obtain⟨q1,f1,-⟩:=zOr hT (i:=0) (j:=0) (v:=[]) g0 (.inr hk0) g2' oM ho1 sM (fun h=>oM);obtain⟨q2,f2,-⟩:=zOr hT (i:=0) (j:=1) (v:=[4]) g1' (.inl hk1) g2' oM ho1 sM (fun _=>⟨hl1,hu1,fun _=>ho3.symm⟩);have u1:unE x0 o=8:=by unfold unE;rw[if_neg oM]
  have u2:unE x1 o=0:=by unfold unE;rw[if_pos hk1,if_pos (by rw[hd1,ho2])]
  rw[u1,if_neg (by decide)] at f1;rw[u2,if_pos rfl,ho4] at f2;have m1:kE.fs g11 [.t (dvA ⟨dk,z,true,nx⟩),.t (.int .i64 0),.t (rqA (qC (.un 512 768 [])))] []=some (.tup [.t (dvA ⟨dk,z,true,nx⟩),.t (rsA ⟨8,[],[],[]⟩),.t (.bool true)],[]):=zDm hk' hT q1 f1 rfl;have m2:kE.fs g11 [.t (dvA ⟨dk,z,true,nx⟩),.t (.int .i64 0),.t (rqA (qC (.un 512 769 [4])))] []=some (.tup [.t (dvA ⟨dk,qU5 z 769,true,nx⟩),.t (rsA ⟨0,[],[da],[]⟩),.t (.bool true)],[]):=zDm hk' hT q2 f2 rfl;have i9:qCi.fs g9 [.t (.int .i64 13),.t (.int .i64 512),.t (.sl [])] []=some (.t (rqA ⟨13,[512],[],[],[]⟩),[]):=zPa (b:=[]);have i10 := @zP9 13 [512] [] [] [] 769;have i10' := @zP9 13 [512] [] [] [] 768;have i7:=qPp (a:=da) (b:=da) ⟨oM,oM⟩;rw[show decide (da=da)=true by simp] at i7;generalize qU5 _ _=z' at m2;simp only[rsA,rqA,qC,azA,iT,mcn,qO] at m1 m2 i9 i10 i10';have hl2:hlL 2=[768,769]:=rfl;rw[hl2];simp(maxSteps:=9^9)(disch:=try exact dS)only[go_sem,qX5,qYv,qX7,qYx,qX6,qYw,qX4,qYu,rsA,iT,mcn,qO,h9,i9,h10,i10,i10',h11,m1,m2,h7,i7];repeat refine aiG ?_
  exact qYf rfl rfl
 have lH:(hlL k).length=k:=by
  obtain rfl | rfl:k=0∨k=1:=oM
  ·rfl
  ·rfl
 obtain⟨K,hK⟩ : ∃ K:Nat,3-k=K:=⟨_,rfl⟩;obtain⟨H,hH⟩ : ∃ H:Nat,768+k=H:=⟨_,rfl⟩;have hHi:768+(k:Int)=(H:Int):=oM;have hK2:(K=3∧k=0)∨(K=2∧k=1):=oM;obtain⟨q1,f1,T1⟩:=jAv hT oM (j:=k) (jGw hI c) (k:=(K:Int)) oM;have m1:=qQ1 (g:=g5) (i:=1) (b:=1) hk' hT q1 f1 rfl ⟨rfl,rfl,rfl⟩;obtain⟨rb,hrb⟩ : ∃ rb,qR1 z 16=rb:=⟨_,rfl⟩;rw[hrb] at m1;obtain⟨s1,hs1⟩ : ∃ s1,opS z k (K:Int)=s1:=⟨_,rfl⟩;rw[hs1] at m1 T1;have i4':qCj.fs g4 [.t (.int .i64 (K:Int))] []=some (.t (rqA (qC (.op (K:Int)))),[]):=zPb;generalize qC (.op (K:Int))=r1 at m1 i4';obtain⟨v12,hv12⟩ : ∃ v,(if k=0 then [] else F)=v:=⟨_,rfl⟩;obtain⟨v13,hv13⟩ : ∃ v:Int,(if k=0 then 0 else 512)=v:=⟨_,rfl⟩;rw[hv12,hv13];simp only[rsA,iT,mcn,qO,hHi] at m1;simp(maxSteps:=9^9)(disch:=try exact dS)only[go_sem,qX5,qYv,qX7,qYx,qX6,qYw,qX4,qYu,rsA,iT,mcn,qO,c,hK,hH,h4,i4',h5,m1,lH];repeat refine aiG ?_
 have bk1:s1.bk=B:=by rw[←hs1];exact hB
 have u1:s1.u=U:=by rw[←hs1];exact hU
 have d1:s1.dr=k+1:=by rw[←hs1];show z.dr+1=_;omega
 have se1:s1.ses=z.ses.set k (nwS z (K:Int)):=by rw[←hs1];rfl
 have ob1:s1.obs=z.obs:=by rw[←hs1];rfl
 have hsl:=hT.ses.1;clear m1 q1 f1 i4';refine jV (σ:=Nat×St×Ses) (fun t=>(t.1≤ks.length∧t.2.1.Tp∧t.2.1.bk=B∧t.2.1.u=U∧t.2.1.dr=k+1)∧t.2.1.ses=z.ses.set k t.2.2∧t.2.1.obs=z.obs∧t.2.2.kd=K∧t.2.2.dg=trD B m ks t.1∧(t.2.2.up = -1∨t.2.2.up=U)∧(t.2.2.cm=0∨t.2.2.cm=13)∧t.2.2.lo%2=1) (fun t=>ks.length-t.1) (fun t=>[(1,.t (.sl (ks.map qA))),(2,.t (.int .i64 m)),(3,.t (.sl (da.map qA))),(9,.ref 24640 0 0),(11,.sl 9001 0 (k+1)),(12,.t (.sl (v12.map qA))),(13,.t (.int .i64 v13)),(14,.t (.int .i64 k)),(15,.ref 73872 0 0),(16,.ref 73888 0 0),(18,.t (.int .i64 t.1))]) (fun t=>[(9001,.live 1 (((hlL (k+1)).map iT).map V.t) true false),(24640,.live 37 [.t (dvA ⟨dk,t.2.1,true,nx⟩)] true true),(73888,.live 4 [.t (.agg [.int .i64 0,.sl [.int .i64 H],.sl [.sl (rb.map qA)],.sl []])] true true),(73872,.live 37 [.t (dvA ⟨dk,s1,true,nx⟩)] true true)]) (0,s1,nwS z (K:Int)) ⟨⟨sM,T1,bk1,u1,d1⟩,se1,ob1,rfl,rfl,.inl rfl,.inl rfl,rfl⟩ (qJ.rd (fun j=>if j=9001 then 86128 else j) ?_ ?_ rfl) ?_
 ·simp(maxSteps:=9^9)(disch:=try exact dS)only[go_sem,id]
 ·simp(maxSteps:=9^9)(disch:=try exact dS)only[go_sem,id,hlL,iT,hHi];all_goals simp only[hlL,List.map_append,mcn,iT,hHi]
 rintro⟨i,w,x⟩ ⟨⟨hi,hTw,hBw,hUw,hdw⟩,hsw,how,hkd,hdg,hup,hcm,hlo⟩;simp only at hi hTw hBw hUw hdw hsw how hkd hdg hup hcm hlo;have hg:w.ses[k]?=some x:=by rw[hsw];exact List.getElem?_set_self oM
 have hxk:x.kd=2∨x.kd=3:=oM;have hTx:=hTw.ses.2 x (zBj hg);have hl4:=(hTx.2.2.2.resolve_left oM).2.2.1;rcases (by omega:i<ks.length∨i=ks.length) with ci | hie
 ·obtain⟨ch,hgc,hmc,_⟩:=qX ci;have hgd:ks.getD i 0=ch:=qPh hgc;obtain⟨w1,w2,w3,w4⟩:=jLh m ks i;obtain⟨a,ha⟩ : ∃ a,trA m ks i=a:=⟨_,rfl⟩;rw[ha] at w1 w2 w3 w4;obtain⟨q2,f2,T2⟩:=zT4 hTw hg hxk w1 w2 (by rw[hUw];exact hup) hcm;have hE:(qA9 w x a).2.2=0:=by
   cases a with
   | alt bs=>exact absurd rfl (w3 bs)
   | _=>rfl
  rw[if_pos hE] at f2;have m2:=qQ1 (g:=g5) (i:=0) (b:=0) hk' hTw q2 f2 rfl ⟨rfl,rfl,rfl⟩;obtain⟨p1,p2,p3,p4⟩:=jE2 hUw w1 w2 w4 hup hcm hlo hl4;have p5:(poY w x a).dg=trD B m ks (i+1):=by rw[p4,hdg,hBw];show _=zD3 (trD B m ks i) (flA B (trA m ks i));rw[ha]
  have p6:(poY w x a).kd=K:=by rw[(zV7 hTx hxk w1).2];exact hkd
  have p7:(poS w k x a).ses=z.ses.set k (poY w x a):=by show w.ses.set k _=_;rw[hsw,List.set_set]
  have hI2:(i+1≤ks.length∧(poS w k x a).Tp∧(poS w k x a).bk=B∧(poS w k x a).u=U∧(poS w k x a).dr=k+1)∧(poS w k x a).ses=z.ses.set k (poY w x a)∧(poS w k x a).obs=z.obs∧(poY w x a).kd=K∧(poY w x a).dg=trD B m ks (i+1)∧((poY w x a).up = -1∨(poY w x a).up=U)∧((poY w x a).cm=0∨(poY w x a).cm=13)∧(poY w x a).lo%2=1:=⟨⟨oM,T2,hBw,hUw,hdw⟩,p7,how,p6,p5,p1,p2,p3⟩;clear p1 p2 p3 p4 p5 p6 p7 q2 f2 T2 hE;generalize poY w x a=x' at *;generalize poS w k x a=w' at *;rw[hHi] at m2;have j0:kX.fs g6 [.t (.int .i64 H),.t (.int .i64 7),.t (.agg [.int .i64 0,.int .i64 0]),.t (.int .i64 0),.t (.int .i64 0),.t (.sl [])] []=some (.t (rqA (qC (.po H .aut))),[]):=qU4 (s:=⟨0,0⟩) (b:=[]);have j1:kX.fs g6 [.t (.int .i64 H),.t (.int .i64 1),.t (.agg [.int .i64 0,.int .i64 (m.fdiv (2^i)%65536)]),.t (.int .i64 0),.t (.int .i64 0),.t (.sl [.sl []])] []=some (.t (rqA (qC (.po H (.reg 0 (m.fdiv (2^i)%65536) [])))),[]):=qU4 (s:=⟨0,m.fdiv (2^i)%65536⟩) (b:=[[]]);have j2:kX.fs g6 [.t (.int .i64 H),.t (.int .i64 2),.t (.agg [.int .i64 0,.int .i64 0]),.t (.int .i64 ((1 ||| (ch.toNat/4%31):Nat):Int)),.t (.int .i64 0),.t (.sl [])] []=some (.t (rqA (qC (.po H (.loc ((1 ||| (ch.toNat/4%31):Nat):Int))))),[]):=qU4 (s:=⟨0,0⟩) (b:=[]);have j3:kX.fs g6 [.t (.int .i64 H),.t (.int .i64 3),.t (.agg [.int .i64 0,.int .i64 0]),.t (.int .i64 13),.t (.int .i64 0),.t (.sl [])] []=some (.t (rqA (qC (.po H (.cmd 13)))),[]):=qU4 (s:=⟨0,0⟩) (b:=[]);have hn31:ch.toNat/4%31<31:=Nat.mod_lt _ (by decide);have hor:=jRm ⟨ch.toNat/4%31,hn31⟩;simp only at hor;have hch:ch.toNat<256:=ch.toNat_lt;unfold trA at ha;rw[hgd] at ha;simp only at ha;simp only[rsA,iT,mcn,qO] at m2;have hr4:(ch.toNat:Int).tmod 4=((ch.toNat%4:Nat):Int):=rfl;rcases (by omega:ch.toNat%4=0∨ch.toNat%4=1∨ch.toNat%4=2∨ch.toNat%4=3) with e4 | e4 | e4 | e4
  ·rw[if_pos e4] at ha;subst ha;rw[e4] at hr4;simp(maxSteps:=9^9)(disch:=try exact dS)only[go_sem,qX5,qYv,qX7,qYx,qX6,qYw,qX4,qYu,rsA,iT,mcn,qO,ci,hgc,oms,h6,j0,j1,h5,m2,hr4];repeat refine aiG ?_
   refine qMg.of (i+1,w',x') hI2 (by show ks.length-(i+1)<ks.length-i;omega) (qJ.rd id ?_ ?_ rfl);all_goals simp(maxSteps:=9^9)(disch:=try exact dS)only[go_sem,id]
  ·rw[if_neg oM,if_pos e4] at ha;subst ha;rw[e4] at hr4;simp(maxSteps:=9^9)(disch:=try exact dS)only[go_sem,qX5,qYv,qX7,qYx,qX6,qYw,qX4,qYu,rsA,iT,mcn,qO,ci,hgc,oms,h6,j0,j2,h5,m2,hr4,jKn,jFn,↓jRn,hor];repeat refine aiG ?_
   refine qMg.of (i+1,w',x') hI2 (by show ks.length-(i+1)<ks.length-i;omega) (qJ.rd id ?_ ?_ rfl);all_goals simp(maxSteps:=9^9)(disch:=try exact dS)only[go_sem,id]
  ·rw[if_neg oM,if_neg oM,if_pos e4] at ha;subst ha;rw[e4] at hr4;simp(maxSteps:=9^9)(disch:=try exact dS)only[go_sem,qX5,qYv,qX7,qYx,qX6,qYw,qX4,qYu,rsA,iT,mcn,qO,ci,hgc,oms,h6,j0,j3,h5,m2,hr4];repeat refine aiG ?_
   refine qMg.of (i+1,w',x') hI2 (by show ks.length-(i+1)<ks.length-i;omega) (qJ.rd id ?_ ?_ rfl);all_goals simp(maxSteps:=9^9)(disch:=try exact dS)only[go_sem,id]
  ·rw[if_neg oM,if_neg oM,if_neg oM] at ha;subst ha;rw[e4] at hr4;simp(maxSteps:=9^9)(disch:=try exact dS)only[go_sem,qX5,qYv,qX7,qYx,qX6,qYw,qX4,qYu,rsA,iT,mcn,qO,ci,hgc,oms,h6,j0,h5,m2,hr4];repeat refine aiG ?_
   refine qMg.of (i+1,w',x') hI2 (by show ks.length-(i+1)<ks.length-i;omega) (qJ.rd id ?_ ?_ rfl);all_goals simp(maxSteps:=9^9)(disch:=try exact dS)only[go_sem,id]
 subst hie;rw[hF] at hdg;obtain⟨q2,f2⟩:=jK8 hTw hg hxk;have m2:=qQ1 (g:=g5) (i:=0) (b:=1) hk' hTw q2 f2 rfl ⟨rfl,rfl,rfl⟩;rw[hdg,hHi] at m2;have n20:rqA (qC (.pd (H:Int))) = .agg [.int .i64 20,.sl [],.sl [],.sl [.int .i64 H],.sl []]:=rfl;rw[n20] at m2;simp only[rsA,iT,mcn,qO] at m2;have i7:=qPp (a:=F) (b:=F) ⟨oM,oM⟩;rw[show decide (F=F)=true by simp] at i7;rcases (by omega:k=0∨k=1) with rfl | rfl
 ·obtain rfl:K=3:=oM;obtain⟨hse,hob⟩:=hI;have how':w.obs=[od,od,od]:=by rw[how,hob]
  obtain⟨q3,⟨en,nm,f3⟩,T3⟩:=jAw hTw (j:=0) (by rw[how'];rfl) oM (hh:=0) (po:=F) (au:=[4]) (da:=da) oM lF sM hd';have i8:qCk.fs g8 [.t (.int .i64 0),.t (.int .i64 3),.t (.int .i64 0),.t (.int .i64 0),.t (.sl (F.map qA)),.t (.sl [qA 4]),.t (.sl (da.map qA))] []=some (.t (rqA (qC (.pr 0 F [4] da))),[]):=zPc (u:=[4]);have m3:yS.fs g5 [.t (dvA ⟨dk,w,true,nx⟩),.t (.int .i64 0),.t (rqA (qC (.pr 0 F [4] da))),.t (.int .i64 1),.t (.int .i64 2)] []=some (.tup [.t (dvA ⟨dk,prS w 0 0 F [4] da,true,nx⟩),.t (rsA ⟨0,[512],[en,nm],[]⟩),.t (.bool true)],[]):=qQ1 hk' hTw q3 f3 rfl ⟨rfl,rfl,rfl⟩;have hI1:trI F da 1 (prS w 0 0 F [4] da):=⟨⟨x,by show w.ses=_;rw[hsw,hse];rfl,hkd⟩,qHk w 0 F [4] da,by show w.obs.set 0 _=_;rw[how'];rfl,rfl,rfl,rfl,rfl⟩;have hI2:1≤2∧(prS w 0 0 F [4] da).Tp∧(prS w 0 0 F [4] da).bk=B∧(prS w 0 0 F [4] da).u=U∧(prS w 0 0 F [4] da).dr=((1:Nat):Int)∧trI F da 1 (prS w 0 0 F [4] da):=⟨oM,T3,hBw,hUw,hdw,hI1⟩;clear q2 f2 q3 f3 T3 hI1;generalize prS w 0 0 F [4] da=w' at *;generalize qC (.pr 0 F [4] da)=r2 at *;simp only[rsA,iT,mcn,qO] at m3;simp(maxSteps:=9^9)(disch:=try exact dS)only[go_sem,qX5,qYv,qX7,qYx,qX6,qYw,qX4,qYu,rsA,iT,mcn,qO,h5,m2,h8,i8,m3];repeat refine aiG ?_
  refine qMg.of (1,w') hI2 (by show 2-1<2-0;omega) (qJ.rd id ?_ ?_ rfl);all_goals simp(maxSteps:=9^9)(disch:=try exact dS)only[go_sem,id]
 ·obtain rfl:K=2:=oM;obtain⟨⟨x0,hse,hk0⟩,o,hob,hO⟩:=hI;have how':w.obs=[o,od,od]:=by rw[how,hob]
  have hI1:trI F da 2 w:=⟨⟨x0,x,by rw[hsw,hse];rfl,hk0,hkd,hdg,hlo,by rw[hUw];exact hup⟩,o,how',hO⟩;have hI2:2≤2∧w.Tp∧w.bk=B∧w.u=U∧w.dr=((2:Nat):Int)∧trI F da 2 w:=⟨oM,hTw,hBw,hUw,hdw,hI1⟩;have h12:v12=F:=by rw[←hv12];rfl
  have h13:v13=512:=by rw[←hv13];rfl
  subst h12 h13;clear q2 f2 hI1;simp(maxSteps:=9^9)(disch:=try exact dS)only[go_sem,qX5,qYv,qX7,qYx,qX6,qYw,qX4,qYu,rsA,iT,mcn,qO,h5,m2,h7,i7];repeat refine aiG ?_
  refine qMg.of (2,w) hI2 (by show 2-2<2-1;omega) (qJ.rd id ?_ ?_ rfl);all_goals simp(maxSteps:=9^9)(disch:=try exact dS)only[go_sem,id]
end Go.Eng
end
section
set_option maxRecDepth 100000
namespace Go.Eng
open Go.Proofs Go.Proofs.YtlhjonbjbiafaaaGreatDoor
theorem qUb (cs ks:List UInt8)(m:Int)(da:List UInt8)(hp:cs.length≤9223372036854775807∧ks.length≤9223372036854775807∧da.length≤9223372036854775807):zDf Tryz.prog gl0 4 [.t (.sl (cs.map qA)),.t (.sl (ks.map qA)),.t (.int .i64 m),.t (.sl (da.map qA))] [] (.t (.bool true)) []:=jGv _ _ _ _ jIk.h (jP5 (qV0 jIk.t gl0  rfl rfl rfl rfl rfl rfl rfl rfl rfl rfl rfl cs ks m da hp) (by rintro _ rfl;exact⟨rfl,rfl⟩)) (hann:=kL.2)
end Go.Eng
end
