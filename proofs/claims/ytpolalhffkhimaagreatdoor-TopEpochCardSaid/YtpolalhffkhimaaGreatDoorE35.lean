/- A part of an abstract machine, its walks, their tie. -/
import Derived.Test.YtpolalhffkhimaaGreatDoorE30
import Derived.Test.YtpolalhffkhimaaGreatDoorE33
set_option linter.all false
section
set_option maxHeartbeats 64000000
set_option maxRecDepth 100000
namespace Go.Eng
variable (tab:Tab) (gl:Gl)
variable {vv:V} {oo:List Ob}
theorem jK6 : ∀ x:Fin 256,(UInt8.ofNat x.val%6).toNat≤5:=by decide
theorem jDa {g:EF qCg}{k:Dk}{s:St}{nx n:Int}{a:Sa}(hl:k.ar.length=4)(hc:cyP k.ar a n):qCg.fs g [.t (dvA ⟨k,s,true,nx⟩)] []=some (.tup [.t (dvA (cyV k a n)),.t (.bool true)],[]):=by
 obtain⟨r,ok,⟨rfl,h⟩,e⟩:=zW0 (g:=g) (d:=⟨k,s,true,nx⟩) ⟨hl,n,a,hc⟩;rw[h n a hc] at e;exact e
theorem zLa {gM:EF yO}{gA:EF qBc}{gC:EF qCg}{v b:Int}{k:Dk}{s:St}{nx:Int}(h:EpQ v b k s nx)(hb:0≤b∧b≤12){L:Nat}(hL:1≤L∧L≤6){da:List UInt8}(hd:da.length≤60){P Y:List UInt8}(hY:z7 (UInt8.ofNat L)=Y)(hP:qPt z32 (.idx 0 2 Y nmC)=P) :
  ∃ (s2 s3 s4 s5 s':St) (k':Dk) (rb en nm:List UInt8),
  yO.fs gM [.t (dvA ⟨k,s,true,nx⟩),.t (.int .i64 0),.t (rqA (qC (.op 2))),.t (.int .i64 1),.t (.int .i64 1)] []=some (.tup [.t (dvA ⟨k,s2,true,nx⟩),.t (rsA ⟨0,[768],[rb],[]⟩),.t (.bool true)],[])∧
  qBc.fs gA [.t (dvA ⟨k,s2,true,nx⟩),.t (.int .i64 0),.t (rqA (qC (.px 768 Y)))] []=some (.tup [.t (dvA ⟨k,s3,true,nx⟩),.t (rsA ⟨if v<L then 0 else 16,[],[],[]⟩),.t (.bool true)],[])∧
  yO.fs gM [.t (dvA ⟨k,s3,true,nx⟩),.t (.int .i64 0),.t (rqA (qC (.pr 0 P [] da))),.t (.int .i64 1),.t (.int .i64 2)] []=some (.tup [.t (dvA ⟨k,s4,true,nx⟩),.t (rsA ⟨0,[512],[en,nm],[]⟩),.t (.bool true)],[])∧
  qBc.fs gA [.t (dvA ⟨k,s4,true,nx⟩),.t (.int .i64 0),.t (rqA (qC (.un 512 768 [])))] []=some (.tup [.t (dvA ⟨k,s5,true,nx⟩),.t (rsA (if v<L then ⟨0,[],[da],[]⟩ else ⟨11,[],[],[]⟩)),.t (.bool true)],[])∧
  qCg.fs gC [.t (dvA ⟨k,s5,true,nx⟩)] []=some (.tup [.t (dvA ⟨k',s',true,nx+1⟩),.t (.bool true)],[])∧EpP v (b+1) k' s' (nx+1):=by
 obtain⟨s2,rb,⟨a1,a2,a3,a4⟩,s3,e,⟨b1,b2,b3,b4,b5⟩,s4,en,nm,⟨c1,c2,c3,c4⟩,s5,r5,d1,d2,d3,d4,d5⟩:=zYf h hb hL hd hY hP;obtain⟨f1,k',f2,f3⟩:=jKn h ⟨hb.1,oM⟩ d4;have hk:=h.fr.hk;subst b5 d5;refine⟨s2,s3,s4,s5,_,k',rb,en,nm,zIi hk h.fr.tp a1 a2 a3 ⟨rfl,rfl,rfl⟩,jCh hk a4 b1 b2 b3,zIi hk b4 c1 c2 c3 ⟨rfl,rfl,rfl⟩,jCh hk c4 d1 d2 d3,?_,f3⟩;rw[jDa hk.1.2.1 f1,f2]
def zK3:ECt where
 α:=List UInt8×UInt8×List UInt8
 β:=Bool
 aS:=fun (cs,li,da)=>[.t (.sl (cs.map qA)),.t (qA li),.t (.sl (da.map qA))]
 pre:=fun (cs,li,da)=>cs.length≤9223372036854775807∧da.length≤9223372036854775807
 r:=fun r'=> .t (.bool r')
 R:=fun (cs,li,da) r'=>r'=true
theorem qRl {cs:List UInt8}{li:UInt8}{da:List UInt8}(hV:vv = .t (.bool (true)))(hO:oo=[]):zK3.K (cs,li,da) vv oo:=⟨_,rfl,hV,hO⟩
theorem qWf {g1}(h1:LkE tab 4 qMn g1){g2}(h2:LkE tab 5 qJf g2){g3}(h3:LkE tab 7 qMo g3){g4}(h4:LkE tab 6 yO g4){g5}(h5:LkE tab 8 qJe g5){g6}(h6:LkE tab 9 qLl g6)(h7:LkC tab 10 yY)(h8:LkC tab 11 zGb){g9}(h9:LkE tab 12 qCg g9){g10}(h10:LkE tab 13 qFh g10){g11}(h11:LkE tab 15 qFi g11){g12}(h12:LkE tab 14 qBc g12){g13}(h13:LkE tab 16 qFj g13){g14}(h14:LkE tab 18 qFg g14)(h15:LkC tab 17 zAs)(h16:LkC tab 19 qPm)(cs:List UInt8)(li:UInt8)(da:List UInt8)(hp:cs.length≤9223372036854775807∧da.length≤9223372036854775807) :
  kF.1.wp tab gl (qE 0 [.t (.sl (cs.map qA)),.t (qA li),.t (.sl (da.map qA))]) (qE 0 []) (zA [(6,none)] 0 (zK3.K (cs,li,da))):=by
 obtain⟨hcs,hda⟩:=hp;obtain⟨a,rfl,e1⟩ := @jI3 g1;by_cases hc:10<cs.length
 ·simp(maxSteps:=9^9)(disch:=try exact dS)only[go_sem,kF,h1,e1,hc];first | exact (qRl rfl rfl) | exact⟨rfl,(qRl rfl rfl)⟩ | exact⟨rfl,rfl,(qRl rfl rfl)⟩ | exact⟨rfl,rfl,rfl,(qRl rfl rfl)⟩
 by_cases hd:60<da.length
 ·simp(maxSteps:=9^9)(disch:=try exact dS)only[go_sem,kF,h1,e1,hc,hd];first | exact (qRl rfl rfl) | exact⟨rfl,(qRl rfl rfl)⟩ | exact⟨rfl,rfl,(qRl rfl rfl)⟩ | exact⟨rfl,rfl,rfl,(qRl rfl rfl)⟩
 have hd':da.length≤60:=oM;obtain⟨v,ok,⟨rfl,hv⟩,e2⟩:=zW1 (g:=g2) (a:=2) rfl;obtain⟨k0,s0,hf,o0,T0,q1,f1,k1,c1,o1,T1,q2,f2,k2,c2,hE⟩:=jSn;rw[hv,hf] at e2;have e3 := @jI5 g3;have e4:=zY1 (g:=g4) o0 T0 q1 f1;rw[c1] at e4;have e5:qJe.fs g5 [.t (.int .i64 25),.t (.sl [])] []=some (.t (rqA (qC .ic)),[]):=jI4 (c:=25) (ns:=[]);have e4':=zY1 (g:=g4) o1 T1 q2 f2;rw[c2] at e4';generalize icS (dfS s0)=sa at *;generalize dfS s0=sb at *;have e4i : ∀ (v b:Int) (k:Dk) (s:St) (nx:Int),EpP v b k s nx→(0≤b∧b≤20) → ∃ k',yO.fs g4 [.t (dvA ⟨k,s,true,nx⟩),.t (.int .i64 0),.t (rqA (qC .ic)),.t (.int .i64 0),.t (.int .i64 0)] []=some (.tup [.t (dvA ⟨k',icS s,true,nx+1⟩),.t (rsA ⟨0,[],[],[]⟩),.t (.bool true)],[])∧EpQ (v+1) b k' (icS s) (nx+1):=by
  intro v b k s nx h hb;obtain⟨q,f,k',c,hq⟩:=jKo h hb;refine⟨k',?_,hq⟩;rw[zY1 (g:=g4) h.fr.hk h.fr.tp q f,c]
 clear hv hf c1 c2 q1 q2 f1 f2 T0 T1 o0 o1;generalize qC .df=r1 at *;generalize hr2:qC .ic=r2 at *;have e6:=jEm (g:=g6) (x:=cnI true []) (by simp[cnI]);have lN:(inF (cnI true [])).length=32:=qC4;rw[show inF (cnI true [])=nmC from rfl] at e6 lN;obtain⟨L,hL⟩ : ∃ L:Nat,1+(li%6).toNat=L:=⟨_,rfl⟩;have hL6:1≤L∧L≤6:=by
  have:=jK6 ⟨li.toNat,li.toNat_lt⟩;simp only[UInt8.ofNat_toNat] at this;omega
 have hLi:1+((li%6).toNat:Int)=(L:Int):=oM;have u:=zB8 (b:=[]) (n:=(L:Int)) sM;simp only[List.map_nil,List.nil_append,List.length_nil] at u;have hz:=jI7 ⟨L,oM⟩;simp only at hz;have lY:(beI 8 (L:Int) 8).length=8:=qR;obtain⟨Y,hY⟩ : ∃ Y,beI 8 (L:Int) 8=Y:=⟨_,rfl⟩;rw[hY] at u lY hz;have tY:List.take 8 Y=Y:=List.take_of_length_le oM;obtain⟨P,hP⟩ : ∃ P,qPt z32 (.idx 0 2 Y nmC)=P:=⟨_,rfl⟩;have lP:P.length=32:=by rw[←hP];exact qBd
 have e8:=jFr (a:= .idx 0 2 Y nmC) (.inl ⟨Y,nmC,rfl,lY,lN⟩);rw[hP] at e8;simp only[avA,avL,List.map_nil] at e8;have zWf : ∀ a:UInt8,qHp .rem (qA a) (qA 6)=some (qA (a%6)):=fun a=>qS8 (by decide)
 have rem4 : ∀ a:UInt8,qHp .rem (qA a) (qA 4)=some (qA (a%4)):=fun a=>qS8 (by decide)
 have ex:ixA (cnI true []) = .agg [.int .i64 1,.int .i64 2,.int .i64 48,.int .i64 8,.sl [],.sl [],.bool true,.sl []]:=rfl;rw[ex] at e6;clear ex;obtain⟨N,hN⟩ : ∃ N,nmC=N:=⟨_,rfl⟩;rw[hN] at e6 e8 lN;simp(maxSteps:=9^9)(disch:=try exact dS)only[go_sem,kF,zPe,zPm,zPg,zPo,zPf,zPn,zPd,zPl,rsA,iT,mcn,qG,h1,e1,hc,hd,h2,e2,h3,e3,h4,e4,h5,e5,e4',h6,e6,zWf,hLi,h7,u,tY,lY,h8,e8];repeat refine aiG ?_
 refine vK (σ:=Nat×Int×Dk×St×Int) (fun t=>t.1≤cs.length∧EpP t.2.1 (t.1:Nat) t.2.2.1 t.2.2.2.1 t.2.2.2.2) (fun t=>cs.length-t.1) (fun t=>[(0,.t (.sl (cs.map qA))),(1,.t (qA li)),(2,.t (.sl (da.map qA))),(7,.ref 24640 0 0),(8,.t (.bool true)),(10,.t (.sl (Y.map qA))),(11,.t (.sl (P.map qA))),(12,.t (.int .i64 t.2.1)),(13,.t (.int .i64 (t.1:Nat)))]) (fun t=>[(24640,.live 37 [.t (dvA ⟨t.2.2.1,t.2.2.2.1,true,t.2.2.2.2⟩)] true true)]) (0,1,k2,sa,5) ⟨Nat.zero_le _,hE⟩ ?_ ?_
 ·refine qK.rd id ?_ ?_ rfl;all_goals simp(maxSteps:=9^9)(disch:=try exact dS)only[go_sem,id,lY,tY]
 clear e1 e2 e3 e4 e4' e6 u e8 hE h1 h2 h3 h6 h7 h8;rintro⟨i,v,k,s,nx⟩ ⟨hi,hE⟩;simp only at hi hE;have hv:=hE.vb;rcases (by omega:i<cs.length∨i=cs.length) with hlt | hke
 rotate_left
 ·subst hke;simp(maxSteps:=9^9)(disch:=try exact dS)only[go_sem];first | exact (qRl rfl rfl) | exact⟨rfl,(qRl rfl rfl)⟩ | exact⟨rfl,rfl,(qRl rfl rfl)⟩ | exact⟨rfl,rfl,rfl,(qRl rfl rfl)⟩
 obtain⟨x,hg,_,_⟩:=zF (l:=cs) (k:=i) hlt;have i10:qFh.fs g10 [.t (.int .i64 2)] []=some (.t (rqA (qC (.op 2))),[]):=zW3;have i11:qFi.fs g11 [.t (.int .i64 768),.t (.int .i64 4),.t (.agg [.int .i64 0,.int .i64 0]),.t (.int .i64 257),.t (.int .i64 2),.t (.sl [.sl (Y.map qA)])] []=some (.t (rqA (qC (.px 768 Y))),[]):=zW4 (s:=⟨0,0⟩) (b:=[Y]);have i13:qFj.fs g13 [.t (.int .i64 0),.t (.int .i64 3),.t (.int .i64 0),.t (.int .i64 0),.t (.sl (P.map qA)),.t (.sl []),.t (.sl (da.map qA))] []=some (.t (rqA (qC (.pr 0 P [] da))),[]):=zW5 (u:=[]);have i14:qFg.fs g14 [.t (.int .i64 13),.t (.int .i64 512),.t (.sl [])] []=some (.t (rqA ⟨13,[512],[],[],[]⟩),[]):=zW2 (b:=[]);have i15 := @jCw 13 [512] [] [] [] 768;have i16:=zNv (a:=da) (b:=da) ⟨oM,oM⟩;rw[show decide (da=da)=true by simp] at i16;by_cases c0:x%4=0
 ·obtain⟨k3,eI,hQ⟩:=e4i v i k s nx hE oM;generalize icS s=sx at *;obtain⟨s2,s3,s4,s5,s',k',rb,en,nm,m1,m2,m3,m4,m5,hN⟩:=zLa (gM:=g4) (gA:=g12) (gC:=g9) hQ oM hL6 hd' hz.symm hP;generalize qC (.op 2)=r3 at *;generalize qC (.px 768 Y)=r4 at *;generalize qC (.pr 0 P [] da)=r5 at *;generalize (⟨13,[512],[],[],[]⟩:Rq)=r6 at *;have hN':=hN;rw[show ((i:Nat):Int)+1=((i+1:Nat):Int) by omega] at hN';simp only[iT,mcn] at i15;by_cases c:v+1<(L:Int)
  ·rw[if_pos c] at m2 m4;simp only[rsA,iT,mcn,qG] at m1 m2 m3 eI;simp only[rsA,rqA,qC,azA,iT,mcn,qG] at m4;simp(maxSteps:=9^9)(disch:=try exact dS)only[go_sem,zPe,zPm,zPg,zPo,zPf,zPn,zPd,zPl,iT,mcn,qG,hlt,hg,oms,rem4,zWf,hLi,c,c0,h5,e5,eI,h4,m1,m3,h10,i10,h11,i11,h12,m2,m4,h13,i13,h14,i14,h15,i15,h16,i16,h9,m5];repeat refine aiG ?_
   refine qTy.of (i+1,v+1,k',s',nx+1+1) ⟨by show i+1≤cs.length;omega,hN'⟩ (by show cs.length-(i+1)<cs.length-i;omega) (qK.rd id ?_ ?_ rfl);all_goals simp(maxSteps:=9^9)(disch:=try exact dS)only[go_sem,id]
  ·rw[if_neg c] at m2 m4;simp only[rsA,iT,mcn,qG] at m1 m2 m3 eI;simp only[rsA,rqA,qC,azA,iT,mcn,qG] at m4;simp(maxSteps:=9^9)(disch:=try exact dS)only[go_sem,zPe,zPm,zPg,zPo,zPf,zPn,zPd,zPl,iT,mcn,qG,hlt,hg,oms,rem4,zWf,hLi,c,c0,h5,e5,eI,h4,m1,m3,h10,i10,h11,i11,h12,m2,m4,h13,i13,h14,i14,h15,i15,h9,m5];repeat refine aiG ?_
   refine qTy.of (i+1,v+1,k',s',nx+1+1) ⟨by show i+1≤cs.length;omega,hN'⟩ (by show cs.length-(i+1)<cs.length-i;omega) (qK.rd id ?_ ?_ rfl);all_goals simp(maxSteps:=9^9)(disch:=try exact dS)only[go_sem,id]
 have u10 : ¬ (1:UInt8)=0:=by decide
 by_cases c1:x%4=1
 ·obtain⟨f1,k3,f2,hQ⟩:=jDu hE oM;have eC:=jDa (g:=g9) (s:=s) (nx:=nx) hE.fr.hk.1.2.1 f1;rw[f2] at eC;generalize qP8 (kK s.a)=sx at *;obtain⟨s2,s3,s4,s5,s',k',rb,en,nm,m1,m2,m3,m4,m5,hN⟩:=zLa (gM:=g4) (gA:=g12) (gC:=g9) hQ oM hL6 hd' hz.symm hP;generalize qC (.op 2)=r3 at *;generalize qC (.px 768 Y)=r4 at *;generalize qC (.pr 0 P [] da)=r5 at *;generalize (⟨13,[512],[],[],[]⟩:Rq)=r6 at *;have hN':=hN;rw[show ((i:Nat):Int)+1=((i+1:Nat):Int) by omega] at hN';simp only[iT,mcn] at i15;by_cases c:v<(L:Int)
  ·rw[if_pos c] at m2 m4;simp only[rsA,iT,mcn,qG] at m1 m2 m3;simp only[rsA,rqA,qC,azA,iT,mcn,qG] at m4;simp(maxSteps:=9^9)(disch:=try exact dS)only[go_sem,zPe,zPm,zPg,zPo,zPf,zPn,zPd,zPl,iT,mcn,qG,hlt,hg,oms,rem4,zWf,hLi,c,c0,c1,u10,h9,eC,h4,m1,m3,h10,i10,h11,i11,h12,m2,m4,h13,i13,h14,i14,h15,i15,h16,i16,h9,m5];repeat refine aiG ?_
   refine qTy.of (i+1,v,k',s',nx+1+1) ⟨by show i+1≤cs.length;omega,hN'⟩ (by show cs.length-(i+1)<cs.length-i;omega) (qK.rd id ?_ ?_ rfl);all_goals simp(maxSteps:=9^9)(disch:=try exact dS)only[go_sem,id]
  ·rw[if_neg c] at m2 m4;simp only[rsA,iT,mcn,qG] at m1 m2 m3;simp only[rsA,rqA,qC,azA,iT,mcn,qG] at m4;simp(maxSteps:=9^9)(disch:=try exact dS)only[go_sem,zPe,zPm,zPg,zPo,zPf,zPn,zPd,zPl,iT,mcn,qG,hlt,hg,oms,rem4,zWf,hLi,c,c0,c1,u10,h9,eC,h4,m1,m3,h10,i10,h11,i11,h12,m2,m4,h13,i13,h14,i14,h15,i15,h9,m5];repeat refine aiG ?_
   refine qTy.of (i+1,v,k',s',nx+1+1) ⟨by show i+1≤cs.length;omega,hN'⟩ (by show cs.length-(i+1)<cs.length-i;omega) (qK.rd id ?_ ?_ rfl);all_goals simp(maxSteps:=9^9)(disch:=try exact dS)only[go_sem,id]
 ·have hQ:=hE.q;obtain⟨s2,s3,s4,s5,s',k',rb,en,nm,m1,m2,m3,m4,m5,hN⟩:=zLa (gM:=g4) (gA:=g12) (gC:=g9) hQ oM hL6 hd' hz.symm hP;generalize qC (.op 2)=r3 at *;generalize qC (.px 768 Y)=r4 at *;generalize qC (.pr 0 P [] da)=r5 at *;generalize (⟨13,[512],[],[],[]⟩:Rq)=r6 at *;have hN':=hN;rw[show ((i:Nat):Int)+1=((i+1:Nat):Int) by omega] at hN';simp only[iT,mcn] at i15;by_cases c:v<(L:Int)
  ·rw[if_pos c] at m2 m4;simp only[rsA,iT,mcn,qG] at m1 m2 m3;simp only[rsA,rqA,qC,azA,iT,mcn,qG] at m4;simp(maxSteps:=9^9)(disch:=try exact dS)only[go_sem,zPe,zPm,zPg,zPo,zPf,zPn,zPd,zPl,iT,mcn,qG,hlt,hg,oms,rem4,zWf,hLi,c,c0,c1,h4,m1,m3,h10,i10,h11,i11,h12,m2,m4,h13,i13,h14,i14,h15,i15,h16,i16,h9,m5];repeat refine aiG ?_
   refine qTy.of (i+1,v,k',s',nx+1) ⟨by show i+1≤cs.length;omega,hN'⟩ (by show cs.length-(i+1)<cs.length-i;omega) (qK.rd id ?_ ?_ rfl);all_goals simp(maxSteps:=9^9)(disch:=try exact dS)only[go_sem,id]
  ·rw[if_neg c] at m2 m4;simp only[rsA,iT,mcn,qG] at m1 m2 m3;simp only[rsA,rqA,qC,azA,iT,mcn,qG] at m4;simp(maxSteps:=9^9)(disch:=try exact dS)only[go_sem,zPe,zPm,zPg,zPo,zPf,zPn,zPd,zPl,iT,mcn,qG,hlt,hg,oms,rem4,zWf,hLi,c,c0,c1,h4,m1,m3,h10,i10,h11,i11,h12,m2,m4,h13,i13,h14,i14,h15,i15,h9,m5];repeat refine aiG ?_
   refine qTy.of (i+1,v,k',s',nx+1) ⟨by show i+1≤cs.length;omega,hN'⟩ (by show cs.length-(i+1)<cs.length-i;omega) (qK.rd id ?_ ?_ rfl);all_goals simp(maxSteps:=9^9)(disch:=try exact dS)only[go_sem,id]
end Go.Eng
end
section
set_option maxRecDepth 100000
namespace Go.Eng
open Go.Proofs Go.Proofs.YtpolalhffkhimaaGreatDoor
theorem qUo (cs:List UInt8)(li:UInt8)(da:List UInt8)(hp:cs.length≤9223372036854775807∧da.length≤9223372036854775807):zFp Tryz.prog gl0 3 [.t (.sl (cs.map qA)),.t (qA li),.t (.sl (da.map qA))] [] (.t (.bool true)) []:=jMk _ _ _ _ jUv.h (jSt (qWf jUv.t gl0  rfl rfl rfl rfl rfl rfl rfl rfl rfl rfl rfl rfl rfl rfl rfl rfl cs li da hp) (by rintro _ rfl;exact⟨rfl,rfl⟩)) (hann:=kF.2)
end Go.Eng
end
