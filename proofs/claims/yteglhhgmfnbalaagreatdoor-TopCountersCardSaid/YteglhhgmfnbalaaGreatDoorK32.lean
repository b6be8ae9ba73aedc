/- A part of an abstract machine, its walks, their tie. -/
import Derived.Test.YteglhhgmfnbalaaGreatDoorK31
set_option linter.all false
section
set_option maxHeartbeats 64000000
set_option maxRecDepth 20000
namespace Go.Eng
open List
variable (tab:Tab)(gl:Gl)
variable {vv:V}{oo:List Ob}
theorem jLh {k:Dk}{a:Sa}{n:Int}(hl:k.ar.length=4)(h:cyP k.ar a n):∃k',cyV k a n=⟨k',qSr (qA9 a),true,n+2⟩/\okD k'/\jOk k'.ar (n+1) (qCs (qSr (qA9 a)).a):=by
 obtain⟨⟨ha,hr⟩,hn,hp,hj,ho⟩:=h;have hT:=(jA2 ha hr).2;have hne:¬ qCs (qSr (qA9 a)).a=qCs a:=λe=>by
  have:=congrArg Sa.res (qQi hT.a.B ha.B e);have h2:(qSr (qA9 a)).a.res=a.res+1:=rfl;omega
 have h0:=hp.1;have hj':jOk (k.ar.set ((n+1)%2).toNat (qAe (n+1) (qCs (qSr (qA9 a)).a))) (n+1) (qCs (qSr (qA9 a)).a):=by
  have e1:(n+1+1)%2=n%2:=oM;have hlt:((n+1)%2).toNat<k.ar.length:=oM;have hne2:((n+1)%2).toNat≠(n%2).toNat:=oM;refine⟨qQx hT.a.B oM,?_,?_⟩
  .rw[getD_eq_getElem?_getD,getElem?_set_self hlt];exact zSi (qQx hT.a.B oM)
  .rw[e1,getD_eq_getElem?_getD,getElem?_set_ne hne2,<-getD_eq_getElem?_getD];exact hj.lo
 refine⟨⟨k.ar.set ((n+1)%2).toNat (qAe (n+1) (qCs (qSr (qA9 a)).a)),1,0,0,false⟩,?_,⟨rfl,by simp[hl],rfl,by show(0:Int)<=1/\(1:Int)<=1000000;decide⟩,hj'⟩;rw[cyV,qIz,if_neg (by exact hne),if_neg (by show ¬ (0:Int)+1=0;decide)];simp only[Dv.mk.injEq,Dk.mk.injEq,and_true,true_and];exact⟨rfl,oM⟩
def sd:Ses:=default
def od:Obj:=default
structure FrP (k:Dk)(s:St)(nx:Int):Prop where
 hk:okK k nx
 tp:s.Tp
 hu:s.u=0
 hd:s.dr=0
 hb:s.bk=vL 2
 se:s.ses=[sd,sd,sd]
 ob:s.obs=[od,od,od]
 jo:jOk k.ar (nx-1) (qCs s.a)
theorem jA4 {k k':Dk}{a:Sa}{n:Int}(h:cyP k.ar a n)(h1:okD k')(h2:jOk k'.ar (n+1) (qCs (qSr (qA9 a)).a)):FrP k' (qSr (qA9 a)) (n+2) where
 hk:=⟨h1,by have:=h.2.1;have:=h.2.2.1.1;omega⟩
 tp:=(jA2 h.1.1 h.1.2).2
 hu:=rfl
 hd:=rfl
 hb:=by show vL a.act=_;rw[h.1.1.act]
 se:=rfl
 ob:=rfl
 jo:=by rw[show n+2-1=n+1 by omega];exact h2
theorem jMb:∃k s nx,frV=⟨k,s,true,nx⟩/\FrP k s nx/\nx=3/\s.a=frA:=by
 obtain⟨k',e,h1,h2⟩:=jLh (k:=⟨[[],qAe 1 (qCs (qYx z32)),[],[]],1,0,0,true⟩) rfl zB8;exact⟨k',_,3,e,jA4 (k:=⟨[[],qAe 1 (qCs (qYx z32)),[],[]],1,0,0,true⟩) zB8 h1 h2,rfl,rfl⟩
theorem zTk {bk:List zD}{s0 s1:Int}:(rgD bk s0 s1).length=32:=qO
def qO0:ECt where
 α:=Unit
 β:=Bool
 aS:=λ_=>[]
 pre:=λ_=>True
 r:=λok=>.t (.bool ok)
 R:=λ_ ok=>ok=true
 inj:=λ_ _ _ _=>rfl
theorem jSa {g:EF qO0}  :∃(ok:Bool),(ok=true)/\qO0.fs g [] []=some (.t (.bool ok),[]):=qO0.eq g () trivial
theorem jX9  (ok:Bool)(hR:ok=true)(hV:vv=.t (.bool ok))(hO:oo=[]):qO0.K () vv oo:=⟨ok,hR,hV,hO⟩
theorem zI7 {g1}(h1:LkE tab 5 qK1 g1)(h2:LkC tab 16 qAg)(h3:LkC tab 15 qNb)(h4:LkC tab 17 zBm){g5}(h5:LkE tab 19 qK6 g5){g6}(h6:LkE tab 18 xL g6){g7}(h7:LkE tab 20 qK4 g7){g8}(h8:LkE tab 21 qK5 g8){g9}(h9:LkE tab 23 qK3 g9)(h10:LkC tab 22 zK3)  :
  qJn.1.wp tab gl (qD 0 []) (qD 0 []) (qZ [(0,none)] 0 (qO0.K ())):=by
 obtain⟨v,ok,⟨rfl,hv⟩,e1⟩:=jEu (g:=g1) (a:=2) rfl;obtain⟨k,s,nx,hf,hF,-,-⟩:=jMb;rw[hv,hf]at e1;clear hv hf;obtain⟨b0,b1,hb,hn⟩:=zSn (act:=2) oM;have hdg:=jCt (u:=0) hF.tp.bk.rv (jCs hF.tp.bk (m:=1) oM);rw[hF.hb]at hdg;have hr:As.Ok (.reg 0 1 (rgD (vL 2) 0 1)):=⟨oM,oM,zTk⟩;have e4:=jHa hr;have lp:(zHz z32 (.reg 0 1 (rgD (vL 2) 0 1))).length=32:=qO8;have ld:(rgD (vL 2) 0 1).length=32:=zTk;have td:List.take 32 (rgD (vL 2) 0 1)=rgD (vL 2) 0 1:=take_of_length_le oM;have hx:zVu z32 (.reg 0 1 (rgD s.bk 0 1))=zHz z32 (.reg 0 1 (rgD (vL 2) 0 1)):=by rw[hF.hb];rfl
 have hbt:(vL 2).map vU=[.sl (b0.map bsT),.sl (b1.map bsT)]:=by rw[hb];rfl
 rw[hbt]at hdg;simp only[asT]at e4;generalize zHz z32 (.reg 0 1 (rgD (vL 2) 0 1))=p at *;generalize rgD (vL 2) 0 1=dd at *;obtain⟨q1,⟨en,nm,f1⟩,T1⟩:=jXa hF.tp (j:=0) (by rw[hF.ob];rfl) oM (hh:=0) (po:=p) (au:=[]) (da:=[9]) oM lp sM sM;have c5:qK6.fs g5 [.t (.int .i64 0),.t (.int .i64 3),.t (.int .i64 0),.t (.int .i64 0),.t (.sl (p.map qA)),.t (.sl []),.t (.sl [qA 9])] []=some (.t (rqA (qC (.pr 0 p [] [9]))),[]):=jSf (u:=[]) (d:=[9]);have m1:xL.fs g6 [.t (dvA ⟨k,s,true,nx⟩),.t (.int .i64 0),.t (rqA (qC (.pr 0 p [] [9]))),.t (.int .i64 1),.t (.int .i64 2)] []=some (.tup [.t (dvA ⟨k,prS s 0 0 p [] [9],true,nx⟩),.t (rsA ⟨0,[512],[en,nm],[]⟩),.t (.bool true)],[]):=zYs hF.hk hF.tp q1 f1 rfl ⟨rfl,rfl,rfl⟩;obtain⟨q2,f2,T2⟩:=jW8 T1 (by show s.dr<=999;rw[hF.hd];decide) (j:=0) (by show frS s.ses 0=_;rw[hF.se];rfl) (k:=2) oM;have c7:qK4.fs g7 [.t (.int .i64 2)] []=some (.t (rqA (qC (.op 2))),[]):=jSd;have hses:(opS (prS s 0 0 p [] [9]) 0 2).ses[0]?=some (nwS (prS s 0 0 p [] [9]) 2):=by show(s.ses.set 0 _)[0]?=_;rw[hF.se];rfl
 have hobs:(opS (prS s 0 0 p [] [9]) 0 2).obs[0]?=some (zCf s 0 p [] [9]):=by show(s.obs.set 0 _)[0]?=_;rw[hF.ob];rfl
 have m2:xL.fs g6 [.t (dvA ⟨k,prS s 0 0 p [] [9],true,nx⟩),.t (.int .i64 0),.t (rqA (qC (.op 2))),.t (.int .i64 1),.t (.int .i64 1)] []=some (.tup [.t (dvA ⟨k,opS (prS s 0 0 p [] [9]) 0 2,true,nx⟩),.t (rsA ⟨0,[768],[qY1 (prS s 0 0 p [] [9]) 16],[]⟩),.t (.bool true)],[]):=zYs hF.hk T1 q2 f2 rfl ⟨rfl,rfl,rfl⟩;obtain⟨q3,f3,T3⟩:=jW9 T2 hses (.inl rfl) (a:= .reg 0 1 []) ⟨rfl,oM,rfl⟩ (by intros;nofun) (.inl rfl) (.inl rfl);have c8:qK5.fs g8 [.t (.int .i64 768),.t (.int .i64 1),.t (.agg [.int .i64 0,.int .i64 1]),.t (.int .i64 0),.t (.int .i64 0),.t (.sl [.sl []])] []=some (.t (rqA (qC (.po 768 (.reg 0 1 [])))),[]):=jSe (s:=⟨0,1⟩) (b:=[[]]);have m3:xL.fs g6 [.t (dvA ⟨k,opS (prS s 0 0 p [] [9]) 0 2,true,nx⟩),.t (.int .i64 0),.t (rqA (qC (.po 768 (.reg 0 1 [])))),.t (.int .i64 0),.t (.int .i64 0)] []=some (.tup [.t (dvA ⟨k,poS (opS (prS s 0 0 p [] [9]) 0 2) 0 (nwS (prS s 0 0 p [] [9]) 2) (.reg 0 1 []),true,nx⟩),.t (rsA ⟨0,[],[],[]⟩),.t (.bool true)],[]):=zYs hF.hk T2 q3 f3 rfl ⟨rfl,rfl,rfl⟩;have hs3:(poS (opS (prS s 0 0 p [] [9]) 0 2) 0 (nwS (prS s 0 0 p [] [9]) 2) (.reg 0 1 [])).ses[0]?=some (poY (opS (prS s 0 0 p [] [9]) 0 2) (nwS (prS s 0 0 p [] [9]) 2) (.reg 0 1 [])):=by show((s.ses.set 0 _).set 0 _)[0]?=_;rw[hF.se];rfl
 have hdg2:(poY (opS (prS s 0 0 p [] [9]) 0 2) (nwS (prS s 0 0 p [] [9]) 2) (.reg 0 1 [])).dg=p:=hx;obtain⟨q4,f4,T4⟩:=jXb T3 (i:=0) (j:=0) (o:=zCf s 0 p [] [9]) (v:=[]) hs3 (.inl rfl) hobs oM rfl sM (λ_=>⟨rfl,.inr rfl,λh=>rfl⟩);have hu:unE (poY (opS (prS s 0 0 p [] [9]) 0 2) (nwS (prS s 0 0 p [] [9]) 2) (.reg 0 1 [])) (zCf s 0 p [] [9])=0:=by
  unfold unE;rw[if_pos (by rfl),if_pos (by rw[hdg2];rfl)]
 rw[if_pos hu]at f4;have c9:qK3.fs g9 [.t (.int .i64 13),.t (.int .i64 512),.t (.sl [])] []=some (.t (rqA ⟨13,[512],[],[],[]⟩),[]):=jSc (b:=[]);have c10:=@jTt 13 [512] [] [] [] 768;have m4:xL.fs g6 [.t (dvA ⟨k,poS (opS (prS s 0 0 p [] [9]) 0 2) 0 (nwS (prS s 0 0 p [] [9]) 2) (.reg 0 1 []),true,nx⟩),.t (.int .i64 0),.t (rqA (qC (.un 512 768 []))),.t (.int .i64 0),.t (.int .i64 1)] []=some (.tup [.t (dvA ⟨k,zG0 (poS (opS (prS s 0 0 p [] [9]) 0 2) 0 (nwS (prS s 0 0 p [] [9]) 2) (.reg 0 1 [])) 768,true,nx⟩),.t (rsA ⟨0,[],[[9]],[]⟩),.t (.bool true)],[]):=zYs hF.hk T3 q4 f4 rfl ⟨rfl,rfl,rfl⟩;clear q1 q2 q3 q4 f1 f2 f3 f4 T1 T2 T3 T4 hu hs3 hdg2 hses hobs hx;generalize zG0 _ _=s4 at m4;generalize poS _ _ _ _=s3 at m3 m4;generalize opS _ _ _=s2 at m2 m3;generalize qY1 _ _=rb at m2;generalize prS _ _ _ _ _ _=s1 at m1 m2;generalize qC (.pr 0 p [] [9])=r1 at *;generalize qC (.op 2)=r2 at *;generalize qC (.po 768 (.reg 0 1 []))=r3 at *;generalize (⟨13,[512],[],[],[]⟩:Rq)=r5 at *;simp only[rsA,iT,mcn,qG]at m1 m2 m3;simp only[rsA,rqA,qC,azA,iT,mcn,qG]at m4;simp only[iT,mcn]at c10;simp(maxSteps:=9^9)(disch:=try exact dS)only[go_sem,qJn,qWf,qXb,qWh,qXd,qWg,qXc,qWe,qXa,iT,mcn,qG,h1,e1,h2,hn,h3,hdg,td,h4,e4,h5,c5,h6,m1,h7,c7,m2,h8,c8,m3,h9,c9,h10,c10,m4,take_length];repeat refine aiG ?_
 exact jX9 true rfl rfl rfl
theorem zI6  (b:Bool) :
  qJm.1.wp tab gl (qD 0 [.t (.bool b)]) (qD 0 []) (qZ [(2,none)] 0 (qOg.K b)):=by
 cases b;all_goals simp(disch:=omega)only[go_sem,qJm]
 all_goals exact jWf rfl rfl
theorem zOu  (l:List (List UInt8))(i:Int)(hp:0<=i/\i<=100/\l.length<=100000) :
  qHu.1.wp tab gl (qD 0 [.t (.sl (l.map bsT)),.t (.int .i64 i)]) (qD 0 []) (qZ [(4,none)] 0 (qNd.K (l,i))):=by
 obtain⟨h0,h1,h2⟩:=hp;obtain⟨k,rfl⟩:=Int.eq_ofNat_of_zero_le h0;by_cases c:l.length<=k
 .simp(disch:=omega)only[go_sem,qHu,c];refine jKn (l:=l) (i:=(k:Int)) ?_ rfl;rw[getD_eq_getElem?_getD,getElem?_eq_none oM];rfl
 .obtain⟨x,hg,_,_⟩:=qX (l:=l) (k:=k) oM;simp(disch:=omega)only[go_sem,qHu,c,hg,oms];refine jKn (l:=l) (i:=(k:Int)) ?_ rfl;rw[getD_eq_getElem?_getD,show(k:Int).toNat=k from rfl,hg];rfl
def zBj:Ct where
 α:=List Int×List UInt8
 aS x:=[.t (.sl (x.1.map iT)),.ref 0 0 0]
 ins x:=[.live 1 [.t (.sl (x.2.map qA))] true true]
 pre x:=(1<=x.1.length/\x.1.length<=10)/\x.2.length<=100000
 r _:= .tup []
 outs x:=[.live 1 [.sl 1 0 (nuE x.2 x.1).length] true true,.live 1 (((nuE x.2 x.1).map qA).map V.t) true false]
 inj:=by
  rintro⟨a,b⟩ ⟨c,d⟩ h h2;simp only[List.cons.injEq,V.t.injEq,T.sl.injEq,and_true,true_and,Ob.live.injEq,jC]at h h2;have e:a=c:=by
   have hi:∀(x y:Int),iT x=iT y->x=y:=λx y h=>by unfold iT at h;injection h
   exact qBv hi h
  subst e h2;exact⟨rfl,rfl⟩
theorem zIh {l:List Int}{b:List UInt8}(h:(1<=l.length/\l.length<=10)/\b.length<=100000):zBj.fs [.t (.sl (l.map iT)),.ref 0 0 0] [.live 1 [.t (.sl (b.map qA))] true true]=some (.tup [],[.live 1 [.sl 1 0 (nuE b l).length] true true,.live 1 (((nuE b l).map qA).map V.t) true false]):=zBj.eq (l,b) h
theorem qU2 (h1:LkC tab 63 yQ)(l:List Int)(b:List UInt8)(hl:(1<=l.length/\l.length<=10)/\b.length<=100000) :
  qCg.1.wp tab gl (qD 0 [.t (.sl (l.map iT)),.ref 0 0 0]) (qD 0 [.live 1 [.t (.sl (b.map qA))] true true]) (xO [] [] 1 (λr o=>r=.tup []/\o=[.live 1 [.sl 1 0 (nuE b l).length] true true,.live 1 (((nuE b l).map qA).map V.t) true false])):=by
 simp(disch:=omega)only[go_sem,qCg];refine qB l.length (λk=>[(1,.ref 0 0 0),(5,.t (.sl (l.map iT))),(6,.t (.int .i64 l.length)),(7,.t (.int .i64 (k:Nat)))]) (λk=>match k with|0=>[(0,.live 1 [.t (.sl (b.map qA))] true true)]|k+1=>[(0,.live 1 [.sl 9000 0 (nuE b (l.take (k+1))).length] true true),(9000,.live 1 (((nuE b (l.take (k+1))).map qA).map V.t) true false)]) (qL.rd id ?_ ?_ rfl) (λk hk=>?_)
 .simp(disch:=omega)only[go_sem,id]
 .simp(disch:=omega)only[go_sem,id]
 rcases k with _|k
 .obtain⟨x,hg,_,_⟩:=qX (l:=l) (k:=0) oM;have hs:nuE b (l.take (0+1))=b++beI 8 x 8:=(yL (f:=λb n=>b++beI 8 n 8) hg).trans rfl;have u:=qUd (b:=b) (n:=x) oM;have lh:(b++beI 8 x 8).length=b.length+8:=by rw[length_append,jJ3]
  generalize b++beI 8 x 8=z at *;have c:0<l.length:=oM;simp(disch:=omega)only[go_sem,c,hg,oms,iT,h1,u];repeat refine aiG ?_
  refine qL.rd (λj=>if j=9000 then 16416 else j) ?_ ?_ rfl;all_goals simp(disch:=omega)only[go_sem,id,hs,lh]
 by_cases c:k+1<l.length
 .obtain⟨x,hg,_,_⟩:=qX c;have e:=zSo (l:=l.take (k+1)) (b:=b);have et:(l.take (k+1)).length<=10:=by rw[length_take];omega
  have hs:nuE b (l.take (k+1+1))=nuE b (l.take (k+1))++beI 8 x 8:=yL (f:=λb n=>b++beI 8 n 8) hg;generalize hY:nuE b (l.take (k+1))=y at *;have u:=qUd (b:=y) (n:=x) oM;have lh:(y++beI 8 x 8).length=y.length+8:=by rw[length_append,jJ3]
  generalize y++beI 8 x 8=z at *;simp(disch:=omega)only[go_sem,c,hg,oms,iT,h1,hY,u];repeat refine aiG ?_
  refine qL.rd (λj=>if j=9000 then 16416 else j) ?_ ?_ rfl;all_goals simp(disch:=omega)only[go_sem,id,hs,lh]
 .obtain hk1:k+1=l.length:=oM;have tl:List.take (k+1) l=l:=take_of_length_le oM;simp(disch:=omega)only[go_sem,tl,c]
theorem zHl {n:Int}(h:0<=n/\n<=255):T.int .u8 (IntKind.u8.wrap n)=qA (bY n):=by
 have e:m64 n=n.toNat:=by unfold m64;omega
 unfold bY;rw[qP9,e];unfold qA;rw[UInt8.toNat_ofNat'];congr 1;omega
theorem zRs {α:Type}{l:List α}{k:Nat}{x d:α}(h:l[k]?=some x):l.getD k d=x:=by rw[getD_eq_getElem?_getD,h];rfl
theorem qZn {g1}(h1:LkE tab 67 qNd g1)(h2:LkC tab 66 qGu)(h3:LkC tab 68 zBj){g4}(h4:LkE tab 69 qOg g4)(h5:LkC tab 70 zBg)(h6:LkC tab 63 yQ)(s:Sa)(hp:s.Ok) :
  qE0.1.wp tab gl (qD 0 [.t (saA s)]) (qD 0 []) (xO [] [(2,none)] 0 (qKq.K s)):=by
 have hs:=hp;have hact:=hs.act;have w0:=zHl (n:=s.act) oM;have wi:=zHl (n:=(s.ix.length:Int)) (by have:=hs.ix.1;omega);have wk:=zHl (n:=(s.ks.length:Int)) (by have:=hs.ks.1;omega);have l1:=hs.sd.1;have l2:=hs.au.1;have l3:=hs.ix.1;have l4:=hs.ks.1;have l5:=hs.en;simp(maxSteps:=9^9)(disch:=try exact dS)only[go_sem,qE0,saA,w0,mcn];refine qB 3 (λk=>[(1,.ref 4096 0 0),(3,.ref 8256 0 0),(16,.t (.int .i64 (k:Nat)))]) (λk=>[(8256,.live 1 [.sl 9000 0 ((s.sd.take k).foldl blL (eA0 s)).length] true true),(9000,.live 1 ((((s.sd.take k).foldl blL (eA0 s)).map qA).map V.t) true false),(4096,.live 19 [.t (saA s)] true true)]) (qL.rd (λj=>if j=9000 then 8240 else j) ?_ ?_ rfl) (λk hk=>?_)
 .simp(maxSteps:=9^9)(disch:=try exact dS)only[go_sem,id,take_zero,foldl_nil,eA0,length_cons,length_nil]
 .simp(maxSteps:=9^9)(disch:=try exact dS)only[go_sem,id,saA,take_zero,foldl_nil,eA0,mcn,length_cons,length_nil]
 have le:=jLy hs k;by_cases c:k<3
 .obtain⟨x,hg,hm,_⟩:=qX (l:=s.sd) (k:=k) oM;have hx:=hs.sd.2 x hm;have hf:=yL (f:=blL) (b:=eA0 s) hg;have e1:=jB7 (g:=g1) (l:=s.sd) (i:=(k:Int)) ⟨oM,oM,oM⟩;rw[show(k:Int).toNat=k from rfl,zRs hg]at e1;generalize (s.sd.take k).foldl blL (eA0 s)=y at *;have u:=qAc (b:=y) (x:=x) ⟨oM,oM⟩;have lb:=jY (b:=y) (x:=x);simp(maxSteps:=9^9)(disch:=try exact dS)only[go_sem,saA,c,h1,e1,h2,u];repeat refine aiG ?_
  refine qL.rd (λj=>if j=9000 then 24656 else j) ?_ ?_ rfl;all_goals simp(maxSteps:=9^9)(disch:=try exact dS)only[go_sem,id,saA,hf,lb]
 obtain rfl:k=3:=oM;have tt:List.take 3 s.sd=s.sd:=take_of_length_le oM;clear le c hk;simp(maxSteps:=9^9)(disch:=try exact dS)only[go_sem,saA,tt];refine qB 4 (λk=>[(1,.ref 4096 0 0),(3,.ref 8256 0 0),(26,.t (.int .i64 (k:Nat)))]) (λk=>[(8256,.live 1 [.sl 9000 0 ((s.au.take k).foldl blL (s.sd.foldl blL (eA0 s))).length] true true),(9000,.live 1 ((((s.au.take k).foldl blL (s.sd.foldl blL (eA0 s))).map qA).map V.t) true false),(4096,.live 19 [.t (saA s)] true true)]) (qL.rd id ?_ ?_ rfl) (λk hk=>?_)
 .simp(maxSteps:=9^9)(disch:=try exact dS)only[go_sem,id]
 .simp(maxSteps:=9^9)(disch:=try exact dS)only[go_sem,id,saA,take_zero,foldl_nil]
 have le:=jLv hs k;by_cases c:k<4
 .obtain⟨x,hg,hm,_⟩:=qX (l:=s.au) (k:=k) oM;have hx:=hs.au.2 x hm;have hf:=yL (f:=blL) (b:=s.sd.foldl blL (eA0 s)) hg;have e1:=jB7 (g:=g1) (l:=s.au) (i:=(k:Int)) ⟨oM,oM,oM⟩;rw[show(k:Int).toNat=k from rfl,zRs hg]at e1;generalize (s.au.take k).foldl blL (s.sd.foldl blL (eA0 s))=y at *;have u:=qAc (b:=y) (x:=x) ⟨oM,oM⟩;have lb:=jY (b:=y) (x:=x);simp(maxSteps:=9^9)(disch:=try exact dS)only[go_sem,saA,c,h1,e1,h2,u];repeat refine aiG ?_
  refine qL.rd (λj=>if j=9000 then 45136 else j) ?_ ?_ rfl;all_goals simp(maxSteps:=9^9)(disch:=try exact dS)only[go_sem,id,saA,hf,lb]
 obtain rfl:k=4:=oM;have tu:List.take 4 s.au=s.au:=take_of_length_le oM;rw[tu]at le;have e3:blL (s.au.foldl blL (s.sd.foldl blL (eA0 s))) s.en=eA3 s:=rfl;have e5:blL (eA4 s++[bO s.ord]) (qDn s.bk s.u)=eA5 s:=rfl;have e6:eA5 s++beI 8 s.mc 8++[bY s.ix.length]=eA6 s:=rfl;have le3:=jCu hs;have le4:=jCv hs;have le5:=jCw hs;have le6:=jCx hs;clear c hk;have u3:=qAc (b:=s.au.foldl blL (s.sd.foldl blL (eA0 s))) (x:=s.en) ⟨oM,oM⟩;rw[e3]at u3;have lb3:=jY (b:=s.au.foldl blL (s.sd.foldl blL (eA0 s))) (x:=s.en);rw[e3]at lb3;generalize hY:s.au.foldl blL (s.sd.foldl blL (eA0 s))=y at *;have u4:=zIh (l:=[s.res,s.rst,s.clk]) (b:=eA3 s) ⟨⟨sM,sM⟩,oM⟩;rw[show nuE (eA3 s) [s.res,s.rst,s.clk]=eA4 s from rfl]at u4;generalize eA3 s=A3 at *;have hone:=@jDt g4 s.ord;have renc:=jF2 (u:=s.u) hs.bk.rv;have lr:=zHx (u:=s.u) hs.bk.rv;have u5:=qAc (b:=eA4 s++[bO s.ord]) (x:=qDn s.bk s.u) ⟨soM,oM⟩;rw[e5]at u5;have lb5:(eA5 s).length=(eA4 s++[bO s.ord]).length+2+(qDn s.bk s.u).length:=by rw[<-e5];exact jY
 have m5:(eA4 s).map qA++[qA (bO s.ord)]=(eA4 s++[bO s.ord]).map qA:=sM;have lB4:(eA4 s++[bO s.ord]).length=(eA4 s).length+1:=sM;generalize hB4:eA4 s++[bO s.ord]=B4 at *;generalize eA4 s=A4 at *;generalize qDn s.bk s.u=R at *;have u6:=zIh (l:=[s.mc]) (b:=eA5 s) ⟨⟨sM,sM⟩,oM⟩;have e6n:nuE (eA5 s) [s.mc]=eA5 s++beI 8 s.mc 8:=rfl;rw[e6n]at u6;have lB5:(eA5 s++beI 8 s.mc 8).length=(eA5 s).length+8:=by simp only[length_append,jJ3]
 have lb6:(eA6 s).length=(eA5 s++beI 8 s.mc 8).length+1:=by rw[<-e6,@length_append _ (eA5 s++beI 8 s.mc 8) _];rfl
 generalize eA5 s++beI 8 s.mc 8=B5 at *;generalize eA5 s=A5 at *;have t1:List.take (y.length+2+s.en.length) A3=A3:=take_of_length_le oM;have t4':List.take (A4.length+1) B4=B4:=take_of_length_le oM;have t5:List.take (B4.length+2+R.length) A5=A5:=take_of_length_le oM;simp only[mcn,iT]at u4 u6;simp(maxSteps:=9^9)(disch:=try exact dS)only[go_sem,saA,tu,hY,h2,u3,t1,h3,u4,h4,hone,h5,renc,m5,hB4,t4',u5,t5,u6,wi];repeat refine aiG ?_
 refine qB s.ix.length (λk=>[(1,.ref 4096 0 0),(3,.ref 8256 0 0),(6,.fn 68 [.ref 8256 0 0]),(74,.t (.sl (s.ix.map ixA))),(75,.t (.int .i64 s.ix.length)),(76,.t (.int .i64 (k:Nat)))]) (λk=>[(8256,.live 1 [.sl 9000 0 ((s.ix.take k).foldl ixE (eA6 s)).length] true true),(9000,.live 1 ((((s.ix.take k).foldl ixE (eA6 s)).map qA).map V.t) true false),(4096,.live 19 [.t (saA s)] true true)]) (qL.rd (λj=>if j=9000 then 77920 else j) ?_ ?_ rfl) (λk hk=>?_)
 .simp(maxSteps:=9^9)(disch:=try exact dS)only[go_sem,id]
 .simp(maxSteps:=9^9)(disch:=try exact dS)only[go_sem,id,saA,take_zero,foldl_nil,e6,lb6]
 clear u3 u4 u5 u6 t1 t4' t5 m5 renc lr lb3 lb5 lb6 lB4 lB5 le le3 le4 le5 e3 e5 e6 hY hB4;have le:=jLw hs k;by_cases c:k<s.ix.length
 .obtain⟨x,hg,hm,_⟩:=qX c;have hx:=hs.ix.2 x hm;have hl:=hx.le;have hf:=yL (f:=ixE) (b:=eA6 s) hg;have x1:=hx.1;have x2:=hx.2.1;have x3:=hx.2.2.1;generalize (s.ix.take k).foldl ixE (eA6 s)=z at *;have w1:=zHl (n:=x.n) oM;have w2:=zHl (n:=x.kd) oM;have w3:=zHl (n:=x.ar) oM;have hw:=@jDt g4 x.wr;have d0:blL (blL (blL (z++[bY x.n]++[bY x.kd]++[bY x.ar]++beI 2 x.sz 2++[bO x.wr]) x.po) x.au) x.da=ixE z x:=rfl;have l10:(z++[bY x.n]++[bY x.kd]++[bY x.ar]).length=z.length+3:=sM;have u1:=qLs (b:=z++[bY x.n]++[bY x.kd]++[bY x.ar]) (n:=x.sz) oM;generalize hC1:z++[bY x.n]++[bY x.kd]++[bY x.ar]=C1 at *;have l11:(C1++beI 2 x.sz 2).length=C1.length+2:=by simp only[length_append,yC4]
  generalize C1++beI 2 x.sz 2=C2 at *;have l12:(C2++[bO x.wr]).length=C2.length+1:=sM;have u2:=qAc (b:=C2++[bO x.wr]) (x:=x.po) ⟨oM,oM⟩;have m2:C2.map qA++[qA (bO x.wr)]=(C2++[bO x.wr]).map qA:=sM;generalize hC3:C2++[bO x.wr]=C3 at *;have l13:=jY (b:=C3) (x:=x.po);have u3:=qAc (b:=blL C3 x.po) (x:=x.au) ⟨oM,oM⟩;generalize blL C3 x.po=D1 at *;have l14:=jY (b:=D1) (x:=x.au);have u4:=qAc (b:=blL D1 x.au) (x:=x.da) ⟨oM,oM⟩;generalize blL D1 x.au=D2 at *;have l15:=jY (b:=D2) (x:=x.da);rw[d0]at l15 u4;have t1:List.take (z.length+3) C1=C1:=take_of_length_le oM;have t2:List.take (C1.length+2) C2=C2:=take_of_length_le oM;have t3:List.take (C1.length+2+1) C3=C3:=take_of_length_le oM;have t4:List.take (C3.length+2+x.po.length) D1=D1:=take_of_length_le oM;have t5:List.take (D1.length+2+x.au.length) D2=D2:=take_of_length_le oM;simp(maxSteps:=9^9)(disch:=try exact dS)only[go_sem,c,hg,oms,ixA,w1,w2,w3,h6,u1,hC1,hC3,m2,t1,h4,hw,t2,t3,h2,u2,u3,u4,t4,t5,mcn];repeat refine aiG ?_
  refine qL.rd (λj=>if j=9000 then 102544 else j) ?_ ?_ rfl;all_goals simp(maxSteps:=9^9)(disch:=try exact dS)only[go_sem,id,saA,hf,l15]
 obtain rfl:k=s.ix.length:=oM;rw[take_length]at le;have e7:s.ix.foldl ixE (eA6 s)=eA7 s:=rfl;rw[e7]at le;have u8:=zIh (l:=[s.lk.fa,s.lk.mx,s.lk.rc,s.lk.si,s.lk.cl,s.lk.pe]) (b:=eA7 s) ⟨⟨sM,sM⟩,oM⟩;rw[show nuE (eA7 s) [s.lk.fa,s.lk.mx,s.lk.rc,s.lk.si,s.lk.cl,s.lk.pe]=eA8 s from rfl]at u8;have le8:=jCy hs;have h9:eA8 s++[bY s.ks.length]=eA9 s:=rfl;have l9:(eA9 s).length=(eA8 s).length+1:=by rw[<-h9,@length_append _ (eA8 s) _];rfl
 simp only[mcn,iT]at u8;simp(maxSteps:=9^9)(disch:=try exact dS)only[go_sem,saA,take_length,e7,h3,u8,wk];repeat refine aiG ?_
 refine qB s.ks.length (λk=>[(3,.ref 8256 0 0),(137,.t (.sl (s.ks.map lvA))),(138,.t (.int .i64 s.ks.length)),(139,.t (.int .i64 (k:Nat)))]) (λk=>[(8256,.live 1 [.sl 9000 0 ((s.ks.take k).foldl lvE (eA9 s)).length] true true),(9000,.live 1 ((((s.ks.take k).foldl lvE (eA9 s)).map qA).map V.t) true false)]) (qL.rd (λj=>if j=9000 then 118880 else j) ?_ ?_ rfl) (λk hk=>?_)
 .simp(maxSteps:=9^9)(disch:=try exact dS)only[go_sem,id]
 .simp(maxSteps:=9^9)(disch:=try exact dS)only[go_sem,id,saA,take_zero,foldl_nil,h9,l9]
 have le:=jLx hs k;by_cases c:k<s.ks.length
 .obtain⟨x,hg,hm,_⟩:=qX c;have hx:=hs.ks.2 x hm;unfold Lv.Ok at hx;have hf:=yL (f:=lvE) (b:=eA9 s) hg;generalize (s.ks.take k).foldl lvE (eA9 s)=z at *;have w1:=zHl (n:=x.us) oM;have d0:blL z x.un++[bY x.us]=lvE z x:=rfl;have u1:=qAc (b:=z) (x:=x.un) ⟨oM,oM⟩;have l11:=jY (b:=z) (x:=x.un);have l12:(lvE z x).length=(blL z x.un).length+1:=by rw[<-d0,@length_append _ (blL z x.un) _];rfl
  simp(maxSteps:=9^9)(disch:=try exact dS)only[go_sem,c,hg,oms,lvA,w1,h2,u1,mcn];repeat refine aiG ?_
  refine qL.rd (λj=>if j=9000 then 135296 else j) ?_ ?_ rfl;all_goals simp(maxSteps:=9^9)(disch:=try exact dS)only[go_sem,id,hf,l12,l11,d0]
 obtain rfl:k=s.ks.length:=oM;have ea:s.ks.foldl lvE (eA9 s)=qCs s:=rfl;simp(maxSteps:=9^9)(disch:=try exact dS)only[go_sem,take_length,ea];repeat refine aiG ?_
 exact jW4 (qCs s) rfl rfl rfl
def IE (r:Nat)(e:Int):Ob:= .live 2 [.agg [.ref r 0 0,.t (.int .i64 e)]] true true
theorem jR {r:Nat}{e:Int}:IE r e=.live 2 [.agg [.ref r 0 0,.t (.int .i64 e)]] true true:=rfl
theorem qVp {r:Nat}{e e':Int}(h:IE r e=IE r e'):e=e':=by
 unfold IE at h;injection h with _ h;injection h with h;injection h with h;injection h with _ h;injection h with h;injection h with h;injection h
def Rn (s:Rd)(e:Int):Prop:=qG4 s/\(e=0->s.2.2=0)
abbrev et (s:Rd)(e:Int):Rd:=(s.1,s.2.1,e)
def jDx (s:Rd)(k:Nat)(m:Int):Int×Rd:=if(qI s k).2.2.2=0/\m<(qI s k).1 then(0,((qI s k).2.1,(qI s k).2.2.1,1)) else qI s k
theorem qSm {b:List UInt8}{p k:Nat}{e:Int}(h:e≠0):qI (b,p,e) k=(0,(b,p,e)):=if_pos h
theorem zZk {b:List UInt8}{p k:Nat}{e m:Int}(h:e≠0):jDx (b,p,e) k m=(0,(b,p,e)):=by
 unfold jDx;rw[qSm h,if_neg (λg=>h g.1)]
theorem zAp {b:List UInt8}{p k:Nat}{e:Int}(h:e≠0):zF (b,p,e) k=([],(b,p,e)):=if_pos h
theorem zNu {s:Rd}{k:Nat}:(qI s k).1<=9223372036854775807:=by
 unfold qI;split
 .simp
 .split
  .simp
  .split
   .simp
   .simp only;omega
theorem zZl {s:Rd}{k:Nat}:jDx s k 9223372036854775807=qI s k:=by
 have h:=zNu (s:=s) (k:=k);unfold jDx;rw[if_neg (λg=>oM)]
def qH4:ECt where
 α:=Rd×Int×Nat×Int
 β:=Int×Rd×Int
 aS:=λ(s,e,k,m)=>[.ref 0 0 0,.t (.int .i64 k),.t (.int .i64 m)]
 ins:=λ(s,e,k,m)=>[IE 1 e,yS s]
 pre:=λ(s,e,k,m)=>Rn s e/\1<=k/\k<=8
 r:=λ(v,s,e)=>.t (.int .i64 v)
 outs:=λ(v,s,e)=>[IE 1 e,yS s]
 R:=λ(s,e,k,m)(v,s',e')=>(v,et s' e')=jDx (et s e) k m/\Rn s' e'
 inj:=by
  rintro⟨s,e,k,m⟩ ⟨s',e',k',m'⟩ h h2;simp only[List.cons.injEq,V.t.injEq,T.int.injEq,true_and,and_true,Int.natCast_inj]at h h2;obtain⟨rfl,rfl⟩:=h;cases qVp h2.1;cases wD h2.2;rfl
theorem zEx {g:EF qH4}{s:Rd}{e:Int}{k:Nat}{m:Int}(h:Rn s e/\1<=k/\k<=8):∃v s' e',((v,et s' e')=jDx (et s e) k m/\Rn s' e')/\qH4.fs g [.ref 0 0 0,.t (.int .i64 k),.t (.int .i64 m)] [IE 1 e,rdO s]=some (.t (.int .i64 v),[IE 1 e',rdO s']):=by
 obtain⟨⟨v,s',e'⟩,h1,h2⟩:=qH4.eq g (s,e,k,m) h;exact⟨v,s',e',h1,h2⟩
theorem zX0 {s:Rd}{e:Int}{k:Nat}{m:Int}(v:Int)(s':Rd)(e':Int)(hR:(v,et s' e')=jDx (et s e) k m/\Rn s' e')(hV:vv=.t (.int .i64 v))(hO:oo=[IE 1 e',yS s']):qH4.K (s,e,k,m) vv oo:=⟨(v,s',e'),hR,hV,hO⟩
theorem qMj (h1:LkC tab 109 qE4)(h2:LkC tab 111 qNc)(s:Rd)(e:Int)(k:Nat)(m:Int)(hp:Rn s e/\1<=k/\k<=8) :
  jO.1.wp tab gl (qD 0 [.ref 0 0 0,.t (.int .i64 k),.t (.int .i64 m)]) (qD 0 [IE 1 e,yS s]) (qZ [(6,none)] 2 (qH4.K (s,e,k,m))):=by
 obtain⟨⟨ok,hI⟩,hk⟩:=hp;obtain⟨b,p,f⟩:=s;by_cases c:e=0
 rotate_left
 .simp(disch:=omega)only[go_sem,jO,jR,zK,c];exact zX0 0 (b,p,f) e ⟨(zZk c).symm,ok,hI⟩ rfl rfl
 subst c;obtain rfl:f=0:=hI rfl;have e1:=wW (s:=(b,p,0)) (k:=k) ⟨ok,hk⟩;have o1:=zTa (k:=k) ok;have hv:=zL2 (s:=(b,p,0)) (k:=k);have hd:jDx (b,p,0) k m=if(qI (b,p,0) k).2.2.2=0/\m<(qI (b,p,0) k).1 then(0,((qI (b,p,0) k).2.1,(qI (b,p,0) k).2.2.1,1)) else qI (b,p,0) k:=rfl
 generalize qI (b,p,0) k=y at *;obtain⟨v,b',p',x⟩:=y;simp only at hv hd o1;have e2:=qW8 o1;simp only[rdO]at e1 e2;by_cases c1:x=0
 .subst c1;by_cases c2:m<v
  .rw[if_pos ⟨rfl,c2⟩]at hd;simp(disch:=omega)only[go_sem,jO,jR,zK,h1,e1,h2,e2,c2];exact zX0 0 (b',p',0) 1 ⟨hd.symm,o1,λh=>absurd h (by decide)⟩ rfl rfl
  .rw[if_neg (λh=>c2 h.2)]at hd;simp(disch:=omega)only[go_sem,jO,jR,zK,h1,e1,h2,e2,c2];exact zX0 v (b',p',0) 0 ⟨hd.symm,o1,λ_=>rfl⟩ rfl rfl
 .rw[if_neg (λh=>c1 h.1)]at hd;obtain rfl:v=0:=hv.2 c1;simp(disch:=omega)only[go_sem,jO,jR,zK,h1,e1,h2,e2,c1];exact zX0 0 (b',p',x) x ⟨hd.symm,o1,λh=>absurd h c1⟩ rfl rfl
def qNv:ECt where
 α:=Rd×Int×Nat
 β:=Int×Rd×Int
 aS:=λ(s,e,k)=>[.ref 0 0 0,.t (.int .i64 k)]
 ins:=λ(s,e,k)=>[IE 1 e,yS s]
 pre:=λ(s,e,k)=>Rn s e/\1<=k/\k<=8
 r:=λ(v,s,e)=>.t (.int .i64 v)
 outs:=λ(v,s,e)=>[IE 1 e,yS s]
 R:=λ(s,e,k)(v,s',e')=>(v,et s' e')=qI (et s e) k/\Rn s' e'
 inj:=by
  rintro⟨s,e,k⟩ ⟨s',e',k'⟩ h h2;simp only[List.cons.injEq,V.t.injEq,T.int.injEq,true_and,and_true,Int.natCast_inj]at h h2;subst h;cases qVp h2.1;cases wD h2.2;rfl
theorem qDt {g:EF qNv}{s:Rd}{e:Int}{k:Nat}(h:Rn s e/\1<=k/\k<=8):∃v s' e',((v,et s' e')=qI (et s e) k/\Rn s' e')/\qNv.fs g [.ref 0 0 0,.t (.int .i64 k)] [IE 1 e,rdO s]=some (.t (.int .i64 v),[IE 1 e',rdO s']):=by
 obtain⟨⟨v,s',e'⟩,h1,h2⟩:=qNv.eq g (s,e,k) h;exact⟨v,s',e',h1,h2⟩
theorem qS7 {g1}(h1:LkE tab 85 qH4 g1)(s:Rd)(e:Int)(k:Nat)(hp:Rn s e/\1<=k/\k<=8) :
  qBo.1.wp tab gl (qD 0 [.ref 0 0 0,.t (.int .i64 k)]) (qD 0 [IE 1 e,yS s]) (qZ [(4,none)] 2 (qNv.K (s,e,k))):=by
 obtain⟨v,s',e',⟨hR,hn⟩,e1⟩:=zEx (g:=g1) (m:=9223372036854775807) hp;rw[zZl]at hR;simp only[rdO,jR]at e1;simp(disch:=omega)only[go_sem,qBo,jR,yY,h1,e1];exact⟨(v,s',e'),⟨hR,hn⟩,rfl,rfl⟩
def qNw:ECt where
 α:=Rd×Int
 β:=Bool×Rd×Int
 aS:=λ(s,e)=>[.ref 0 0 0]
 ins:=λ(s,e)=>[IE 1 e,yS s]
 pre:=λ(s,e)=>Rn s e
 r:=λ(v,s,e)=>.t (.bool v)
 outs:=λ(v,s,e)=>[IE 1 e,yS s]
 R:=λ(s,e)(v,s',e')=>(v=((qW7 (et s e) 1).1==1)/\et s' e'=(qW7 (et s e) 1).2)/\Rn s' e'
 inj:=by
  rintro⟨s,e⟩ ⟨s',e'⟩ _ h2;simp only[List.cons.injEq,and_true]at h2;cases qVp h2.1;cases wD h2.2;rfl
theorem jDb {g:EF qNw}{s:Rd}{e:Int}(h:Rn s e):∃v s' e',((v=((qW7 (et s e) 1).1==1)/\et s' e'=(qW7 (et s e) 1).2)/\Rn s' e')/\qNw.fs g [.ref 0 0 0] [IE 1 e,rdO s]=some (.t (.bool v),[IE 1 e',rdO s']):=by
 obtain⟨⟨v,s',e'⟩,h1,h2⟩:=qNw.eq g (s,e) h;exact⟨v,s',e',h1,h2⟩
theorem qRi {g1}(h1:LkE tab 85 qH4 g1)(s:Rd)(e:Int)(hp:Rn s e) :
  qAx.1.wp tab gl (qD 0 [.ref 0 0 0]) (qD 0 [IE 1 e,yS s]) (qZ [(2,none)] 2 (qNw.K (s,e))):=by
 obtain⟨v,s',e',⟨hR,hn⟩,e1⟩:=zEx (g:=g1) (k:=1) (m:=1) ⟨hp,oM,oM⟩;rw[show((1:Nat):Int)=1 from rfl]at e1;have hR':(v,et s' e')=qW7 (et s e) 1:=hR;simp only[rdO,jR]at e1;simp(disch:=omega)only[go_sem,qAx,jR,yY,h1,e1];exact⟨(v==1,s',e'),⟨⟨by rw[<-hR'],by rw[<-hR']⟩,hn⟩,rfl,rfl⟩
def qGx:ECt where
 α:=Rd×Int
 β:=List UInt8×Rd×Int
 aS:=λ(s,e)=>[.ref 0 0 0]
 ins:=λ(s,e)=>[IE 1 e,yS s]
 pre:=λ(s,e)=>Rn s e
 r:=λ(v,s,e)=>.t (.sl (v.map qA))
 outs:=λ(v,s,e)=>[IE 1 e,yS s]
 R:=λ(s,e)(v,s',e')=>(v,et s' e')=zF (et s e) 4096/\Rn s' e'
 inj:=by
  rintro⟨s,e⟩ ⟨s',e'⟩ _ h2;simp only[List.cons.injEq,and_true]at h2;cases qVp h2.1;cases wD h2.2;rfl
theorem qWr {g:EF qGx}{s:Rd}{e:Int}(h:Rn s e):∃v s' e',((v,et s' e')=zF (et s e) 4096/\Rn s' e')/\qGx.fs g [.ref 0 0 0] [IE 1 e,rdO s]=some (.t (.sl (v.map qA)),[IE 1 e',rdO s']):=by
 obtain⟨⟨v,s',e'⟩,h1,h2⟩:=qGx.eq g (s,e) h;exact⟨v,s',e',h1,h2⟩
theorem jM2 {s:Rd}{e:Int}(v:List UInt8)(s':Rd)(e':Int)(hR:(v,et s' e')=zF (et s e) 4096/\Rn s' e')(hV:vv=.t (.sl (v.map qA)))(hO:oo=[IE 1 e',yS s']):qGx.K (s,e) vv oo:=⟨(v,s',e'),hR,hV,hO⟩
theorem qRh (h1:LkC tab 110 qFw)(h2:LkC tab 111 qNc)(s:Rd)(e:Int)(hp:Rn s e) :
  wR.1.wp tab gl (qD 0 [.ref 0 0 0]) (qD 0 [IE 1 e,yS s]) (qZ [(2,none)] 2 (qGx.K (s,e))):=by
 obtain⟨ok,hI⟩:=hp;obtain⟨b,p,f⟩:=s;by_cases c:e=0
 rotate_left
 .simp(disch:=omega)only[go_sem,wR,jR,zK,c];exact jM2 [] (b,p,f) e ⟨(zAp c).symm,ok,hI⟩ rfl rfl
 subst c;obtain rfl:f=0:=hI rfl;have e1:=qF2 (s:=(b,p,0)) (k:=4096) ⟨ok,oM⟩;have o1:=zS7 (k:=4096) ok;obtain⟨⟨v,b',p',x⟩,hy⟩:∃y,zF (b,p,0) 4096=y:=⟨_,rfl⟩;rw[hy]at e1 o1;rw[show((4096:Nat):Int)=4096 from rfl]at e1;simp only at o1;have e2:=qW8 o1;simp only[rdO]at e1 e2;simp(disch:=omega)only[go_sem,wR,jR,zK,h1,e1,h2,e2];exact jM2 v (b',p',x) x ⟨hy.symm,o1,λh=>h⟩ rfl rfl
def qR8:ECt where
 α:=Rd×Int
 β:=(List zD×Int)×Rd×Int
 aS:=λ(s,e)=>[.ref 0 0 0]
 ins:=λ(s,e)=>[IE 1 e,yS s]
 pre:=λ(s,e)=>Rn s e
 r:=λ(v,s,e)=>.t (.agg [.sl (v.1.map vU),.int .i64 v.2])
 outs:=λ(v,s,e)=>[IE 1 e,yS s]
 R:=λ(s,e)(v,s',e')=>(v,et s' e')=jDz (et s e)/\Rn s' e'
 inj:=by
  rintro⟨s,e⟩ ⟨s',e'⟩ _ h2;simp only[List.cons.injEq,and_true]at h2;cases qVp h2.1;cases wD h2.2;rfl
theorem jM3 {g:EF qR8}{s:Rd}{e:Int}(h:Rn s e):∃v s' e',((v,et s' e')=jDz (et s e)/\Rn s' e')/\qR8.fs g [.ref 0 0 0] [IE 1 e,rdO s]=some (.t (.agg [.sl (v.1.map vU),.int .i64 v.2]),[IE 1 e',rdO s']):=by
 obtain⟨⟨v,s',e'⟩,h1,h2⟩:=qR8.eq g (s,e) h;exact⟨v,s',e',h1,h2⟩
theorem qPu {g1}(h1:LkE tab 87 qGx g1)(h2:LkC tab 122 zHs)(s:Rd)(e:Int)(hp:Rn s e) :
  wC.1.wp tab gl (qD 0 [.ref 0 0 0]) (qD 0 [IE 1 e,yS s]) (qZ [(2,some (2,true))] 2 (qR8.K (s,e))):=by
 obtain⟨v,s',e',⟨hR,hn⟩,e1⟩:=qWr (g:=g1) hp;have lv:=zS6 (s:=et s e) (k:=4096);rw[<-hR]at lv;have e2:=jLo (b:=v) (by simp only at lv;omega);have hd:jDz (et s e)=if(zF (et s e) 4096).2.2.2≠0 then(([],0),(zF (et s e) 4096).2) else(((dcT (zF (et s e) 4096).1).1,(dcT (zF (et s e) 4096).1).2.1),((zF (et s e) 4096).2.1,(zF (et s e) 4096).2.2.1,(dcT (zF (et s e) 4096).1).2.2)):=rfl
 rw[<-hR]at hd;simp only at hd;obtain⟨b,p,f⟩:=s';simp only[rdO,jR]at e1;by_cases c:e'=0
 .subst c;obtain rfl:f=0:=hn.2 rfl;rw[if_neg sM]at hd;generalize dcT v=z at *;obtain⟨bk,u,x⟩:=z;simp only at e2 hd;simp(disch:=omega)only[go_sem,wC,jR,yY,h1,e1,h2,e2];exact⟨((bk,u),(b,p,0),x),⟨hd.symm,hn.1,λ_=>rfl⟩,rfl,rfl⟩
 .rw[if_pos c]at hd;simp(disch:=omega)only[go_sem,wC,jR,yY,h1,e1,c];exact⟨(([],0),(b,p,f),e'),⟨hd.symm,hn⟩,rfl,rfl⟩
def qR9:ECt where
 α:=Rd×Int
 β:=Ix×Rd×Int
 aS:=λ(s,e)=>[.ref 0 0 0]
 ins:=λ(s,e)=>[IE 1 e,yS s]
 pre:=λ(s,e)=>Rn s e
 r:=λ(v,s,e)=>.t (ixA v)
 outs:=λ(v,s,e)=>[IE 1 e,yS s]
 R:=λ(s,e)(v,s',e')=>(v,et s' e')=zPf (et s e)/\Rn s' e'
 inj:=by
  rintro⟨s,e⟩ ⟨s',e'⟩ _ h2;simp only[List.cons.injEq,and_true]at h2;cases qVp h2.1;cases wD h2.2;rfl
theorem jM4 {g:EF qR9}{s:Rd}{e:Int}(h:Rn s e):∃v s' e',((v,et s' e')=zPf (et s e)/\Rn s' e')/\qR9.fs g [.ref 0 0 0] [IE 1 e,rdO s]=some (.t (ixA v),[IE 1 e',rdO s']):=by
 obtain⟨⟨v,s',e'⟩,h1,h2⟩:=qR9.eq g (s,e) h;exact⟨v,s',e',h1,h2⟩
theorem qPt {g1}(h1:LkE tab 84 qNv g1){g2}(h2:LkE tab 88 qNw g2){g3}(h3:LkE tab 87 qGx g3)(s:Rd)(e:Int)(hp:Rn s e) :
  qAb.1.wp tab gl (qD 0 [.ref 0 0 0]) (qD 0 [IE 1 e,yS s]) (qZ [(2,some (8,true))] 2 (qR9.K (s,e))):=by
 obtain⟨n,s1,f1,⟨q1,m1⟩,e1⟩:=qDt (g:=g1) (k:=1) ⟨hp,oM,oM⟩;obtain⟨kd,s2,f2,⟨q2,m2⟩,e2⟩:=qDt (g:=g1) (k:=1) ⟨m1,oM,oM⟩;obtain⟨ar,s3,f3,⟨q3,m3⟩,e3⟩:=qDt (g:=g1) (k:=1) ⟨m2,oM,oM⟩;obtain⟨sz,s4,f4,⟨q4,m4⟩,e4⟩:=qDt (g:=g1) (k:=2) ⟨m3,oM,oM⟩;obtain⟨w,s5,f5,⟨⟨q5,q5'⟩,m5⟩,e5⟩:=jDb (g:=g2) m4;obtain⟨po,s6,f6,⟨q6,m6⟩,e6⟩:=qWr (g:=g3) m5;obtain⟨au,s7,f7,⟨q7,m7⟩,e7⟩:=qWr (g:=g3) m6;obtain⟨da,s8,f8,⟨q8,m8⟩,e8⟩:=qWr (g:=g3) m7;obtain⟨x,hx⟩:∃x,qW7 (et s4 f4) 1=(x,et s5 f5):=⟨_,Prod.ext rfl q5'.symm⟩;rw[hx]at q5;have hd:zPf (et s e)=(⟨n,kd,ar,sz,po,au,w,da⟩,et s8 f8):=by simp only[zPf,<-q1,<-q2,<-q3,<-q4,hx,<-q6,<-q7,<-q8,q5]
 rw[show((1:Nat):Int)=1 from rfl]at e1 e2 e3;rw[show((2:Nat):Int)=2 from rfl]at e4;simp only[rdO,jR]at e1 e2 e3 e4 e5 e6 e7 e8;simp(maxSteps:=9^9)(disch:=try exact dS)only[go_sem,qAb,jR,yY,h1,h2,h3,e1,e2,e3,e4,e5,e6,e7,e8];exact⟨(⟨n,kd,ar,sz,po,au,w,da⟩,s8,f8),⟨hd.symm,m8⟩,rfl,rfl⟩
def qR7:ECt where
 α:=Rd×Int×Nat
 β:=List (List UInt8)×Rd×Int
 aS:=λ(s,e,n)=>[.t (.int .i64 n),.ref 0 0 0]
 ins:=λ(s,e,n)=>[.live 1 [.ref 1 0 0] true true,IE 2 e,yS s]
 pre:=λ(s,e,n)=>Rn s e/\n<=10
 r:=λ(v,s,e)=>.t (.sl (v.map bsT))
 outs:=λ(v,s,e)=>[.live 1 [.ref 1 0 0] true true,IE 2 e,yS s]
 R:=λ(s,e,n)(v,s',e')=>(v,et s' e')=zG3 (et s e) n/\Rn s' e'
 inj:=by
  rintro⟨s,e,n⟩ ⟨s',e',n'⟩ h h2;simp only[List.cons.injEq,V.t.injEq,T.int.injEq,true_and,and_true,Int.natCast_inj]at h h2;subst h;cases qVp h2.1;cases wD h2.2;rfl
theorem jC9 {g:EF qR7}{s:Rd}{e:Int}{n:Nat}(h:Rn s e/\n<=10):∃v s' e',((v,et s' e')=zG3 (et s e) n/\Rn s' e')/\qR7.fs g [.t (.int .i64 n),.ref 0 0 0] [.live 1 [.ref 1 0 0] true true,IE 2 e,rdO s]=some (.t (.sl (v.map bsT)),[.live 1 [.ref 1 0 0] true true,IE 2 e',rdO s']):=by
 obtain⟨⟨v,s',e'⟩,h1,h2⟩:=qR7.eq g (s,e,n) h;exact⟨v,s',e',h1,h2⟩
theorem qUt {g1}(h1:LkE tab 87 qGx g1)(s:Rd)(e:Int)(n:Nat)(hp:Rn s e/\n<=10) :
  qCf.1.wp tab gl (qD 0 [.t (.int .i64 n),.ref 0 0 0]) (qD 0 [.live 1 [.ref 1 0 0] true true,IE 2 e,yS s]) (qZ [(3,none)] 3 (qR7.K (s,e,n))):=by
 obtain⟨hn,h10⟩:=hp;simp(maxSteps:=9^9)(disch:=try exact dS)only[go_sem,qCf,jR,yY];refine jZ (σ:=Nat×List (List UInt8)×Rd×Int) (λt=>t.1<=n/\(t.2.1,et t.2.2.1 t.2.2.2)=zG3 (et s e) t.1/\Rn t.2.2.1 t.2.2.2) (λt=>n-t.1) (λt=>[(1,.ref 0 0 0),(3,.sl 9000 0 t.1),(4,.t (.int .i64 n)),(5,.t (.int .i64 t.1))]) (λt=>[(9000,.live 1 ((t.2.1.map bsT).map V.t) true false),(0,.live 1 [.ref 1 0 0] true true),(1,IE 2 t.2.2.2),(2,yS t.2.2.1)]) (0,[],s,e) ⟨sM,rfl,hn⟩ ?_ ?_
 .refine qL.cv0 (hv:=[(9000,.live 1 [] true false)]) (ho:=[(0,.live 1 [.ref 1 0 0] true true),(1,IE 2 e),(2,yS s)]) id ?_ ?_ rfl rfl;all_goals simp(maxSteps:=9^9)(disch:=try exact dS)only[go_sem,id,jR,yY]
  all_goals rfl
 rintro⟨k,l,t,f⟩ ⟨hk,hR,ht⟩;simp only at hk hR ht;have ll:l.length=k:=by have:=zLw (s:=et s e) (n:=k);rw[<-hR]at this;exact this
 rcases(by omega:k<n\/n=k)with c|rfl
 .obtain⟨x,t',f',⟨hx,ht'⟩,e1⟩:=qWr (g:=g1) ht;have hs:(l++[x],et t' f')=zG3 (et s e) (k+1):=by simp only[zG3,<-hR,<-hx]
  simp only[rdO,jR]at e1;simp(maxSteps:=9^9)(disch:=try exact dS)only[go_sem,jR,yY,c,h1,e1,ll];repeat refine aiG ?_
  refine qYo.of (k+1,l++[x],t',f') ⟨by show k+1<=n;omega,hs,ht'⟩ (by show n-(k+1)<n-k;omega) (qL.rd (λj=>if j=9000 then 16448 else j) ?_ ?_ rfl);all_goals simp(maxSteps:=9^9)(disch:=try exact dS)only[go_sem,id,jR,yY]
 .have tl:List.take n l=l:=take_of_length_le oM;simp(maxSteps:=9^9)(disch:=try exact dS)only[go_sem,jR,yY,tl,ll];exact⟨(l,t,f),⟨hR,ht⟩,rfl,rfl⟩
end Go.Eng
end
