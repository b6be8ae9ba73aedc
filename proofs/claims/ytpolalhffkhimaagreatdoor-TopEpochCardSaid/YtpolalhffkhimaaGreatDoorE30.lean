/- A part of an abstract machine, its walks, their tie. -/
import Derived.Test.YtpolalhffkhimaaGreatDoorE29
import Derived.Test.YtpolalhffkhimaaGreatDoorE25
import Derived.Test.YtpolalhffkhimaaGreatDoorE21
import Derived.Test.YtpolalhffkhimaaGreatDoorE23
import Derived.Test.YtpolalhffkhimaaGreatDoorE28
set_option linter.all false
section
set_option maxHeartbeats 64000000
set_option maxRecDepth 100000
namespace Go.Eng
variable (tab:Tab) (gl:Gl)
variable {vv:V} {oo:List Ob}
theorem zVi {k:Dk}{a:Sa}{n:Int}(hl:k.ar.length=4)(h:cyP k.ar a n) : ∃ k',cyV k a n=⟨k',qP8 (kK a),true,n+2⟩∧okD k'∧jOk k'.ar (n+1) (qCi (qP8 (kK a)).a):=by
 obtain⟨⟨ha,hr⟩,hn,hp,hj,ho⟩:=h;have hT:=(zT7 ha hr).2;have hne : ¬ qCi (qP8 (kK a)).a=qCi a:=fun e=>by
  have:=congrArg Sa.res (qNv hT.a.B ha.B e);have h2:(qP8 (kK a)).a.res=a.res+1:=rfl;omega
 have h0:=hp.1;have hj':jOk (k.ar.set ((n+1)%2).toNat (qFq (n+1) (qCi (qP8 (kK a)).a))) (n+1) (qCi (qP8 (kK a)).a):=by
  have e1:(n+1+1)%2=n%2:=oM;have hlt:((n+1)%2).toNat<k.ar.length:=oM;have hne2:((n+1)%2).toNat≠(n%2).toNat:=oM;refine⟨qYq hT.a.B oM,?_,.inr ⟨qCi a,by rw[show n+1-1=n by omega];exact hp,?_⟩⟩
  ·rw[List.getD_eq_getElem?_getD,List.getElem?_set_self hlt];rfl
  ·rw[e1,List.getD_eq_getElem?_getD,List.getElem?_set_ne hne2,←List.getD_eq_getElem?_getD,hj,show n+1-1=n by omega]
 refine⟨⟨k.ar.set ((n+1)%2).toNat (qFq (n+1) (qCi (qP8 (kK a)).a)),1,0,0,false⟩,?_,⟨rfl,by simp[hl],rfl,by show (0:Int)≤1∧(1:Int)≤1000000;decide⟩,hj'⟩;rw[cyV,qJ5,if_neg (by exact hne)];simp only[Dv.mk.injEq,Dk.mk.injEq,and_true,true_and];exact⟨rfl,oM⟩
def sd:Ses:=default
def od:Obj:=default
structure FrP (k:Dk) (s:St) (nx:Int):Prop where
 hk:okK k nx
 tp:s.Tp
 hu:s.u=0
 hd:s.dr=0
 hb:s.bk=yK 2
 se:s.ses=[sd,sd,sd]
 ob:s.obs=[od,od,od]
 jo:jOk k.ar (nx-1) (qCi s.a)
theorem zHl {k k':Dk}{a:Sa}{n:Int}(h:cyP k.ar a n)(h1:okD k')(h2:jOk k'.ar (n+1) (qCi (qP8 (kK a)).a)):FrP k' (qP8 (kK a)) (n+2) where
 hk:=⟨h1,by have:=h.2.1;have:=h.2.2.1.1;omega⟩
 tp:=(zT7 h.1.1 h.1.2).2
 hu:=rfl
 hd:=rfl
 hb:=by show yK a.act=_;rw[h.1.1.act]
 se:=rfl
 ob:=rfl
 jo:=by rw[show n+2-1=n+1 by omega];exact h2
theorem jD0 : ∃ k s nx,frV=⟨k,s,true,nx⟩∧FrP k s nx∧nx=3∧s.a=frA:=by
 obtain⟨k',e,h1,h2⟩:=zVi (k:=⟨[[],qFq 1 (qCi (qW8 z32)),[],[]],1,0,0,true⟩) rfl qT0;exact⟨k',_,3,e,zHl (k:=⟨[[],qFq 1 (qCi (qW8 z32)),[],[]],1,0,0,true⟩) qT0 h1 h2,rfl,rfl⟩
theorem zNe {bk:List qX}{s0 s1:Int}:(rgD bk s0 s1).length=32:=qM
def qMn:ECt where
 α:=Unit
 β:=Bool
 aS:=fun _=>[]
 pre:=fun _=>True
 r:=fun ok=> .t (.bool ok)
 R:=fun _ ok=>ok=true
 inj:=fun _ _ _ _=>rfl
theorem jI3 {g:EF qMn}  : ∃ (ok:Bool),(ok=true)∧qMn.fs g [] []=some (.t (.bool ok),[]):=qMn.eq g () trivial
theorem jM9  (ok:Bool)(hR:ok=true)(hV:vv = .t (.bool ok))(hO:oo=[]):qMn.K () vv oo:=⟨ok,hR,hV,hO⟩
theorem zEx {g1}(h1:LkE tab 5 qJf g1)(h2:LkC tab 21 kM)(h3:LkC tab 20 qK8)(h4:LkC tab 11 zDl){g5}(h5:LkE tab 16 qFj g5){g6}(h6:LkE tab 6 yO g6){g7}(h7:LkE tab 13 qFh g7){g8}(h8:LkE tab 15 qFi g8){g9}(h9:LkE tab 18 qFg g9)(h10:LkC tab 17 zAs)  :
  qH6.1.wp tab gl (qE 0 []) (qE 0 []) (zA [(0,none)] 0 (qMn.K ())):=by
 obtain⟨v,ok,⟨rfl,hv⟩,e1⟩:=zW1 (g:=g1) (a:=2) rfl;obtain⟨k,s,nx,hf,hF,-,-⟩:=jD0;rw[hv,hf] at e1;clear hv hf;obtain⟨b0,b1,hb,hn⟩:=zZb (act:=2) oM;have hdg:=zVn (u:=0) hF.tp.bk.rv (zVm hF.tp.bk (m:=1) oM);rw[hF.hb] at hdg;have hr:As.Ok (.reg 0 1 (rgD (yK 2) 0 1)):=⟨oM,oM,zNe⟩;have e4:=zZk hr;have lp:(jB4 z32 (.reg 0 1 (rgD (yK 2) 0 1))).length=32:=zDs;have ld:(rgD (yK 2) 0 1).length=32:=zNe;have td:List.take 32 (rgD (yK 2) 0 1)=rgD (yK 2) 0 1:=List.take_of_length_le oM;have hx:qPt z32 (.reg 0 1 (rgD s.bk 0 1))=jB4 z32 (.reg 0 1 (rgD (yK 2) 0 1)):=by rw[hF.hb];rfl
 have hbt:(yK 2).map wY=[.sl (b0.map bsT),.sl (b1.map bsT)]:=by rw[hb];rfl
 rw[hbt] at hdg;simp only[asT] at e4;generalize jB4 z32 (.reg 0 1 (rgD (yK 2) 0 1))=p at *;generalize rgD (yK 2) 0 1=dd at *;obtain⟨q1,⟨en,nm,f1⟩,T1⟩:=jA6 hF.tp (j:=0) (by rw[hF.ob];rfl) oM (hh:=0) (po:=p) (au:=[]) (da:=[9]) oM lp sM sM;have c5:qFj.fs g5 [.t (.int .i64 0),.t (.int .i64 3),.t (.int .i64 0),.t (.int .i64 0),.t (.sl (p.map qA)),.t (.sl []),.t (.sl [qA 9])] []=some (.t (rqA (qC (.pr 0 p [] [9]))),[]):=zW5 (u:=[]) (d:=[9]);have m1:yO.fs g6 [.t (dvA ⟨k,s,true,nx⟩),.t (.int .i64 0),.t (rqA (qC (.pr 0 p [] [9]))),.t (.int .i64 1),.t (.int .i64 2)] []=some (.tup [.t (dvA ⟨k,prS s 0 0 p [] [9],true,nx⟩),.t (rsA ⟨0,[512],[en,nm],[]⟩),.t (.bool true)],[]):=zIi hF.hk hF.tp q1 f1 rfl ⟨rfl,rfl,rfl⟩;obtain⟨q2,f2,T2⟩:=jHc T1 (by show s.dr≤999;rw[hF.hd];decide) (j:=0) (by show frS s.ses 0=_;rw[hF.se];rfl) (k:=2) oM;have c7:qFh.fs g7 [.t (.int .i64 2)] []=some (.t (rqA (qC (.op 2))),[]):=zW3;have hses:(opS (prS s 0 0 p [] [9]) 0 2).ses[0]?=some (nwS (prS s 0 0 p [] [9]) 2):=by show (s.ses.set 0 _)[0]?=_;rw[hF.se];rfl
 have hobs:(opS (prS s 0 0 p [] [9]) 0 2).obs[0]?=some (qP2 s 0 p [] [9]):=by show (s.obs.set 0 _)[0]?=_;rw[hF.ob];rfl
 have m2:yO.fs g6 [.t (dvA ⟨k,prS s 0 0 p [] [9],true,nx⟩),.t (.int .i64 0),.t (rqA (qC (.op 2))),.t (.int .i64 1),.t (.int .i64 1)] []=some (.tup [.t (dvA ⟨k,opS (prS s 0 0 p [] [9]) 0 2,true,nx⟩),.t (rsA ⟨0,[768],[qYr (prS s 0 0 p [] [9]) 16],[]⟩),.t (.bool true)],[]):=zIi hF.hk T1 q2 f2 rfl ⟨rfl,rfl,rfl⟩;obtain⟨q3,f3,T3⟩:=jMa T2 hses (.inl rfl) (a:= .reg 0 1 []) ⟨rfl,oM,rfl⟩ (by intros;nofun) (.inl rfl) (.inl rfl);have c8:qFi.fs g8 [.t (.int .i64 768),.t (.int .i64 1),.t (.agg [.int .i64 0,.int .i64 1]),.t (.int .i64 0),.t (.int .i64 0),.t (.sl [.sl []])] []=some (.t (rqA (qC (.po 768 (.reg 0 1 [])))),[]):=zW4 (s:=⟨0,1⟩) (b:=[[]]);have m3:yO.fs g6 [.t (dvA ⟨k,opS (prS s 0 0 p [] [9]) 0 2,true,nx⟩),.t (.int .i64 0),.t (rqA (qC (.po 768 (.reg 0 1 [])))),.t (.int .i64 0),.t (.int .i64 0)] []=some (.tup [.t (dvA ⟨k,poS (opS (prS s 0 0 p [] [9]) 0 2) 0 (nwS (prS s 0 0 p [] [9]) 2) (.reg 0 1 []),true,nx⟩),.t (rsA ⟨0,[],[],[]⟩),.t (.bool true)],[]):=zIi hF.hk T2 q3 f3 rfl ⟨rfl,rfl,rfl⟩;have hs3:(poS (opS (prS s 0 0 p [] [9]) 0 2) 0 (nwS (prS s 0 0 p [] [9]) 2) (.reg 0 1 [])).ses[0]?=some (poY (opS (prS s 0 0 p [] [9]) 0 2) (nwS (prS s 0 0 p [] [9]) 2) (.reg 0 1 [])):=by show ((s.ses.set 0 _).set 0 _)[0]?=_;rw[hF.se];rfl
 have hdg2:(poY (opS (prS s 0 0 p [] [9]) 0 2) (nwS (prS s 0 0 p [] [9]) 2) (.reg 0 1 [])).dg=p:=hx;obtain⟨q4,f4,T4⟩:=jA7 T3 (i:=0) (j:=0) (o:=qP2 s 0 p [] [9]) (v:=[]) hs3 (.inl rfl) hobs oM rfl sM (fun _=>⟨rfl,.inr rfl,fun h=>rfl⟩);have hu:unE (poY (opS (prS s 0 0 p [] [9]) 0 2) (nwS (prS s 0 0 p [] [9]) 2) (.reg 0 1 [])) (qP2 s 0 p [] [9])=0:=by
  unfold unE;rw[if_pos (by rfl),if_pos (by rw[hdg2];rfl)]
 rw[if_pos hu] at f4;have c9:qFg.fs g9 [.t (.int .i64 13),.t (.int .i64 512),.t (.sl [])] []=some (.t (rqA ⟨13,[512],[],[],[]⟩),[]):=zW2 (b:=[]);have c10 := @jCw 13 [512] [] [] [] 768;have m4:yO.fs g6 [.t (dvA ⟨k,poS (opS (prS s 0 0 p [] [9]) 0 2) 0 (nwS (prS s 0 0 p [] [9]) 2) (.reg 0 1 []),true,nx⟩),.t (.int .i64 0),.t (rqA (qC (.un 512 768 []))),.t (.int .i64 0),.t (.int .i64 1)] []=some (.tup [.t (dvA ⟨k,zCz (poS (opS (prS s 0 0 p [] [9]) 0 2) 0 (nwS (prS s 0 0 p [] [9]) 2) (.reg 0 1 [])) 768,true,nx⟩),.t (rsA ⟨0,[],[[9]],[]⟩),.t (.bool true)],[]):=zIi hF.hk T3 q4 f4 rfl ⟨rfl,rfl,rfl⟩;clear q1 q2 q3 q4 f1 f2 f3 f4 T1 T2 T3 T4 hu hs3 hdg2 hses hobs hx;generalize zCz _ _=s4 at m4;generalize poS _ _ _ _=s3 at m3 m4;generalize opS _ _ _=s2 at m2 m3;generalize qYr _ _=rb at m2;generalize prS _ _ _ _ _ _=s1 at m1 m2;generalize qC (.pr 0 p [] [9])=r1 at *;generalize qC (.op 2)=r2 at *;generalize qC (.po 768 (.reg 0 1 []))=r3 at *;generalize (⟨13,[512],[],[],[]⟩:Rq)=r5 at *;simp only[rsA,iT,mcn,qG] at m1 m2 m3;simp only[rsA,rqA,qC,azA,iT,mcn,qG] at m4;simp only[iT,mcn] at c10;simp(maxSteps:=9^9)(disch:=try exact dS)only[go_sem,qH6,zPe,zPm,zPg,zPo,zPf,zPn,zPd,zPl,iT,mcn,qG,h1,e1,h2,hn,h3,hdg,td,h4,e4,h5,c5,h6,m1,h7,c7,m2,h8,c8,m3,h9,c9,h10,c10,m4,List.take_length];repeat refine aiG ?_
 exact jM9 true rfl rfl rfl
def ix9 (a:Av):Prop:=(∃ od nm,a = .idx 0 2 od nm∧od.length=8∧nm.length=32) ∨ ∃ nm rf,a = .apr nm rf∧nm.length=32∧rf.length≤60
theorem ix9.ok {a:Av}(h:ix9 a):a.Ok:=by
 rcases h with⟨od,nm,rfl,h1,h2⟩ | ⟨nm,rf,rfl,h1,h2⟩
 ·exact⟨oM,oM,h2⟩
 ·exact⟨h1,oM⟩
def zKy:Ct where
 α:=List UInt8×List UInt8
 aS x:=[.t (.sl (x.1.map qA)),.t (.sl (x.2.map qA))]
 ins _:=[]
 pre x:=x.1.length=32∧x.2.length≤128
 r _:= .t (.int .i64 0)
 outs _:=[]
 inj:=fun _ _ _ _=>⟨rfl,rfl⟩
theorem zWa {a b:List UInt8}(h:a.length=32∧b.length≤128):zKy.fs [.t (.sl (a.map qA)),.t (.sl (b.map qA))] []=some (.t (.int .i64 0),[]):=zKy.eq (a,b) h
theorem jUf (a b:List UInt8)(h:a.length=32∧b.length≤128):qXp.1.wp tab gl (qE 0 [.t (.sl (a.map qA)),.t (.sl (b.map qA))]) (qE 0 []) (zA [(4,none)] 0 (fun r o=>r = .t (.int .i64 0)∧o=[])):=by
 obtain⟨h1,h2⟩:=h;have h3 : ¬ 128<b.length:=oM;simp(maxSteps:=9^9)(disch:=try exact dS)only[go_sem,qXp,h1,h3]
def zGa:Ct where
 α:=Av
 aS x:=[.t (avA x)]
 ins _:=[]
 pre x:=ix9 x
 r _:= .t (.int .i64 0)
 outs _:=[]
 inj:=fun _ _ _ _=>⟨rfl,rfl⟩
theorem jFq {a:Av}(h:ix9 a):zGa.fs [.t (avA a)] []=some (.t (.int .i64 0),[]):=zGa.eq a h
theorem qZs (h2:LkC tab 78 zKy)(a:Av)(ha:ix9 a) :
  qCr.1.wp tab gl (qE 0 [.t (avA a)]) (qE 0 []) (zA [(2,none)] 0 (fun r o=>r = .t (.int .i64 0)∧o=[])):=by
 rcases ha with⟨od,nm,rfl,l1,l2⟩ | ⟨nm,rf,rfl,l1,l2⟩
 ·have e:=zWa (a:=nm) (b:=od) ⟨l2,oM⟩;simp(maxSteps:=9^9)(disch:=try exact dS)only[go_sem,qCr,avA,avL,h2,e,List.map_nil]
 ·have e:=zWa (a:=nm) (b:=rf) ⟨l1,oM⟩;simp(maxSteps:=9^9)(disch:=try exact dS)only[go_sem,qCr,avA,avL,h2,e,List.map_nil]
def zGd:Ct where
 α:=List UInt8×Av
 aS x:=[.t (.sl (x.1.map qA)),.t (avA x.2)]
 ins _:=[]
 pre x:=x.1.length=32∧ix9 x.2
 r x:= .sl 0 0 (qY 8 ([qW7 x.2]::qPu x.1 x.2)).length
 outs x:=[.live 1 (((qY 8 ([qW7 x.2]::qPu x.1 x.2)).map qA).map V.t) true false]
 inj:=by
  rintro⟨a,b⟩ ⟨c,d⟩ h _;simp only[List.cons.injEq,V.t.injEq,T.sl.injEq,and_true,jC,zP0] at h;obtain⟨rfl,rfl⟩:=h;exact⟨rfl,rfl⟩
theorem jFt {d0:List UInt8}{a:Av}(h0:d0.length=32)(ha:ix9 a):zGd.fs [.t (.sl (d0.map qA)),.t (avA a)] []=some (.sl 0 0 (qY 8 ([qW7 a]::qPu d0 a)).length,[.live 1 (((qY 8 ([qW7 a]::qPu d0 a)).map qA).map V.t) true false]):=zGd.eq (d0,a) ⟨h0,ha⟩
theorem qZt (h2:LkC tab 42 qEa)(d0:List UInt8)(a:Av)(h0:d0.length=32)(ha:ix9 a) :
  qCs.1.wp tab gl (qE 0 [.t (.sl (d0.map qA)),.t (avA a)]) (qE 0 []) (kN [] [(4,none)] 0 (fun r o=>r = .sl 0 0 (qY 8 ([qW7 a]::qPu d0 a)).length∧o=[.live 1 (((qY 8 ([qW7 a]::qPu d0 a)).map qA).map V.t) true false])):=by
 have hF:=qSg (t:=8) (fs:=[qW7 a]::qPu d0 a) ⟨oM,zGn h0 ha.ok⟩;have hM:=zGn h0 ha.ok;generalize qY 8 ([qW7 a]::qPu d0 a)=f at *;have tf:List.take f.length f=f:=List.take_length;have k4:T.int .u8 (IntKind.u8.wrap 4)=qA 4:=by rfl
 have k9:T.int .u8 (IntKind.u8.wrap 9)=qA 9:=by rfl
 have k2:T.int .u8 (IntKind.u8.wrap 2)=qA (u8I 2):=by rfl
 rcases ha with⟨od,nm,rfl,l1,l2⟩ | ⟨nm,rf,rfl,l1,l2⟩
 ·simp only[qPu,qW7,mcn,qG] at hF;rw[show ((8:Nat):Int)=8 from rfl] at hF;simp(maxSteps:=9^9)(disch:=try exact dS)only[go_sem,qCs,avA,avL,k4,k2,h2,hF,tf,List.map_nil];all_goals rfl
 ·simp only[qPu,qW7,mcn,qG] at hF;rw[show ((8:Nat):Int)=8 from rfl] at hF;simp(maxSteps:=9^9)(disch:=try exact dS)only[go_sem,qCs,avA,avL,k9,h2,hF,tf,List.map_nil];all_goals rfl
def zGc:Ct where
 α:=List UInt8×Av
 aS x:=[.t (.sl (x.1.map qA)),.t (avA x.2)]
 ins _:=[]
 pre x:=x.1.length=32∧ix9 x.2
 r _:= .sl 0 0 32
 outs x:=[.live 1 (((qPt x.1 x.2).map qA).map V.t) true false]
 inj:=by
  rintro⟨a,b⟩ ⟨c,d⟩ h _;simp only[List.cons.injEq,V.t.injEq,T.sl.injEq,and_true,jC,zP0] at h;obtain⟨rfl,rfl⟩:=h;exact⟨rfl,rfl⟩
theorem jFs {d0:List UInt8}{a:Av}(h0:d0.length=32)(ha:ix9 a):zGc.fs [.t (.sl (d0.map qA)),.t (avA a)] []=some (.sl 0 0 32,[.live 1 (((qPt d0 a).map qA).map V.t) true false]):=zGc.eq (d0,a) ⟨h0,ha⟩
theorem qWj (h1:LkC tab 43 zGa)(h2:LkC tab 44 zGd)(h3:tab.look 41=some (zAq 32 jQ).fs)(d0:List UInt8)(a:Av)(h0:d0.length=32)(ha:ix9 a) :
  qE2.1.wp tab gl (qE 0 [.t (.sl (d0.map qA)),.t (avA a)]) (qE 0 []) (kN [] [(4,none)] 0 (fun r o=>r = .sl 0 0 32∧o=[.live 1 (((qPt d0 a).map qA).map V.t) true false])):=by
 have hC:=jFq ha;have hF:=jFt h0 ha;have hM:=zGn h0 ha.ok;have hS:=zWs (n:=32) (f:=jQ) hM;have hX:jQ (qY 8 ([qW7 a]::qPu d0 a))=qPt d0 a:=rfl;rw[hX] at hS;generalize qY 8 ([qW7 a]::qPu d0 a)=f at *;have t1:List.take f.length f=f:=List.take_length;generalize qPt d0 a=x at *;rcases ha with⟨od,nm,rfl,l1,l2⟩ | ⟨nm,rf,rfl,l1,l2⟩;all_goals
  simp only[avA,avL,List.map_nil] at *;simp(maxSteps:=9^9)(disch:=try exact dS)only[go_sem,qE2,h1,hC,h2,hF,t1,h3,hS]
def zGb:Ct where
 α:=Av
 aS x:=[.t (.sl [avA x])]
 ins _:=[]
 pre x:=ix9 x
 r x:= .t (.sl ((qPt z32 x).map qA))
 outs _:=[]
 inj:=by
  intro a b h _;simp only[List.cons.injEq,V.t.injEq,T.sl.injEq,and_true,zP0] at h;subst h;exact⟨rfl,rfl⟩
theorem jFr {a:Av}(h:ix9 a):zGb.fs [.t (.sl [avA a])] []=some (.t (.sl ((qPt z32 a).map qA)),[]):=zGb.eq a h
theorem qWi (h1:LkC tab 26 qTi)(h2:LkC tab 27 zGc)(a:Av)(ha:ix9 a) :
  qE1.1.wp tab gl (qE 0 [.t (.sl [avA a])]) (qE 0 []) (zA [(2,none)] 0 (fun r o=>r = .t (.sl ((qPt z32 a).map qA))∧o=[])):=by
 have hE:=jFs qBh ha;have t1:List.take 32 z32=z32:=rfl;have l1:=qBd (d0:=z32) (a:=a);have t2:List.take 32 (qPt z32 a)=qPt z32 a:=List.take_of_length_le oM;have l2:=qBh;generalize qPt z32 a=x at *;rcases ha with⟨od,nm,rfl,l3,l4⟩ | ⟨nm,rf,rfl,l3,l4⟩;all_goals
  simp only[avA,avL,List.map_nil] at *;simp(maxSteps:=9^9)(disch:=try exact dS)only[go_sem,qE1,h1,zM4];refine qJ 2 ?_;simp(maxSteps:=9^9)(disch:=try exact dS)only[go_sem,qF,h2,t1,t2,l1,l2,hE]
def qIq:ECt where
 α:=Ix
 β:=List UInt8
 aS:=fun x=>[.t (ixA x)]
 pre:=fun x=>True
 r:=fun r'=> .t (.sl (r'.map qA))
 R:=fun x r'=>r'=ixB x
theorem jEp {g:EF qIq}{x:Ix}:qIq.fs g [.t (ixA x)] []=some (.t (.sl ((ixB x).map qA)),[]):=fnQ qIq x trivial
theorem jK1 {x:Ix}(hV:vv = .t (.sl ((ixB x).map qA)))(hO:oo=[]):qIq.K x vv oo:=⟨_,rfl,hV,hO⟩
theorem qOu (h1:LkC tab 10 yY)(x:Ix) :
  qAf.1.wp tab gl (qE 0 [.t (ixA x)]) (qE 0 []) (zA [(2,none)] 0 (qIq.K x)):=by
 have u:=qM7 (b:=[u8I x.n,u8I x.kd,u8I x.ar]) (n:=x.sz) sM;simp only[mcn,qG,List.map_append,List.length_cons,List.length_nil] at u;have lu:(beI 2 x.sz 2).length=2:=qR;generalize hbb:beI 2 x.sz 2=bb at *;have t3 : ∀ c:UInt8,List.take 3 (bb++[c])=bb++[c]:=fun c=>List.take_of_length_le (by simp[lu])
 cases hw:x.wr;all_goals
  have hb:ixB x=u8I x.n::u8I x.kd::u8I x.ar::(bb++[if x.wr=true then 1 else 0]):=by simp only[ixB,hbb];rfl
  simp only[hw,if_true,Bool.false_eq_true,if_false] at hb;have hK : ∀ vv,vv = .t (.sl ((u8I x.n::u8I x.kd::u8I x.ar::(bb++[if x.wr=true then 1 else 0])).map qA))→qIq.K x vv []:=fun vv h=>jK1 (by rw[h];simp only[hw,hb,if_true,Bool.false_eq_true,if_false]) rfl
  simp only[hw,if_true,Bool.false_eq_true,if_false,List.map_cons,List.map_append,List.map_nil] at hK;simp(maxSteps:=9^9)(disch:=try exact dS)only[go_sem,qAf,ixA,h1,u,u8w,hw,lu,t3];repeat refine aiG ?_
  exact hK _ (by simp only[List.map_append,mcn];rfl)
def qLl:ECt where
 α:=Ix
 β:=List UInt8
 aS:=fun x=>[.t (ixA x)]
 pre:=fun x=>x.po.length≤32
 r:=fun r'=> .t (.sl (r'.map qA))
 R:=fun x r'=>r'=inF x
theorem jEm {g:EF qLl}{x:Ix}(hp:x.po.length≤32):qLl.fs g [.t (ixA x)] []=some (.t (.sl ((inF x).map qA)),[]):=fnQ qLl x hp
theorem zRj {x:Ix}(hV:vv = .t (.sl ((inF x).map qA)))(hO:oo=[]):qLl.K x vv oo:=⟨_,rfl,hV,hO⟩
theorem qOt {g1}(h1:LkE tab 25 qIq g1)(h2:LkC tab 24 wC)(x:Ix)(hp:x.po.length≤32) :
  qAe.1.wp tab gl (qE 0 [.t (ixA x)]) (qE 0 []) (zA [(2,none)] 0 (qLl.K x)):=by
 have e1:=jEp (g:=g1) (x:=x);have e:=zA4 (t:=7) (fs:=[ixB x,x.po]) ⟨oM,by simp[qY,qAl,ixB,qR];omega⟩;have l:=qC4 (x:=x);have t:List.take 32 (inF x)=inF x:=List.take_of_length_le oM;rw[show qCu 7 [ixB x,x.po]=inF x from rfl] at e;generalize ixB x=B at *;simp only[ci7,mcn,qG] at e;simp only[ixA] at e1;simp(maxSteps:=9^9)(disch:=try exact dS)only[go_sem,qAe,ixA,h1,h2,e1,e,t];repeat refine aiG ?_
 first | exact (zRj rfl rfl) | exact⟨rfl,(zRj rfl rfl)⟩ | exact⟨rfl,rfl,(zRj rfl rfl)⟩ | exact⟨rfl,rfl,rfl,(zRj rfl rfl)⟩
def qJe:ECt where
 α:=Int×List Int
 β:=Rq
 aS:=fun (c,ns)=>[.t (.int .i64 c),.t (.sl (ns.map iT))]
 pre:=fun (c,ns)=>True
 r:=fun r'=> .t (rqA r')
 R:=fun (c,ns) r'=>r'=⟨c,[1,257],[⟨0,[],[]⟩],ns,[]⟩
theorem jI4 {g:EF qJe}{c:Int}{ns:List Int}:qJe.fs g [.t (.int .i64 c),.t (.sl (ns.map iT))] []=some (.t (rqA (⟨c,[1,257],[⟨0,[],[]⟩],ns,[]⟩)),[]):=fnQ qJe (c,ns) trivial
theorem zUv {c:Int}{ns:List Int}(hV:vv = .t (rqA (⟨c,[1,257],[⟨0,[],[]⟩],ns,[]⟩)))(hO:oo=[]):qJe.K (c,ns) vv oo:=⟨_,rfl,hV,hO⟩
theorem qZm {g1}(h1:LkE tab 23 qG1 g1)(c:Int)(ns:List Int) :
  qE4.1.wp tab gl (qE 0 [.t (.int .i64 c),.t (.sl (ns.map iT))]) (qE 0 []) (zA [(4,(some (5,true)))] 0 (qJe.K (c,ns))):=by
 have e:=zO6 (g:=g1) (q:=⟨c,[1,257],[],ns,[]⟩) (v:=[]);simp only[rqA,mcn,iT,qG] at e;simp(maxSteps:=9^9)(disch:=try exact dS)only[go_sem,qE4,h1,e];repeat refine aiG ?_
 first | exact (zUv rfl rfl) | exact⟨rfl,(zUv rfl rfl)⟩ | exact⟨rfl,rfl,(zUv rfl rfl)⟩ | exact⟨rfl,rfl,rfl,(zUv rfl rfl)⟩
def qMo:ECt where
 α:=Unit
 β:=Rq
 aS:=fun _=>[]
 pre:=fun _=>True
 r:=fun r'=> .t (rqA r')
 R:=fun _ r'=>r'=qC .df
 inj:=fun _ _ _ _=>rfl
theorem jI5 {g:EF qMo}  : qMo.fs g [] []=some (.t (rqA (qC .df)),[]):=fnQ qMo () trivial
theorem zUw  (hV:vv = .t (rqA (qC .df)))(hO:oo=[]):qMo.K () vv oo:=⟨_,rfl,hV,hO⟩
theorem zCe {g1}(h1:LkE tab 23 qG1 g1)  :
  qGi.1.wp tab gl (qE 0 []) (qE 0 []) (zA [(0,(some (5,true)))] 0 (qMo.K ())):=by
 have e:=zO6 (g:=g1) (q:=⟨21,[1],[],[1,2,48,8],[[],[]]⟩) (v:=[]);simp only[rqA,mcn,iT,qG] at e;simp(maxSteps:=9^9)(disch:=try exact dS)only[go_sem,qGi,h1,e];repeat refine aiG ?_
 first | exact (zUw rfl rfl) | exact⟨rfl,(zUw rfl rfl)⟩ | exact⟨rfl,rfl,(zUw rfl rfl)⟩ | exact⟨rfl,rfl,rfl,(zUw rfl rfl)⟩
theorem jRy {h:Int}{d:List UInt8}(hh:0≤h∧h≤65535)(hd:d.length=8):(qC (.px h d)).W:=jRd (a:= .idx 257 2 d []) hh ⟨rfl,hd⟩
theorem jS2 {α:Type}{P:α→Prop}{a b c d:α}(h:P a)(g:P b)(k:P c)(l:P d) : ∀ x∈[a,b,c,d],P x:=fun x hx=>by
 simp only[List.mem_cons,List.not_mem_nil,or_false] at hx;rcases hx with rfl | rfl | rfl | rfl
 ·exact h
 ·exact g
 ·exact k
 ·exact l
theorem jRu:(qC .df).W where
 co:=by show coK 21;unfold coK;omega
 hs:=⟨rfl,zD5 oM⟩
 au:=⟨rfl,zD5 ⟨by decide,sM,sM⟩⟩
 ns:=⟨rfl,jS2 (qHb oM) (qHb oM) (qHb oM) (qHb oM)⟩
 bl:=⟨.inl rfl,jLc sM sM⟩
 le:=by rw[qYs];simp[qC,rqT,wH,wA,w8,qR,zCg]
theorem jRv:(qC .ic).W where
 co:=by show coK 25;unfold coK;omega
 hs:=⟨rfl,jLc oM oM⟩
 au:=⟨rfl,zD5 ⟨by decide,sM,sM⟩⟩
 ns:=⟨rfl,zGx⟩
 bl:=⟨.inl rfl,zGx⟩
 le:=by rw[qYs];simp[qC,rqT,wH,wA,w8,qR,zCg]
theorem jC9 {v:Int}:(beI 8 v 8).length=8:=qR
theorem jL9 {s:St}(h:s.Tp)(hx:s.a.ix=[]):SnP s 0 .df∧yF s .df=(dfS s,⟨0,[],[],[]⟩)∧(dfS s).Tp:=by
 have hT:(dfS s).Tp:=by
  have a:=h.a;exact⟨⟨a.sd,a.au,a.en,a.act,a.res,a.rst,a.clk,a.bk,a.mc,.inr ⟨_,_,rfl,jC9⟩,a.lk,a.ks⟩,h.on,h.off,h.clk,h.rl,h.wl,h.bk,h.u,h.dr,h.ses,h.obs⟩
 have hck:CkP s (qC .df):= .vl _ 1 ⟨h.en,⟨by show (0:Int)≤1;decide,by show (1:Int)≤2;decide⟩,.inl ⟨rfl,rfl⟩,rfl⟩ (by rw[h.a.lk];decide);exact⟨⟨⟨⟨hck,h.en,hx⟩,.inr ⟨h.en,.inr (.inr (.inl rfl))⟩,by decide,.inr h.on,.inr ⟨rfl,hck,.inr (.inr (.inl rfl))⟩⟩,jRu,zBt (by decide),hT.a.B⟩,rfl,hT⟩
theorem jHb {s:St}(h:s.Tp)(hm:s.a.mc≤999)(hx:s.a.ix=[ctI s.a.mc]):SnP s 0 .ic∧yF s .ic=(icS s,⟨0,[],[],[]⟩)∧(icS s).Tp:=by
 have m:=h.a.mc;have hT:(icS s).Tp:=by
  have a:=h.a;exact⟨⟨a.sd,a.au,a.en,a.act,a.res,a.rst,a.clk,a.bk,by show 0≤s.a.mc+1∧s.a.mc+1≤1000;omega,.inr ⟨_,_,rfl,jC9⟩,a.lk,a.ks⟩,h.on,h.off,h.clk,h.rl,h.wl,h.bk,h.u,h.dr,h.ses,h.obs⟩
 have h0:(qRf s 257).2=0:=by
  have hp:ixP s.a.ix 257 0=0:=by rw[hx];simp[ixP,ctI,cnI]
  rw[qRf,hp];rfl
 have hck:CkP s (qC .ic):= .vl _ 1 ⟨h.en,⟨by show (0:Int)≤1;decide,by show (1:Int)≤2;decide⟩,.inr (.inl ⟨rfl,rfl,h0⟩),rfl⟩ (by rw[h.a.lk];decide);exact⟨⟨⟨⟨hck,h.en,h.wl,oM,hx⟩,.inr ⟨h.en,.inr (.inr (.inr ⟨rfl,hx⟩))⟩,by decide,.inr h.on,.inr ⟨rfl,hck,.inr (.inr (.inr rfl))⟩⟩,jRv,zBt (by decide),hT.a.B⟩,rfl,hT⟩
theorem zKq {k:Dk}{s t:St}{nx:Int}(hk:okK k nx)(hn:nx≤90000)(hw:k.wr≤900)(hs:s.Tp)(ht:t.Tp)(ne:t.a≠s.a)(hj:jOk k.ar (nx-1) (qCi s.a)) :
  ∃ k',qJ5 ⟨k,s,true,nx⟩ t=⟨k',t,true,nx+1⟩∧okD k'∧k'.wr=k.wr+1∧jOk k'.ar nx (qCi t.a):=by
 obtain⟨⟨ho,hl,hc,hw0⟩,h1,h2⟩:=hk;obtain⟨hp,hj1,hj2⟩:=hj;have hne : ¬ qCi t.a=qCi s.a:=fun e=>ne (qNv ht.a.B hs.a.B e)
 have hj':jOk (k.ar.set (nx%2).toNat (qFq nx (qCi t.a))) nx (qCi t.a):=by
  have hlt:(nx%2).toNat<k.ar.length:=oM;have e1:(nx+1)%2=(nx-1)%2:=oM;have hne2:(nx%2).toNat≠((nx-1)%2).toNat:=oM;refine⟨qYq ht.a.B oM,?_,.inr ⟨qCi s.a,hp,?_⟩⟩
  ·rw[List.getD_eq_getElem?_getD,List.getElem?_set_self hlt];rfl
  ·rw[e1,List.getD_eq_getElem?_getD,List.getElem?_set_ne hne2,←List.getD_eq_getElem?_getD,hj1]
 refine⟨{ k with wr:=k.wr+1,ar:=k.ar.set (nx%2).toNat (qFq nx (qCi t.a)) },?_,⟨ho,by simp[hl],hc,by show 0≤k.wr+1∧k.wr+1≤1000000;omega⟩,rfl,hj'⟩;rw[qJ5,if_neg (by exact hne)]
theorem zDm {k:Dk}{a:Sa}{n:Int}(hl:k.ar.length=4)(h:cyP k.ar a n) : ∃ k',cyV k a n=⟨k',qP8 (kK a),true,n+2⟩∧FrP k' (qP8 (kK a)) (n+2)∧k'.wr=1:=by
 obtain⟨k',e,h1,h2⟩:=zVi hl h;refine⟨k',e,zHl h h1 h2,?_⟩;have hne : ¬ qCi (qP8 (kK a)).a=qCi a:=fun e=>by
  have:=congrArg Sa.res (qNv (zT7 h.1.1 h.1.2).2.a.B h.1.1.B e);have h2:(qP8 (kK a)).a.res=a.res+1:=rfl;omega
 rw[cyV,qJ5,if_neg (by exact hne)] at e;have:=congrArg (fun d:Dv=>d.k.wr) e;simp only at this;rw[←this];rfl
theorem zY1 {g:EF yO}{k:Dk}{nx:Int}{s t:St}{c:Cm}(hk:okK k nx)(hs:s.Tp)(hc:SnP s 0 c)(e:yF s c=(t,⟨0,[],[],[]⟩)) :
  yO.fs g [.t (dvA ⟨k,s,true,nx⟩),.t (.int .i64 0),.t (rqA (qC c)),.t (.int .i64 0),.t (.int .i64 0)] []=some (.tup [.t (dvA (qJ5 ⟨k,s,true,nx⟩ t)),.t (rsA ⟨0,[],[],[]⟩),.t (.bool true)],[]):=by
 obtain⟨r,y,ok,⟨h1,h2⟩,e1⟩:=zO5 (g:=g) (d:=⟨k,s,true,nx⟩) (lo:=0) (q:=qC c) (i:=0) (b:=0) ⟨.of hk hs,c,hc,rfl⟩;obtain⟨h3,h4⟩:=h1 c hc rfl;rw[show (yF s c).1=t by rw[e]] at h3;rw[show (yF s c).2=⟨0,[],[],[]⟩ by rw[e]] at h4;rw[e1,h2,h3,h4];rfl
structure EpP (v b:Int) (k:Dk) (s:St) (nx:Int):Prop where
 fr:FrP k s nx
 ix:s.a.ix=[ctI v]
 mc:s.a.mc=v
 vb:1≤v∧v≤1+b
 rs:s.a.res≤1+2*b
 nx:nx≤5+6*b
 wr:k.wr≤10
structure EpQ (v b:Int) (k:Dk) (s:St) (nx:Int):Prop where
 fr:FrP k s nx
 ix:s.a.ix=[ctI v]
 mc:s.a.mc=v
 vb:1≤v∧v≤2+b
 rs:s.a.res≤2+2*b
 nx:nx≤7+6*b
 wr:k.wr≤11
theorem EpP.q {v b:Int}{k:Dk}{s:St}{nx:Int}(h:EpP v b k s nx):EpQ v b k s nx:=⟨h.fr,h.ix,h.mc,by have:=h.vb;omega,by have:=h.rs;omega,by have:=h.nx;omega,by have:=h.wr;omega⟩
theorem FrP.cm {k k':Dk}{s t:St}{nx:Int}(h:FrP k s nx)(hn:nx≤90000)(ht:t.Tp)(hk:okD k')(hj:jOk k'.ar nx (qCi t.a))(e1:t.u=s.u)(e2:t.dr=s.dr)(e3:t.bk=s.bk)(e4:t.ses=s.ses)(e5:t.obs=s.obs):FrP k' t (nx+1) where
 hk:=⟨hk,by have:=h.hk.2;omega⟩
 tp:=ht
 hu:=e1.trans h.hu
 hd:=e2.trans h.hd
 hb:=e3.trans h.hb
 se:=e4.trans h.se
 ob:=e5.trans h.ob
 jo:=by rw[show nx+1-1=nx by omega];exact hj
theorem jKo {v b:Int}{k:Dk}{s:St}{nx:Int}(h:EpP v b k s nx)(hb:0≤b∧b≤20):SnP s 0 .ic∧yF s .ic=(icS s,⟨0,[],[],[]⟩) ∧ ∃ k',qJ5 ⟨k,s,true,nx⟩ (icS s)=⟨k',icS s,true,nx+1⟩∧EpQ (v+1) b k' (icS s) (nx+1):=by
 have hv:=h.vb;have hn:=h.nx;have hw:=h.wr;have hr:=h.rs;obtain⟨q,f,hT⟩:=jHb h.fr.tp (by rw[h.mc];omega) (by rw[h.mc];exact h.ix);have hne:(icS s).a≠s.a:=fun e=>by
  have:=congrArg Sa.mc e;have h2:(icS s).a.mc=s.a.mc+1:=rfl;omega
 obtain⟨k',e,h1,h2,h3⟩:=zKq h.fr.hk oM oM h.fr.tp hT hne h.fr.jo;refine⟨q,f,k',e,⟨h.fr.cm oM hT h1 h3 rfl rfl rfl rfl rfl,by show [ctI (s.a.mc+1)]=_;rw[h.mc],by show s.a.mc+1=_;rw[h.mc],oM,by show s.a.res≤_;omega,oM,oM⟩⟩
theorem jKn {v b:Int}{k:Dk}{s t:St}{nx:Int}(h:EpQ v b k s nx)(hb:0≤b∧b≤20)(ht:t.a=s.a):cyP k.ar t.a (nx-1) ∧ ∃ k',cyV k t.a (nx-1)=⟨k',qP8 (kK t.a),true,nx+1⟩∧EpP v (b+1) k' (qP8 (kK t.a)) (nx+1):=by
 have hv:=h.vb;have hn:=h.nx;have hr:=h.rs;have hc:cyP k.ar s.a (nx-1):=⟨⟨h.fr.tp.a,oM⟩,oM,h.fr.jo⟩;rw[ht];obtain⟨k',e,h1,h2⟩:=zDm h.fr.hk.1.2.1 hc;rw[show nx-1+2=nx+1 by omega] at e h1;exact⟨hc,k',e,h1,h.ix,h.mc,oM,by show s.a.res+1≤_;omega,oM,oM⟩
theorem jDu {v b:Int}{k:Dk}{s:St}{nx:Int}(h:EpP v b k s nx)(hb:0≤b∧b≤20):cyP k.ar s.a (nx-1) ∧ ∃ k',cyV k s.a (nx-1)=⟨k',qP8 (kK s.a),true,nx+1⟩∧EpQ v b k' (qP8 (kK s.a)) (nx+1):=by
 have hv:=h.vb;have hn:=h.nx;have hr:=h.rs;have hc:cyP k.ar s.a (nx-1):=⟨⟨h.fr.tp.a,oM⟩,oM,h.fr.jo⟩;obtain⟨k',e,h1,h2⟩:=zDm h.fr.hk.1.2.1 hc;rw[show nx-1+2=nx+1 by omega] at e h1;exact⟨hc,k',e,h1,h.ix,h.mc,oM,by show s.a.res+1≤_;omega,oM,oM⟩
def nmC:List UInt8:=inF (cnI true [])
theorem jKp : ∀ y:Fin 6,qPt z32 (.idx 0 2 (z7 (UInt8.ofNat (y.val+1))) (inF (cnI true [])))≠z32:=by decide +kernel
theorem jI7 : ∀ n:Fin 16,beI 8 ((n.val:Nat):Int) 8=z7 (UInt8.ofNat n.val):=by decide
theorem jKc {v:Int}(h:1≤v∧v≤15):ctI v=cnI true (z7 (UInt8.ofNat v.toNat)):=by
 have e:=jI7 ⟨v.toNat,oM⟩;simp only at e;rw[show ((v.toNat:Nat):Int)=v by omega] at e;unfold ctI;rw[decide_eq_true (show v≠0 by omega),e]
theorem jMb {s:St}(h:s.Tp){v y:UInt8}(hc:ctN s v)(hy:y≠0){j:Nat}{x:Ses}(hg:s.ses[j]?=some x)(hk:x.kd=2) :
  SnP s 0 (.px (768+(j:Int)) (z7 y))∧yF s (.px (768+(j:Int)) (z7 y))=(if v<y then (poS s j x (ixV s (z7 y)),⟨0,[],[],[]⟩) else (s,⟨16,[],[],[]⟩))∧(poS s j x (ixV s (z7 y))).Tp∧(poY s x (ixV s (z7 y))) = { x with dg:=qPt x.dg (.idx 0 2 (z7 y) nmC) }:=by
 have hl:=h.ses.1;have hj:=qN6 hg;have hp:=zM2 hl hg (.inl hk);have hT:=h.ses.2 x (zGy hg);have h32:x.dg.length=32:=(hT.2.2.2.resolve_left oM).1;have hS:qB0 s x (ixV s (z7 y))=(x,ixV s (z7 y),if v<y then 0 else 16):=by
  rw[ixV,qB0,hc.1];have hg:(List.getD [cnI true (z7 v)] 0 default).da.getD 7 0=v:=rfl;have hy7:(z7 y).getD 7 0=y:=rfl;rw[hg,hy7];by_cases c:v<y
  ·rw[if_pos c,if_neg (fun h=>h.2 c)]
  ·rw[if_neg c,if_pos ⟨hk,c⟩]
 have hY:poY s x (ixV s (z7 y)) = { x with dg:=qPt x.dg (.idx 0 2 (z7 y) nmC) }:=by
  rw[poY,hS];simp only[ixV,hc.1];rfl
 have e:yF s (.px (768+(j:Int)) (z7 y))=(if v<y then (poS s j x (ixV s (z7 y)),⟨0,[],[],[]⟩) else (s,⟨16,[],[],[]⟩)):=by
  by_cases c:v<y
  ·rw[if_pos c] at hS ⊢;simp only[yF,asR,asF,hp,hS,if_true,exS,Int.toNat_natCast,poS,poY]
  ·rw[if_neg c] at hS ⊢;simp only[yF,asR,asF,hp,hS];rfl
 have hW:(yF s (.px (768+(j:Int)) (z7 y))).2.W∧(yF s (.px (768+(j:Int)) (z7 y))).1.a=s.a:=by
  rw[e];split
  ·exact⟨zBt (by decide),rfl⟩
  ·exact⟨zBt (by decide),rfl⟩
 refine⟨⟨⟨⟨⟨⟨h.bk.rv,h.u.1⟩,hl⟩,qHb oM,by rw[hp],⟨v,y,hc,hy,rfl⟩,by rw[hp];exact hk,by rw[hp];exact h32⟩,.inl (.inr (.inr (.inr (.inr (.inl ⟨_,_,rfl⟩))))),by decide,.inr h.on,.inl (.inr (.inr (.inr (.inr (.inl ⟨_,_,rfl⟩)))))⟩,jRy oM rfl,hW.1,by rw[hW.2];exact h.a.B⟩,e,?_,hY⟩;refine⟨h.a,h.on,h.off,h.clk,h.rl,h.wl,h.bk,h.u,h.dr,⟨by simp[poS,hl],qUm h.ses.2 (zWb hT (.inl hk) (a:=ixV s (z7 y)) ⟨rfl,rfl⟩).1⟩,h.obs⟩
theorem zYf {v b:Int}{k:Dk}{s:St}{nx:Int}(h:EpQ v b k s nx)(hb:0≤b∧b≤12){L:Nat}(hL:1≤L∧L≤6){da:List UInt8}(hd:da.length≤60){P Y:List UInt8}(hY:z7 (UInt8.ofNat L)=Y)(hP:qPt z32 (.idx 0 2 Y nmC)=P) :
  ∃ s2 rb,(SnP s 0 (.op 2)∧yF s (.op 2)=(s2,⟨0,[768],[rb],[]⟩)∧s2.a=s.a∧s2.Tp)∧
  ∃ s3 e,(SnP s2 0 (.px 768 Y)∧yF s2 (.px 768 Y)=(s3,⟨e,[],[],[]⟩)∧s3.a=s2.a∧s3.Tp∧e=(if v<L then 0 else 16))∧
  ∃ s4 en nm,(SnP s3 0 (.pr 0 P [] da)∧yF s3 (.pr 0 P [] da)=(s4,⟨0,[512],[en,nm],[]⟩)∧s4.a=s3.a∧s4.Tp)∧
  ∃ s5 r5,SnP s4 0 (.un 512 768 [])∧yF s4 (.un 512 768 [])=(s5,r5)∧s5.a=s4.a∧s5.a=s.a∧r5=(if v<L then ⟨0,[],[da],[]⟩ else ⟨11,[],[],[]⟩):=by
 have hF:=h.fr;have hv:=h.vb;have hlt:(UInt8.ofNat v.toNat<UInt8.ofNat L)↔v<L:=by
  rw[UInt8.lt_iff_toNat_lt,UInt8.toNat_ofNat',UInt8.toNat_ofNat'];omega
 obtain⟨q1,f1,T1⟩:=jHc hF.tp (by rw[hF.hd];decide) (j:=0) (by rw[hF.se];rfl) (k:=2) oM;have hg1:(opS s 0 2).ses[0]?=some (nwS s 2):=by show (s.ses.set 0 _)[0]?=_;rw[hF.se];rfl
 have hc1:ctN (opS s 0 2) (UInt8.ofNat v.toNat):=by
  refine⟨by show s.a.ix=_;rw[h.ix,jKc oM],?_,hF.tp.rl⟩;intro e;have:=congrArg UInt8.toNat e;rw[UInt8.toNat_ofNat'] at this;simp at this;omega
 have hy:UInt8.ofNat L≠0:=by
  intro e;have:=congrArg UInt8.toNat e;rw[UInt8.toNat_ofNat'] at this;simp at this;omega
 obtain⟨q2,f2,T2,hY2⟩:=jMb T1 hc1 hy (j:=0) hg1 rfl;have hne : ¬ z32=P:=by
  intro e;have:=jKp ⟨L-1,oM⟩;simp only at this;rw[show L-1+1=L by omega,hY] at this;exact this (hP.trans e.symm)
 have lP:P.length=32:=by rw[←hP];exact qBd
 rw[hY] at q2 f2 T2 hY2;have hob:(opS s 0 2).obs=[od,od,od]:=hF.ob;refine⟨_,_,⟨q1,f1,rfl,T1⟩,?_⟩;by_cases c:v<L
 ·rw[if_pos (hlt.2 c)] at f2;simp only[if_pos c];refine⟨_,_,⟨q2,f2,rfl,T2,rfl⟩,?_⟩;obtain⟨q3,⟨en,nm,f3⟩,T3⟩:=jA6 T2 (j:=0) (by show frO (opS s 0 2).obs 0=_;rw[hob];rfl) oM (hh:=0) (po:=P) (au:=[]) (da:=da) oM lP sM hd;have hg3:(prS (poS (opS s 0 2) 0 (nwS s 2) (ixV (opS s 0 2) Y)) 0 0 P [] da).ses[0]?=some { nwS s 2 with dg:=P }:=by
   show ((opS s 0 2).ses.set 0 (poY (opS s 0 2) (nwS s 2) (ixV (opS s 0 2) Y)))[0]?=_;rw[hY2,show (nwS s 2).dg=z32 from rfl,hP];show ((s.ses.set 0 _).set 0 _)[0]?=_;rw[hF.se];rfl
  have ho3:(prS (poS (opS s 0 2) 0 (nwS s 2) (ixV (opS s 0 2) Y)) 0 0 P [] da).obs[0]?=some (qP2 (poS (opS s 0 2) 0 (nwS s 2) (ixV (opS s 0 2) Y)) 0 P [] da):=by
   show ((opS s 0 2).obs.set 0 _)[0]?=_;rw[hob];rfl
  obtain⟨q4,f4,-⟩:=jA7 T3 (i:=0) (j:=0) (v:=[]) hg3 (.inl rfl) ho3 oM rfl sM (fun _=>⟨rfl,.inl rfl,fun _=>rfl⟩);rw[show unE { nwS s 2 with dg:=P } (qP2 (poS (opS s 0 2) 0 (nwS s 2) (ixV (opS s 0 2) Y)) 0 P [] da)=0 by show (if (2:Int)=2 then (if P=P then (0:Int) else 11) else 8)=0;rw[if_pos rfl,if_pos rfl],if_pos rfl] at f4;exact⟨_,en,nm,⟨q3,f3,rfl,T3⟩,_,_,q4,f4,rfl,rfl,rfl⟩
 ·rw[if_neg (fun h=>c (hlt.1 h))] at f2;simp only[if_neg c];refine⟨_,_,⟨q2,f2,rfl,T1,rfl⟩,?_⟩;obtain⟨q3,⟨en,nm,f3⟩,T3⟩:=jA6 T1 (j:=0) (by rw[hob];rfl) oM (hh:=0) (po:=P) (au:=[]) (da:=da) oM lP sM hd;have hg3:(prS (opS s 0 2) 0 0 P [] da).ses[0]?=some (nwS s 2):=hg1;have ho3:(prS (opS s 0 2) 0 0 P [] da).obs[0]?=some (qP2 (opS s 0 2) 0 P [] da):=by
   show ((opS s 0 2).obs.set 0 _)[0]?=_;rw[hob];rfl
  obtain⟨q4,f4,-⟩:=jA7 T3 (i:=0) (j:=0) (v:=[]) hg3 (.inl rfl) ho3 oM rfl sM (fun _=>⟨rfl,.inl rfl,fun _=>rfl⟩);rw[show unE (nwS s 2) (qP2 (opS s 0 2) 0 P [] da)=11 by show (if (2:Int)=2 then (if z32=P then (0:Int) else 11) else 8)=11;rw[if_pos rfl,if_neg hne],if_neg (by decide)] at f4;exact⟨_,en,nm,⟨q3,f3,rfl,T3⟩,_,_,q4,f4,rfl,rfl,rfl⟩
theorem jSn : ∃ k0 s0,frV=⟨k0,s0,true,3⟩∧okK k0 3∧s0.Tp∧SnP s0 0 .df∧yF s0 .df=(dfS s0,⟨0,[],[],[]⟩) ∧ ∃ k1,qJ5 ⟨k0,s0,true,3⟩ (dfS s0)=⟨k1,dfS s0,true,4⟩∧okK k1 4∧(dfS s0).Tp∧SnP (dfS s0) 0 .ic∧yF (dfS s0) .ic=(icS (dfS s0),⟨0,[],[],[]⟩) ∧ ∃ k2,qJ5 ⟨k1,dfS s0,true,4⟩ (icS (dfS s0))=⟨k2,icS (dfS s0),true,5⟩∧EpP 1 0 k2 (icS (dfS s0)) 5:=by
 obtain⟨k0,e0,hF,hw⟩:=zDm (k:=⟨[[],qFq 1 (qCi (qW8 z32)),[],[]],1,0,0,true⟩) rfl qT0;generalize hs0:qP8 (kK (qW8 z32))=s0 at *;have hix:s0.a.ix=[]:=by rw[←hs0];rfl
 have hmc:s0.a.mc=0:=by rw[←hs0];rfl
 have hrs:s0.a.res=1:=by rw[←hs0];rfl
 clear hs0;obtain⟨q1,f1,T1⟩:=jL9 hF.tp hix;have ne1:(dfS s0).a≠s0.a:=fun e=>by
  have:=congrArg Sa.ix e;rw[hix] at this;cases this
 obtain⟨k1,e1,o1,w1,j1⟩:=zKq hF.hk oM oM hF.tp T1 ne1 hF.jo;have hF1:FrP k1 (dfS s0) 4:=hF.cm oM T1 o1 j1 rfl rfl rfl rfl rfl;obtain⟨q2,f2,T2⟩:=jHb T1 (by show s0.a.mc≤999;omega) (by show [ctI 0]=[ctI s0.a.mc];rw[hmc]);have ne2:(icS (dfS s0)).a≠(dfS s0).a:=fun e=>by
  have:=congrArg Sa.mc e;have h2:(icS (dfS s0)).a.mc=(dfS s0).a.mc+1:=rfl;omega
 obtain⟨k2,e2,o2,w2,j2⟩:=zKq hF1.hk oM oM T1 T2 ne2 hF1.jo;refine⟨k0,s0,e0,hF.hk,hF.tp,q1,f1,k1,e1,hF1.hk,T1,q2,f2,k2,e2,?_⟩;exact⟨hF1.cm oM T2 o2 j2 rfl rfl rfl rfl rfl,by show [ctI (s0.a.mc+1)]=_;rw[hmc];rfl,by show s0.a.mc+1=1;omega,oM,by show s0.a.res≤_;omega,oM,oM⟩
theorem jVx  (b:Bool) :
  zAb.1.wp tab gl (qE 0 [.t (.bool b)]) (qE 0 []) (zA [(2,none)] 0 (zYb.K b)):=by
 cases b;all_goals simp(maxSteps:=9^9)(disch:=try exact dS)only[go_sem,zAb]
 all_goals exact jW2 rfl rfl
theorem jV8  (l:List (List UInt8))(i:Int)(hp:0≤i∧i≤100∧l.length≤100000) :
  zC6.1.wp tab gl (qE 0 [.t (.sl (l.map bsT)),.t (.int .i64 i)]) (qE 0 []) (zA [(4,none)] 0 (zX9.K (l,i))):=by
 obtain⟨h0,h1,h2⟩:=hp;obtain⟨k,rfl⟩:=Int.eq_ofNat_of_zero_le h0;by_cases c:l.length≤k
 ·simp(maxSteps:=9^9)(disch:=try exact dS)only[go_sem,zC6,c];refine jWu (l:=l) (i:=(k:Int)) ?_ rfl;rw[List.getD_eq_getElem?_getD,List.getElem?_eq_none oM];rfl
 ·obtain⟨x,hg,_,_⟩:=zF (l:=l) (k:=k) oM;simp(maxSteps:=9^9)(disch:=try exact dS)only[go_sem,zC6,c,hg,oms];refine jWu (l:=l) (i:=(k:Int)) ?_ rfl;rw[List.getD_eq_getElem?_getD,show (k:Int).toNat=k from rfl,hg];rfl
def jVp:Ct where
 α:=List Int×List UInt8
 aS x:=[.t (.sl (x.1.map iT)),.ref 0 0 0]
 ins x:=[.live 1 [.t (.sl (x.2.map qA))] true true]
 pre x:=(1≤x.1.length∧x.1.length≤10)∧x.2.length≤100000
 r _:= .tup []
 outs x:=[.live 1 [.sl 1 0 (nuE x.2 x.1).length] true true,.live 1 (((nuE x.2 x.1).map qA).map V.t) true false]
 inj:=by
  rintro⟨a,b⟩ ⟨c,d⟩ h h2;simp only[List.cons.injEq,V.t.injEq,T.sl.injEq,and_true,true_and,Ob.live.injEq,jC] at h h2;have e:a=c:=by
   have hi : ∀ (x y:Int),iT x=iT y→x=y:=fun x y h=>by unfold iT at h;injection h
   exact qBk hi h
  subst e h2;exact⟨rfl,rfl⟩
theorem jVv {l:List Int}{b:List UInt8}(h:(1≤l.length∧l.length≤10)∧b.length≤100000):jVp.fs [.t (.sl (l.map iT)),.ref 0 0 0] [.live 1 [.t (.sl (b.map qA))] true true]=some (.tup [],[.live 1 [.sl 1 0 (nuE b l).length] true true,.live 1 (((nuE b l).map qA).map V.t) true false]):=jVp.eq (l,b) h
theorem jVh (h1:LkC tab 63 yY)(l:List Int)(b:List UInt8)(hl:(1≤l.length∧l.length≤10)∧b.length≤100000) :
  qPd.1.wp tab gl (qE 0 [.t (.sl (l.map iT)),.ref 0 0 0]) (qE 0 [.live 1 [.t (.sl (b.map qA))] true true]) (kN [] [] 1 (fun r o=>r = .tup []∧o=[.live 1 [.sl 1 0 (nuE b l).length] true true,.live 1 (((nuE b l).map qA).map V.t) true false])):=by
 simp(maxSteps:=9^9)(disch:=try exact dS)only[go_sem,qPd];refine qB l.length (fun k=>[(1,.ref 0 0 0),(5,.t (.sl (l.map iT))),(6,.t (.int .i64 l.length)),(7,.t (.int .i64 (k:Nat)))]) (fun k=>match k with | 0=>[(0,.live 1 [.t (.sl (b.map qA))] true true)] | k+1=>[(0,.live 1 [.sl 9000 0 (nuE b (l.take (k+1))).length] true true),(9000,.live 1 (((nuE b (l.take (k+1))).map qA).map V.t) true false)]) (qK.rd id ?_ ?_ rfl) (fun k hk=>?_)
 ·simp(maxSteps:=9^9)(disch:=try exact dS)only[go_sem,id]
 ·simp(maxSteps:=9^9)(disch:=try exact dS)only[go_sem,id]
 rcases k with _ | k
 ·obtain⟨x,hg,_,_⟩:=zF (l:=l) (k:=0) oM;have hs:nuE b (l.take (0+1))=b++beI 8 x 8:=(kG (f:=fun b n=>b++beI 8 n 8) hg).trans rfl;have u:=zB8 (b:=b) (n:=x) oM;have lh:(b++beI 8 x 8).length=b.length+8:=by rw[List.length_append,jJz]
  generalize b++beI 8 x 8=z at *;have c:0<l.length:=oM;simp(maxSteps:=9^9)(disch:=try exact dS)only[go_sem,c,hg,oms,iT,h1,u];repeat refine aiG ?_
  refine qK.rd (fun j=>if j=9000 then 16416 else j) ?_ ?_ rfl;all_goals simp(maxSteps:=9^9)(disch:=try exact dS)only[go_sem,id,hs,lh]
 by_cases c:k+1<l.length
 ·obtain⟨x,hg,_,_⟩:=zF c;have e:=zZd (l:=l.take (k+1)) (b:=b);have et:(l.take (k+1)).length≤10:=by rw[List.length_take];omega
  have hs:nuE b (l.take (k+1+1))=nuE b (l.take (k+1))++beI 8 x 8:=kG (f:=fun b n=>b++beI 8 n 8) hg;generalize hY:nuE b (l.take (k+1))=y at *;have u:=zB8 (b:=y) (n:=x) oM;have lh:(y++beI 8 x 8).length=y.length+8:=by rw[List.length_append,jJz]
  generalize y++beI 8 x 8=z at *;simp(maxSteps:=9^9)(disch:=try exact dS)only[go_sem,c,hg,oms,iT,h1,hY,u];repeat refine aiG ?_
  refine qK.rd (fun j=>if j=9000 then 16416 else j) ?_ ?_ rfl;all_goals simp(maxSteps:=9^9)(disch:=try exact dS)only[go_sem,id,hs,lh]
 ·obtain hk1:k+1=l.length:=oM;have tl:List.take (k+1) l=l:=List.take_of_length_le oM;simp(maxSteps:=9^9)(disch:=try exact dS)only[go_sem,tl,c]
theorem jVu {n:Int}(h:0≤n∧n≤255):T.int .u8 (IntKind.u8.wrap n)=qA (bY n):=by
 have e:m64 n=n.toNat:=by unfold m64;omega
 unfold bY;rw[qVl,e];unfold qA;rw[UInt8.toNat_ofNat'];congr 1;omega
theorem jV9 {α:Type}{l:List α}{k:Nat}{x d:α}(h:l[k]?=some x):l.getD k d=x:=by rw[List.getD_eq_getElem?_getD,h];rfl
theorem jVm {g1}(h1:LkE tab 67 zX9 g1)(h2:LkC tab 66 qGm)(h3:LkC tab 68 jVp){g4}(h4:LkE tab 69 zYb g4)(h5:LkC tab 70 zX2)(h6:LkC tab 63 yY)(s:Sa)(hp:s.Ok) :
  qSw.1.wp tab gl (qE 0 [.t (saA s)]) (qE 0 []) (kN [] [(2,none)] 0 (qPr.K s)):=by
 have hs:=hp;have hact:=hs.act;have w0:=jVu (n:=s.act) oM;have wi:=jVu (n:=(s.ix.length:Int)) (by have:=hs.ix.1;omega);have wk:=jVu (n:=(s.ks.length:Int)) (by have:=hs.ks.1;omega);have l1:=hs.sd.1;have l2:=hs.au.1;have l3:=hs.ix.1;have l4:=hs.ks.1;have l5:=hs.en;simp(maxSteps:=9^9)(disch:=try exact dS)only[go_sem,qSw,saA,w0,mcn];refine qB 3 (fun k=>[(1,.ref 4096 0 0),(3,.ref 8256 0 0),(16,.t (.int .i64 (k:Nat)))]) (fun k=>[(8256,.live 1 [.sl 9000 0 ((s.sd.take k).foldl blL (eA0 s)).length] true true),(9000,.live 1 ((((s.sd.take k).foldl blL (eA0 s)).map qA).map V.t) true false),(4096,.live 19 [.t (saA s)] true true)]) (qK.rd (fun j=>if j=9000 then 8240 else j) ?_ ?_ rfl) (fun k hk=>?_)
 ·simp(maxSteps:=9^9)(disch:=try exact dS)only[go_sem,id,List.take_zero,List.foldl_nil,eA0,List.length_cons,List.length_nil]
 ·simp(maxSteps:=9^9)(disch:=try exact dS)only[go_sem,id,saA,List.take_zero,List.foldl_nil,eA0,mcn,List.length_cons,List.length_nil]
 have le:=jKm hs k;by_cases c:k<3
 ·obtain⟨x,hg,hm,_⟩:=zF (l:=s.sd) (k:=k) oM;have hx:=hs.sd.2 x hm;have hf:=kG (f:=blL) (b:=eA0 s) hg;have e1:=jWl (g:=g1) (l:=s.sd) (i:=(k:Int)) ⟨oM,oM,oM⟩;rw[show (k:Int).toNat=k from rfl,jV9 hg] at e1;generalize (s.sd.take k).foldl blL (eA0 s)=y at *;have u:=qIb (b:=y) (x:=x) ⟨oM,oM⟩;have lb:=vL (b:=y) (x:=x);simp(maxSteps:=9^9)(disch:=try exact dS)only[go_sem,saA,c,h1,e1,h2,u];repeat refine aiG ?_
  refine qK.rd (fun j=>if j=9000 then 24656 else j) ?_ ?_ rfl;all_goals simp(maxSteps:=9^9)(disch:=try exact dS)only[go_sem,id,saA,hf,lb]
 obtain rfl:k=3:=oM;have tt:List.take 3 s.sd=s.sd:=List.take_of_length_le oM;clear le c hk;simp(maxSteps:=9^9)(disch:=try exact dS)only[go_sem,saA,tt];refine qB 4 (fun k=>[(1,.ref 4096 0 0),(3,.ref 8256 0 0),(26,.t (.int .i64 (k:Nat)))]) (fun k=>[(8256,.live 1 [.sl 9000 0 ((s.au.take k).foldl blL (s.sd.foldl blL (eA0 s))).length] true true),(9000,.live 1 ((((s.au.take k).foldl blL (s.sd.foldl blL (eA0 s))).map qA).map V.t) true false),(4096,.live 19 [.t (saA s)] true true)]) (qK.rd id ?_ ?_ rfl) (fun k hk=>?_)
 ·simp(maxSteps:=9^9)(disch:=try exact dS)only[go_sem,id]
 ·simp(maxSteps:=9^9)(disch:=try exact dS)only[go_sem,id,saA,List.take_zero,List.foldl_nil]
 have le:=jKj hs k;by_cases c:k<4
 ·obtain⟨x,hg,hm,_⟩:=zF (l:=s.au) (k:=k) oM;have hx:=hs.au.2 x hm;have hf:=kG (f:=blL) (b:=s.sd.foldl blL (eA0 s)) hg;have e1:=jWl (g:=g1) (l:=s.au) (i:=(k:Int)) ⟨oM,oM,oM⟩;rw[show (k:Int).toNat=k from rfl,jV9 hg] at e1;generalize (s.au.take k).foldl blL (s.sd.foldl blL (eA0 s))=y at *;have u:=qIb (b:=y) (x:=x) ⟨oM,oM⟩;have lb:=vL (b:=y) (x:=x);simp(maxSteps:=9^9)(disch:=try exact dS)only[go_sem,saA,c,h1,e1,h2,u];repeat refine aiG ?_
  refine qK.rd (fun j=>if j=9000 then 45136 else j) ?_ ?_ rfl;all_goals simp(maxSteps:=9^9)(disch:=try exact dS)only[go_sem,id,saA,hf,lb]
 obtain rfl:k=4:=oM;have tu:List.take 4 s.au=s.au:=List.take_of_length_le oM;rw[tu] at le;have e3:blL (s.au.foldl blL (s.sd.foldl blL (eA0 s))) s.en=eA3 s:=rfl;have e5:blL (eA4 s++[bO s.ord]) (qEb s.bk s.u)=eA5 s:=rfl;have e6:eA5 s++beI 8 s.mc 8++[bY s.ix.length]=eA6 s:=rfl;have le3:=jDk hs;have le4:=jDl hs;have le5:=jDm hs;have le6:=jDn hs;clear c hk;have u3:=qIb (b:=s.au.foldl blL (s.sd.foldl blL (eA0 s))) (x:=s.en) ⟨oM,oM⟩;rw[e3] at u3;have lb3:=vL (b:=s.au.foldl blL (s.sd.foldl blL (eA0 s))) (x:=s.en);rw[e3] at lb3;generalize hY:s.au.foldl blL (s.sd.foldl blL (eA0 s))=y at *;have u4:=jVv (l:=[s.res,s.rst,s.clk]) (b:=eA3 s) ⟨⟨sM,sM⟩,oM⟩;rw[show nuE (eA3 s) [s.res,s.rst,s.clk]=eA4 s from rfl] at u4;generalize eA3 s=A3 at *;have hone := @jWo g4 s.ord;have renc:=jWs (u:=s.u) hs.bk.rv;have lr:=zK7 (u:=s.u) hs.bk.rv;have u5:=qIb (b:=eA4 s++[bO s.ord]) (x:=qEb s.bk s.u) ⟨soM,oM⟩;rw[e5] at u5;have lb5:(eA5 s).length=(eA4 s++[bO s.ord]).length+2+(qEb s.bk s.u).length:=by rw[←e5];exact vL
 have m5:(eA4 s).map qA++[qA (bO s.ord)]=(eA4 s++[bO s.ord]).map qA:=sM;have lB4:(eA4 s++[bO s.ord]).length=(eA4 s).length+1:=sM;generalize hB4:eA4 s++[bO s.ord]=B4 at *;generalize eA4 s=A4 at *;generalize qEb s.bk s.u=R at *;have u6:=jVv (l:=[s.mc]) (b:=eA5 s) ⟨⟨sM,sM⟩,oM⟩;have e6n:nuE (eA5 s) [s.mc]=eA5 s++beI 8 s.mc 8:=rfl;rw[e6n] at u6;have lB5:(eA5 s++beI 8 s.mc 8).length=(eA5 s).length+8:=by simp only[List.length_append,jJz]
 have lb6:(eA6 s).length=(eA5 s++beI 8 s.mc 8).length+1:=by rw[←e6,@List.length_append _ (eA5 s++beI 8 s.mc 8) _];rfl
 generalize eA5 s++beI 8 s.mc 8=B5 at *;generalize eA5 s=A5 at *;have t1:List.take (y.length+2+s.en.length) A3=A3:=List.take_of_length_le oM;have t4':List.take (A4.length+1) B4=B4:=List.take_of_length_le oM;have t5:List.take (B4.length+2+R.length) A5=A5:=List.take_of_length_le oM;simp only[mcn,iT] at u4 u6;simp(maxSteps:=9^9)(disch:=try exact dS)only[go_sem,saA,tu,hY,h2,u3,t1,h3,u4,h4,hone,h5,renc,m5,hB4,t4',u5,t5,u6,wi];repeat refine aiG ?_
 refine qB s.ix.length (fun k=>[(1,.ref 4096 0 0),(3,.ref 8256 0 0),(6,.fn 68 [.ref 8256 0 0]),(74,.t (.sl (s.ix.map ixA))),(75,.t (.int .i64 s.ix.length)),(76,.t (.int .i64 (k:Nat)))]) (fun k=>[(8256,.live 1 [.sl 9000 0 ((s.ix.take k).foldl ixE (eA6 s)).length] true true),(9000,.live 1 ((((s.ix.take k).foldl ixE (eA6 s)).map qA).map V.t) true false),(4096,.live 19 [.t (saA s)] true true)]) (qK.rd (fun j=>if j=9000 then 77920 else j) ?_ ?_ rfl) (fun k hk=>?_)
 ·simp(maxSteps:=9^9)(disch:=try exact dS)only[go_sem,id]
 ·simp(maxSteps:=9^9)(disch:=try exact dS)only[go_sem,id,saA,List.take_zero,List.foldl_nil,e6,lb6]
 clear u3 u4 u5 u6 t1 t4' t5 m5 renc lr lb3 lb5 lb6 lB4 lB5 le le3 le4 le5 e3 e5 e6 hY hB4;have le:=jKk hs k;by_cases c:k<s.ix.length
 ·obtain⟨x,hg,hm,_⟩:=zF c;have hx:=hs.ix.2 x hm;have hl:=hx.le;have hf:=kG (f:=ixE) (b:=eA6 s) hg;have x1:=hx.1;have x2:=hx.2.1;have x3:=hx.2.2.1;generalize (s.ix.take k).foldl ixE (eA6 s)=z at *;have w1:=jVu (n:=x.n) oM;have w2:=jVu (n:=x.kd) oM;have w3:=jVu (n:=x.ar) oM;have hw := @jWo g4 x.wr;have d0:blL (blL (blL (z++[bY x.n]++[bY x.kd]++[bY x.ar]++beI 2 x.sz 2++[bO x.wr]) x.po) x.au) x.da=ixE z x:=rfl;have l10:(z++[bY x.n]++[bY x.kd]++[bY x.ar]).length=z.length+3:=sM;have u1:=qM7 (b:=z++[bY x.n]++[bY x.kd]++[bY x.ar]) (n:=x.sz) oM;generalize hC1:z++[bY x.n]++[bY x.kd]++[bY x.ar]=C1 at *;have l11:(C1++beI 2 x.sz 2).length=C1.length+2:=by simp only[List.length_append,jSe]
  generalize C1++beI 2 x.sz 2=C2 at *;have l12:(C2++[bO x.wr]).length=C2.length+1:=sM;have u2:=qIb (b:=C2++[bO x.wr]) (x:=x.po) ⟨oM,oM⟩;have m2:C2.map qA++[qA (bO x.wr)]=(C2++[bO x.wr]).map qA:=sM;generalize hC3:C2++[bO x.wr]=C3 at *;have l13:=vL (b:=C3) (x:=x.po);have u3:=qIb (b:=blL C3 x.po) (x:=x.au) ⟨oM,oM⟩;generalize blL C3 x.po=D1 at *;have l14:=vL (b:=D1) (x:=x.au);have u4:=qIb (b:=blL D1 x.au) (x:=x.da) ⟨oM,oM⟩;generalize blL D1 x.au=D2 at *;have l15:=vL (b:=D2) (x:=x.da);rw[d0] at l15 u4;have t1:List.take (z.length+3) C1=C1:=List.take_of_length_le oM;have t2:List.take (C1.length+2) C2=C2:=List.take_of_length_le oM;have t3:List.take (C1.length+2+1) C3=C3:=List.take_of_length_le oM;have t4:List.take (C3.length+2+x.po.length) D1=D1:=List.take_of_length_le oM;have t5:List.take (D1.length+2+x.au.length) D2=D2:=List.take_of_length_le oM;simp(maxSteps:=9^9)(disch:=try exact dS)only[go_sem,c,hg,oms,ixA,w1,w2,w3,h6,u1,hC1,hC3,m2,t1,h4,hw,t2,t3,h2,u2,u3,u4,t4,t5,mcn];repeat refine aiG ?_
  refine qK.rd (fun j=>if j=9000 then 102544 else j) ?_ ?_ rfl;all_goals simp(maxSteps:=9^9)(disch:=try exact dS)only[go_sem,id,saA,hf,l15]
 obtain rfl:k=s.ix.length:=oM;rw[List.take_length] at le;have e7:s.ix.foldl ixE (eA6 s)=eA7 s:=rfl;rw[e7] at le;have u8:=jVv (l:=[s.lk.fa,s.lk.mx,s.lk.rc,s.lk.si,s.lk.cl,s.lk.pe]) (b:=eA7 s) ⟨⟨sM,sM⟩,oM⟩;rw[show nuE (eA7 s) [s.lk.fa,s.lk.mx,s.lk.rc,s.lk.si,s.lk.cl,s.lk.pe]=eA8 s from rfl] at u8;have le8:=jDo hs;have h9:eA8 s++[bY s.ks.length]=eA9 s:=rfl;have l9:(eA9 s).length=(eA8 s).length+1:=by rw[←h9,@List.length_append _ (eA8 s) _];rfl
 simp only[mcn,iT] at u8;simp(maxSteps:=9^9)(disch:=try exact dS)only[go_sem,saA,List.take_length,e7,h3,u8,wk];repeat refine aiG ?_
 refine qB s.ks.length (fun k=>[(3,.ref 8256 0 0),(137,.t (.sl (s.ks.map lvA))),(138,.t (.int .i64 s.ks.length)),(139,.t (.int .i64 (k:Nat)))]) (fun k=>[(8256,.live 1 [.sl 9000 0 ((s.ks.take k).foldl lvE (eA9 s)).length] true true),(9000,.live 1 ((((s.ks.take k).foldl lvE (eA9 s)).map qA).map V.t) true false)]) (qK.rd (fun j=>if j=9000 then 118880 else j) ?_ ?_ rfl) (fun k hk=>?_)
 ·simp(maxSteps:=9^9)(disch:=try exact dS)only[go_sem,id]
 ·simp(maxSteps:=9^9)(disch:=try exact dS)only[go_sem,id,saA,List.take_zero,List.foldl_nil,h9,l9]
 have le:=jKl hs k;by_cases c:k<s.ks.length
 ·obtain⟨x,hg,hm,_⟩:=zF c;have hx:=hs.ks.2 x hm;unfold Lv.Ok at hx;have hf:=kG (f:=lvE) (b:=eA9 s) hg;generalize (s.ks.take k).foldl lvE (eA9 s)=z at *;have w1:=jVu (n:=x.us) oM;have d0:blL z x.un++[bY x.us]=lvE z x:=rfl;have u1:=qIb (b:=z) (x:=x.un) ⟨oM,oM⟩;have l11:=vL (b:=z) (x:=x.un);have l12:(lvE z x).length=(blL z x.un).length+1:=by rw[←d0,@List.length_append _ (blL z x.un) _];rfl
  simp(maxSteps:=9^9)(disch:=try exact dS)only[go_sem,c,hg,oms,lvA,w1,h2,u1,mcn];repeat refine aiG ?_
  refine qK.rd (fun j=>if j=9000 then 135296 else j) ?_ ?_ rfl;all_goals simp(maxSteps:=9^9)(disch:=try exact dS)only[go_sem,id,hf,l12,l11,d0]
 obtain rfl:k=s.ks.length:=oM;have ea:s.ks.foldl lvE (eA9 s)=qCi s:=rfl;simp(maxSteps:=9^9)(disch:=try exact dS)only[go_sem,List.take_length,ea];repeat refine aiG ?_
 exact jW4 (qCi s) rfl rfl rfl
def IE (r:Nat)(e:Int):Ob:= .live 2 [.agg [.ref r 0 0,.t (.int .i64 e)]] true true
theorem jUw {r:Nat}{e:Int}:IE r e = .live 2 [.agg [.ref r 0 0,.t (.int .i64 e)]] true true:=rfl
theorem jVi {r:Nat}{e e':Int}(h:IE r e=IE r e'):e=e':=by
 unfold IE at h;injection h with _ h;injection h with h;injection h with h;injection h with _ h;injection h with h;injection h with h;injection h
def Rn (s:Rd)(e:Int):Prop:=qD2 s∧(e=0→s.2.2=0)
abbrev et (s:Rd)(e:Int):Rd:=(s.1,s.2.1,e)
def jWp (s:Rd)(k:Nat)(m:Int):Int×Rd:=if (qQ s k).2.2.2=0∧m<(qQ s k).1 then (0,((qQ s k).2.1,(qQ s k).2.2.1,1)) else qQ s k
theorem jVd {b:List UInt8}{p k:Nat}{e:Int}(h:e≠0):qQ (b,p,e) k=(0,(b,p,e)):=if_pos h
theorem jWg {b:List UInt8}{p k:Nat}{e m:Int}(h:e≠0):jWp (b,p,e) k m=(0,(b,p,e)):=by
 unfold jWp;rw[jVd h,if_neg (fun g=>h g.1)]
theorem jVo {b:List UInt8}{p k:Nat}{e:Int}(h:e≠0):zU (b,p,e) k=([],(b,p,e)):=if_pos h
theorem jV7 {s:Rd}{k:Nat}:(qQ s k).1≤9223372036854775807:=by
 unfold qQ;split
 ·simp
 ·split
  ·simp
  ·split
   ·simp
   ·simp only;omega
theorem jWh {s:Rd}{k:Nat}:jWp s k 9223372036854775807=qQ s k:=by
 have h:=jV7 (s:=s) (k:=k);unfold jWp;rw[if_neg (fun g=>oM)]
def jU1:ECt where
 α:=Rd×Int×Nat×Int
 β:=Int×Rd×Int
 aS:=fun (s,e,k,m)=>[.ref 0 0 0,.t (.int .i64 k),.t (.int .i64 m)]
 ins:=fun (s,e,k,m)=>[IE 1 e,kH s]
 pre:=fun (s,e,k,m)=>Rn s e∧1≤k∧k≤8
 r:=fun (v,s,e)=> .t (.int .i64 v)
 outs:=fun (v,s,e)=>[IE 1 e,kH s]
 R:=fun (s,e,k,m) (v,s',e')=>(v,et s' e')=jWp (et s e) k m∧Rn s' e'
 inj:=by
  rintro⟨s,e,k,m⟩ ⟨s',e',k',m'⟩ h h2;simp only[List.cons.injEq,V.t.injEq,T.int.injEq,true_and,and_true,Int.natCast_inj] at h h2;obtain⟨rfl,rfl⟩:=h;cases jVi h2.1;cases qCy h2.2;rfl
theorem jVq {g:EF jU1}{s:Rd}{e:Int}{k:Nat}{m:Int}(h:Rn s e∧1≤k∧k≤8) : ∃ v s' e',((v,et s' e')=jWp (et s e) k m∧Rn s' e')∧jU1.fs g [.ref 0 0 0,.t (.int .i64 k),.t (.int .i64 m)] [IE 1 e,rdO s]=some (.t (.int .i64 v),[IE 1 e',rdO s']):=by
 obtain⟨⟨v,s',e'⟩,h1,h2⟩:=jU1.eq g (s,e,k,m) h;exact⟨v,s',e',h1,h2⟩
theorem jWd {s:Rd}{e:Int}{k:Nat}{m:Int}(v:Int)(s':Rd)(e':Int)(hR:(v,et s' e')=jWp (et s e) k m∧Rn s' e')(hV:vv = .t (.int .i64 v))(hO:oo=[IE 1 e',kH s']):jU1.K (s,e,k,m) vv oo:=⟨(v,s',e'),hR,hV,hO⟩
theorem jU2 (h1:LkC tab 109 qE9)(h2:LkC tab 110 qPk)(s:Rd)(e:Int)(k:Nat)(m:Int)(hp:Rn s e∧1≤k∧k≤8) :
  qH5.1.wp tab gl (qE 0 [.ref 0 0 0,.t (.int .i64 k),.t (.int .i64 m)]) (qE 0 [IE 1 e,kH s]) (zA [(6,none)] 2 (jU1.K (s,e,k,m))):=by
 obtain⟨⟨ok,hI⟩,hk⟩:=hp;obtain⟨b,p,f⟩:=s;by_cases c:e=0
 rotate_left
 ·simp(maxSteps:=9^9)(disch:=try exact dS)only[go_sem,qH5,jUw,zN,c];exact jWd 0 (b,p,f) e ⟨(jWg c).symm,ok,hI⟩ rfl rfl
 subst c;obtain rfl:f=0:=hI rfl;have e1:=vU (s:=(b,p,0)) (k:=k) ⟨ok,hk⟩;have o1:=zBp (k:=k) ok;have hv:=jV4 (s:=(b,p,0)) (k:=k);have hd:jWp (b,p,0) k m=if (qQ (b,p,0) k).2.2.2=0∧m<(qQ (b,p,0) k).1 then (0,((qQ (b,p,0) k).2.1,(qQ (b,p,0) k).2.2.1,1)) else qQ (b,p,0) k:=rfl
 generalize qQ (b,p,0) k=y at *;obtain⟨v,b',p',x⟩:=y;simp only at hv hd o1;have e2:=qUc o1;simp only[rdO] at e1 e2;by_cases c1:x=0
 ·subst c1;by_cases c2:m<v
  ·rw[if_pos ⟨rfl,c2⟩] at hd;simp(maxSteps:=9^9)(disch:=try exact dS)only[go_sem,qH5,jUw,zN,h1,e1,h2,e2,c2];exact jWd 0 (b',p',0) 1 ⟨hd.symm,o1,fun h=>absurd h (by decide)⟩ rfl rfl
  ·rw[if_neg (fun h=>c2 h.2)] at hd;simp(maxSteps:=9^9)(disch:=try exact dS)only[go_sem,qH5,jUw,zN,h1,e1,h2,e2,c2];exact jWd v (b',p',0) 0 ⟨hd.symm,o1,fun _=>rfl⟩ rfl rfl
 ·rw[if_neg (fun h=>c1 h.1)] at hd;obtain rfl:v=0:=hv.2 c1;simp(maxSteps:=9^9)(disch:=try exact dS)only[go_sem,qH5,jUw,zN,h1,e1,h2,e2,c1];exact jWd 0 (b',p',x) x ⟨hd.symm,o1,fun h=>absurd h c1⟩ rfl rfl
def jU3:ECt where
 α:=Rd×Int×Nat
 β:=Int×Rd×Int
 aS:=fun (s,e,k)=>[.ref 0 0 0,.t (.int .i64 k)]
 ins:=fun (s,e,k)=>[IE 1 e,kH s]
 pre:=fun (s,e,k)=>Rn s e∧1≤k∧k≤8
 r:=fun (v,s,e)=> .t (.int .i64 v)
 outs:=fun (v,s,e)=>[IE 1 e,kH s]
 R:=fun (s,e,k) (v,s',e')=>(v,et s' e')=qQ (et s e) k∧Rn s' e'
 inj:=by
  rintro⟨s,e,k⟩ ⟨s',e',k'⟩ h h2;simp only[List.cons.injEq,V.t.injEq,T.int.injEq,true_and,and_true,Int.natCast_inj] at h h2;subst h;cases jVi h2.1;cases qCy h2.2;rfl
theorem jUy {g:EF jU3}{s:Rd}{e:Int}{k:Nat}(h:Rn s e∧1≤k∧k≤8) : ∃ v s' e',((v,et s' e')=qQ (et s e) k∧Rn s' e')∧jU3.fs g [.ref 0 0 0,.t (.int .i64 k)] [IE 1 e,rdO s]=some (.t (.int .i64 v),[IE 1 e',rdO s']):=by
 obtain⟨⟨v,s',e'⟩,h1,h2⟩:=jU3.eq g (s,e,k) h;exact⟨v,s',e',h1,h2⟩
theorem jVe {g1}(h1:LkE tab 84 jU1 g1)(s:Rd)(e:Int)(k:Nat)(hp:Rn s e∧1≤k∧k≤8) :
  qNm.1.wp tab gl (qE 0 [.ref 0 0 0,.t (.int .i64 k)]) (qE 0 [IE 1 e,kH s]) (zA [(4,none)] 2 (jU3.K (s,e,k))):=by
 obtain⟨v,s',e',⟨hR,hn⟩,e1⟩:=jVq (g:=g1) (m:=9223372036854775807) hp;rw[jWh] at hR;simp only[rdO,jUw] at e1;simp(maxSteps:=9^9)(disch:=try exact dS)only[go_sem,qNm,jUw,jUx,h1,e1];exact⟨(v,s',e'),⟨hR,hn⟩,rfl,rfl⟩
def jU4:ECt where
 α:=Rd×Int
 β:=Bool×Rd×Int
 aS:=fun (s,e)=>[.ref 0 0 0]
 ins:=fun (s,e)=>[IE 1 e,kH s]
 pre:=fun (s,e)=>Rn s e
 r:=fun (v,s,e)=> .t (.bool v)
 outs:=fun (v,s,e)=>[IE 1 e,kH s]
 R:=fun (s,e) (v,s',e')=>(v=((zWe (et s e) 1).1==1)∧et s' e'=(zWe (et s e) 1).2)∧Rn s' e'
 inj:=by
  rintro⟨s,e⟩ ⟨s',e'⟩ _ h2;simp only[List.cons.injEq,and_true] at h2;cases jVi h2.1;cases qCy h2.2;rfl
theorem jWn {g:EF jU4}{s:Rd}{e:Int}(h:Rn s e) : ∃ v s' e',((v=((zWe (et s e) 1).1==1)∧et s' e'=(zWe (et s e) 1).2)∧Rn s' e')∧jU4.fs g [.ref 0 0 0] [IE 1 e,rdO s]=some (.t (.bool v),[IE 1 e',rdO s']):=by
 obtain⟨⟨v,s',e'⟩,h1,h2⟩:=jU4.eq g (s,e) h;exact⟨v,s',e',h1,h2⟩
theorem jU9 {g1}(h1:LkE tab 84 jU1 g1)(s:Rd)(e:Int)(hp:Rn s e) :
  qK1.1.wp tab gl (qE 0 [.ref 0 0 0]) (qE 0 [IE 1 e,kH s]) (zA [(2,none)] 2 (jU4.K (s,e))):=by
 obtain⟨v,s',e',⟨hR,hn⟩,e1⟩:=jVq (g:=g1) (k:=1) (m:=1) ⟨hp,oM,oM⟩;rw[show ((1:Nat):Int)=1 from rfl] at e1;have hR':(v,et s' e')=zWe (et s e) 1:=hR;simp only[rdO,jUw] at e1;simp(maxSteps:=9^9)(disch:=try exact dS)only[go_sem,qK1,jUw,jUx,h1,e1];exact⟨(v==1,s',e'),⟨⟨by rw[←hR'],by rw[←hR']⟩,hn⟩,rfl,rfl⟩
def jU0:ECt where
 α:=Rd×Int
 β:=List UInt8×Rd×Int
 aS:=fun (s,e)=>[.ref 0 0 0]
 ins:=fun (s,e)=>[IE 1 e,kH s]
 pre:=fun (s,e)=>Rn s e
 r:=fun (v,s,e)=> .t (.sl (v.map qA))
 outs:=fun (v,s,e)=>[IE 1 e,kH s]
 R:=fun (s,e) (v,s',e')=>(v,et s' e')=zU (et s e) 4096∧Rn s' e'
 inj:=by
  rintro⟨s,e⟩ ⟨s',e'⟩ _ h2;simp only[List.cons.injEq,and_true] at h2;cases jVi h2.1;cases qCy h2.2;rfl
theorem jVj {g:EF jU0}{s:Rd}{e:Int}(h:Rn s e) : ∃ v s' e',((v,et s' e')=zU (et s e) 4096∧Rn s' e')∧jU0.fs g [.ref 0 0 0] [IE 1 e,rdO s]=some (.t (.sl (v.map qA)),[IE 1 e',rdO s']):=by
 obtain⟨⟨v,s',e'⟩,h1,h2⟩:=jU0.eq g (s,e) h;exact⟨v,s',e',h1,h2⟩
theorem jWw {s:Rd}{e:Int}(v:List UInt8)(s':Rd)(e':Int)(hR:(v,et s' e')=zU (et s e) 4096∧Rn s' e')(hV:vv = .t (.sl (v.map qA)))(hO:oo=[IE 1 e',kH s']):jU0.K (s,e) vv oo:=⟨(v,s',e'),hR,hV,hO⟩
theorem jU8 (h1:LkC tab 111 qGo)(h2:LkC tab 110 qPk)(s:Rd)(e:Int)(hp:Rn s e) :
  qK0.1.wp tab gl (qE 0 [.ref 0 0 0]) (qE 0 [IE 1 e,kH s]) (zA [(2,none)] 2 (jU0.K (s,e))):=by
 obtain⟨ok,hI⟩:=hp;obtain⟨b,p,f⟩:=s;by_cases c:e=0
 rotate_left
 ·simp(maxSteps:=9^9)(disch:=try exact dS)only[go_sem,qK0,jUw,zN,c];exact jWw [] (b,p,f) e ⟨(jVo c).symm,ok,hI⟩ rfl rfl
 subst c;obtain rfl:f=0:=hI rfl;have e1:=qG7 (s:=(b,p,0)) (k:=4096) ⟨ok,oM⟩;have o1:=jWc (k:=4096) ok;obtain⟨⟨v,b',p',x⟩,hy⟩ : ∃ y,zU (b,p,0) 4096=y:=⟨_,rfl⟩;rw[hy] at e1 o1;rw[show ((4096:Nat):Int)=4096 from rfl] at e1;simp only at o1;have e2:=qUc o1;simp only[rdO] at e1 e2;simp(maxSteps:=9^9)(disch:=try exact dS)only[go_sem,qK0,jUw,zN,h1,e1,h2,e2];exact jWw v (b',p',x) x ⟨hy.symm,o1,fun h=>h⟩ rfl rfl
def jVb:ECt where
 α:=Rd×Int
 β:=(List qX×Int)×Rd×Int
 aS:=fun (s,e)=>[.ref 0 0 0]
 ins:=fun (s,e)=>[IE 1 e,kH s]
 pre:=fun (s,e)=>Rn s e
 r:=fun (v,s,e)=> .t (.agg [.sl (v.1.map wY),.int .i64 v.2])
 outs:=fun (v,s,e)=>[IE 1 e,kH s]
 R:=fun (s,e) (v,s',e')=>(v,et s' e')=jLo (et s e)∧Rn s' e'
 inj:=by
  rintro⟨s,e⟩ ⟨s',e'⟩ _ h2;simp only[List.cons.injEq,and_true] at h2;cases jVi h2.1;cases qCy h2.2;rfl
theorem jWx {g:EF jVb}{s:Rd}{e:Int}(h:Rn s e) : ∃ v s' e',((v,et s' e')=jLo (et s e)∧Rn s' e')∧jVb.fs g [.ref 0 0 0] [IE 1 e,rdO s]=some (.t (.agg [.sl (v.1.map wY),.int .i64 v.2]),[IE 1 e',rdO s']):=by
 obtain⟨⟨v,s',e'⟩,h1,h2⟩:=jVb.eq g (s,e) h;exact⟨v,s',e',h1,h2⟩
theorem jU7 {g1}(h1:LkE tab 86 jU0 g1)(h2:LkC tab 112 zX1)(s:Rd)(e:Int)(hp:Rn s e) :
  qJ4.1.wp tab gl (qE 0 [.ref 0 0 0]) (qE 0 [IE 1 e,kH s]) (zA [(2,some (2,true))] 2 (jVb.K (s,e))):=by
 obtain⟨v,s',e',⟨hR,hn⟩,e1⟩:=jVj (g:=g1) hp;have lv:=jWb (s:=et s e) (k:=4096);rw[←hR] at lv;have e2:=jWv (b:=v) (by simp only at lv;omega);have hd:jLo (et s e)=if (zU (et s e) 4096).2.2.2≠0 then (([],0),(zU (et s e) 4096).2) else (((dcT (zU (et s e) 4096).1).1,(dcT (zU (et s e) 4096).1).2.1),((zU (et s e) 4096).2.1,(zU (et s e) 4096).2.2.1,(dcT (zU (et s e) 4096).1).2.2)):=rfl
 rw[←hR] at hd;simp only at hd;obtain⟨b,p,f⟩:=s';simp only[rdO,jUw] at e1;by_cases c:e'=0
 ·subst c;obtain rfl:f=0:=hn.2 rfl;rw[if_neg sM] at hd;generalize dcT v=z at *;obtain⟨bk,u,x⟩:=z;simp only at e2 hd;simp(maxSteps:=9^9)(disch:=try exact dS)only[go_sem,qJ4,jUw,jUx,h1,e1,h2,e2];exact⟨((bk,u),(b,p,0),x),⟨hd.symm,hn.1,fun _=>rfl⟩,rfl,rfl⟩
 ·rw[if_pos c] at hd;simp(maxSteps:=9^9)(disch:=try exact dS)only[go_sem,qJ4,jUw,jUx,h1,e1,c];exact⟨(([],0),(b,p,f),e'),⟨hd.symm,hn⟩,rfl,rfl⟩
end Go.Eng
end
