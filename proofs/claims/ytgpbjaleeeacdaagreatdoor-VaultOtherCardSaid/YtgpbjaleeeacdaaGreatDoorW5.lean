/- My own text: an abstract machine, its walks over the functions reached, and their tie to the program. -/
import Derived.Test.YtgpbjaleeeacdaaGreatDoorW4
import Derived.Test.YtgpbjaleeeacdaaGreatDoorW3
import Derived.Conc.MuLone
import Derived.KernelRfl
import Derived.Lib.OthersKept
import Derived.Laws.RangeAny
import Derived.Lib.ItoaNum
import Derived.Lib.LaidTab
import Derived.Sort.Grow
import Derived.Deep.Draws
import Derived.Lib.MakeNoZero
import Derived.Laws.Externs
import Derived.WideKeyArgs
import Derived.Handed
import Derived.OpenShut
import Derived.RowKit
import Derived.ProofKit
import Derived.LaidMore
import Derived.MakeChecks
import Derived.Stop.Joined
import Derived.Lib.BytesEntry
set_option linter.unusedSimpArgs false
set_option linter.unusedVariables false
section
set_option maxRecDepth 20000
set_option maxHeartbeats 64000000
namespace Go.Eng
def qDe:Ct where
 α:=List UInt8
 as x:=[.t (zN x)]
 ins _:=[]
 pre x:=x.length≤9223372036854775807
 r x:= .t (.bool (qCk x))
 outs _:=[]
 inj:=by
  intro a b h _
  simp only[List.cons.injEq,V.t.injEq,qL1,and_true] at h
  subst h;exact⟨rfl,rfl⟩
theorem zQl {s:List UInt8} (h:s.length≤9223372036854775807):qDe.fs [.t (zN s)] []=some (.t (.bool (qCk s)),[]):=qDe.eq s h
def qM6:Ct where
 α:=Im
 as x:=[.t (imT x)]
 ins _:=[]
 pre x:=imM x
 r x:= .t (.sl ((lnL x.2.2.2).map bsT))
 outs _:=[]
 inj:=by
  intro a b h _
  simp only[List.cons.injEq,V.t.injEq,and_true] at h
  cases qDk h
  exact⟨rfl,rfl⟩
theorem zN6 {a v:Int} {s p:List UInt8} (h:imM (a,s,v,p)):qM6.fs [.t (.agg [.int .i64 a,zN s,.int .i64 v,.sl (p.map qA)])] []=some (.t (.sl ((lnL p).map bsT)),[]):=qM6.eq (a,s,v,p) h
def qKo:Ct where
 α:=Im
 as x:=[.t (imT x)]
 ins _:=[]
 pre x:=imX x
 r x:= .t (.int .i64 (qEt x))
 outs _:=[]
 inj:=by
  intro a b h _
  simp only[List.cons.injEq,V.t.injEq,and_true] at h
  cases qDk h
  exact⟨rfl,rfl⟩
theorem zFr {a v:Int} {s p:List UInt8} (h:imX (a,s,v,p)):qKo.fs [.t (.agg [.int .i64 a,zN s,.int .i64 v,.sl (p.map qA)])] []=some (.t (.int .i64 (qEt (a,s,v,p))),[]):=qKo.eq (a,s,v,p) h
theorem zN0 {a v:Int} {s p:List UInt8} (h:imM (a,s,v,p)):qKo.fs [.t (.agg [.int .i64 a,zN s,.int .i64 v,.sl (p.map qA)])] []=some (.t (.int .i64 (qEt (a,s,v,p))),[]):=zFr h.x
def qTq:Ct where
 α:=Im
 as x:=[.t (imT x)]
 ins _:=[]
 pre x:=imM x
 r x:= .t (.sl ((qE2 x).map qA))
 outs _:=[]
 inj:=by
  intro a b h _
  simp only[List.cons.injEq,V.t.injEq,and_true] at h
  cases qDk h
  exact⟨rfl,rfl⟩
theorem zUo {a v:Int} {s p:List UInt8} (h:imM (a,s,v,p)):qTq.fs [.t (.agg [.int .i64 a,zN s,.int .i64 v,.sl (p.map qA)])] []=some (.t (.sl ((qE2 (a,s,v,p)).map qA)),[]):=qTq.eq (a,s,v,p) h
theorem zXe {b:List UInt8} {k:Nat} {n:Int} (hb:b.length<1000000000∧1≤k∧k≤8):wF.fs [.t (.sl (b.map qA)),.t (.int .i64 k),.t (.int .i64 n)] []=some (.sl 0 0 (b.length+k),[.live 1 (((b++beI k n k).map qA).map V.t) true false]):=wF.eq (b,k,n) hb
def qNg:Ct where
 α:=Int
 as x:=[.t (.int .i64 x)]
 ins _:=[]
 pre _:=True
 r x:= .t (.int .i64 (zAh x))
 outs _:=[]
 inj:=by
  intro a b h _
  simp only[List.cons.injEq,V.t.injEq,T.int.injEq,true_and,and_true] at h
  subst h;exact⟨rfl,rfl⟩
theorem zOf {a:Int}:qNg.fs [.t (.int .i64 a)] []=some (.t (.int .i64 (zAh a)),[]):=qNg.eq a trivial
def qTs:Ct where
 α:=Im×Int
 as x:=[.t (imT x.1),.t (.int .i64 x.2)]
 ins _:=[]
 pre x:=imM x.1∧0≤x.2∧x.2<4
 r x:= .t (.sl [bsT (qQh x.1 x.2 0),bsT (qQh x.1 x.2 1)])
 outs _:=[]
 inj:=by
  rintro⟨e,a⟩ ⟨f,b⟩ h _
  simp only[List.cons.injEq,V.t.injEq,T.int.injEq,true_and,and_true] at h
  obtain⟨h1,rfl⟩:=h
  cases qDk h1
  exact⟨rfl,rfl⟩
theorem zU8 {a v:Int} {s p:List UInt8} {act:Int} (h:imM (a,s,v,p)∧0≤act∧act<4):qTs.fs [.t (.agg [.int .i64 a,zN s,.int .i64 v,.sl (p.map qA)]),.t (.int .i64 act)] []=some (.t (.sl [bsT (qQh (a,s,v,p) act 0),bsT (qQh (a,s,v,p) act 1)]),[]):=qTs.eq ((a,s,v,p),act) h
theorem zJp {x:Im} (h:imM x):(qE2 x).length≤100:=by
 unfold qE2
 split
 ·rename_i hz
  obtain⟨g1,g2,g3,g4,g5⟩:=xL hz
  have g6:=qFa g3
  unfold zZg
  rw[yJ,yJ,List.length_append,jB,jB]
  omega
 ·simp
theorem zUh {m:Nat}:IntKind.u8.wrap (m:Int)=((UInt8.ofNat m).toNat:Int):=by
 rw[qO3,UInt8.toNat_ofNat'];omega
def qKp:Ct where
 α:=Im×Int
 as x:=[.t (imT x.1),.t (.int .i64 x.2)]
 ins _:=[]
 pre x:=imM x.1∧0≤x.2∧x.2<4
 r x:= .t (evT (ofI x.1 x.2))
 outs _:=[]
 inj:=by
  rintro⟨e,a⟩ ⟨f,b⟩ h _
  simp only[List.cons.injEq,V.t.injEq,T.int.injEq,true_and,and_true] at h
  obtain⟨h1,rfl⟩:=h
  cases qDk h1
  exact⟨rfl,rfl⟩
theorem zF9 {x:Im} {act:Int} (h:imM x∧0≤act∧act<4):qKp.fs [.t (imT x),.t (.int .i64 act)] []=some (.t (evT (ofI x act)),[]):=qKp.eq (x,act) h
def qT0:Ct where
 α:=Unit
 as _:=[]
 ins _:=[]
 pre _:=True
 r _:= .t (.agg [zN (nmL 0),zN (nmL 1),zN (nmL 2),zN (nmL 3),zN (nmL 4)])
 outs _:=[]
 inj:=by intro a b _ _;exact⟨rfl,rfl⟩
theorem zV1:qT0.fs [] []=some (.t (.agg [zN (nmL 0),zN (nmL 1),zN (nmL 2),zN (nmL 3),zN (nmL 4)]),[]):=qT0.eq () trivial
theorem qVv (tab:Tab) (gl:Gl):qHn.wp tab gl (qE 0 []) (qE 0 []) (jK [(0,some (5,true))] 0 (fun r o=>r = .t (.agg [zN (nmL 0),zN (nmL 1),zN (nmL 2),zN (nmL 3),zN (nmL 4)])∧o=[])):=by
 simp (disch:=omega) only [go_sem,seval,qHn,nmL]
def qT1:Ct where
 α:=Cd
 as _:=[.ref 0 0 0]
 ins x:=[qO9 x]
 pre x:=qB1 x
 r x:= .t (.sl ((qQu x).1.map qA))
 outs x:=[qO9 (qQu x).2]
 inj:=by
  intro s t _ h2
  simp only[List.cons.injEq,and_true] at h2
  cases qLo h2
  exact⟨rfl,rfl⟩
theorem zOa {c:Cd} (h:qB1 c):qT1.fs [.ref 0 0 0] [cdO c]=some (.t (.sl ((qQu c).1.map qA)),[cdO (qQu c).2]):=qT1.eq c h
theorem qPq (tab:Tab) (gl:Gl) (n1 n2:Nat) (h1:tab.look n1=some qCf.fs) (h2:tab.look n2=some qM5.fs) (c:Cd) (hc:qB1 c) :
  (xI n1 n2).wp tab gl (qE 0 [.ref 0 0 0]) (qE 0 [qO9 c]) (jK [(2,none)] 1 (fun r o=>r = .t (.sl ((qQu c).1.map qA))∧o=[qO9 (qQu c).2])):=by
 have e:qQu c=zBx (1+(nx c 4).1) (nx c 4).2 []:=rfl
 rw[e]
 obtain⟨i,b,a,e,l,ok,hN⟩:=nxF 4 hc (by omega) (by omega)
 rw[show ((4:Nat):Int)=4 from rfl] at hN
 rw[e]
 simp only
 obtain⟨cb,ca⟩:=c
 generalize hP:zBx (1+i) (b,a) []=P
 simp (disch:=omega) only [go_sem,seval,xI,kC,h1,hN]
 refine qDl (σ:=Nat×Cd×List UInt8) (fun s=>qB1 s.2.1∧s.2.2.length+9*s.1≤100∧zBx s.1 s.2.1 s.2.2=P) (fun s=>s.1)
  (fun s=>[(0,.ref 0 0 0),(3,.sl 9000 0 s.2.2.length),(4,.t (.int .i64 (s.1:Nat)))]) (fun s=>[(9000,.live 1 ((s.2.2.map qA).map V.t) true false),(0,cdO s.2.1)]) (1+i,(b,a),[]) ⟨ok,by simp;omega,hP⟩ ?_ ?_
 ·refine qQ.cv0 (hv:=[(9000,.live 1 [] true false)]) (ho:=[(0,cdO (b,a))]) id ?_ ?_ rfl rfl
  all_goals simp (disch:=omega) only [go_sem,seval,id]
 ·rintro⟨k,⟨b1,a1⟩,p⟩ ⟨ok1,hl,hp⟩
  simp only at ok1 hl hp ⊢
  cases k with
  | zero=>
   rw[←hp]
   simp (disch:=omega) only [go_sem,seval,yP,zBx,kC,List.take_length]
  | succ k=>
   have hL:=zQe ok1
   have ll:=qUr (i:=(nx (b1,a1) 6).1)
   have lok:=qEa (n:=6) ok1
   have hp':zBx k (nx (b1,a1) 6).2 (p++qIc (nx (b1,a1) 6).1++[10])=P:=hp
   generalize nx (b1,a1) 6=q at *
   obtain⟨j,b2,a2⟩:=q
   simp only[cdO] at *
   generalize qIc j=L at *
   have hkk:((k+1:Nat):Int)-1=k:=by omega
   simp (disch:=omega) only [go_sem,seval,yP,h2,hL,hkk,List.take_length]
   refine zBp.of (k,(b2,a2),p++L++[10]) ⟨lok,by simp;omega,hp'⟩ (by simp) (qQ.rd (fun j=>if j=9000 then 24656 else j) ?_ ?_ rfl)
   all_goals simp (disch:=omega) only [go_sem,seval,id,List.map_cons,List.map_nil,List.append_assoc]
   all_goals try omega
def qTp:Ct where
 α:=Cd×Nat
 as x:=[.ref 0 0 0,.t (.int .i64 x.2)]
 ins x:=[qO9 x.1]
 pre x:=qB1 x.1∧1≤x.2∧x.2≤4
 r x:= .t (imT (imG x.1 x.2).1)
 outs x:=[qO9 (imG x.1 x.2).2]
 inj:=by
  rintro⟨s,a⟩ ⟨t,c⟩ h1 h2
  simp only[List.cons.injEq,V.t.injEq,T.int.injEq,true_and,and_true,Int.natCast_inj] at h1
  simp only[List.cons.injEq,and_true] at h2
  subst h1
  cases qLo h2
  exact⟨rfl,rfl⟩
theorem zUl {c:Cd} {r:Nat} (h:qB1 c∧1≤r∧r≤4):qTp.fs [.ref 0 0 0,.t (.int .i64 r)] [cdO c]=some (.t (imT (imG c r).1),[cdO (imG c r).2]):=qTp.eq (c,r) h
theorem zV0 {i:Nat} (h:i<5):[V.t (zN (nmL 0)),V.t (zN (nmL 1)),V.t (zN (nmL 2)),V.t (zN (nmL 3)),V.t (zN (nmL 4))][i]?=some (.t (zN (nmL i))):=by
 rcases (show i=0∨i=1∨i=2∨i=3∨i=4 by omega) with rfl | rfl | rfl | rfl | rfl<;>rfl
theorem zHf {d:List UInt8} {j n:Nat} {x:UInt8} (h:d.length=j) (hj:j<n):(d++List.replicate (n-j) 0).set j x=d++[x]++List.replicate (n-(j+1)) 0:=by
 rw[List.set_append_right _ _ (by omega),h,Nat.sub_self,show n-j=(n-(j+1))+1 by omega,List.replicate_succ,List.set_cons_zero]
 simp
theorem qVu (tab:Tab) (gl:Gl) (n1 n2 n3:Nat) (h1:tab.look n1=some qT0.fs) (h2:tab.look n2=some qCf.fs) (h3:tab.look n3=some qT1.fs) (c:Cd) (r:Nat) (hc:qB1 c) (hr:1≤r∧r≤4) :
  (yA n1 n2 n3).wp tab gl (qE 0 [.ref 0 0 0,.t (.int .i64 r)]) (qE 0 [qO9 c]) (jK [(4,some (4,true))] 1 (fun r' o=>r' = .t (imT (imG c r).1)∧o=[qO9 (imG c r).2])):=by
 have hn0:=zV1
 obtain⟨i,bI,aI,eI,lI,okI,hI⟩:=nxF 5 hc (by omega) (by omega)
 obtain⟨v,bV,aV,eV,lV,okV,hV⟩:=nxF 5 okI (by omega) (by omega)
 obtain⟨w,bW,aW,eW,lW,okW,hW⟩:=nxF 9 okV (by omega) (by omega)
 obtain⟨bC,aC⟩:=c
 simp only[show ((5:Nat):Int)=5 from rfl,show ((9:Nat):Int)=9 from rfl] at hI hV hW
 have hg:=zV0 lI
 by_cases w8:w=8
 ·subst w8
  obtain⟨j,bX,aX,eJ,lJ,okX,hJ⟩:=nxF 3 okW (by omega) (by omega)
  simp only[show ((3:Nat):Int)=3 from rfl,show ((8:Nat):Int)=8 from rfl] at hJ hW
  obtain⟨U,nV⟩ : ∃ U:Nat,(1000000:Int)-j=U:=⟨1000000-j,by omega⟩
  have hVr:vrG (bI,aI)=((U:Int),(bX,aX)):=by unfold vrG;rw[eV];simp only;rw[eW];simp only[↓reduceIte];rw[eJ,←nV]
  by_cases r4:r=4
  ·subst r4
   have hP:=zOa okX
   have okP:=qR9 (k:=1+(nx (bX,aX) 4).1) (b:=[]) (qEa (n:=4) okX)
   have eP:(plG (bX,aX) ((4:Nat):Int))=qQu (bX,aX):=by unfold plG;exact if_pos rfl
   have eG:imG (bC,aC) ((4:Nat):Int)=((((4:Nat):Int),nmL i,((U:Int):Int),(qQu (bX,aX)).1),(qQu (bX,aX)).2):=by unfold imG;rw[eI,hVr,eP]
   rw[eG]
   generalize qQu (bX,aX)=q at *
   obtain⟨L,bP,aP⟩:=q
   simp only[cdO] at hP
   simp (disch:=omega) only [go_sem,seval,yA,zC,kC,h1,hn0,h2,hI,hV,hW,hg,hJ,nV,h3,hP]
   all_goals rfl
  ·have r4b:((r:Int)==4)=false:=by simpa using (by omega : ¬ (r:Int)=4)
   obtain⟨k,bK,aK,eK,lK,okK,hK⟩:=nxF 7 okX (by omega) (by omega)
   simp only[show ((7:Nat):Int)=7 from rfl] at hK
   have eP:(plG (bX,aX) (r:Int))=byN k (bK,aK) []:=by unfold plG;rw[if_neg (by omega),eK]
   have eG:imG (bC,aC) (r:Int)=(((r:Int),nmL i,((U:Int):Int),(byN k (bK,aK) []).1),(byN k (bK,aK) []).2):=by unfold imG;rw[eI,hVr,eP]
   rw[eG]
   generalize hP:byN k (bK,aK) []=P
   simp (disch:=omega) only [go_sem,seval,yA,kC,h1,hn0,h2,hI,hV,hW,hg,hJ,nV,r4b,hK]
   repeat refine And.intro rfl ?_
   refine qDl (σ:=Nat×Cd×List UInt8) (fun s=>qB1 s.2.1∧s.1≤k∧s.2.2.length=s.1∧byN (k-s.1) s.2.1 s.2.2=P) (fun s=>k-s.1)
    (fun s=>[(0,.ref 0 0 0),(4,.ref 4096 0 0),(5,.ref 8320 0 0),(6,.t (.int .i64 (s.1:Nat)))])
    (fun s=>[(32800,.live 1 (((s.2.2++List.replicate (k-s.1) 0).map qA).map V.t) true false),(8320,.live 4 [.agg [.t (.int .i64 (r:Int)),.t (zN (nmL i)),.t (.int .i64 (U:Int)),.sl 32800 0 k]] true true),(4096,.live 4 [.agg [.t (.int .i64 0),.t (zN []),.t (.int .i64 0),.nil]] true true),(0,cdO s.2.1)]) (0,(bK,aK),[]) ⟨okK,Nat.zero_le _,rfl,hP⟩ ?_ ?_
   ·refine qQ.rd id ?_ ?_ rfl
    all_goals simp (disch:=omega) only [go_sem,seval,id,List.nil_append]
   ·rintro⟨j,⟨b1,a1⟩,d⟩ ⟨ok1,hj,hd,hp⟩
    simp only at ok1 hj hd hp ⊢
    by_cases hlt:j<k
    ·obtain⟨x,b2,a2,e2,l2,ok2,hX⟩:=nxF 256 ok1 (by omega) (by omega)
     simp only[show ((256:Nat):Int)=256 from rfl] at hX
     have hst:=zHf (x:=UInt8.ofNat x) (n:=k) hd hlt
     have hp':byN (k-(j+1)) (b2,a2) (d++[UInt8.ofNat x])=P:=by
      rw[show k-j=(k-(j+1))+1 by omega,byN,e2] at hp
      exact hp
     have hw:T.int .u8 (IntKind.u8.wrap (x:Int))=qA (UInt8.ofNat x):=by rw[zUh];rfl
     have hL:(d++List.replicate (k-j) 0).length=k:=by simp;omega
     generalize d++List.replicate (k-j) 0=D at *
     simp (disch:=omega) only [go_sem,seval,jL,h2,hX,hw,hL]
     repeat refine And.intro rfl ?_
     refine zBp.of (j+1,(b2,a2),d++[UInt8.ofNat x]) ⟨ok2,by simp only;omega,by simp;omega,hp'⟩ (by simp only;omega) (qQ.rd id ?_ ?_ rfl)
     all_goals simp (disch:=omega) only [go_sem,seval,id,hst]
    ·have e:j=k:=by omega
     subst e
     rw[Nat.sub_self] at hp ⊢
     rw[←hp]
     have hb:byN 0 (b1,a1) d=(d,(b1,a1)):=rfl
     rw[hb]
     simp only[List.replicate_zero,List.append_nil]
     have ht:List.take j d=d:=List.take_of_length_le (by omega)
     simp (disch:=omega) only [go_sem,seval,jL,zC,kC,hd,ht]
 ·have w8b:((w:Int)==8)=false:=by simpa using (by omega : ¬ (w:Int)=8)
  have hVr:vrG (bI,aI)=((v:Int),(bW,aW)):=by unfold vrG;rw[eV];simp only;rw[eW];simp only[if_neg w8]
  obtain⟨bX,hbX⟩ : ∃ b,b=bW:=⟨_,rfl⟩
  obtain⟨aX,haX⟩ : ∃ a,a=aW:=⟨_,rfl⟩
  rw[←hbX,←haX] at okW hW hVr
  have okX:=okW
  by_cases r4:r=4
  ·subst r4
   have hP:=zOa okX
   have okP:=qR9 (k:=1+(nx (bX,aX) 4).1) (b:=[]) (qEa (n:=4) okX)
   have eP:(plG (bX,aX) ((4:Nat):Int))=qQu (bX,aX):=by unfold plG;exact if_pos rfl
   have eG:imG (bC,aC) ((4:Nat):Int)=((((4:Nat):Int),nmL i,((v:Int):Int),(qQu (bX,aX)).1),(qQu (bX,aX)).2):=by unfold imG;rw[eI,hVr,eP]
   rw[eG]
   generalize qQu (bX,aX)=q at *
   obtain⟨L,bP,aP⟩:=q
   simp only[cdO] at hP
   simp (disch:=omega) only [go_sem,seval,yA,zC,kC,h1,hn0,h2,hI,hV,hW,hg,w8b,h3,hP]
   all_goals rfl
  ·have r4b:((r:Int)==4)=false:=by simpa using (by omega : ¬ (r:Int)=4)
   obtain⟨k,bK,aK,eK,lK,okK,hK⟩:=nxF 7 okX (by omega) (by omega)
   simp only[show ((7:Nat):Int)=7 from rfl] at hK
   have eP:(plG (bX,aX) (r:Int))=byN k (bK,aK) []:=by unfold plG;rw[if_neg (by omega),eK]
   have eG:imG (bC,aC) (r:Int)=(((r:Int),nmL i,((v:Int):Int),(byN k (bK,aK) []).1),(byN k (bK,aK) []).2):=by unfold imG;rw[eI,hVr,eP]
   rw[eG]
   generalize hP:byN k (bK,aK) []=P
   simp (disch:=omega) only [go_sem,seval,yA,kC,h1,hn0,h2,hI,hV,hW,hg,w8b,r4b,hK]
   repeat refine And.intro rfl ?_
   refine qDl (σ:=Nat×Cd×List UInt8) (fun s=>qB1 s.2.1∧s.1≤k∧s.2.2.length=s.1∧byN (k-s.1) s.2.1 s.2.2=P) (fun s=>k-s.1)
    (fun s=>[(0,.ref 0 0 0),(4,.ref 4096 0 0),(5,.ref 8320 0 0),(6,.t (.int .i64 (s.1:Nat)))])
    (fun s=>[(32800,.live 1 (((s.2.2++List.replicate (k-s.1) 0).map qA).map V.t) true false),(8320,.live 4 [.agg [.t (.int .i64 (r:Int)),.t (zN (nmL i)),.t (.int .i64 (v:Int)),.sl 32800 0 k]] true true),(4096,.live 4 [.agg [.t (.int .i64 0),.t (zN []),.t (.int .i64 0),.nil]] true true),(0,cdO s.2.1)]) (0,(bK,aK),[]) ⟨okK,Nat.zero_le _,rfl,hP⟩ ?_ ?_
   ·refine qQ.rd id ?_ ?_ rfl
    all_goals simp (disch:=omega) only [go_sem,seval,id,List.nil_append]
   ·rintro⟨j,⟨b1,a1⟩,d⟩ ⟨ok1,hj,hd,hp⟩
    simp only at ok1 hj hd hp ⊢
    by_cases hlt:j<k
    ·obtain⟨x,b2,a2,e2,l2,ok2,hX⟩:=nxF 256 ok1 (by omega) (by omega)
     simp only[show ((256:Nat):Int)=256 from rfl] at hX
     have hst:=zHf (x:=UInt8.ofNat x) (n:=k) hd hlt
     have hp':byN (k-(j+1)) (b2,a2) (d++[UInt8.ofNat x])=P:=by
      rw[show k-j=(k-(j+1))+1 by omega,byN,e2] at hp
      exact hp
     have hw:T.int .u8 (IntKind.u8.wrap (x:Int))=qA (UInt8.ofNat x):=by rw[zUh];rfl
     have hL:(d++List.replicate (k-j) 0).length=k:=by simp;omega
     generalize d++List.replicate (k-j) 0=D at *
     simp (disch:=omega) only [go_sem,seval,jL,h2,hX,hw,hL]
     repeat refine And.intro rfl ?_
     refine zBp.of (j+1,(b2,a2),d++[UInt8.ofNat x]) ⟨ok2,by simp only;omega,by simp;omega,hp'⟩ (by simp only;omega) (qQ.rd id ?_ ?_ rfl)
     all_goals simp (disch:=omega) only [go_sem,seval,id,hst]
    ·have e:j=k:=by omega
     subst e
     rw[Nat.sub_self] at hp ⊢
     rw[←hp]
     have hb:byN 0 (b1,a1) d=(d,(b1,a1)):=rfl
     rw[hb]
     simp only[List.replicate_zero,List.append_nil]
     have ht:List.take j d=d:=List.take_of_length_le (by omega)
     simp (disch:=omega) only [go_sem,seval,jL,zC,kC,hd,ht]
end Go.Eng
end
section
namespace Go.Eng
def jV:AC:=
 (.seq
 (.seq
 (rG 61440 [mv 34 9,mv 35 4,oO 36 .len [.tmp 35],bT 37 .lss 34 36])
 (.cond (.tmp 37)
 .skip
 (.exit 4)))
 (.seq
 (.block 5
 (.reg 69632 (some [0,1,3,3,15,31,63,3,131,511,1023,2047,2047,8191,16383,32767,2047,67583,262143,524287,1048575,2097151]) [mv 40 8,mv 41 40,mF 42 4 41,mF 43 9 41,oF 44 41 (.iaddr 4) [.tmp 42,.tmp 43],oF 45 41 (.faddr 0) [.tmp 44],oF 46 41 (.load 1 false) [.tmp 45],oF 47 41 (.faddr 0) [.tmp 7],oF 48 41 (.load 1 false) [.tmp 47],oF 49 41 (.bin .eql) [.tmp 46,.tmp 48],mF 50 49 41,mG 51 4 50,mG 52 9 50,oG 53 50 (.iaddr 4) [.tmp 51,.tmp 52],oG 54 50 (.faddr 1) [.tmp 53],oG 55 50 (.load 1 false) [.tmp 54],oG 56 50 (.faddr 1) [.tmp 7],oG 57 50 (.load 1 false) [.tmp 56],oG 58 50 (.bin .eql) [.tmp 55,.tmp 57],oF 59 41 .pick [.tmp 50,.tmp 58,.cst (.t (.bool false))],oO 60 .pick [.tmp 41,.cst (.t (.bool true)),.tmp 59],mv 8 60]))
 (rG 65536 [mv 38 9,bN 39 .add 38 1,mv 9 39])))
def wJ (n_draw_Codes_Image:Nat):AC:=
 (.seq
 (.seq
 (rG 40960 [mv 27 6,bN 28 .gtr 27 0])
 (.cond (.tmp 28)
 .skip
 (.exit 2)))
 (.seq
 (.block 3
 (.seq
 (rG 49152 [mv 31 3,mv 32 5,cL 33 n_draw_Codes_Image true [.tmp 31,.tmp 32],oO 7 (.new 4 [(.agg [(.t (.int .i64 0)),(.t (zN [])),(.t (.int .i64 0)),.nil])]) [],oS 4 7 33])
 (.seq
 (rG 53248 [mC 8 (.t (.bool false))])
 (.seq
 (.seq
 (rG 57344 [mC 9 (.t (.int .i64 0))])
 (.block 4
 (.loop jV)))
 (.seq
 (rG 73728 [mv 61 8,oO 62 (.un .not) [.tmp 61]])
 (.cond (.tmp 62)
 (rG 77824 [mv 63 4,oO 64 (.load 4 true) [.tmp 7],oO 65 (.bslice 4 1 (.agg [(.t (.int .i64 0)),(.t (zN [])),(.t (.int .i64 0)),.nil]) [0]) [.tmp 64],oO 66 (.append 4 56) [.tmp 63,.tmp 65],mv 4 66])
 .skip))))))
 (rG 45056 [mv 29 6,bN 30 .sub 29 1,mv 6 30])))
def vC (n_draw_Codes_Next n_draw_Codes_Image:Nat):AC:=
 (.seq
 (.seq
 (rG 20480 [mv 12 5,bN 13 .leq 12 4])
 (.cond (.tmp 13)
 .skip
 (.exit 0)))
 (.seq
 (.block 1
 (.seq
 (rG 28672 [mv 16 3,cL 17 n_draw_Codes_Next true [.tmp 16,.cst (.t (.int .i64 3))],mv 6 17])
 (.seq
 (.seq
 (rG 32768 [mv 18 5,bN 19 .eql 18 1,mv 20 19,mF 21 5 20,oF 22 20 (.bin .eql) [.tmp 21,.cst (.t (.int .i64 3))],oO 23 .pick [.tmp 20,.cst (.t (.bool true)),.tmp 22]])
 (.cond (.tmp 23)
 (rG 36864 [mv 24 3,cL 25 n_draw_Codes_Next true [.tmp 24,.cst (.t (.int .i64 2))],oO 26 (.bin .add) [.cst (.t (.int .i64 1)),.tmp 25],mv 6 26])
 .skip))
 (.block 2
 (.loop (wJ n_draw_Codes_Image))))))
 (rG 24576 [mv 14 5,bN 15 .add 14 1,mv 5 15])))
def qHm (n_draw_New n_draw_Codes_Next n_draw_Codes_Image:Nat):AC:=
 (.seq
 (rG 4096 [mC 2 .nil])
 (.seq
 (rG 8192 [mv 10 0,cL 11 n_draw_New true [.tmp 10,.cst (.t (.int .i64 200))],mv 3 11])
 (.seq
 (rG 12288 [mC 4 .nil])
 (.seq
 (.seq
 (rG 16384 [mC 5 (.t (.int .i64 1))])
 (.block 0
 (.loop (vC n_draw_Codes_Next n_draw_Codes_Image))))
 (.seq
 (rG 81920 [mv 67 4,mv 2 67])
 .ret)))))
end Go.Eng
end
section
set_option maxRecDepth 20000
set_option maxHeartbeats 64000000
namespace Go.Eng
theorem zF3 {l:List Im} {a v:Int} {s p:List UInt8}:List.map imT (l++[(a,s,v,p)])=List.map imT l++[.agg [.int .i64 a,zN s,.int .i64 v,.sl (p.map qA)]]:=by simp[zC]
def chT:Nat→Int→List Im×Cd→List Im×Cd
 | 0,_,s=>s
 | k+1,r,s=>chT k (r+1) (chR r s)
theorem zZb {b:List UInt8}:chG b=(chT 4 1 ([],(b.take 200,0))).1:=rfl
def qQf:Ct where
 α:=List UInt8
 as x:=[.t (.sl (x.map qA))]
 ins _:=[]
 pre x:=x.length≤9223372036854775807
 r x:= .t (.sl ((chG x).map imT))
 outs _:=[]
 inj:=by
  intro a b h _
  simp only[List.cons.injEq,V.t.injEq,T.sl.injEq,and_true,qP] at h
  subst h;exact⟨rfl,rfl⟩
theorem zEj {b:List UInt8} (h:b.length≤9223372036854775807):qQf.fs [.t (.sl (b.map qA))] []=some (.t (.sl ((chG b).map imT)),[]):=qQf.eq b h
theorem qZ0 {l:List Im} {x y:Im} {i:Nat} (h:l[i]?=some y):isD (l.take (i+1)) x=(isD (l.take i) x||(decide (y.1=x.1)&&decide (y.2.1=x.2.1))):=by
 unfold isD
 rw[List.take_add_one,h,List.any_append];simp
theorem qVt (tab:Tab) (gl:Gl) (n1 n2 n3:Nat) (h1:tab.look n1=some qGp.fs) (h2:tab.look n2=some qCf.fs) (h3:tab.look n3=some qTp.fs) (b:List UInt8) (hb:b.length≤9223372036854775807) :
  (qHm n1 n2 n3).wp tab gl (qE 0 [.t (.sl (b.map qA))]) (qE 0 []) (jK [(2,none)] 0 (fun r o=>r = .t (.sl ((chG b).map imT))∧o=[])):=by
 have hN:qGp.fs [.t (.sl (b.map qA)),.t (.int .i64 200)] []=_:=zEk (b:=b) (n:=200) ⟨hb,by omega⟩
 have okN:qB1 (b.take 200,0):=⟨Nat.zero_le _,by simp only[List.length_take];omega⟩
 rw[zZb]
 simp only[cdO,Int.natCast_zero] at hN
 generalize b.take 200=b0 at *
 generalize hP:chT 4 1 ([],(b0,0))=P
 simp (disch:=omega) only [go_sem,seval,qHm,h1,hN]
 refine qDl (σ:=Nat×List Im×Cd) (fun s=>qB1 s.2.2∧s.1≤4∧s.2.1.length≤2*(4-s.1)∧chT s.1 (5-s.1:Nat) s.2=P) (fun s=>s.1)
  (fun s=>[(3,.ref 8208 0 0),(4,.sl 9000 0 s.2.1.length),(5,.t (.int .i64 (5-s.1:Nat)))]) (fun s=>[(9000,.live 4 ((s.2.1.map imT).map V.t) true false),(8208,cdO s.2.2)]) (4,[],(b0,0)) ⟨okN,by simp,by simp,hP⟩ ?_ ?_
 ·refine qQ.cv0 (hv:=[(9000,.live 4 [] true false)]) (ho:=[(8208,cdO (b0,0))]) id ?_ ?_ rfl rfl
  all_goals simp (disch:=omega) only [go_sem,seval,id,Nat.reduceSub]
 ·rintro⟨k,l,⟨b1,a1⟩⟩ ⟨ok1,hk,hl,hp⟩
  simp only at ok1 hk hl hp ⊢
  cases k with
  | zero=>
   rw[←hp]
   simp (disch:=omega) only [go_sem,seval,vC,chT,List.take_length]
  | succ k=>
   obtain⟨r,hr⟩ : ∃ r:Nat,5-(k+1)=r:=⟨_,rfl⟩
   rw[hr] at hp ⊢
   have r4:1≤r∧r≤4:=by omega
   obtain⟨i3,b2,a2,e3,l3,ok2,hX3⟩:=nxF 3 ok1 (by omega) (by omega)
   simp only[show ((3:Nat):Int)=3 from rfl] at hX3
   have main : ∀ (m:Nat) (b3:List UInt8) (a3:Nat) (fs:Fs) (hs:Hs),qB1 (b3,a3)→m≤2→chK (b1,a1) (r:Int)=(m,(b3,a3))→qQ fs hs [(3,.ref 8208 0 0),(4,.sl 9000 0 l.length),(5,.t (.int .i64 r)),(6,.t (.int .i64 m))] [(9000,.live 4 ((l.map imT).map V.t) true false),(8208,cdO (b3,a3))]→
     qN2 tab gl (wJ n3) fs hs (qMp 2 (qMp 1 (zTv tab gl (rG 24576 [mv 14 5,bN 15 .add 14 1,mv 5 15]) (zU9 (fun s:Nat×List Im×Cd=>qB1 s.2.2∧s.1≤4∧s.2.1.length≤2*(4-s.1)∧chT s.1 (5-s.1:Nat) s.2=P) (fun s=>s.1)
  (fun s=>[(3,.ref 8208 0 0),(4,.sl 9000 0 s.2.1.length),(5,.t (.int .i64 (5-s.1:Nat)))]) (fun s=>[(9000,.live 4 ((s.2.1.map imT).map V.t) true false),(8208,cdO s.2.2)]) (k+1,l,(b1,a1)) (qMp 0 (zTv tab gl ((rG 81920 [mv 67 4,mv 2 67]).seq AC.ret) (jK [(2,none)] 0 (fun r o=>r = .t (.sl (P.1.map imT))∧o=[])))))))):=by
    intro m b3 a3 fs hs ok3 hm hck hw
    refine kT hw ?_
    have hT:chT k ((5-k:Nat):Int) (chN m (b3,a3) r l)=P:=by
     have:chT (k+1) (r:Int) (l,(b1,a1))=chT k ((r:Int)+1) (chR r (l,(b1,a1))):=rfl
     rw[this] at hp
     unfold chR at hp
     simp only at hp
     rw[hck] at hp
     rw[show ((5-k:Nat):Int)=(r:Int)+1 by omega]
     exact hp
    generalize hQ:chN m (b3,a3) r l=Q at *
    refine qDl (σ:=Nat×Cd×List Im) (fun s=>qB1 s.2.1∧s.2.2.length+s.1≤8∧s.2.2.length+s.1≤l.length+m∧chN s.1 s.2.1 r s.2.2=Q) (fun s=>s.1)
     (fun s=>[(3,.ref 8208 0 0),(4,.sl 9000 0 s.2.2.length),(5,.t (.int .i64 r)),(6,.t (.int .i64 (s.1:Nat)))]) (fun s=>[(9000,.live 4 ((s.2.2.map imT).map V.t) true false),(8208,cdO s.2.1)]) (m,(b3,a3),l) ⟨ok3,by simp only;omega,Nat.le_refl _,hQ⟩ qQ.refl ?_
    rintro⟨j,⟨b4,a4⟩,l4⟩ ⟨ok4,hj,hj2,hq⟩
    simp only at ok4 hj hj2 hq ⊢
    cases j with
    | zero=>
     have hq':Q=(l4,(b4,a4)):=hq.symm
     rw[hq'] at hT
     simp (disch:=omega) only [go_sem,seval,wJ]
     refine zBp.of (k,l4,(b4,a4)) ⟨ok4,by simp only;omega,by simp only;omega,hT⟩ (by simp) (qQ.rd id ?_ ?_ rfl)
     all_goals simp (disch:=omega) only [go_sem,seval,id,show ((5-k:Nat):Int)=(r:Int)+1 by omega]
    | succ j=>
     have hD:=zUl (c:=(b4,a4)) (r:=r) ⟨ok4,r4⟩
     have lok:=zFq (r:=(r:Int)) ok4
     have hq':chN j (imG (b4,a4) r).2 r (if isD l4 (imG (b4,a4) r).1 then l4 else l4++[(imG (b4,a4) r).1])=Q:=hq
     generalize imG (b4,a4) (r:Int)=w at *
     obtain⟨⟨xa,xs,xv,xp⟩,b5,a5⟩:=w
     simp only[cdO] at *
     have hkk:((j+1:Nat):Int)-1=j:=by omega
     simp (disch:=omega) only [go_sem,seval,wJ,zC,h3,hD]
     refine qD l4.length (fun i=>[(3,.ref 8208 0 0),(4,.sl 9000 0 l4.length),(5,.t (.int .i64 r)),(6,.t (.int .i64 ((j+1:Nat):Int))),(7,.ref 49200 0 0),(8,.t (.bool (isD (l4.take i) (xa,xs,xv,xp)))),(9,.t (.int .i64 (i:Nat)))])
      (fun _=>[(49200,.live 4 [.t (imT (xa,xs,xv,xp))] true true),(9000,.live 4 ((l4.map imT).map V.t) true false),(8208,.live 2 [.t (.agg [.sl (b5.map qA),.int .i64 (a5:Int)])] true true)]) ?_ (fun i hi=>?_)
     ·have h0:isD [] (xa,xs,xv,xp)=false:=rfl
      refine qQ.rd id ?_ ?_ rfl
      all_goals simp (disch:=omega) only [go_sem,seval,id,zC,h0,List.take_zero]
     ·by_cases hlt:i<l4.length
      ·obtain⟨⟨ya,ys,yv,yp⟩,hy⟩ : ∃ y,l4[i]?=some y:=⟨l4[i],by simp[hlt]⟩
       have hst:=qZ0 (x:=(xa,xs,xv,xp)) hy
       simp only at hst
       cases hb0:isD (l4.take i) (xa,xs,xv,xp)
       ·rw[hb0,Bool.false_or] at hst
        by_cases q1:ya=xa
        ·subst q1
         by_cases q2:ys=xs
         ·subst q2
          rw[decide_eq_true rfl,decide_eq_true rfl] at hst
          simp (disch:=omega) only [go_sem,seval,jV,zC,hy,hb0,beq_self_eq_true]
          repeat refine And.intro rfl ?_
          refine⟨hlt,qQ.rd id ?_ ?_ rfl⟩
          all_goals simp (disch:=omega) only [go_sem,seval,id,hst,zC]
         ·rw[decide_eq_true rfl,decide_eq_false q2] at hst
          have q2b:decide (ys=xs)=false:=decide_eq_false q2
          simp (disch:=omega) only [go_sem,seval,jV,zC,hy,hb0,beq_self_eq_true,q2b]
          repeat refine And.intro rfl ?_
          refine⟨hlt,qQ.rd id ?_ ?_ rfl⟩
          all_goals simp (disch:=omega) only [go_sem,seval,id,hst,zC]
        ·rw[decide_eq_false q1,Bool.false_and] at hst
         have q1b:(ya==xa)=false:=by simpa using q1
         simp (disch:=omega) only [go_sem,seval,jV,zC,hy,hb0,q1b]
         repeat refine And.intro rfl ?_
         refine⟨hlt,qQ.rd id ?_ ?_ rfl⟩
         all_goals simp (disch:=omega) only [go_sem,seval,id,hst,zC]
       ·rw[hb0,Bool.true_or] at hst
        simp (disch:=omega) only [go_sem,seval,jV,zC,hy,hb0]
        repeat refine And.intro rfl ?_
        refine⟨hlt,qQ.rd id ?_ ?_ rfl⟩
        all_goals simp (disch:=omega) only [go_sem,seval,id,hst,zC]
      ·have e:i=l4.length:=by omega
       subst e
       rw[List.take_length]
       cases hb0:isD l4 (xa,xs,xv,xp)
       ·rw[hb0,if_neg (by decide)] at hq'
        simp (disch:=omega) only [go_sem,seval,jV,hb0,hkk,zC]
        refine zBp.of (j,(b5,a5),l4++[(xa,xs,xv,xp)]) ⟨lok,by simp;omega,by simp;omega,hq'⟩ (by simp) (qQ.rd (fun j=>if j=9000 then 77872 else j) ?_ ?_ rfl)
        all_goals simp (disch:=omega) only [go_sem,seval,id,zC,zF3]
       ·rw[hb0,if_pos rfl] at hq'
        simp (disch:=omega) only [go_sem,seval,jV,hb0,hkk]
        refine zBp.of (j,(b5,a5),l4) ⟨lok,by simp only;omega,by simp only;omega,hq'⟩ (by simp) (qQ.rd id ?_ ?_ rfl)
        all_goals simp (disch:=omega) only [go_sem,seval,id]
   by_cases hr13:r=1∨r=3
   ·obtain⟨i2,b3,a3,e2,l2,ok3,hX2⟩:=nxF 2 ok2 (by omega) (by omega)
    simp only[show ((2:Nat):Int)=2 from rfl] at hX2
    have hck:chK (b1,a1) (r:Int)=(1+i2,(b3,a3)):=by
     unfold chK
     rw[if_pos (by omega),e3]
     simp only
     rw[e2]
    rcases hr13 with rfl | rfl
    ·simp (disch:=omega) only [go_sem,seval,vC,h2,hX3,hX2]
     refine main (1+i2) b3 a3 _ _ ok3 (by omega) hck (qQ.rd id ?_ ?_ rfl)
     all_goals simp (disch:=omega) only [go_sem,seval,id]
    ·simp (disch:=omega) only [go_sem,seval,vC,h2,hX3,hX2]
     refine main (1+i2) b3 a3 _ _ ok3 (by omega) hck (qQ.rd id ?_ ?_ rfl)
     all_goals simp (disch:=omega) only [go_sem,seval,id]
   ·have hck:chK (b1,a1) (r:Int)=(i3,(b2,a2)):=by
     unfold chK
     rw[if_neg (by omega),e3]
    have q1:((r:Int)==1)=false:=by simpa using (by omega : ¬ (r:Int)=1)
    have q3:((r:Int)==3)=false:=by simpa using (by omega : ¬ (r:Int)=3)
    have rle:(r:Int)≤4:=by omega
    simp (disch:=omega) only [go_sem,seval,vC,h2,hX3,q1,q3,rle]
    refine main i3 b2 a2 _ _ ok2 (by omega) hck (qQ.rd id ?_ ?_ rfl)
    all_goals simp (disch:=omega) only [go_sem,seval,id]
theorem qLr {l m:List Im}:(l.map imT=m.map imT)=(l=m):=propext ⟨wB (fun _ _=>qDk),fun h=>by rw[h]⟩
def zIo (l:List Im):Prop:=l.length≤9223372036854775807 ∧ ∀ x∈l,imM x
def qMy:Ct where
 α:=List Im
 as x:=[.t (.sl (x.map imT))]
 ins _:=[]
 pre x:=qQm x
 r x:= .t (.int .i64 (qI6 x))
 outs _:=[]
 inj:=by
  intro a b h _
  simp only[List.cons.injEq,V.t.injEq,T.sl.injEq,and_true,qLr] at h
  subst h;exact⟨rfl,rfl⟩
theorem zIo.x {l:List Im} (h:zIo l):qQm l:=⟨h.1,fun x hx=>(h.2 x hx).x⟩
theorem zEa {l:List Im} (h:qQm l):qMy.fs [.t (.sl (l.map imT))] []=some (.t (.int .i64 (qI6 l)),[]):=qMy.eq l h
theorem zUf {l:List Im} (h:zIo l):qMy.fs [.t (.sl (l.map imT))] []=some (.t (.int .i64 (qI6 l)),[]):=zEa h.x
theorem zZp {l:List Im} {y d:Im} {i:Nat} (h:l[i]?=some y):(l.take (i+1)).getLastD d=y:=by
 rw[List.take_add_one,h];simp
theorem zVb {l:List Im} {x y:Im} {k i:Nat} (h:l[k]?=some y) (hk:k<i) (h1:y.1=x.1) (h2:y.2.1=x.2.1):isD (l.take i) x=true:=by
 unfold isD
 refine List.any_eq_true.2 ⟨y,?_,by simp[h1,h2]⟩
 refine List.mem_of_getElem? (i:=k) ?_
 rw[List.getElem?_take,if_pos hk,h]
theorem qLj {l:List Im} {y:Im} {i:Nat} {p:Im→Bool} (h:l[i]?=some y):(l.take (i+1)).any p=((l.take i).any p||p y):=by
 rw[List.take_add_one,h,List.any_append];simp
end Go.Eng
end
section
namespace Go.Eng
def zX:AC:=
 (.seq
 (rG 57344 [bT 47 .lss 46 45])
 (.seq
 (.cond (.tmp 47)
 .skip
 (.exit 2))
 (.seq
 (.block 3
 (.seq
 (rG 61440 [oO 48 (.iaddr 4) [.tmp 44,.tmp 46],oO 49 (.load 4 true) [.tmp 48],oO 8 (.new 4 [(.agg [(.t (.int .i64 0)),(.t (zN [])),(.t (.int .i64 0)),.nil])]) [],oS 4 8 49])
 (.seq
 (rG 65536 [oO 50 (.faddr 0) [.tmp 8],oO 51 (.load 1 false) [.tmp 50],oO 52 (.faddr 0) [.tmp 5],oO 53 (.load 1 false) [.tmp 52],bT 54 .eql 51 53,mv 55 54,oG 56 55 (.faddr 1) [.tmp 8],oG 57 55 (.load 1 false) [.tmp 56],oG 58 55 (.faddr 1) [.tmp 5],oG 59 55 (.load 1 false) [.tmp 58],oG 60 55 (.bin .eql) [.tmp 57,.tmp 59],oO 61 .pick [.tmp 55,.tmp 60,.cst (.t (.bool false))]])
 (.cond (.tmp 61)
 (.seq
 (rG 69632 [mC 2 (.t (.int .i64 42))])
 .ret)
 .skip))))
 (rG 73728 [bN 62 .add 46 1,mv 46 62]))))
def zW (n_image_Check:Nat):AC:=
 (.seq
 (rG 24576 [bT 20 .lss 19 18])
 (.seq
 (.cond (.tmp 20)
 .skip
 (.exit 0))
 (.seq
 (.block 1
 (.seq
 (rG 28672 [mv 21 19,oO 22 (.iaddr 4) [.tmp 17,.tmp 19],oO 23 (.load 4 true) [.tmp 22],oO 5 (.new 4 [(.agg [(.t (.int .i64 0)),(.t (zN [])),(.t (.int .i64 0)),.nil])]) [],mv 4 21,oS 4 5 23])
 (.seq
 (.seq
 (rG 32768 [oO 24 (.load 4 true) [.tmp 5],cL 25 n_image_Check false [.tmp 24],mv 6 25])
 (.seq
 (rG 36864 [mv 26 6,bN 27 .neq 26 0])
 (.cond (.tmp 27)
 (.seq
 (rG 40960 [mv 28 6,mv 2 28])
 .ret)
 .skip)))
 (.seq
 (.seq
 (.reg 45056 (some [0,1,3,7,15,7,7,71,231,487,999,2047,4095]) [mv 29 4,bN 30 .gtr 29 0,mv 31 30,oG 32 31 (.faddr 0) [.tmp 5],oG 33 31 (.load 1 false) [.tmp 32],mG 34 0 31,mG 35 4 31,oG 36 31 (.bin .sub) [.tmp 35,.cst (.t (.int .i64 1))],oG 37 31 (.iaddr 4) [.tmp 34,.tmp 36],oG 38 31 (.faddr 0) [.tmp 37],oG 39 31 (.load 1 false) [.tmp 38],oG 40 31 (.bin .lss) [.tmp 33,.tmp 39],oO 41 .pick [.tmp 31,.tmp 40,.cst (.t (.bool false))]])
 (.cond (.tmp 41)
 (.seq
 (rG 49152 [mC 2 (.t (.int .i64 41))])
 .ret)
 .skip))
 (.seq
 (.seq
 (rG 53248 [mv 42 0,mv 43 4,oO 44 (.slice 4 false true false) [.tmp 42,.tmp 43],oO 45 .len [.tmp 44],mC 46 (.t (.int .i64 0))])
 (.block 2
 (.loop zX)))
 (rG 77824 [oO 63 (.faddr 0) [.tmp 5],oO 64 (.load 1 false) [.tmp 63],oO 65 (.aaddr 5 1) [.tmp 3,.tmp 64],⟨none,(.op (.store 1)),[.tmp 65,.cst (.t (.bool true))],none⟩]))))))
 (rG 81920 [bN 66 .add 19 1,mv 19 66]))))
def yU (n_image_Check:Nat):AC:=
 (.seq
 (rG 4096 [mC 2 (.t (.int .i64 0))])
 (.seq
 (.seq
 (rG 8192 [mv 9 0,oO 10 .len [.tmp 9],bN 11 .eql 10 0,mv 12 11,mF 13 0 12,oF 14 12 .len [.tmp 13],oF 15 12 (.bin .gtr) [.tmp 14,.cst (.t (.int .i64 8))],oO 16 .pick [.tmp 12,.cst (.t (.bool true)),.tmp 15]])
 (.cond (.tmp 16)
 (.seq
 (rG 12288 [mC 2 (.t (.int .i64 1))])
 .ret)
 .skip))
 (.seq
 (rG 16384 [oO 3 (.new 1 [(.t (.bool false)),(.t (.bool false)),(.t (.bool false)),(.t (.bool false)),(.t (.bool false))]) []])
 (.seq
 (.seq
 (rG 20480 [mv 17 0,oO 18 .len [.tmp 17],mC 19 (.t (.int .i64 0))])
 (.block 0
 (.loop (zW n_image_Check))))
 (.seq
 (.seq
 (rG 86016 [oO 67 (.aaddr 5 1) [.tmp 3,.cst (.t (.int .i64 1))],oO 68 (.load 1 false) [.tmp 67],oO 69 (.un .not) [.tmp 68],mv 70 69,oF 71 70 (.aaddr 5 1) [.tmp 3,.cst (.t (.int .i64 3))],oF 72 70 (.load 1 false) [.tmp 71],oF 73 70 (.un .not) [.tmp 72],oO 74 .pick [.tmp 70,.cst (.t (.bool true)),.tmp 73]])
 (.cond (.tmp 74)
 (.seq
 (rG 90112 [mC 2 (.t (.int .i64 40))])
 .ret)
 .skip))
 (.seq
 (rG 94208 [mC 2 (.t (.int .i64 0))])
 .ret))))))
def wC (n_image_Register n_event_Make:Nat):AC:=
 (.seq
 (rG 45056 [bT 48 .lss 47 46])
 (.seq
 (.cond (.tmp 48)
 .skip
 (.exit 2))
 (.seq
 (.block 3
 (.seq
 (rG 49152 [oO 49 (.iaddr 1) [.tmp 45,.tmp 47],oO 50 (.load 1 false) [.tmp 49],mv 9 50])
 (.reg 53248 (some [0,1,0,4,12,28,0,64,192,0,0,1984,4032,8188,16383,32767]) [oO 51 (.faddr 0) [.tmp 7],oO 52 (.load 1 false) [.tmp 51],oO 53 (.faddr 0) [.tmp 7],oO 54 (.load 1 false) [.tmp 53],oO 55 (.aaddr 5 1) [.tmp 5,.tmp 54],oO 56 (.load 1 false) [.tmp 55],oO 57 (.faddr 0) [.tmp 7],oO 58 (.load 1 false) [.tmp 57],cL 59 n_image_Register false [.tmp 58],mv 60 1,mv 61 9,cL 62 n_event_Make true [.tmp 59,.cst (.t (.int .i64 3)),.tmp 60,.tmp 61],oO 63 (.bslice 4 1 (.agg [(.t (.int .i64 0)),(.t (.int .i64 0)),.nil,.nil]) [0]) [.tmp 62],oO 64 (.append 4 64) [.tmp 56,.tmp 63],oO 65 (.aaddr 5 1) [.tmp 5,.tmp 52],oS 1 65 64])))
 (rG 57344 [bN 66 .add 47 1,mv 47 66]))))
def jG (n_event_OfImage n_image_Lines n_image_Register n_event_Make:Nat):AC:=
 (.seq
 (rG 24576 [bT 26 .lss 25 24])
 (.seq
 (.cond (.tmp 26)
 .skip
 (.exit 0))
 (.seq
 (.block 1
 (.seq
 (rG 28672 [oO 27 (.iaddr 4) [.tmp 23,.tmp 25],oO 28 (.load 4 true) [.tmp 27],oO 7 (.new 4 [(.agg [(.t (.int .i64 0)),(.t (zN [])),(.t (.int .i64 0)),.nil])]) [],oS 4 7 28])
 (.seq
 (.seq
 (rG 32768 [oO 29 (.faddr 0) [.tmp 7],oO 30 (.load 1 false) [.tmp 29],bN 31 .neq 30 4])
 (.cond (.tmp 31)
 (.seq
 (.reg 36864 (some [0,1,0,4,12,28,0,0,192,448,1020,2047,4095]) [oO 32 (.faddr 0) [.tmp 7],oO 33 (.load 1 false) [.tmp 32],oO 34 (.faddr 0) [.tmp 7],oO 35 (.load 1 false) [.tmp 34],oO 36 (.aaddr 5 1) [.tmp 5,.tmp 35],oO 37 (.load 1 false) [.tmp 36],oO 38 (.load 4 true) [.tmp 7],mv 39 1,cL 40 n_event_OfImage true [.tmp 38,.tmp 39],oO 41 (.bslice 4 1 (.agg [(.t (.int .i64 0)),(.t (.int .i64 0)),.nil,.nil]) [0]) [.tmp 40],oO 42 (.append 4 64) [.tmp 37,.tmp 41],oO 43 (.aaddr 5 1) [.tmp 5,.tmp 33],oS 1 43 42])
 (.exit 1))
 .skip))
 (.seq
 (rG 40960 [oO 44 (.load 4 true) [.tmp 7],cL 45 n_image_Lines true [.tmp 44],oO 46 .len [.tmp 45],mC 47 (.t (.int .i64 0))])
 (.block 2
 (.loop (wC n_image_Register n_event_Make)))))))
 (rG 61440 [bN 67 .add 25 1,mv 25 67]))))
def wD (n_event_Make:Nat):AC:=
 (.seq
 (rG 73728 [bN 74 .lss 73 8])
 (.seq
 (.cond (.tmp 74)
 .skip
 (.exit 4))
 (.seq
 (.block 5
 (.seq
 (rG 77824 [mv 75 73,mv 11 75])
 (rG 81920 [mv 76 10,mv 77 11,mv 78 1,oO 79 (.mkslice 1 1 (.t (qA 0))) [.cst (.t (.int .i64 4)),.cst (.t (.int .i64 4))],cL 80 n_event_Make true [.tmp 77,.cst (.t (.int .i64 2)),.tmp 78,.tmp 79],oO 81 (.bslice 4 1 (.agg [(.t (.int .i64 0)),(.t (.int .i64 0)),.nil,.nil]) [0]) [.tmp 80],oO 82 (.append 4 64) [.tmp 76,.tmp 81],mv 10 82])))
 (rG 86016 [bN 83 .add 73 1,mv 73 83]))))
def yR (n_image_CheckChain n_event_OfImage n_image_Lines n_image_Register n_event_Make:Nat):AC:=
 (.seq
 (rG 4096 [mC 4 .nil])
 (.seq
 (.seq
 (rG 8192 [mv 12 1,bN 13 .lss 12 1,mv 14 13,mF 15 1 14,oF 16 14 (.bin .gtr) [.tmp 15,.cst (.t (.int .i64 3))],oO 17 .pick [.tmp 14,.cst (.t (.bool true)),.tmp 16],mv 18 17,mF 19 0 18,cF 20 18 n_image_CheckChain false [.tmp 19],oF 21 18 (.bin .neq) [.tmp 20,.cst (.t (.int .i64 0))],oO 22 .pick [.tmp 18,.cst (.t (.bool true)),.tmp 21]])
 (.cond (.tmp 22)
 (.seq
 (rG 12288 [mC 4 .nil])
 .ret)
 .skip))
 (.seq
 (rG 16384 [oO 5 (.new 1 [.nil,.nil,.nil,.nil,.nil]) []])
 (.seq
 (.seq
 (rG 20480 [mv 23 0,oO 24 .len [.tmp 23],mC 25 (.t (.int .i64 0))])
 (.block 0
 (.loop (jG n_event_OfImage n_image_Lines n_image_Register n_event_Make))))
 (.seq
 (rG 65536 [oO 68 (.aaddr 5 1) [.tmp 5,.cst (.t (.int .i64 1))],oO 69 (.load 1 false) [.tmp 68],oO 70 (.aaddr 5 1) [.tmp 5,.cst (.t (.int .i64 2))],oO 71 (.load 1 false) [.tmp 70],oO 72 (.append 4 64) [.tmp 69,.tmp 71],mv 10 72])
 (.seq
 (.seq
 (rG 69632 [mC 73 (.t (.int .i64 0))])
 (.block 4
 (.loop (wD n_event_Make))))
 (.seq
 (rG 90112 [mv 84 10,oO 85 (.aaddr 5 1) [.tmp 5,.cst (.t (.int .i64 3))],oO 86 (.load 1 false) [.tmp 85],oO 87 (.append 4 64) [.tmp 84,.tmp 86],mv 10 87])
 (.seq
 (rG 94208 [mv 88 10,oO 89 (.aaddr 5 1) [.tmp 5,.cst (.t (.int .i64 4))],oO 90 (.load 1 false) [.tmp 89],oO 91 (.append 4 64) [.tmp 88,.tmp 90],mv 4 91])
 .ret))))))))
def jW (n_image_CheckChain n_predict_Events n_replay_Registers:Nat):AC:=
 (.seq
 (rG 4096 [oO 4 (.new 2 [(.agg [.nil,(.t (.int .i64 0))])]) [],mC 5 (.t (.int .i64 0))])
 (.seq
 (.seq
 (rG 8192 [mv 7 0,cL 8 n_image_CheckChain false [.tmp 7],mv 6 8])
 (.seq
 (rG 12288 [mv 9 6,bN 10 .neq 9 0])
 (.cond (.tmp 10)
 (.seq
 (rG 16384 [oO 11 (.build [.nil,(.t (.int .i64 0))] []) [],mv 12 6,oS 2 4 11,mv 5 12])
 .ret)
 .skip)))
 (.seq
 (.seq
 (rG 20480 [mv 13 1,bN 14 .lss 13 1,mv 15 14,mF 16 1 15,oF 17 15 (.bin .gtr) [.tmp 16,.cst (.t (.int .i64 3))],oO 18 .pick [.tmp 15,.cst (.t (.bool true)),.tmp 17]])
 (.cond (.tmp 18)
 (.seq
 (rG 24576 [oO 19 (.build [.nil,(.t (.int .i64 0))] []) [],oS 2 4 19,mC 5 (.t (.int .i64 1))])
 .ret)
 .skip))
 (.seq
 (rG 28672 [mv 20 1,mv 21 0,mv 22 1,cL 23 n_predict_Events true [.tmp 21,.tmp 22],oO 24 (.build [(.t (.int .i64 0)),(.t (.int .i64 0)),.nil] [(0,1),(2,1)]) [.tmp 20,.tmp 23],cL 25 n_replay_Registers true [.tmp 24],oO 26 (.extract 0) [.tmp 25],oO 27 (.extract 1) [.tmp 25],oS 2 4 26,mv 5 27])
 .ret))))
end Go.Eng
end
section
set_option maxRecDepth 20000
set_option maxHeartbeats 64000000
namespace Go.Eng
def qPj (l:List Im):List V:=[.t (.bool false),.t (.bool (l.any fun y=>decide (y.1=1))),.t (.bool (l.any fun y=>decide (y.1=2))),.t (.bool (l.any fun y=>decide (y.1=3))),.t (.bool (l.any fun y=>decide (y.1=4)))]
theorem zI {l:List Im}:qTf 4 (List.map imT l)=true:=by
 simp only[qTf,List.all_map,List.all_eq_true]
 intro x _
 rfl
theorem qIx (tab:Tab) (gl:Gl) (n1:Nat) (h1:tab.look n1=some qKo.fs) (l:List Im) (hm:qQm l) :
  (yU n1).wp tab gl (qE 0 [.t (.sl (l.map imT))]) (qE 0 []) (jK [(2,none)] 0 (fun r o=>r = .t (.int .i64 (qI6 l))∧o=[])):=by
 have hlm:=hm.1
 by_cases c0:l.length=0
 ·have hr:qI6 l=1:=if_pos (.inl c0)
  rw[hr]
  simp (disch:=omega) only [go_sem,seval,yU,c0]
 have c0b:((l.length:Int)==0)=false:=by simpa using (by omega : ¬ (l.length:Int)=0)
 by_cases c8:8<l.length
 ·have hr:qI6 l=1:=if_pos (.inr c8)
  rw[hr]
  simp (disch:=omega) only [go_sem,seval,yU,c0b,c8]
 have hr:qI6 l=chF [] l:=if_neg (by omega)
 rw[hr]
 simp (disch:=omega) only [go_sem,seval,yU,c0b,c8]
 refine kU l.length (fun i=>chF (l.take i) (l.drop i)=chF [] l) (fun i=>[(0,.t (.sl (l.map imT))),(3,.ref 16384 0 0),(17,.t (.sl (l.map imT))),(18,.t (.int .i64 l.length)),(19,.t (.int .i64 (i:Nat)))]) (fun i=>[(16384,.live 1 (qPj (l.take i)) true true)]) rfl ?_ (fun i hi hE=>?_)
 ·refine qQ.rd id ?_ ?_ rfl
  all_goals simp (disch:=omega) only [go_sem,seval,id,qPj,List.take_zero,List.any_nil]
 ·by_cases hlt:i<l.length
  ·obtain⟨⟨xa,xs,xv,xp⟩,hx⟩ : ∃ x,l[i]?=some x:=⟨l[i],by simp[hlt]⟩
   have hd:l.drop i=(xa,xs,xv,xp)::l.drop (i+1):=by
    rw[List.drop_eq_getElem_cons hlt]
    have:=(List.getElem?_eq_some_iff.1 hx).2
    rw[this]
   have hxm:imX (xa,xs,xv,xp):=hm.2 _ (List.mem_of_getElem? hx)
   have hC:=zFr hxm
   rw[hd,chF] at hE
   by_cases hz:qEt (xa,xs,xv,xp)=0
   ·have hgood:=(xL hz).1
    simp only at hgood
    rw[if_neg (by omega)] at hE
    rw[hz] at hC
    have stp:qPj (l.take (i+1))=(qPj (l.take i)).set xa.toNat (.t (.bool true)):=by
     have f1:=qLj (p:=fun y=>decide (y.1=1)) hx
     have f2:=qLj (p:=fun y=>decide (y.1=2)) hx
     have f3:=qLj (p:=fun y=>decide (y.1=3)) hx
     have f4:=qLj (p:=fun y=>decide (y.1=4)) hx
     unfold qPj
     rw[f1,f2,f3,f4]
     rcases (show xa=1∨xa=2∨xa=3∨xa=4 by omega) with rfl | rfl | rfl | rfl<;>simp
    have fin : ∀ (S:List V),S=qPj (l.take i)→chF (l.take (i+1)) (l.drop (i+1))=chF [] l→True:=fun _ _ _=>trivial
    by_cases hi0:i=0
    ·subst hi0
     rw[if_neg (fun h=>h.1 (by simp)),if_neg (by simp)] at hE
     have ht:l.take 0++[(xa,xs,xv,xp)]=l.take (0+1):=by rw[List.take_add_one,hx];rfl
     rw[ht] at hE
     have hs0:qPj (l.take 0)=[.t (.bool false),.t (.bool false),.t (.bool false),.t (.bool false),.t (.bool false)]:=rfl
     rw[hs0] at stp ⊢
     simp (disch:=omega) only [go_sem,seval,zW,zC,hx,h1,hC,zI]
     repeat refine And.intro rfl ?_
     refine qU 1 ?_
     rcases (show xa=1∨xa=2∨xa=3∨xa=4 by omega) with rfl | rfl | rfl | rfl
     all_goals simp (disch:=omega) only [go_sem,seval,qG,zX,zC,hx,h1]
     all_goals repeat refine And.intro rfl ?_
     all_goals refine⟨hlt,hE,qQ.rd id ?_ ?_ rfl⟩
     all_goals simp (disch:=omega) only [go_sem,seval,id,stp]
    ·obtain⟨⟨ya,ys,yv,yp⟩,hy⟩ : ∃ y,l[i-1]?=some y:=⟨l[i-1],by simp⟩
     have hi1:((i:Int)-1)=((i-1:Nat):Int):=by omega
     have hla:=zZp (d:=(0,[],0,[])) hy
     rw[show i-1+1=i by omega] at hla
     have hne:l.take i≠[]:=by
      intro h
      have:=congrArg List.length h
      simp only[List.length_take,List.length_nil] at this
      omega
     have hgt:0<(i:Int):=by omega
     rw[hla] at hE
     by_cases ho:xa<ya
     ·rw[if_pos ⟨hne,ho⟩] at hE
      rw[←hE]
      generalize qPj (l.take i)=S at *
      simp (disch:=omega) only [go_sem,seval,zW,zC,hx,hy,h1,hC,hgt,hi1,ho]
      all_goals rfl
     ·rw[if_neg (fun h=>ho h.2)] at hE
      have hE':(if isD (l.take i) (xa,xs,xv,xp)=true then 42 else chF (l.take i++[(xa,xs,xv,xp)]) (l.drop (i+1)))=chF [] l:=hE
      have ht:l.take i++[(xa,xs,xv,xp)]=l.take (i+1):=by rw[List.take_add_one,hx];rfl
      rw[ht] at hE'
      obtain⟨s1,s2,s3,s4,hS⟩ : ∃ s1 s2 s3 s4:Bool,qPj (l.take i)=[.t (.bool false),.t (.bool s1),.t (.bool s2),.t (.bool s3),.t (.bool s4)]:=⟨_,_,_,_,rfl⟩
      rw[hS] at stp ⊢
      have hmt:List.take i (List.map imT l)=List.map imT (l.take i):=(List.map_take ..).symm
      have hlt2:(List.map imT (l.take i)).length=i:=by simp;omega
      simp (disch:=omega) only [go_sem,seval,zW,zC,hx,hy,h1,hC,hgt,hi1,ho,hmt,hlt2,zI]
      repeat refine And.intro rfl ?_
      refine kU i (fun k=>isD (l.take k) (xa,xs,xv,xp)=false) (fun k=>[(0,.t (.sl (l.map imT))),(3,.ref 16384 0 0),(5,.ref 28720 0 0),(17,.t (.sl (l.map imT))),(18,.t (.int .i64 l.length)),(19,.t (.int .i64 (i:Nat))),(44,.t (.sl ((l.take i).map imT))),(45,.t (.int .i64 (i:Nat))),(46,.t (.int .i64 (k:Nat)))]) (fun _=>[(28720,.live 4 [.t (.agg [.int .i64 xa,zN xs,.int .i64 xv,.sl (xp.map qA)])] true true),(16384,.live 1 [.t (.bool false),.t (.bool s1),.t (.bool s2),.t (.bool s3),.t (.bool s4)] true true)]) rfl ?_ (fun k hk hP=>?_)
      ·refine qQ.rd id ?_ ?_ rfl
       all_goals simp (disch:=omega) only [go_sem,seval,id]
      ·by_cases hkl:k<i
       ·obtain⟨⟨za,zs,zv,zp⟩,hzk⟩ : ∃ z,l[k]?=some z:=⟨l[k],by simp⟩
        have hzt:(l.take i)[k]?=some (za,zs,zv,zp):=by rw[List.getElem?_take,if_pos hkl,hzk]
        have hst2:=qZ0 (x:=(xa,xs,xv,xp)) hzk
        rw[hP,Bool.false_or] at hst2
        simp only at hst2
        by_cases q1:za=xa
        ·subst q1
         by_cases q2:zs=xs
         ·subst q2
          have hd2:=zVb (x:=(za,zs,xv,xp)) hzk hkl rfl rfl
          rw[hd2,if_pos rfl] at hE'
          rw[←hE']
          simp (disch:=omega) only [go_sem,seval,zX,zC,hzt,beq_self_eq_true]
          all_goals rfl
         ·rw[decide_eq_true rfl,decide_eq_false q2] at hst2
          have q2b:decide (zs=xs)=false:=decide_eq_false q2
          simp (disch:=omega) only [go_sem,seval,zX,zC,hzt,beq_self_eq_true,q2b]
          repeat refine And.intro rfl ?_
          refine⟨hkl,hst2,qQ.rd id ?_ ?_ rfl⟩
          all_goals simp (disch:=omega) only [go_sem,seval,id]
        ·rw[decide_eq_false q1,Bool.false_and] at hst2
         have q1b:(za==xa)=false:=by simpa using q1
         simp (disch:=omega) only [go_sem,seval,zX,zC,hzt,q1b]
         repeat refine And.intro rfl ?_
         refine⟨hkl,hst2,qQ.rd id ?_ ?_ rfl⟩
         all_goals simp (disch:=omega) only [go_sem,seval,id]
       ·have e:k=i:=by omega
        subst e
        rw[hP,if_neg (by decide)] at hE'
        rcases (show xa=1∨xa=2∨xa=3∨xa=4 by omega) with rfl | rfl | rfl | rfl
        all_goals simp (disch:=omega) only [go_sem,seval,zX,zC]
        all_goals repeat refine And.intro rfl ?_
        all_goals refine⟨hlt,hE',qQ.rd id ?_ ?_ rfl⟩
        all_goals simp (disch:=omega) only [go_sem,seval,id,stp]
   ·rw[if_pos hz] at hE
    rw[←hE]
    have hz':(qEt (xa,xs,xv,xp) != 0)=true:=by simpa using hz
    simp (disch:=omega) only [go_sem,seval,zW,zC,hx,h1,hC,hz']
  ·have e:i=l.length:=by omega
   subst e
   rw[List.take_length,List.drop_length,chF] at hE
   rw[←hE]
   rw[List.take_length]
   unfold qPj
   cases ha1:l.any (fun y=>decide (y.1=1))<;>cases ha3:l.any (fun y=>decide (y.1=3))
   all_goals simp (disch:=omega) only [go_sem,seval,zW]
theorem evM.x {e:Ev} (h:evM e):evX e:=⟨by have:=h.1.1;omega,fun x hx=>by have:=h.1.2 x hx;omega,by have:=h.2;omega⟩
def qMz:Ct where
 α:=Ev×Int
 as x:=[.t (evT x.1),.t (.int .i64 x.2)]
 ins _:=[]
 pre x:=evX x.1
 r x:= .t (.int .i64 (qEc x.1 x.2))
 outs _:=[]
 inj:=by
  rintro⟨e,a⟩ ⟨f,b⟩ h _
  simp only[List.cons.injEq,V.t.injEq,T.int.injEq,true_and,and_true] at h
  obtain⟨h1,rfl⟩:=h
  cases zEs h1
  exact⟨rfl,rfl⟩
theorem qPs (tab:Tab) (gl:Gl) (n1:Nat) (h1:tab.look n1=some qBb.fs) (e:Ev) (act:Int) (hm:evX e) :
  (zL n1).wp tab gl (qE 0 [.t (evT e),.t (.int .i64 act)]) (qE 0 []) (jK [(4,none)] 0 (fun r o=>r = .t (.int .i64 (qEc e act))∧o=[])):=by
 obtain⟨r,k,ds,d⟩:=e
 have hl:=hm.2.2
 have hd:=hm.1
 simp only at hl hd
 by_cases hb:zI4 r k act
 ·have hr:qEc (r,k,ds,d) act=1:=if_pos hb
  rw[hr]
  by_cases c1:act<1
  ·simp (disch:=omega) only [go_sem,seval,zL,yT,c1]
  by_cases c2:3<act
  ·simp (disch:=omega) only [go_sem,seval,zL,yT,c1,c2]
  by_cases c3:r<0
  ·simp (disch:=omega) only [go_sem,seval,zL,yT,c1,c2,c3]
  by_cases c4:11<r
  ·simp (disch:=omega) only [go_sem,seval,zL,yT,c1,c2,c3,c4]
  by_cases c5:k<1
  ·simp (disch:=omega) only [go_sem,seval,zL,yT,c1,c2,c3,c4,c5]
  have c6:5<k:=by unfold zI4 at hb;omega
  simp (disch:=omega) only [go_sem,seval,zL,yT,c1,c2,c3,c4,c5,c6]
 ·obtain⟨⟨c1,c2⟩,⟨c3,c4⟩,c5,c6⟩:=zUv hb
  by_cases c7:64<d.length
  ·have hr:qEc (r,k,ds,d) act=4:=by unfold qEc;rw[if_neg hb,if_pos c7]
   rw[hr]
   simp (disch:=omega) only [go_sem,seval,zL,yT,c1,c2,c3,c4,c5,c6,c7]
  ·have hr:qEc (r,k,ds,d) act=if zNv k act ds then 0 else 27:=by unfold qEc;rw[if_neg hb,if_neg c7]
   rw[hr]
   by_cases c8:ds.length=2
   ·obtain⟨d0,d1,rfl⟩:=jDt c8
    have m0:=hm.2.1 d0 (by simp)
    have m1:=hm.2.1 d1 (by simp)
    rw[qRs]
    rcases (show k=5∨k≠5 by omega) with rfl | hk
    ·simp only[zC9]
     by_cases l0:d0.length=0<;>by_cases l1:d1.length=0
     all_goals simp (disch:=omega) only [go_sem,seval,zL,yT,c1,c2,c3,c4,c5,c6,c7,List.map_cons,List.map_nil]
     all_goals refine qU 3 ?_
     all_goals simp (disch:=omega) only [go_sem,seval,qG,yQ,h1,l0,l1,Int.reduceFDiv]
    ·have k5:(k==5)=false:=by simpa using hk
     rcases (show act=1∨act=2∨act=3 by omega) with rfl | rfl | rfl
     ·have w0:qCn k 1 0=20:=if_pos ⟨hk,by decide⟩
      have w1:qCn k 1 1=0:=if_neg (by simp)
      rw[w0,w1]
      by_cases l0:d0.length=20<;>by_cases l1:d1.length=0
      all_goals simp (disch:=omega) only [go_sem,seval,zL,yT,c3,c4,c5,c6,c7,List.map_cons,List.map_nil]
      all_goals refine qU 3 ?_
      all_goals simp (disch:=omega) only [go_sem,seval,qG,yQ,h1,qN,qO,k5,l0,l1,Int.reduceFDiv]
     ·have w0:qCn k 2 0=0:=if_neg (by simp)
      have w1:qCn k 2 1=32:=if_pos ⟨hk,by decide⟩
      rw[w0,w1]
      by_cases l0:d0.length=0<;>by_cases l1:d1.length=32
      all_goals simp (disch:=omega) only [go_sem,seval,zL,yT,c3,c4,c5,c6,c7,List.map_cons,List.map_nil]
      all_goals refine qU 3 ?_
      all_goals simp (disch:=omega) only [go_sem,seval,qG,yQ,h1,qN,qO,k5,l0,l1,Int.reduceFDiv]
     ·have w0:qCn k 3 0=20:=if_pos ⟨hk,by decide⟩
      have w1:qCn k 3 1=32:=if_pos ⟨hk,by decide⟩
      rw[w0,w1]
      by_cases l0:d0.length=20<;>by_cases l1:d1.length=32
      all_goals simp (disch:=omega) only [go_sem,seval,zL,yT,c3,c4,c5,c6,c7,List.map_cons,List.map_nil]
      all_goals refine qU 3 ?_
      all_goals simp (disch:=omega) only [go_sem,seval,qG,yQ,h1,qN,qO,k5,l0,l1,Int.reduceFDiv]
   ·have hf:zNv k act ds=false:=by unfold zNv;rw[decide_eq_false c8];rfl
    rw[hf]
    have c9:((ds.length:Int)==2)=false:=by simpa using (by omega : ¬ (ds.length:Int)=2)
    simp (disch:=omega) only [go_sem,seval,zL,yT,c1,c2,c3,c4,c5,c6,c7,c8,c9]
theorem zPb {a b:Int} {c:List (List UInt8)} {d:List UInt8} {act:Int} (h:evX (a,b,c,d)):qMz.fs [.t (.agg [.int .i64 a,.int .i64 b,.sl (c.map bsT),.sl (d.map qA)]),.t (.int .i64 act)] []=some (.t (.int .i64 (qEc (a,b,c,d) act)),[]):=qMz.eq ((a,b,c,d),act) h
abbrev Lg:=Int×Int×List Ev
def lgT (l:Lg):T:= .agg [.int .i64 l.1,.int .i64 l.2.1,.sl (l.2.2.map evT)]
theorem qRz {a r:Int} {es:List Ev}:lgT (a,r,es) = .agg [.int .i64 a,.int .i64 r,.sl (es.map evT)]:=Eq.trans (Eq.refl _) rfl
theorem zKs {l m:List Ev}:(l.map evT=m.map evT)=(l=m):=propext ⟨wB (fun _ _=>zEs),fun h=>by rw[h]⟩
theorem zQd {l m:Lg} (h:lgT l=lgT m):l=m:=by
 obtain⟨a,b,c⟩:=l
 obtain⟨a',b',c'⟩:=m
 simp only[qRz,T.agg.injEq,List.cons.injEq,T.int.injEq,T.sl.injEq,true_and,and_true,zKs] at h
 obtain⟨rfl,rfl,rfl⟩:=h
 rfl
def esM (es:List Ev):Prop:=es.length<1000000 ∧ ∀ e∈es,evX e
def qNt (act:Int):List Ev→Int
 | []=>0
 | e::r=>if qEc e act≠0 then qEc e act else qNt act r
def rpE (act:Int) (es:List Ev):Int:=if act<1∨3<act then 1 else qNt act es
abbrev Rg:=List jI×Int
def rpS (x:Rg) (e:Ev):Rg:=if e.2.1=5 then x else zTq x 0 e.1 e.2.2.1
def rp0 (act:Int):Rg:=(qBr act,0)
def rpF (act:Int) (es:List Ev):Rg:=es.foldl rpS (rp0 act)
def rpG (act:Int) (es:List Ev):Rg:=if rpE act es=0 then rpF act es else ([],0)
def rpV (act:Int) (es:List Ev):V:= .tup [.t (xT (rpG act es).1 (rpG act es).2),.t (.int .i64 (rpE act es))]
def qT8:Ct where
 α:=Lg
 as x:=[.t (lgT x)]
 ins _:=[]
 pre x:=esM x.2.2
 r x:=rpV x.1 x.2.2
 outs _:=[]
 inj:=by
  intro a b h _
  simp only[List.cons.injEq,V.t.injEq,and_true] at h
  cases zQd h
  exact⟨rfl,rfl⟩
def ShA (act:Int) (bk:List jI):Prop := ∃ b0 b1:jI,bk=[b0,b1]∧List.length b0=(if act%2=1 then 16 else 0)∧List.length b1=(if act/2%2=1 then 16 else 0)∧(∀ x∈b0,x.length=20) ∧ ∀ x∈b1,x.length=32
theorem ShA.new {act:Int} (ha:1≤act∧act≤3):ShA act (qBr act):=by
 have h:qBr act=[if act%2=1 then qFp 0 else [],if act/2%2=1 then qFp 1 else []]:=qLu (by omega)
 refine⟨_,_,h,?_,?_,fun x hx=>?_,fun x hx=>?_⟩
 ·split
  ·exact qX
  ·rfl
 ·split
  ·exact qX
  ·rfl
 ·split at hx
  ·exact qZ6 (a:=0) x hx
  ·simp at hx
 ·split at hx
  ·exact qZ6 (a:=1) x hx
  ·simp at hx
theorem ShA.rv {act:Int} {bk:List jI} (h:ShA act bk):RV bk:=by
 obtain⟨b0,b1,rfl,h0,h1,z0,z1⟩:=h
 refine⟨.two _ _ ?_ ?_,fun b hb x hx=>?_⟩
 ·split at h0
  ·exact .inr h0
  ·exact .inl h0
 ·split at h1
  ·exact .inr h1
  ·exact .inl h1
 ·simp only[List.mem_cons,List.not_mem_nil,or_false] at hb
  rcases hb with rfl | rfl
  ·have:=z0 x hx;omega
  ·have:=z1 x hx;omega
theorem ShA.ext {act:Int} {bk:List jI} (h:ShA act bk) (i:Nat) (ds:List (List UInt8)):ShA act (qJc bk i ds):=by
 obtain⟨b0,b1,rfl,h0,h1,z0,z1⟩:=h
 rw[qUf]
 refine⟨_,_,rfl,qS.trans h0,qS.trans h1,?_,?_⟩
 ·unfold xS;split
  ·exact zHg z0 (kY (a:=0))
  ·exact z0
 ·unfold xS;split
  ·exact zHg z1 (kY (a:=1))
  ·exact z1
theorem zFy {i:Int} (h:i≤11):qBc i false=0:=by
 unfold qBc
 rw[if_neg (by simp),if_neg (by omega),if_neg (by omega)]
theorem zNt {act:Int} {bk:List jI} {e:Ev} (h:ShA act bk) (hc:qEc e act=0) (h5:e.2.1≠5):qD9 bk 0 e.1 e.2.2.1=0:=by
 obtain⟨r,k,ds,d⟩:=e
 obtain⟨b0,b1,rfl,h0,h1,z0,z1⟩:=h
 unfold qEc at hc
 simp only at hc h5 ⊢
 split at hc
 ·simp at hc
 ·rename_i hb
  obtain⟨⟨c1,c2⟩,⟨c3,c4⟩,c5,c6⟩:=zUv hb
  split at hc
  ·simp at hc
  ·split at hc
   ·rename_i hf
    unfold zNv at hf
    simp only[Bool.and_eq_true,decide_eq_true_eq] at hf
    obtain⟨⟨f0,f1⟩,f2⟩:=hf
    rw[zYh] at f1
    rw[zYi] at f2
    unfold qD9
    rw[show ([b0,b1]:List jI).getD 0 []=b0 from rfl,show ([b0,b1]:List jI).getD 1 []=b1 from rfl,h0,h1,f0,f1,f2]
    have h5':k≠5:=h5
    unfold qFk
    rw[if_neg (by omega),zFy (by omega),if_neg (by omega),if_neg,if_neg]
    ·by_cases q0:act%2=1<;>by_cases q1:act/2%2=1<;>simp[q0,q1,h5']
    ·by_cases q0:act%2=1<;>by_cases q1:act/2%2=1<;>simp[q0,q1,h5']
   ·simp at hc
theorem zR0 {act:Int} {x:Rg} {e:Ev} (h:ShA act x.1) (hc:qEc e act=0) (h5:e.2.1≠5):rpS x e=(qJc x.1 e.1.toNat e.2.2.1,x.2+1):=by
 unfold rpS
 rw[if_neg h5]
 unfold zTq
 rw[if_pos (zNt h hc h5)]
def RQ (act:Int) (n:Nat) (x:Rg):Prop:=ShA act x.1∧0≤x.2∧x.2≤n
theorem RQ.zero {act:Int} (ha:1≤act∧act≤3):RQ act 0 (rp0 act):=⟨ShA.new ha,by simp[rp0],by simp[rp0]⟩
theorem RQ.up {act:Int} {n m:Nat} {x:Rg} (h:RQ act n x) (hm:n≤m):RQ act m x:=⟨h.1,h.2.1,by have:=h.2.2;omega⟩
theorem RQ.ext {act:Int} {n:Nat} {x:Rg} (h:RQ act n x) (l i:Int) (ds:List (List UInt8)):RQ act (n+1) (zTq x l i ds):=by
 unfold zTq
 split
 ·exact⟨h.1.ext _ _,by have:=h.2.1;simp only;omega,by have:=h.2.2;simp only;omega⟩
 ·exact h.up (by omega)
theorem RQ.step {act:Int} {n:Nat} {x:Rg} {e:Ev} (h:RQ act n x):RQ act (n+1) (rpS x e):=by
 unfold rpS
 split
 ·exact h.up (by omega)
 ·exact h.ext _ _ _
theorem RQ.fold {act:Int} (ha:1≤act∧act≤3) : ∀ {es:List Ev} {n:Nat} {x:Rg},RQ act n x→RQ act (n+es.length) (es.foldl rpS x)
 | [],n,x,h=>h
 | e::es,n,x,h=>by
  have:=RQ.fold ha (es:=es) (h.step (e:=e))
  rw[List.length_cons,show n+(es.length+1)=n+1+es.length by omega]
  exact this
theorem zOj {act:Int} (ha:1≤act∧act≤3) {es:List Ev}:RQ act es.length (rpF act es):=by
 have:=RQ.fold ha (es:=es) (RQ.zero ha)
 rwa [Nat.zero_add] at this
theorem qJd {act:Int} : ∀ {es:List Ev},(∀ e∈es,qEc e act=0)→qNt act es=0
 | [],_=>rfl
 | x::es,h=>by
  unfold qNt
  rw[if_neg (by have:=h x (by simp);omega)]
  exact qJd (fun e he=>h e (by simp[he]))
theorem qUh {act:Int} : ∀ {es:List Ev} {i:Nat},i<es.length→(∀ e∈es.take i,qEc e act=0)→qEc (es.getD i ev0) act≠0→qNt act es=qEc (es.getD i ev0) act
 | [],i,h,_,_=>by simp at h
 | x::es,0,_,_,h2=>by
  unfold qNt
  exact if_pos h2
 | x::es,i+1,h,h1,h2=>by
  unfold qNt
  rw[if_neg (by have:=h1 x (by simp);omega)]
  exact qUh (es:=es) (i:=i) (by simpa using h) (fun e he=>h1 e (by simp[he])) h2
theorem zEr {e:Ev}:(V.t (evT e)).cells.length=4:=rfl
theorem zEt {e:Ev}:(V.t (evT e)).plain=true:=rfl
theorem zVo {r k act:Int} {d:List UInt8} (h:(0≤act∧act<4)∧d.length<1000000000):qJa.fs [.t (.int .i64 r),.t (.int .i64 k),.t (.int .i64 act),.t (.sl (d.map qA))] []=some (.t (evT (mkE r k act d)),[]):=qJa.eq (r,k,act,d) h
def qTr:Ct where
 α:=List Im×Int
 as x:=[.t (.sl (x.1.map imT)),.t (.int .i64 x.2)]
 ins _:=[]
 pre x:=zIo x.1
 r x:= .t (.sl ((qW2 x.1 x.2).map evT))
 outs _:=[]
 inj:=by
  rintro⟨a,b⟩ ⟨c,d⟩ h _
  simp only[List.cons.injEq,V.t.injEq,T.sl.injEq,T.int.injEq,true_and,and_true,qLr] at h
  obtain⟨rfl,rfl⟩:=h
  exact⟨rfl,rfl⟩
theorem zUp {l:List Im} {act:Int} (h:zIo l):qTr.fs [.t (.sl (l.map imT)),.t (.int .i64 act)] []=some (.t (.sl ((qW2 l act).map evT)),[]):=qTr.eq (l,act) h
theorem qH5 {act r:Int} {l:List Im} {x:Im} {i:Nat} (h:l[i]?=some x):qHh act r (l.take (i+1))=qHh act r (l.take i)++(if x.1=r then (if r=4 then (lnL x.2.2.2).map (mkE 9 3 act) else [ofI x act]) else []):=by
 unfold qHh
 rw[List.take_add_one,h,List.filter_append,List.flatMap_append]
 congr 1
 by_cases hx:x.1=r<;>simp[List.filter_cons,hx]
theorem qE3 {act r:Int} {l:List Im}:(qHh act r l).length≤l.length*4:=Nat.le_trans qZt (Nat.mul_le_mul_right _ (List.length_filter_le _ _))
theorem qQo {α γ:Type} {f:α→γ} {l:List α} {k:Nat} {x:α} (h:l[k]?=some x):(l.take (k+1)).map f=(l.take k).map f++[f x]:=by
 rw[List.take_add_one,h];simp
def qVi (act:Int) (p:List UInt8) (k:Nat):List Ev:=(List.range k).map fun (i:Nat)=>mkE (i:Int) 2 act p
theorem zW1 {act:Int} {p:List UInt8} {k:Nat}:qVi act p (k+1)=qVi act p k++[mkE (k:Int) 2 act p]:=by unfold qVi;rw[List.range_succ,List.map_append];rfl
theorem zAs {act:Int} {p:List UInt8} {k:Nat}:(qVi act p k).length=k:=by simp[qVi]
theorem zEv {l:List Ev}:qTf 4 (List.map evT l)=true:=by
 unfold qTf
 refine List.all_eq_true.2 fun x hx=>?_
 obtain⟨e,-,rfl⟩:=List.mem_map.1 hx
 rfl
def qX8 (A B C D:List Ev):Hs:=[(9001,.live 4 ((A.map evT).map V.t) true false),(9002,.live 4 ((B.map evT).map V.t) true false),(9003,.live 4 ((C.map evT).map V.t) true false),(9004,.live 4 ((D.map evT).map V.t) true false),(16384,.live 1 [.nil,.sl 9001 0 A.length,.sl 9002 0 B.length,.sl 9003 0 C.length,.sl 9004 0 D.length] true true)]
theorem qLa (tab:Tab) (gl:Gl) (n1 n2 n3 n4 n5:Nat) (h1:tab.look n1=some qMy.fs) (h2:tab.look n2=some qKp.fs) (h3:tab.look n3=some qM6.fs) (h4:tab.look n4=some qNg.fs) (h5:tab.look n5=some qJa.fs) (l:List Im) (act:Int) (hm:zIo l) :
  (yR n1 n2 n3 n4 n5).wp tab gl (qE 0 [.t (.sl (l.map imT)),.t (.int .i64 act)]) (qE 0 []) (jK [(4,none)] 0 (fun r o=>r = .t (.sl ((qW2 l act).map evT))∧o=[])):=by
 have hC:=zUf hm
 by_cases a1:act<1
 ·have hr:qW2 l act=[]:=if_pos (.inr (.inl a1))
  rw[hr]
  simp (disch:=omega) only [go_sem,seval,yR,h1,hC,a1,List.map_nil]
 by_cases a3:3<act
 ·have hr:qW2 l act=[]:=if_pos (.inr (.inr a3))
  rw[hr]
  simp (disch:=omega) only [go_sem,seval,yR,h1,hC,a1,a3,List.map_nil]
 by_cases hz:qI6 l=0
 ·rw[hz] at hC
  obtain⟨hok,hl1,hl8⟩:=qMv hz
  have hr:qW2 l act=qUe act l:=by unfold qW2;rw[if_neg (by omega)]
  rw[hr]
  have ha:0≤act∧act<4:=by omega
  have b1:=qE3 (act:=act) (r:=1) (l:=l)
  have b2:=qE3 (act:=act) (r:=2) (l:=l)
  have b3:=qE3 (act:=act) (r:=3) (l:=l)
  have b4:=qE3 (act:=act) (r:=4) (l:=l)
  simp (disch:=omega) only [go_sem,seval,yR,h1,hC,a1,a3]
  refine qD l.length (fun i=>[(1,.t (.int .i64 act)),(5,.ref 16384 0 0),(23,.t (.sl (l.map imT))),(24,.t (.int .i64 l.length)),(25,.t (.int .i64 (i:Nat)))]) (fun i=>qX8 (qHh act 1 (l.take i)) (qHh act 2 (l.take i)) (qHh act 3 (l.take i)) (qHh act 4 (l.take i))) ?_ (fun i hi=>?_)
  ·have e : ∀ r,qHh act r (l.take 0)=[]:=fun r=>rfl
   simp only[e]
   refine qQ.cv0 (hv:=[(9001,.live 4 [] true false),(9002,.live 4 [] true false),(9003,.live 4 [] true false),(9004,.live 4 [] true false)]) (ho:=[(16384,.live 1 [.nil,.sl 9001 0 0,.sl 9002 0 0,.sl 9003 0 0,.sl 9004 0 0] true true)]) id ?_ ?_ rfl rfl
   all_goals simp (disch:=omega) only [go_sem,seval,id]
  ·by_cases hlt:i<l.length
   ·obtain⟨⟨xa,xs,xv,xp⟩,hx⟩ : ∃ x,l[i]?=some x:=⟨l[i],by simp[hlt]⟩
    have hxm:imM (xa,xs,xv,xp):=hm.2 _ (List.mem_of_getElem? hx)
    have hgood:=(xL (hok _ (List.mem_of_getElem? hx))).1
    have g1:=qH5 (act:=act) (r:=1) hx
    have g2:=qH5 (act:=act) (r:=2) hx
    have g3:=qH5 (act:=act) (r:=3) hx
    have g4:=qH5 (act:=act) (r:=4) hx
    have c1:=qE3 (act:=act) (r:=1) (l:=l.take i)
    have c2:=qE3 (act:=act) (r:=2) (l:=l.take i)
    have c3:=qE3 (act:=act) (r:=3) (l:=l.take i)
    have c4:=qE3 (act:=act) (r:=4) (l:=l.take i)
    rw[List.length_take] at c1 c2 c3 c4
    simp only at hgood g1 g2 g3 g4
    generalize qHh act 1 (l.take i)=A at *
    generalize qHh act 2 (l.take i)=B at *
    generalize qHh act 3 (l.take i)=C at *
    generalize qHh act 4 (l.take i)=D at *
    rcases (show xa=1∨xa=2∨xa=3∨xa=4 by omega) with rfl | rfl | rfl | rfl
    ·rw[if_pos rfl,if_neg (by decide)] at g1
     rw[if_neg (by decide),List.append_nil] at g2 g3 g4
     have hE:qKp.fs [.t (.agg [.int .i64 1,zN xs,.int .i64 xv,.sl (xp.map qA)]),.t (.int .i64 act)] []=some (.t (evT (ofI (1,xs,xv,xp) act)),[]):=zF9 (x:=(1,xs,xv,xp)) ⟨hxm,ha⟩
     generalize ofI (1,xs,xv,xp) act=e at *
     simp (disch:=omega) only [go_sem,seval,jG,qX8,zC,hx,h2,hE,zEr,zEt]
     repeat refine And.intro rfl ?_
     refine⟨hlt,qQ.rd (fun j=>if j=9001 then 37024 else j) ?_ ?_ rfl⟩
     all_goals simp (disch:=omega) only [go_sem,seval,id,qX8,g1,g2,g3,g4]
     all_goals (have hq:=congrArg List.length g1;simp only[List.length_append,List.length_cons,List.length_nil] at hq ⊢;omega)
    ·rw[if_pos rfl,if_neg (by decide)] at g2
     rw[if_neg (by decide),List.append_nil] at g1 g3 g4
     have hE:qKp.fs [.t (.agg [.int .i64 2,zN xs,.int .i64 xv,.sl (xp.map qA)]),.t (.int .i64 act)] []=some (.t (evT (ofI (2,xs,xv,xp) act)),[]):=zF9 (x:=(2,xs,xv,xp)) ⟨hxm,ha⟩
     generalize ofI (2,xs,xv,xp) act=e at *
     simp (disch:=omega) only [go_sem,seval,jG,qX8,zC,hx,h2,hE,zEr,zEt]
     repeat refine And.intro rfl ?_
     refine⟨hlt,qQ.rd (fun j=>if j=9002 then 37024 else j) ?_ ?_ rfl⟩
     all_goals simp (disch:=omega) only [go_sem,seval,id,qX8,g1,g2,g3,g4]
     all_goals (have hq:=congrArg List.length g2;simp only[List.length_append,List.length_cons,List.length_nil] at hq ⊢;omega)
    ·rw[if_pos rfl,if_neg (by decide)] at g3
     rw[if_neg (by decide),List.append_nil] at g1 g2 g4
     have hE:qKp.fs [.t (.agg [.int .i64 3,zN xs,.int .i64 xv,.sl (xp.map qA)]),.t (.int .i64 act)] []=some (.t (evT (ofI (3,xs,xv,xp) act)),[]):=zF9 (x:=(3,xs,xv,xp)) ⟨hxm,ha⟩
     generalize ofI (3,xs,xv,xp) act=e at *
     simp (disch:=omega) only [go_sem,seval,jG,qX8,zC,hx,h2,hE,zEr,zEt]
     repeat refine And.intro rfl ?_
     refine⟨hlt,qQ.rd (fun j=>if j=9003 then 37024 else j) ?_ ?_ rfl⟩
     all_goals simp (disch:=omega) only [go_sem,seval,id,qX8,g1,g2,g3,g4]
     all_goals (have hq:=congrArg List.length g3;simp only[List.length_append,List.length_cons,List.length_nil] at hq ⊢;omega)
    ·rw[if_pos rfl,if_pos trivial] at g4
     rw[if_neg (by decide),List.append_nil] at g1 g2 g3
     have hN:qM6.fs [.t (.agg [.int .i64 4,zN xs,.int .i64 xv,.sl (xp.map qA)])] []=some (.t (.sl ((lnL xp).map bsT)),[]):=zN6 hxm
     have ll:=qXf (p:=xp)
     have le:=zN5 (p:=xp)
     have lp:=hxm.2.1
     simp only at lp g4
     generalize lnL xp=N at *
     have hRg:qNg.fs [.t (.int .i64 4)] []=some (.t (.int .i64 9),[]):=zOf (a:=4)
     simp (disch:=omega) only [go_sem,seval,jG,qX8,zC,hx,h3,hN]
     repeat refine And.intro rfl ?_
     refine qD N.length (fun k=>[(1,.t (.int .i64 act)),(5,.ref 16384 0 0),(7,.ref 28704 0 0),(23,.t (.sl (l.map imT))),(24,.t (.int .i64 l.length)),(25,.t (.int .i64 (i:Nat))),(45,.t (.sl (N.map bsT))),(46,.t (.int .i64 N.length)),(47,.t (.int .i64 (k:Nat)))]) (fun k=>(28704,.live 4 [.t (.agg [.int .i64 4,zN xs,.int .i64 xv,.sl (xp.map qA)])] true true)::qX8 A B C (D++(N.take k).map (mkE 9 3 act))) ?_ (fun k hk=>?_)
     ·have e0:D++(N.take 0).map (mkE 9 3 act)=D:=by simp
      simp only[e0,qX8]
      refine qQ.rd id ?_ ?_ rfl
      all_goals simp (disch:=omega) only [go_sem,seval,id]
     ·have bk:(D++(N.take k).map (mkE 9 3 act)).length≤400:=by simp;omega
      by_cases hkl:k<N.length
      ·obtain⟨s,hs⟩ : ∃ s,N[k]?=some s:=⟨N[k],by simp[hkl]⟩
       have hsl:=le s (List.mem_of_getElem? hs)
       have hM:=zVo (r:=9) (k:=3) (act:=act) (d:=s) ⟨ha,by omega⟩
       have hT:D++(N.take (k+1)).map (mkE 9 3 act)=(D++(N.take k).map (mkE 9 3 act))++[mkE 9 3 act s]:=by rw[qQo hs,List.append_assoc]
       generalize D++(N.take k).map (mkE 9 3 act)=M at *
       generalize mkE 9 3 act s=e at *
       simp (disch:=omega) only [go_sem,seval,wC,qX8,qEr,hs,h4,hRg,h5,hM,zEr,zEt]
       repeat refine And.intro rfl ?_
       refine⟨hkl,qQ.rd (fun j=>if j=9004 then 53456 else j) ?_ ?_ rfl⟩
       all_goals simp (disch:=omega) only [go_sem,seval,id,qX8,hT]
       all_goals (have hq:=congrArg List.length hT;simp only[List.length_append,List.length_cons,List.length_nil,List.length_map,List.length_take] at hq ⊢;omega)
      ·have e:k=N.length:=by omega
       subst e
       rw[List.take_length]
       simp (disch:=omega) only [go_sem,seval,wC,qX8]
       refine⟨hlt,qQ.rd id ?_ ?_ rfl⟩
       all_goals simp (disch:=omega) only [go_sem,seval,id,qX8,g1,g2,g3,g4]
       all_goals (have hq:=congrArg List.length g4;simp only[List.length_append,List.length_cons,List.length_nil,List.length_map,List.length_take] at hq ⊢;omega)
   ·have e:i=l.length:=by omega
    subst e
    have hEv:qUe act l=((qHh act 1 l++qHh act 2 l)++qVi act qVh 8)++(qHh act 3 l++qHh act 4 l):=rfl
    rw[List.take_length,hEv]
    generalize qHh act 1 l=A at *
    generalize qHh act 2 l=B at *
    generalize qHh act 3 l=C at *
    generalize qHh act 4 l=D at *
    have l4:qVh.length=4:=rfl
    have hMk : ∀ k:Nat,qJa.fs [.t (.int .i64 (k:Int)),.t (.int .i64 2),.t (.int .i64 act),.t (.sl [qA 0,qA 0,qA 0,qA 0])] []=some (.t (evT (mkE (k:Int) 2 act qVh)),[]):=fun k=>zVo (r:=(k:Int)) (k:=2) (act:=act) (d:=qVh) ⟨ha,by rw[l4];decide⟩
    have hAB:(A++B).length≤70:=by rw[List.length_append];omega
    simp (disch:=omega) only [go_sem,seval,jG,qX8,zEv]
    repeat refine And.intro rfl ?_
    refine qD 8 (fun k=>[(1,.t (.int .i64 act)),(5,.ref 16384 0 0),(10,.sl 9005 0 ((A++B)++qVi act qVh k).length),(73,.t (.int .i64 (k:Nat)))]) (fun k=>[(9005,.live 4 ((((A++B)++qVi act qVh k).map evT).map V.t) true false),(9001,.dead),(9002,.live 4 ((B.map evT).map V.t) true false),(9003,.live 4 ((C.map evT).map V.t) true false),(9004,.live 4 ((D.map evT).map V.t) true false),(16384,.live 1 [.nil,.sl 9001 0 A.length,.sl 9002 0 B.length,.sl 9003 0 C.length,.sl 9004 0 D.length] true true)]) ?_ (fun k hk=>?_)
    ·have e0:(A++B)++qVi act qVh 0=A++B:=by simp[qVi]
     simp only[e0]
     refine qQ.rd (fun j=>if j=9005 then 65600 else j) ?_ ?_ rfl
     all_goals simp (disch:=omega) only [go_sem,seval,id]
    ·have bk:((A++B)++qVi act qVh k).length≤200:=by rw[List.length_append,zAs];omega
     by_cases hkl:k<8
     ·have hM:=hMk k
      have hT:(A++B)++qVi act qVh (k+1)=((A++B)++qVi act qVh k)++[mkE (k:Int) 2 act qVh]:=by rw[zW1,←List.append_assoc]
      generalize (A++B)++qVi act qVh k=M at *
      generalize mkE (k:Int) 2 act qVh=e at *
      simp (disch:=omega) only [go_sem,seval,wD,h5,hM,zEr,zEt]
      repeat refine And.intro rfl ?_
      refine⟨hkl,qQ.rd (fun j=>if j=9005 then 82016 else j) ?_ ?_ rfl⟩
      all_goals simp (disch:=omega) only [go_sem,seval,id,hT]
      all_goals (have hq:=congrArg List.length hT;simp only[List.length_append,List.length_cons,List.length_nil,zAs] at hq ⊢;omega)
     ·have e:k=8:=by omega
      subst e
      have hfin:((A++B)++qVi act qVh 8)++(C++D)=(((A++B)++qVi act qVh 8)++C)++D:=by rw[List.append_assoc _ C D]
      rw[hfin]
      generalize (A++B)++qVi act qVh 8=M at *
      have tk:List.take (M.length+C.length+D.length) (M++C++D)=M++C++D:=List.take_of_length_le (by simp only[List.length_append];omega)
      simp (disch:=omega) only [go_sem,seval,wD,zEv,tk]
 ·have hr:qW2 l act=[]:=if_pos (.inl hz)
  rw[hr]
  have hz':(qI6 l != 0)=true:=by simpa using hz
  simp (disch:=omega) only [go_sem,seval,yR,h1,hC,a1,a3,hz',List.map_nil]
def eqv (x y:Rg) (g:Nat):Prop:=zCs x.1 0 g=zCs y.1 0 g∧zCs x.1 1 g=zCs y.1 1 g
instance {x y:Rg} {g:Nat}:Decidable (eqv x y g):=by unfold eqv;infer_instance
theorem eqv.symm {x y:Rg} {g:Nat} (h:eqv x y g):eqv y x g:=⟨h.1.symm,h.2.symm⟩
theorem eqv.trans {x y z:Rg} {g:Nat} (h:eqv x y g) (k:eqv y z g):eqv x z g:=⟨h.1.trans k.1,h.2.trans k.2⟩
def isG (g:Nat) (e:Ev):Prop:=e.2.1≠5∧e.1=g
instance {g:Nat} {e:Ev}:Decidable (isG g e):=by unfold isG;infer_instance
theorem zWo {act:Int} (ha:1≤act∧act≤3) {es:List Ev} (hv : ∀ e∈es,evV act e):rpE act es=0:=by
 unfold rpE
 rw[if_neg (by omega)]
 exact qJd (fun e he=>(hv e he).1)
def prE (l:List Im) (act:Int):Int:=if qI6 l≠0 then qI6 l else if act<1∨3<act then 1 else 0
def prG (l:List Im) (act:Int):Rg:=if prE l act=0 then rpF act (qUe act l) else ([],0)
theorem zOb {l:List Im} {act:Int} (h:prE l act=0):qI6 l=0∧1≤act∧act≤3:=by
 unfold prE at h
 split at h
 ·contradiction
 ·split at h
  ·contradiction
  ·omega
def jDr (l:List Im):List Im:=l.filter fun x=>decide (x.1≠4)
end Go.Eng
end
section
namespace Go.Eng
def jM (n_event_Check n_registers_Extend:Nat):AC:=
 (.seq
 (rG 24576 [bT 24 .lss 23 22])
 (.seq
 (.cond (.tmp 24)
 .skip
 (.exit 0))
 (.seq
 (.block 1
 (.seq
 (rG 28672 [oO 25 (.iaddr 4) [.tmp 21,.tmp 23],oO 26 (.load 4 true) [.tmp 25],oO 6 (.new 4 [(.agg [(.t (.int .i64 0)),(.t (.int .i64 0)),.nil,.nil])]) [],oS 4 6 26])
 (.seq
 (rG 32768 [oO 27 (.load 4 true) [.tmp 6],oO 28 (.faddr 0) [.tmp 1],oO 29 (.load 1 false) [.tmp 28],cL 30 n_event_Check false [.tmp 27,.tmp 29],mv 7 30])
 (.seq
 (.seq
 (rG 36864 [mv 31 7,bN 32 .eql 31 0,mv 33 32,oG 34 33 (.faddr 1) [.tmp 6],oG 35 33 (.load 1 false) [.tmp 34],oG 36 33 (.bin .neq) [.tmp 35,.cst (.t (.int .i64 5))],oO 37 .pick [.tmp 33,.tmp 36,.cst (.t (.bool false))]])
 (.cond (.tmp 37)
 (rG 40960 [oO 39 (.load 2 true) [.tmp 4],oO 40 (.faddr 0) [.tmp 6],oO 41 (.load 1 false) [.tmp 40],oO 42 (.faddr 2) [.tmp 6],oO 43 (.load 1 false) [.tmp 42],cL 44 n_registers_Extend true [.tmp 39,.cst (.t (.int .i64 0)),.tmp 41,.tmp 43],mv 38 44,oO 45 (.extract 0) [.tmp 38],oO 46 (.extract 1) [.tmp 38],oS 2 4 45,mv 7 46])
 .skip))
 (.seq
 (rG 45056 [mv 47 7,bN 48 .neq 47 0])
 (.cond (.tmp 48)
 (.seq
 (rG 49152 [oO 49 (.build [.nil,(.t (.int .i64 0))] []) [],mv 50 7,oS 2 2 49,mv 3 50])
 .ret)
 .skip))))))
 (rG 53248 [bN 51 .add 23 1,mv 23 51]))))
def yW (n_registers_New n_event_Check n_registers_Extend:Nat):AC:=
 (.seq
 (rG 4096 [oO 1 .box [.tmp 0],oO 2 (.new 2 [(.agg [.nil,(.t (.int .i64 0))])]) [],mC 3 (.t (.int .i64 0))])
 (.seq
 (.seq
 (rG 8192 [oO 8 (.faddr 0) [.tmp 1],oO 9 (.load 1 false) [.tmp 8],bN 10 .lss 9 1,mv 11 10,oF 12 11 (.faddr 0) [.tmp 1],oF 13 11 (.load 1 false) [.tmp 12],oF 14 11 (.bin .gtr) [.tmp 13,.cst (.t (.int .i64 3))],oO 15 .pick [.tmp 11,.cst (.t (.bool true)),.tmp 14]])
 (.cond (.tmp 15)
 (.seq
 (rG 12288 [oO 16 (.build [.nil,(.t (.int .i64 0))] []) [],oS 2 2 16,mC 3 (.t (.int .i64 1))])
 .ret)
 .skip))
 (.seq
 (rG 16384 [oO 17 (.faddr 0) [.tmp 1],oO 18 (.load 1 false) [.tmp 17],cL 19 n_registers_New true [.tmp 18],oO 4 (.new 2 [(.agg [.nil,(.t (.int .i64 0))])]) [],oS 2 4 19])
 (.seq
 (.seq
 (rG 20480 [oO 20 (.faddr 2) [.tmp 1],oO 21 (.load 1 false) [.tmp 20],oO 22 .len [.tmp 21],mC 23 (.t (.int .i64 0))])
 (.block 0
 (.loop (jM n_event_Check n_registers_Extend))))
 (.seq
 (rG 57344 [oO 52 (.load 2 true) [.tmp 4],oS 2 2 52,mC 3 (.t (.int .i64 0))])
 .ret)))))
end Go.Eng
end
section
set_option maxRecDepth 20000
set_option maxHeartbeats 64000000
namespace Go.Eng
theorem zKw (n:Nat):n &&& 2=n/2%2*2:=by
 have h1:(n &&& 2)/2=n/2%2:=by
  rw[Nat.and_div_two];exact Nat.and_one_is_mod _
 have h2:(n &&& 2)%2=0:=by
  have:=Nat.and_mod_two_pow (a:=n) (b:=2) (n:=1)
  simpa using this
 omega
theorem jDc {x:Int}:qO7 .and .i64 x .i64 2=some (.int .i64 (x/2%2*2)):=by
 have h2:((BitVec.ofInt 64 x &&& BitVec.ofInt 64 2).toNat:Int)=x/2%2*2:=by
  rw[BitVec.toNat_and,BitVec.toNat_ofInt]
  have e2:(BitVec.ofInt 64 2).toNat=2:=by decide
  rw[e2,zKw]
  have e3:((2^64:Nat):Int)=18446744073709551616:=by decide
  rw[e3]
  omega
 change some (T.int IntKind.i64 (IntKind.i64.wrap ((BitVec.ofInt 64 x &&& BitVec.ofInt 64 2).toNat:Int)))=_
 rw[h2,xB (by omega)]
attribute [go_sem ↓] jDc
def qGo:Ct where
 α:=List jI×Int×Int×Int
 as x:=[.t (xT x.1 x.2.1),.t (.agg [.int .i64 x.2.2.1,.int .i64 x.2.2.2])]
 ins _:=[]
 pre x:=RV x.1
 r x:=zIn x.1 x.2.2.1 x.2.2.2
 outs x:=zIm x.1 x.2.2.1 x.2.2.2
 inj:=by
  rintro⟨a,u,l,i⟩ ⟨b,v,l',i'⟩ h _
  simp only[List.cons.injEq,V.t.injEq,T.int.injEq,T.agg.injEq,true_and,and_true] at h
  obtain⟨h1,rfl,rfl⟩:=h
  obtain⟨rfl,rfl⟩:=qIh h1
  exact⟨rfl,rfl⟩
theorem zWq {act rs:Int} {es:List Ev} (h:esM es):qT8.fs [.t (.agg [.int .i64 act,.int .i64 rs,.sl (es.map evT)])] []=some (.tup [.t (.agg [.sl ((rpG act es).1.map qBn),.int .i64 (rpG act es).2]),.t (.int .i64 (rpE act es))],[]):=qT8.eq (act,rs,es) h
def rpP (act:Int) (es:List Ev) (i:Nat):Rg:=(es.take i).foldl rpS (rp0 act)
theorem zZ0 {act:Int} {es:List Ev} {i:Nat} {e:Ev} (h:es[i]?=some e):rpP act es (i+1)=rpS (rpP act es i) e:=by
 unfold rpP
 rw[List.take_add_one,h,List.foldl_append];rfl
theorem zWp {act:Int} (ha:1≤act∧act≤3) {es:List Ev} {i:Nat}:RQ act i (rpP act es i):=by
 have:=RQ.fold ha (es:=es.take i) (RQ.zero ha)
 rw[Nat.zero_add] at this
 exact this.up (by rw[List.length_take];omega)
theorem jD4 {act:Int} (ha:1≤act∧act≤3) : ∃ b0 b1:jI,qBr act=[b0,b1]∧List.length b0≤16∧List.length b1≤16∧qCw.fs [.t (.int .i64 act)] []=some (.agg [.sl 0 0 2,.t (.int .i64 0)],[.live 1 [.sl 1 0 b0.length,.sl 2 0 b1.length] true false,.live 1 ((b0.map bsT).map V.t) true false,.live 1 ((b1.map bsT).map V.t) true false]):=by
 rcases zBu act with⟨e,_⟩ | ⟨b0,b1,e,g0,g1,hn⟩
 ·obtain⟨b0,b1,e2,_⟩:=ShA.new ha
  rw[e] at e2;cases e2
 ·exact⟨b0,b1,e,by rcases g0 with h | h<;>omega,by rcases g1 with h | h<;>omega,hn⟩
theorem zJu {act:Int} {x:Rg} {n:Nat} {r k:Int} {ds:List (List UInt8)} {d:List UInt8} (hx:RQ act n x) (hn:n<1000000) (hm:evX (r,k,ds,d)) (hl:ds.length<1000000000) (hc:qEc (r,k,ds,d) act=0) (h5:k≠5) :
  qCv.fs [.t (.agg [.sl (x.1.map qBn),.int .i64 x.2]),.t (.int .i64 0),.t (.int .i64 r),.t (.sl (ds.map bsT))] []=some (.tup [.t (.agg [.sl ((rpS x (r,k,ds,d)).1.map qBn),.int .i64 (rpS x (r,k,ds,d)).2]),.t (.int .i64 0)],[]):=by
 have hE:=qCv.eq (x.1,x.2,0,r,ds) ⟨hx.1.rv,⟨hx.2.1,by show x.2<1000000000;have:=hx.2.2;omega⟩,hl,fun y hy=>by have:=hm.2.1 y hy;omega⟩
 have h0:=zNt hx.1 hc h5
 have hr:qO4 x.1 x.2 0 r ds = .tup [.t (xT (qJc x.1 r.toNat ds) (x.2+1)),.t (.int .i64 0)]:=if_pos h0
 rw[zR0 hx.1 hc h5]
 exact hE.trans (by show some (qO4 x.1 x.2 0 r ds,([]:List Ob))=_;rw[hr];rfl)
theorem zPc {r k act:Int} {ds:List (List UInt8)} {d:List UInt8} (hc:qEc (r,k,ds,d) act=0):ds.length=2:=by
 unfold qEc at hc
 simp only at hc
 split at hc
 ·simp at hc
 ·split at hc
  ·simp at hc
  ·split at hc
   ·rename_i hf
    unfold zNv at hf
    simp only[Bool.and_eq_true,decide_eq_true_eq] at hf
    exact hf.1.1
   ·simp at hc
theorem qXu {act:Int} {es:List Ev} {c:Int} (h:rpE act es=c) (hc:c≠0):rpV act es = .tup [.t (.agg [.sl [],.int .i64 0]),.t (.int .i64 c)]:=by
 unfold rpV rpG
 rw[h,if_neg hc];rfl
theorem zLz {act:Int} {es:List Ev} (h:rpE act es=0):rpV act es = .tup [.t (.agg [.sl ((rpP act es es.length).1.map qBn),.int .i64 (rpP act es es.length).2]),.t (.int .i64 0)]:=by
 unfold rpV rpG
 rw[h,if_pos rfl]
 unfold rpP rpF
 rw[List.take_length];rfl
theorem zMs {act:Int} {es:List Ev} {i:Nat} {e:Ev} (h:es[i]?=some e) (hP : ∀ x∈es.take i,qEc x act=0) (he:qEc e act=0) : ∀ x∈es.take (i+1),qEc x act=0:=by
 intro x hx
 rw[List.take_add_one,h] at hx
 simp only[Option.toList_some,List.mem_append,List.mem_cons,List.not_mem_nil,or_false] at hx
 rcases hx with hx | rfl
 ·exact hP x hx
 ·exact he
theorem zE0 {act:Int} {es:List Ev} {i:Nat} {e:Ev} (ha:1≤act∧act≤3) (h:es[i]?=some e) (hP : ∀ x∈es.take i,qEc x act=0) (he:qEc e act≠0):rpE act es=qEc e act:=by
 have hlt:i<es.length:=(List.getElem?_eq_some_iff.1 h).1
 have hg:es.getD i ev0=e:=by simp[List.getD,h]
 unfold rpE
 rw[if_neg (by omega),qUh (i:=i) hlt hP (by rw[hg];exact he),hg]
theorem zBh {act:Int} {es:List Ev} (ha:1≤act∧act≤3) (hP : ∀ x∈es,qEc x act=0):rpE act es=0:=by
 unfold rpE
 rw[if_neg (by omega)]
 exact qJd hP
theorem qI2 (tab:Tab) (gl:Gl) (n1 n2 n3:Nat) (h1:tab.look n1=some qCw.fs) (h2:tab.look n2=some qMz.fs) (h3:tab.look n3=some qCv.fs) (act rs:Int) (es:List Ev) (hm:esM es) :
  (yW n1 n2 n3).wp tab gl (qE 0 [.t (lgT (act,rs,es))]) (qE 0 []) (jK [(2,some (2,true)),(3,none)] 0 (fun r o=>r=rpV act es∧o=[])):=by
 by_cases a1:act<1
 ·rw[qXu (c:=1) (if_pos (.inl a1)) (by decide)]
  simp (disch:=omega) only [go_sem,seval,yW,qRz,a1]
 by_cases a3:3<act
 ·rw[qXu (c:=1) (if_pos (.inr a3)) (by decide)]
  simp (disch:=omega) only [go_sem,seval,yW,qRz,a1,a3]
 have ha:1≤act∧act≤3:=by omega
 obtain⟨b0,b1,hb,hl0,hl1,hN⟩:=jD4 ha
 have hlen:=hm.1
 have hx0:rpP act es 0=([b0,b1],0):=by rw[←hb];rfl
 simp (disch:=omega) only [go_sem,seval,yW,qRz,a1,a3,h1,hN]
 refine kU es.length (fun i => ∀ e∈es.take i,qEc e act=0) (fun i=>[(1,.ref 4096 0 0),(2,.ref 4112 0 0),(4,.ref 16432 0 0),(21,.t (.sl (es.map evT))),(22,.t (.int .i64 es.length)),(23,.t (.int .i64 (i:Nat)))])
  (fun i=>[(16432,.live 2 [.t (.agg [.sl ((rpP act es i).1.map qBn),.int .i64 (rpP act es i).2])] true true),(4112,.live 2 [.agg [.nil,.t (.int .i64 0)]] true true),(4096,.live 3 [.t (.agg [.int .i64 act,.int .i64 rs,.sl (es.map evT)])] true true)]) (by simp) ?_ (fun i hi hP=>?_)
 ·refine qQ.cv (hv:=[]) [16417,16418,16416] id ?_ rfl
  simp (disch:=omega) only [go_sem,seval,id,hx0,List.map_nil,List.map_cons]
  all_goals rfl
 ·by_cases hlt:i<es.length
  ·obtain⟨⟨r,k,ds,d⟩,he⟩ : ∃ e,es[i]?=some e:=⟨es[i],by simp[hlt]⟩
   have hx:=hm.2 _ (List.mem_of_getElem? he)
   have hC:=zPb (act:=act) hx
   have hs:=zZ0 (act:=act) he
   have hq:=zWp ha (es:=es) (i:=i)
   by_cases hz:qEc (r,k,ds,d) act=0
   ·have hP':=zMs he hP hz
    have hE:=fun h5=>zJu hq (by omega) hx (by rw[zPc hz];omega) hz h5
    rw[hz] at hC
    rw[←hs] at hE
    by_cases h5:k=5
    ·subst h5
     have hs':rpP act es (i+1)=rpP act es i:=hs.trans (if_pos rfl)
     generalize rpP act es i=X at *
     simp (disch:=omega) only [go_sem,seval,jM,yT,he,h2,hC]
     refine⟨hlt,hP',qQ.rd id ?_ ?_ rfl⟩
     all_goals simp (disch:=omega) only [go_sem,seval,id,hs']
    ·have h5b:(k != 5)=true:=by simpa using h5
     have hE:=hE h5
     generalize hY:rpP act es (i+1)=Y at *
     generalize rpP act es i=X at *
     simp (disch:=omega) only [go_sem,seval,jM,yT,he,h2,hC,h5b,h3,hE]
     refine⟨hlt,hP',qQ.rd id ?_ ?_ rfl⟩
     all_goals simp (disch:=omega) only [go_sem,seval,id,hY]
   ·have hz':(qEc (r,k,ds,d) act==0)=false:=by simpa using hz
    have hz2:(qEc (r,k,ds,d) act != 0)=true:=by simpa using hz
    rw[qXu (zE0 ha he hP hz) hz]
    generalize qEc (r,k,ds,d) act=c at *
    generalize rpP act es i=X at *
    simp (disch:=omega) only [go_sem,seval,jM,yT,he,h2,hC,hz',hz2]
  ·have e:i=es.length:=by omega
   subst e
   rw[List.take_length] at hP
   rw[zLz (zBh ha hP)]
   generalize rpP act es es.length=X at *
   simp (disch:=omega) only [go_sem,seval,jM]
theorem ShA.on {act:Int} {bk:List jI} (h:ShA act bk) {a:Nat} (ha:a<2) (hb:act/2^a%2=1):onB bk a=true:=by
 obtain⟨b0,b1,rfl,h0,h1,-,-⟩:=h
 rcases (show a=0∨a=1 by omega) with rfl | rfl
 ·rw[if_pos (by simpa using hb)] at h0
  unfold onB;exact decide_eq_true h0
 ·rw[if_pos (by simpa using hb)] at h1
  unfold onB;exact decide_eq_true h1
end Go.Eng
end
section
namespace Go.Eng
def vU (n_predict_Registers n_registers_Digest:Nat):AC:=
 (.seq
 (rG 4096 [oO 5 .boxArr [.tmp 2],mC 6 .nil,mC 7 (.t (.int .i64 0))])
 (.seq
 (rG 8192 [mv 11 0,mv 12 1,cL 13 n_predict_Registers true [.tmp 11,.tmp 12],mv 10 13,oO 14 (.extract 0) [.tmp 10],oO 15 (.extract 1) [.tmp 10],oO 8 (.new 2 [(.agg [.nil,(.t (.int .i64 0))])]) [],oS 2 8 14,mv 9 15])
 (.seq
 (.seq
 (rG 12288 [mv 16 9,bN 17 .neq 16 0])
 (.cond (.tmp 17)
 (.seq
 (rG 16384 [mv 18 9,mC 6 .nil,mv 7 18])
 .ret)
 .skip))
 (.seq
 (rG 20480 [oO 19 (.load 2 true) [.tmp 8],oO 20 (.load 2 true) [.tmp 5],cL 21 n_registers_Digest false [.tmp 19,.tmp 20],oO 22 (.extract 0) [.tmp 21],oO 23 (.extract 1) [.tmp 21],mv 6 22,mv 7 23])
 .ret))))
end Go.Eng
end
section
set_option maxRecDepth 20000
set_option maxHeartbeats 64000000
namespace Go.Eng
theorem zUq {l:List Im} {act:Int}:(∀ e∈qW2 l act,evM e)∧(qW2 l act).length≤136∧esM (qW2 l act):=by
 unfold qW2
 split
 ·exact⟨by simp,by simp,by simp,by simp⟩
 ·rename_i h
  have hz:qI6 l=0:=by omega
  obtain⟨hok,_,h8⟩:=qMv hz
  have hv:=zEu (act:=act) (by omega) hok
  have hl:=qZs (act:=act) (l:=l)
  exact⟨fun e he=>(hv e he).2,by omega,by omega,fun e he=>(hv e he).2.x⟩
theorem zPr {l:List Im} {act:Int} (h:prE l act=0):qW2 l act=qUe act l∧(∀ e∈qUe act l,evV act e)∧rpE act (qUe act l)=0∧rpG act (qUe act l)=prG l act:=by
 obtain⟨hz,ha⟩:=zOb h
 have hv:=zEu (act:=act) (by omega) (qMv hz).1
 have hE:=zWo ha hv
 refine⟨by unfold qW2;rw[if_neg (by omega)],hv,hE,?_⟩
 unfold rpG prG
 rw[if_pos hE,if_pos h]
theorem qQm.m {l:List Im} (h:qQm l) (hz:qI6 l=0):zIo l:=⟨h.1,fun x hx=>zNq ((qMv hz).1 x hx)⟩
def qT3:Ct where
 α:=List Im×Int
 as x:=[.t (.sl (x.1.map imT)),.t (.int .i64 x.2)]
 ins _:=[]
 pre x:=qQm x.1
 r x:= .tup [.t (.agg [.sl ((prG x.1 x.2).1.map qBn),.int .i64 (prG x.1 x.2).2]),.t (.int .i64 (prE x.1 x.2))]
 outs _:=[]
 inj:=by
  rintro⟨a,b⟩ ⟨c,d⟩ h _
  simp only[List.cons.injEq,V.t.injEq,T.sl.injEq,T.int.injEq,true_and,and_true,qLr] at h
  obtain⟨rfl,rfl⟩:=h
  exact⟨rfl,rfl⟩
theorem zQ8 {l:List Im} {act:Int} (h:qQm l):qT3.fs [.t (.sl (l.map imT)),.t (.int .i64 act)] []=some (.tup [.t (.agg [.sl ((prG l act).1.map qBn),.int .i64 (prG l act).2]),.t (.int .i64 (prE l act))],[]):=qT3.eq (l,act) h
theorem qXp {l:List Im} {act c:Int} (h:prE l act=c) (hc:c≠0):V.tup [.t (.agg [.sl ((prG l act).1.map qBn),.int .i64 (prG l act).2]),.t (.int .i64 (prE l act))] = .tup [.t (.agg [.sl [],.int .i64 0]),.t (.int .i64 c)]:=by
 unfold prG
 rw[h,if_neg hc];rfl
theorem qG9 (tab:Tab) (gl:Gl) (n1 n2 n3:Nat) (h1:tab.look n1=some qMy.fs) (h2:tab.look n2=some qTr.fs) (h3:tab.look n3=some qT8.fs) (l:List Im) (act:Int) (hm:qQm l) :
  (jW n1 n2 n3).wp tab gl (qE 0 [.t (.sl (l.map imT)),.t (.int .i64 act)]) (qE 0 []) (jK [(4,some (2,true)),(5,none)] 0 (fun r o=>r = .tup [.t (.agg [.sl ((prG l act).1.map qBn),.int .i64 (prG l act).2]),.t (.int .i64 (prE l act))]∧o=[])):=by
 have hC:=zEa hm
 by_cases hz:qI6 l=0
 ·rw[hz] at hC
  by_cases a1:act<1
  ·rw[qXp (c:=1) (by unfold prE;rw[if_neg (by omega),if_pos (.inl a1)]) (by decide)]
   simp (disch:=omega) only [go_sem,seval,jW,h1,hC,a1]
  by_cases a3:3<act
  ·rw[qXp (c:=1) (by unfold prE;rw[if_neg (by omega),if_pos (.inr a3)]) (by decide)]
   simp (disch:=omega) only [go_sem,seval,jW,h1,hC,a1,a3]
  have e0:prE l act=0:=by unfold prE;rw[if_neg (by omega),if_neg (by omega)]
  obtain⟨q1,q2,q3,q4⟩:=zPr e0
  have hE:=zUp (act:=act) (hm.m hz)
  have hR:=zWq (act:=act) (rs:=0) (zUq (l:=l) (act:=act)).2.2
  rw[q1] at hE hR
  rw[q3,q4] at hR
  rw[e0]
  generalize qUe act l=es at *
  generalize prG l act=X at *
  simp (disch:=omega) only [go_sem,seval,jW,h1,hC,a1,a3,h2,hE,h3,hR]
 ·have hz':(qI6 l != 0)=true:=by simpa using hz
  rw[qXp (c:=qI6 l) (if_pos hz) hz]
  generalize qI6 l=c at *
  simp (disch:=omega) only [go_sem,seval,jW,h1,hC,hz']
end Go.Eng
end
section
set_option maxRecDepth 20000
namespace Go.Eng
open Go.MuLone
theorem jEy {P:Program} {G:Gl} {tab:Tab} {f:FuncId} {fn:Func} {c:Code} {ac:AC} {hints:List (Nat×List Nat)} {rs:List (Nat×Option (Nat×Bool))} (hf:P.funcs[f]?=some fn) (hname:(fn.name == "runtime.NumGoroutine")=false) (hb:fn.body=some c) (hann:ann P fn.ntmps hints c=some ac) (hmx:P.follows .mixedOrders=true)
  (ht:qBm P G tab) (hrs:qJl P fn.results.toList=some rs) (ct:Ct) (hn : ∀ x,(ct.as x).length≤fn.ntmps) (hi : ∀ x,(ct.ins x).length≤100)
  (h : ∀ x,ct.pre x→ac.wp tab G (qE 0 (ct.as x)) (qE 0 (ct.ins x)) (jK rs (ct.ins x).length (fun r' o'=>r'=ct.r x∧o'=ct.outs x))):FOk P G f ct.fs:=
 ct.ok (fun args w=>run_callFunc_enter hf hname hb args w) (fun x hx=>zHn hf hb hann hmx ht hrs (hn x) (hi x) (h x hx))
theorem jEw {P:Program} {G:Gl} {tab:Tab} {f:FuncId} {fn:Func} {c:Code} {ac:AC} {hints:List (Nat×List Nat)} {rs:List (Nat×Option (Nat×Bool))} (fz:List Nat) (hf:P.funcs[f]?=some fn) (hname:(fn.name == "runtime.NumGoroutine")=false) (hb:fn.body=some c) (hann:ann P fn.ntmps hints c=some ac) (hmx:P.follows .mixedOrders=true)
  (ht:qBm P G tab) (hrs:qJl P fn.results.toList=some rs) (ct:Ct) (hn : ∀ x,(ct.as x).length≤fn.ntmps) (hi : ∀ x,(ct.ins x).length≤100)
  (h : ∀ x,ct.pre x→ac.wp tab G (qE 0 (ct.as x)) (qE 0 (ct.ins x)) (qAg fz rs (ct.ins x).length (fun r' o'=>r'=ct.r x∧o'=ct.outs x))):FOk P G f ct.fs:=
 ct.ok (fun args w=>run_callFunc_enter hf hname hb args w) (fun x hx=>zHm fz hf hb hann hmx ht hrs (hn x) (hi x) (h x hx))
theorem jEx {P:Program} {G:Gl} {tab:Tab} {f:FuncId} {fn:Func} {c:Code} {ac:AC} {hints:List (Nat×List Nat)} {rs:List (Nat×Option (Nat×Bool))} (hf:P.funcs[f]?=some fn) (hb:fn.body=some c) (hann:ann P fn.ntmps hints c=some ac) (hmx:P.follows .mixedOrders=true)
  (ht:qBm P G tab) (hrs:qJl P fn.results.toList=some rs) {as:List V} (hn:as.length≤fn.ntmps)
  (h:ac.wp tab G (qE 0 as) (qE 0 []) (jK rs 0 (fun r o=>r = .t (.bool true)∧o=[]))):zA4 P G f as [] (.t (.bool true)) []:=
 zHn hf hb hann hmx ht hrs hn (Nat.zero_le _) h
theorem zB {P:Program} {G:Gl} {tab:Tab} {f:FuncId} (fn:Func) (hints:List (Nat×List Nat)) (ac:AC) (rs:List (Nat×Option (Nat×Bool))) (ht:qBm P G tab) (ct:Ct)
  (h : ∀ x,ct.pre x→ac.wp tab G (qE 0 (ct.as x)) (qE 0 (ct.ins x)) (jK rs (ct.ins x).length (fun r' o'=>r'=ct.r x∧o'=ct.outs x)))
  (hf:P.funcs[f]?=some fn:=by kernel_rfl) (hname:(fn.name == "runtime.NumGoroutine")=false:=by kernel_rfl) (hb:fn.body=some (fn.body.getD .skip):=by kernel_rfl) (hann:ann P fn.ntmps hints (fn.body.getD .skip)=some ac:=by kernel_rfl) (hmx:P.follows .mixedOrders=true:=by kernel_rfl)
  (hrs:qJl P fn.results.toList=some rs:=by kernel_rfl) (hn : ∀ x,(ct.as x).length≤fn.ntmps:=by exact fun _=>Nat.le_of_ble_eq_true (by kernel_rfl)) (hi : ∀ x,(ct.ins x).length≤100:=by exact fun _=>Nat.le_of_ble_eq_true (by kernel_rfl)):FOk P G f ct.fs:=jEy hf hname hb hann hmx ht hrs ct hn hi h
theorem vB {P:Program} {G:Gl} {tab:Tab} {f:FuncId} (fz:List Nat) (fn:Func) (hints:List (Nat×List Nat)) (ac:AC) (rs:List (Nat×Option (Nat×Bool))) (ht:qBm P G tab) (ct:Ct)
  (h : ∀ x,ct.pre x→ac.wp tab G (qE 0 (ct.as x)) (qE 0 (ct.ins x)) (qAg fz rs (ct.ins x).length (fun r' o'=>r'=ct.r x∧o'=ct.outs x)))
  (hf:P.funcs[f]?=some fn:=by kernel_rfl) (hname:(fn.name == "runtime.NumGoroutine")=false:=by kernel_rfl) (hb:fn.body=some (fn.body.getD .skip):=by kernel_rfl) (hann:ann P fn.ntmps hints (fn.body.getD .skip)=some ac:=by kernel_rfl) (hmx:P.follows .mixedOrders=true:=by kernel_rfl)
  (hrs:qJl P fn.results.toList=some rs:=by kernel_rfl) (hn : ∀ x,(ct.as x).length≤fn.ntmps:=by exact fun _=>Nat.le_of_ble_eq_true (by kernel_rfl)) (hi : ∀ x,(ct.ins x).length≤100:=by exact fun _=>Nat.le_of_ble_eq_true (by kernel_rfl)):FOk P G f ct.fs:=jEw fz hf hname hb hann hmx ht hrs ct hn hi h
theorem zXb {P:Program} {G:Gl} {tab:Tab} {f:FuncId} (fn:Func) (hints:List (Nat×List Nat)) (ac:AC) (rs:List (Nat×Option (Nat×Bool))) (ht:qBm P G tab) {as:List V}
  (h:ac.wp tab G (qE 0 as) (qE 0 []) (jK rs 0 (fun r o=>r = .t (.bool true)∧o=[])))
  (hf:P.funcs[f]?=some fn:=by kernel_rfl) (hb:fn.body=some (fn.body.getD .skip):=by kernel_rfl) (hann:ann P fn.ntmps hints (fn.body.getD .skip)=some ac:=by kernel_rfl) (hmx:P.follows .mixedOrders=true:=by kernel_rfl)
  (hrs:qJl P fn.results.toList=some rs:=by kernel_rfl) (hn:as.length≤fn.ntmps:=by exact Nat.le_of_ble_eq_true (by kernel_rfl)):zA4 P G f as [] (.t (.bool true)) []:=jEx hf hb hann hmx ht hrs hn h
end Go.Eng
end
section
set_option maxRecDepth 20000
namespace Go.Eng
open Go.MuLone
def SW (tab:Tab) (gl:Gl) (ac:AC) (fs:Fs) (hs:Hs) (Qa:qBs):Prop:=
 ∀ (cx:Cx) (hints:List (Nat×List Nat)) (c:Code),cx.gl=gl→qBm cx.P cx.gl tab→cx.P.follows .mixedOrders=true→ann cx.P cx.nt hints c=some ac→
  ∀ {Qx:Exit→Act→World→Prop} {β:Nat→Option BI} {F:Nat→Prop} {a:Act} {w:World},Rel cx β F (jA fs) (jA hs) a w→
   (∀ e fs' hs' β' F' a' w',Qa e fs' hs'→Rel cx β' F' (jA fs') (jA hs') a' w'→Qx e.ex a' w')→c.wp cx.P Qx a w
def zZ6 (tab:Tab) (gl:Gl) (b:AC) (Q:qBs):qBs:=fun e fs hs=>match e with | .normal=>SW tab gl b fs hs Q | e=>Q e fs hs
theorem qX1 {tab:Tab} {gl:Gl} {b:AC} {Q:qBs} {fs:Fs} {hs:Hs}:zZ6 tab gl b Q .normal fs hs=SW tab gl b fs hs Q:=Eq.trans (Eq.refl _) rfl
theorem zMl {tab:Tab} {gl:Gl} {b:AC} {Q:qBs} {fs:Fs} {hs:Hs}:zZ6 tab gl b Q .ret fs hs=Q .ret fs hs:=Eq.trans (Eq.refl _) rfl
attribute [go_sem] qX1 zMl
theorem SW.of {tab:Tab} {gl:Gl} {ac:AC} {fs:Fs} {hs:Hs} {Q:qBs} (h:ac.wp tab gl fs hs Q):SW tab gl ac fs hs Q:=by
 intro cx hints c hg ht hm ha Qx β F a w R hQ
 subst hg
 exact AC.sound ht hm ha h R hQ
theorem SW.seq {tab:Tab} {gl:Gl} {a b:AC} {fs:Fs} {hs:Hs} {Q:qBs} (h:SW tab gl a fs hs (zZ6 tab gl b Q)):SW tab gl (.seq a b) fs hs Q:=by
 intro cx hints c hg ht hm ha Qx β F act w R hQ
 cases c with
 | seq x y=>
  simp only[ann,Option.bind_eq_some_iff,Option.map_eq_some_iff] at ha
  obtain⟨cx',hx,cy,hy,e⟩:=ha
  cases e
  refine wp_seq (h cx hints x hg ht hm hx R (fun e fs' hs' β' F' a' w' hq R'=>?_))
  cases e with
  | normal=>exact hq cx hints y hg ht hm hy R' hQ
  | exit id=>exact hQ (.exit id) _ _ _ _ _ _ hq R'
  | ret=>exact hQ .ret _ _ _ _ _ _ hq R'
 | cond o x y=>
  simp only[ann,Option.bind_eq_some_iff,Option.map_eq_some_iff] at ha
  obtain⟨_,_,_,_,_,_,e⟩:=ha
  cases hm:jA hints 900000 with
  | none=>rw[hm] at e;cases e
  | some l=>rw[hm] at e;cases e
 | region id ops draw=>
  simp only[ann,Option.bind_eq_some_iff] at ha
  obtain⟨_,_,e⟩:=ha
  split at e
  ·split at e
   ·cases e
   ·cases e
  ·cases e
 | _=>simp[ann] at ha
end Go.Eng
end
section
set_option maxRecDepth 20000
set_option maxHeartbeats 64000000
namespace Go.Eng
theorem zUd {b:List UInt8}:zIo (chG b):=by
 obtain⟨_,h1,h2⟩:=zD8 (b:=b)
 exact⟨by omega,fun x hx=>zNq (h1 x hx)⟩
def zYq:List UInt8:=List.replicate 32 0
def dgE (e:Ev):List UInt8:=e.2.2.1.getD 1 []
def msE (v:List (List UInt8)) (e:Ev):List (List UInt8):=(if e.2.1≠1 then [e.2.2.2] else [])++[v.getD e.1.toNat []++dgE e]
def stV (v:List (List UInt8)) (e:Ev):List (List UInt8):=v.set e.1.toNat (zS (v.getD e.1.toNat []++dgE e))
def hsE:List (List UInt8)→List Ev→List (List UInt8)
 | _,[]=>[]
 | v,e::r=>msE v e++hsE (stV v e) r
def v0:List (List UInt8):=List.replicate 12 zYq
def hsd (l:List Im):List (List UInt8):=(jDr l).map qE2++hsE v0 (qW2 l 2)
theorem zV9 {l:List Im} {act:Int}:RV (prG l act).1∧0≤(prG l act).2∧(prG l act).2≤1000:=by
 unfold prG
 split
 ·rename_i h
  obtain⟨hz,ha⟩:=zOb h
  have:=zOj ha (es:=qUe act l)
  have hl:=qZs (act:=act) (l:=l)
  have h8:=(qMv hz).2.2
  exact⟨this.1.rv,this.2.1,by have:=this.2.2;omega⟩
 ·exact⟨⟨.nil,by simp⟩,by simp,by simp⟩
def pdE (l:List Im) (act s0 s1:Int):Int:=if prE l act=0 then qUd (prG l act).1 s0 s1 else prE l act
def pdB (l:List Im) (act s0 s1:Int):List UInt8:=if pdE l act s0 s1=0 then qBo 5 [qDi s0 s1,zM1 (prG l act).1 s0 s1] else []
def qT2:Ct where
 α:=List Im×Int×Int×Int
 as x:=[.t (.sl (x.1.map imT)),.t (.int .i64 x.2.1),.t (.agg [.int .i64 x.2.2.1,.int .i64 x.2.2.2])]
 ins _:=[]
 pre x:=qQm x.1
 r x:= .tup [.t (.sl ((pdB x.1 x.2.1 x.2.2.1 x.2.2.2).map qA)),.t (.int .i64 (pdE x.1 x.2.1 x.2.2.1 x.2.2.2))]
 outs _:=[]
 inj:=by
  rintro⟨l,c,a,b⟩ ⟨m,f,d,e⟩ h _
  simp only[List.cons.injEq,V.t.injEq,T.int.injEq,T.agg.injEq,T.sl.injEq,true_and,and_true,qLr] at h
  obtain⟨rfl,rfl,rfl,rfl⟩:=h
  exact⟨rfl,rfl⟩
theorem zQ3 {l:List Im} {act s0 s1:Int} (h:qQm l):qT2.fs [.t (.sl (l.map imT)),.t (.int .i64 act),.t (.agg [.int .i64 s0,.int .i64 s1])] []=some (.tup [.t (.sl ((pdB l act s0 s1).map qA)),.t (.int .i64 (pdE l act s0 s1))],[]):=qT2.eq (l,act,s0,s1) h
theorem qU3 {act:Int} {l:List Im} (s0 s1:Int):(prE l act≠0∧pdE l act s0 s1=prE l act∧pdB l act s0 s1=[])∨(prE l act=0∧pdE l act s0 s1≠0∧pdB l act s0 s1=[]∧qGo.fs [.t (.agg [.sl ((prG l act).1.map qBn),.int .i64 (prG l act).2]),.t (.agg [.int .i64 s0,.int .i64 s1])] []=some (.tup [.nil,.t (.int .i64 (pdE l act s0 s1))],[]))∨
  (prE l act=0∧pdE l act s0 s1=0∧(pdB l act s0 s1).length=32∧qGo.fs [.t (.agg [.sl ((prG l act).1.map qBn),.int .i64 (prG l act).2]),.t (.agg [.int .i64 s0,.int .i64 s1])] []=some (.tup [.sl 0 0 32,.t (.int .i64 0)],[.live 1 (((pdB l act s0 s1).map qA).map V.t) true false])):=by
 have he:qGo.fs [.t (.agg [.sl ((prG l act).1.map qBn),.int .i64 (prG l act).2]),.t (.agg [.int .i64 s0,.int .i64 s1])] []=some (zIn (prG l act).1 s0 s1,zIm (prG l act).1 s0 s1):=qGo.eq ((prG l act).1,(prG l act).2,s0,s1) zV9.1
 by_cases hz:prE l act=0
 ·have hE:pdE l act s0 s1=qUd (prG l act).1 s0 s1:=if_pos hz
  by_cases hd:qUd (prG l act).1 s0 s1=0
  ·refine .inr (.inr ⟨hz,hE.trans hd,?_,?_⟩)
   ·unfold pdB;rw[if_pos (hE.trans hd)];exact qH
   ·rw[he]
    unfold zIn zIm pdB
    rw[if_pos hd,if_pos hd,if_pos (hE.trans hd)]
  ·refine .inr (.inl ⟨hz,by rw[hE];exact hd,?_,?_⟩)
   ·unfold pdB;rw[if_neg (by rw[hE];exact hd)]
   ·rw[he,hE]
    unfold zIn zIm
    rw[if_neg hd,if_neg hd]
 ·have hE:pdE l act s0 s1=prE l act:=if_neg hz
  refine .inl ⟨hz,hE,?_⟩
  unfold pdB;rw[if_neg (by rw[hE];exact hz)]
theorem qK9 (tab:Tab) (gl:Gl) (n1 n2:Nat) (h1:tab.look n1=some qT3.fs) (h2:tab.look n2=some qGo.fs) (l:List Im) (act s0 s1:Int) (hm:qQm l) :
  (vU n1 n2).wp tab gl (qE 0 [.t (.sl (l.map imT)),.t (.int .i64 act),.t (.agg [.int .i64 s0,.int .i64 s1])]) (qE 0 []) (jK [(6,none),(7,none)] 0 (fun r o=>r = .tup [.t (.sl ((pdB l act s0 s1).map qA)),.t (.int .i64 (pdE l act s0 s1))]∧o=[])):=by
 have hR:=zQ8 (act:=act) hm
 rcases qU3 (act:=act) (l:=l) s0 s1 with⟨z,e,b⟩ | ⟨z,e,b,hD⟩ | ⟨z,e,b,hD⟩
 ·rw[e,b]
  have z':(prE l act != 0)=true:=by simpa using z
  generalize prE l act=c at *
  generalize prG l act=X at *
  simp (disch:=omega) only [go_sem,seval,vU,h1,hR,z',List.map_nil]
 ·rw[b]
  rw[z] at hR
  generalize pdE l act s0 s1=c at *
  generalize prG l act=X at *
  simp (disch:=omega) only [go_sem,seval,vU,h1,hR,h2,hD,List.map_nil]
 ·rw[e]
  rw[z] at hR
  generalize pdB l act s0 s1=B at *
  generalize prG l act=X at *
  have t32:List.take 32 B=B:=List.take_of_length_le (by omega)
  simp (disch:=omega) only [go_sem,seval,vU,h1,hR,h2,hD,b,t32]
end Go.Eng
end
section
namespace Go.Eng
def qAz (n_evidence_Selection n_predict_Digest:Nat):AC:=
 (.seq
 (rG 4096 [oO 4 (.new 10 [(.agg [(.t (.int .i64 0)),(.t (.int .i64 0)),(.t (.int .i64 0)),.nil,(.t (.int .i64 0)),(.t (.int .i64 0)),.nil,.nil,.nil,.nil])]) [],mC 5 (.t (.int .i64 0))])
 (.seq
 (rG 8192 [mv 9 1,cL 10 n_evidence_Selection false [.tmp 9],oO 6 (.new 1 [(.t (.int .i64 0)),(.t (.int .i64 0))]) [],oS 2 6 10])
 (.seq
 (rG 12288 [mv 12 0,mv 13 1,oO 14 (.load 2 true) [.tmp 6],cL 15 n_predict_Digest true [.tmp 12,.tmp 13,.tmp 14],mv 11 15,oO 16 (.extract 0) [.tmp 11],oO 17 (.extract 1) [.tmp 11],mv 7 16,mv 8 17])
 (.seq
 (.seq
 (rG 16384 [mv 18 8,bN 19 .neq 18 0])
 (.cond (.tmp 19)
 (.seq
 (rG 20480 [oO 20 (.build [(.t (.int .i64 0)),(.t (.int .i64 0)),(.t (.int .i64 0)),.nil,(.t (.int .i64 0)),(.t (.int .i64 0)),.nil,.nil,.nil,.nil] []) [],mv 21 8,oS 10 4 20,mv 5 21])
 .ret)
 .skip))
 (.seq
 (rG 24576 [oO 22 (.load 2 true) [.tmp 6],mv 23 7,oO 24 (.build [(.t (.int .i64 0)),(.t (.int .i64 0)),(.t (.int .i64 0)),.nil,(.t (.int .i64 0)),(.t (.int .i64 0)),.nil,.nil,.nil,.nil] [(0,1),(1,2),(3,1)]) [.cst (.t (.int .i64 1)),.tmp 22,.tmp 23],oS 10 4 24,mC 5 (.t (.int .i64 0))])
 .ret)))))
def yM (n_vault_Branch n_policy_Digest:Nat):AC:=
 (.seq
 (rG 24576 [bT 22 .lss 21 20])
 (.seq
 (.cond (.tmp 22)
 .skip
 (.exit 0))
 (.seq
 (.block 1
 (.seq
 (rG 28672 [oO 23 (.iaddr 1) [.tmp 19,.tmp 21],oO 24 (.load 1 false) [.tmp 23],mv 8 24])
 (.seq
 (rG 32768 [mv 26 8,mv 27 1,cL 28 n_vault_Branch true [.tmp 26,.tmp 27],mv 25 28,oO 29 (.extract 0) [.tmp 25],oO 30 (.extract 1) [.tmp 25],oO 9 (.new 10 [(.agg [(.t (.int .i64 0)),(.t (.int .i64 0)),(.t (.int .i64 0)),.nil,(.t (.int .i64 0)),(.t (.int .i64 0)),.nil,.nil,.nil,.nil])]) [],oS 10 9 29,mv 10 30])
 (.seq
 (.seq
 (rG 36864 [mv 31 10,bN 32 .neq 31 0])
 (.cond (.tmp 32)
 (.seq
 (rG 40960 [mv 33 10,mC 4 .nil,mv 5 33])
 .ret)
 .skip))
 (rG 45056 [mv 34 6,oO 35 (.load 10 true) [.tmp 9],oO 36 (.bslice 10 1 (.agg [(.t (.int .i64 0)),(.t (.int .i64 0)),(.t (.int .i64 0)),.nil,(.t (.int .i64 0)),(.t (.int .i64 0)),.nil,.nil,.nil,.nil]) [0]) [.tmp 35],cL 37 n_policy_Digest true [.tmp 36],oO 38 (.bslice 1 1 .nil [0]) [.tmp 37],oO 39 (.append 1 24) [.tmp 34,.tmp 38],mv 6 39])))))
 (rG 49152 [bN 40 .add 21 1,mv 21 40]))))
def vY (n_vault_Branch n_policy_Digest:Nat):AC:=
 (.seq
 (rG 4096 [mC 4 .nil,mC 5 (.t (.int .i64 0))])
 (.seq
 (.seq
 (rG 8192 [mv 11 0,oO 12 .len [.tmp 11],bN 13 .eql 12 0,mv 14 13,mF 15 0 14,oF 16 14 .len [.tmp 15],oF 17 14 (.bin .gtr) [.tmp 16,.cst (.t (.int .i64 8))],oO 18 .pick [.tmp 14,.cst (.t (.bool true)),.tmp 17]])
 (.cond (.tmp 18)
 (.seq
 (rG 12288 [mC 4 .nil,mC 5 (.t (.int .i64 1))])
 .ret)
 .skip))
 (.seq
 (rG 16384 [mC 6 .nil])
 (.seq
 (.seq
 (rG 20480 [mv 19 0,oO 20 .len [.tmp 19],mC 21 (.t (.int .i64 0))])
 (.block 0
 (.loop (yM n_vault_Branch n_policy_Digest))))
 (.seq
 (rG 53248 [mv 41 6,mv 4 41,mC 5 (.t (.int .i64 0))])
 .ret)))))
def kB (n_vault_Branches n_policy_Digest:Nat):AC:=
 (.seq
 (rG 4096 [mC 4 .nil,mC 5 (.t (.int .i64 0))])
 (.seq
 (rG 8192 [mv 9 0,mv 10 1,cL 11 n_vault_Branches true [.tmp 9,.tmp 10],mv 8 11,oO 12 (.extract 0) [.tmp 8],oO 13 (.extract 1) [.tmp 8],mv 6 12,mv 7 13])
 (.seq
 (.block 0
 (.seq
 (rG 12288 [mv 15 7,bN 16 .neq 15 0,mv 14 16])
 (.cond (.tmp 14)
 (.seq
 (rG 16384 [mv 17 7,mC 4 .nil,mv 5 17])
 .ret)
 (.seq
 (rG 20480 [mv 19 6,oO 20 .len [.tmp 19],bN 21 .eql 20 1,mv 18 21])
 (.cond (.tmp 18)
 (.seq
 (rG 24576 [mv 22 6,oO 23 (.iaddr 1) [.tmp 22,.cst (.t (.int .i64 0))],oO 24 (.load 1 false) [.tmp 23],mv 4 24,mC 5 (.t (.int .i64 0))])
 .ret)
 .skip)))))
 (.seq
 (rG 28672 [mv 25 6,oO 26 (.build [(.t (.int .i64 0)),(.t (.int .i64 0)),(.t (.int .i64 0)),.nil,(.t (.int .i64 0)),(.t (.int .i64 0)),.nil,.nil,.nil,.nil] [(0,1),(9,1)]) [.cst (.t (.int .i64 8)),.tmp 25],oO 27 (.bslice 10 1 (.agg [(.t (.int .i64 0)),(.t (.int .i64 0)),(.t (.int .i64 0)),.nil,(.t (.int .i64 0)),(.t (.int .i64 0)),.nil,.nil,.nil,.nil]) [0]) [.tmp 26],cL 28 n_policy_Digest true [.tmp 27],mv 4 28,mC 5 (.t (.int .i64 0))])
 .ret))))
def vX (n_vault_Policy n_wire_Uint n_digest_Hash n_wrap_Make n_wrap_Private n_vault_Branches:Nat):AC:=
 (.seq
 (rG 4096 [oO 2 .box [.tmp 0],oO 3 .box [.tmp 1],oO 4 (.new 8 [(.agg [(.t (.int .i64 0)),(.t (.int .i64 0)),(.t (.int .i64 0)),(.t (.int .i64 0)),.nil,.nil,.nil,.nil])]) [],mC 5 (.t (.int .i64 0))])
 (.seq
 (.seq
 (rG 8192 [oO 12 (.faddr 0) [.tmp 3],oO 13 (.load 1 false) [.tmp 12],oO 14 (.faddr 0) [.tmp 2],oO 15 (.load 1 false) [.tmp 14],bT 16 .neq 13 15])
 (.cond (.tmp 16)
 (.seq
 (rG 12288 [oO 17 (.build [(.t (.int .i64 0)),(.t (.int .i64 0)),(.t (.int .i64 0)),(.t (.int .i64 0)),.nil,.nil,.nil,.nil] []) [],oS 8 4 17,mC 5 (.t (.int .i64 49))])
 .ret)
 .skip))
 (.seq
 (rG 16384 [oO 19 (.faddr 3) [.tmp 3],oO 20 (.load 1 false) [.tmp 19],oO 21 (.faddr 1) [.tmp 2],oO 22 (.load 1 false) [.tmp 21],cL 23 n_vault_Policy true [.tmp 20,.tmp 22],mv 18 23,oO 24 (.extract 0) [.tmp 18],oO 25 (.extract 1) [.tmp 18],mv 6 24,mv 7 25])
 (.seq
 (.seq
 (rG 20480 [mv 26 7,bN 27 .neq 26 0])
 (.cond (.tmp 27)
 (.seq
 (rG 24576 [oO 28 (.build [(.t (.int .i64 0)),(.t (.int .i64 0)),(.t (.int .i64 0)),(.t (.int .i64 0)),.nil,.nil,.nil,.nil] []) [],mv 29 7,oS 8 4 28,mv 5 29])
 .ret)
 .skip))
 (.seq
 (.reg 28672 (some [0,1,3,0,8,31,0,64,255,511,1023]) [oO 30 (.faddr 0) [.tmp 3],oO 31 (.load 1 false) [.tmp 30],cL 32 n_wire_Uint false [.cst .nil,.cst (.t (.int .i64 2)),.tmp 31],oO 33 (.faddr 1) [.tmp 3],oO 34 (.load 1 false) [.tmp 33],cL 35 n_wire_Uint false [.cst .nil,.cst (.t (.int .i64 2)),.tmp 34],oO 36 (.faddr 2) [.tmp 3],oO 37 (.load 1 false) [.tmp 36],oO 38 (.bslice 1 3 .nil [0,1,2]) [.tmp 32,.tmp 35,.tmp 37],cL 39 n_digest_Hash false [.cst (.t (.int .i64 24)),.tmp 38],mv 8 39])
 (.seq
 (rG 32768 [mv 41 8,mv 42 6,oO 43 (.build [(.t (.int .i64 0)),(.t (.int .i64 0)),(.t (.int .i64 0)),.nil,.nil] [(0,1),(3,1)]) [.cst (.t (.int .i64 3)),.tmp 42],oO 44 (.faddr 2) [.tmp 3],oO 45 (.load 1 false) [.tmp 44],cL 46 n_wrap_Make true [.tmp 41,.tmp 43,.cst .nil,.tmp 45],mv 40 46,oO 47 (.extract 0) [.tmp 40],oO 48 (.extract 1) [.tmp 40],oO 49 (.extract 2) [.tmp 40],oO 9 (.new 5 [(.agg [(.t (.int .i64 0)),(.t (.int .i64 0)),(.t (.int .i64 0)),.nil,.nil])]) [],oO 10 (.new 3 [(.agg [.nil,.nil,.nil])]) [],oS 5 9 47,oS 3 10 48,mv 7 49])
 (.seq
 (.seq
 (rG 36864 [mv 50 7,bN 51 .neq 50 0])
 (.cond (.tmp 51)
 (.seq
 (rG 40960 [oO 52 (.build [(.t (.int .i64 0)),(.t (.int .i64 0)),(.t (.int .i64 0)),(.t (.int .i64 0)),.nil,.nil,.nil,.nil] []) [],mv 53 7,oS 8 4 52,mv 5 53])
 .ret)
 .skip))
 (.seq
 (.reg 45056 (some [0,1,0,0,8,0,0,120,255,0,1023]) [oO 54 (.faddr 1) [.tmp 3],oO 55 (.load 1 false) [.tmp 54],oO 56 (.load 5 true) [.tmp 9],oO 57 (.faddr 3) [.tmp 2],oO 58 (.load 3 true) [.tmp 57],oO 59 (.load 5 true) [.tmp 9],oO 60 (.load 3 true) [.tmp 10],cL 61 n_wrap_Private true [.tmp 58,.tmp 59,.tmp 60],oO 62 (.build [(.t (.int .i64 0)),(.t (.int .i64 0)),(.t (.int .i64 0)),(.t (.int .i64 0)),.nil,.nil,.nil,.nil] [(0,1),(1,5),(6,1)]) [.tmp 55,.tmp 56,.tmp 61],oO 11 (.new 8 [(.agg [(.t (.int .i64 0)),(.t (.int .i64 0)),(.t (.int .i64 0)),(.t (.int .i64 0)),.nil,.nil,.nil,.nil])]) [],oS 8 11 62])
 (.seq
 (.seq
 (rG 49152 [oO 63 (.faddr 3) [.tmp 3],oO 64 (.load 1 false) [.tmp 63],oO 65 .len [.tmp 64],bN 66 .gtr 65 1])
 (.cond (.tmp 66)
 (rG 53248 [oO 68 (.faddr 3) [.tmp 3],oO 69 (.load 1 false) [.tmp 68],oO 70 (.faddr 1) [.tmp 2],oO 71 (.load 1 false) [.tmp 70],cL 72 n_vault_Branches true [.tmp 69,.tmp 71],mv 67 72,oO 73 (.extract 0) [.tmp 67],oO 74 (.extract 1) [.tmp 67],oO 75 (.faddr 7) [.tmp 11],oS 1 75 73])
 .skip))
 (.seq
 (rG 57344 [oO 76 (.load 8 true) [.tmp 11],oS 8 4 76,mC 5 (.t (.int .i64 0))])
 .ret))))))))))
def qJ4:AC:=
 (.seq
 (rG 4096 [mC 0 .nil])
 (.seq
 (rG 8192 [oO 1 (.build [(.t (.int .i64 0)),(.t (zN [])),(.t (.int .i64 0)),.nil] [(0,1),(1,1)]) [.cst (.t (.int .i64 1)),.cst (.t (zN [102]))],oO 2 (.build [(.t (.int .i64 0)),(.t (zN [])),(.t (.int .i64 0)),.nil] [(0,1),(1,1),(2,1)]) [.cst (.t (.int .i64 3)),.cst (.t (zN [107])),.cst (.t (.int .i64 1))],oO 3 (.bslice 4 2 (.agg [(.t (.int .i64 0)),(.t (zN [])),(.t (.int .i64 0)),.nil]) [0,1]) [.tmp 1,.tmp 2],oO 4 (.build [(.t (.int .i64 0)),(.t (zN [])),(.t (.int .i64 0)),.nil] [(0,1),(1,1)]) [.cst (.t (.int .i64 1)),.cst (.t (zN [102]))],oO 5 (.build [(.t (.int .i64 0)),(.t (zN [])),(.t (.int .i64 0)),.nil] [(0,1),(1,1),(2,1)]) [.cst (.t (.int .i64 3)),.cst (.t (zN [107])),.cst (.t (.int .i64 2))],oO 6 (.bslice 4 2 (.agg [(.t (.int .i64 0)),(.t (zN [])),(.t (.int .i64 0)),.nil]) [0,1]) [.tmp 4,.tmp 5],oO 7 (.bslice 1 2 .nil [0,1]) [.tmp 3,.tmp 6],mv 0 7])
 .ret))
def qFy (n_law40_two n_vault_Branches n_vault_Policy n_draw_Enrolled n_vault_Bind n_ref1_Same:Nat):AC:=
 (.seq
 (rG 4096 [mC 0 (.t (.bool false))])
 (.seq
 (rG 8192 [cL 8 n_law40_two true [],cL 9 n_vault_Branches true [.tmp 8,.cst (.t (.int .i64 2))],mv 7 9,oO 10 (.extract 0) [.tmp 7],oO 11 (.extract 1) [.tmp 7],mv 1 10,mv 2 11])
 (.seq
 (rG 12288 [cL 13 n_law40_two true [],cL 14 n_vault_Policy true [.tmp 13,.cst (.t (.int .i64 2))],mv 12 14,oO 15 (.extract 0) [.tmp 12],oO 16 (.extract 1) [.tmp 12],mv 3 15,mv 4 16])
 (.seq
 (rG 16384 [cL 18 n_draw_Enrolled true [.cst (.t (.int .i64 1)),.cst (.t (.int .i64 2))],oO 19 (.bslice 1 1 (.t (qA 0)) [0]) [.cst (.t (qA 115))],oO 20 .idsl [.tmp 19],cL 21 n_law40_two true [],oO 22 (.build [(.t (.int .i64 0)),(.t (.int .i64 0)),.nil,.nil] [(0,1),(1,1),(2,1),(3,1)]) [.cst (.t (.int .i64 1)),.cst (.t (.int .i64 3)),.tmp 20,.tmp 21],cL 23 n_vault_Bind true [.tmp 18,.tmp 22],mv 17 23,oO 24 (.extract 0) [.tmp 17],oO 25 (.extract 1) [.tmp 17],oO 5 (.new 8 [(.agg [(.t (.int .i64 0)),(.t (.int .i64 0)),(.t (.int .i64 0)),(.t (.int .i64 0)),.nil,.nil,.nil,.nil])]) [],oS 8 5 24,mv 6 25])
 (.seq
 (rG 20480 [mv 26 2,bN 27 .eql 26 0,mv 28 27,mG 29 4 28,oG 30 28 (.bin .eql) [.tmp 29,.cst (.t (.int .i64 0))],oO 31 .pick [.tmp 28,.tmp 30,.cst (.t (.bool false))],mv 32 31,mG 33 6 32,oG 34 32 (.bin .eql) [.tmp 33,.cst (.t (.int .i64 0))],oO 35 .pick [.tmp 32,.tmp 34,.cst (.t (.bool false))],mv 36 35,mG 37 1 36,oG 38 36 .len [.tmp 37],oG 39 36 (.bin .eql) [.tmp 38,.cst (.t (.int .i64 2))],oO 40 .pick [.tmp 36,.tmp 39,.cst (.t (.bool false))],mv 41 40,mG 42 3 41,oG 43 41 .len [.tmp 42],oG 44 41 (.bin .eql) [.tmp 43,.cst (.t (.int .i64 32))],oO 45 .pick [.tmp 41,.tmp 44,.cst (.t (.bool false))],mv 46 45,oG 47 46 (.faddr 7) [.tmp 5],oG 48 46 (.load 1 false) [.tmp 47],oG 49 46 .len [.tmp 48],oG 50 46 (.bin .eql) [.tmp 49,.cst (.t (.int .i64 2))],oO 51 .pick [.tmp 46,.tmp 50,.cst (.t (.bool false))],mv 52 51,oG 53 52 (.faddr 1) [.tmp 5],oG 54 52 (.faddr 0) [.tmp 53],oG 55 52 (.load 1 false) [.tmp 54],oG 56 52 (.bin .eql) [.tmp 55,.cst (.t (.int .i64 3))],oO 57 .pick [.tmp 52,.tmp 56,.cst (.t (.bool false))],mv 58 57,oG 59 58 (.faddr 1) [.tmp 5],oG 60 58 (.faddr 3) [.tmp 59],oG 61 58 (.load 1 false) [.tmp 60],mG 62 3 58,cG 63 58 n_ref1_Same false [.tmp 61,.tmp 62],oO 64 .pick [.tmp 58,.tmp 63,.cst (.t (.bool false))],mv 65 64,oG 66 65 (.faddr 6) [.tmp 5],oG 67 65 (.load 1 false) [.tmp 66],oG 68 65 .len [.tmp 67],oG 69 65 (.bin .gtr) [.tmp 68,.cst (.t (.int .i64 32))],oO 70 .pick [.tmp 65,.tmp 69,.cst (.t (.bool false))],mv 0 70])
 .ret)))))
def vG (n_draw_Codes_Next n_draw_Chain:Nat):AC:=
 (.seq
 (.seq
 (rG 16384 [mv 10 1,bN 11 .gtr 10 0])
 (.cond (.tmp 11)
 .skip
 (.exit 0)))
 (.seq
 (.block 1
 (.seq
 (rG 24576 [mv 14 5,cL 15 n_draw_Codes_Next true [.tmp 14,.cst (.t (.int .i64 100))],mv 7 15])
 (.seq
 (.seq
 (rG 28672 [mv 16 7,mv 17 0,oO 18 .len [.tmp 17],bT 19 .gtr 16 18])
 (.cond (.tmp 19)
 (rG 32768 [mC 7 (.t (.int .i64 0))])
 .skip))
 (rG 36864 [mv 20 6,mv 21 0,mv 22 7,oO 23 (.slice 1 true false false) [.tmp 21,.tmp 22],cL 24 n_draw_Chain true [.tmp 23],oO 25 (.bslice 1 1 .nil [0]) [.tmp 24],oO 26 (.append 1 24) [.tmp 20,.tmp 25],mv 6 26]))))
 (rG 20480 [mv 12 1,bN 13 .sub 12 1,mv 1 13])))
def qEh (n_draw_New n_draw_Codes_Next n_draw_Chain:Nat):AC:=
 (.seq
 (rG 4096 [mC 4 .nil])
 (.seq
 (rG 8192 [mv 8 0,cL 9 n_draw_New true [.tmp 8,.cst (.t (.int .i64 120))],mv 5 9])
 (.seq
 (rG 12288 [mC 6 .nil])
 (.seq
 (.block 0
 (.loop (vG n_draw_Codes_Next n_draw_Chain)))
 (.seq
 (rG 40960 [mv 27 6,mv 4 27])
 .ret)))))
def wO (n_law40_awake n_draw_Mod n_draw_Strong n_draw_Enrolled n_draw_Cut n_law40_chains n_vault_Bind n_wrap_Open n_vault_Policy n_ref1_Same:Nat):AC:=
 (.seq
 (rG 4096 [mC 12 (.t (.bool false))])
 (.seq
 (.seq
 (rG 8192 [cL 21 n_law40_awake false [],oO 22 (.un .not) [.tmp 21]])
 (.cond (.tmp 22)
 (.seq
 (rG 12288 [mC 12 (.t (.bool false))])
 .ret)
 .skip))
 (.seq
 (rG 16384 [mv 23 1,cL 24 n_draw_Mod false [.tmp 23,.cst (.t (.int .i64 4))],oO 25 (.bin .add) [.cst (.t (.int .i64 1)),.tmp 24],mv 26 4,cL 27 n_draw_Strong false [.tmp 26],cL 28 n_draw_Enrolled true [.tmp 25,.tmp 27],oO 13 (.new 11 [(.agg [(.t (.int .i64 0)),(.t (.int .i64 0)),.nil,.nil,.nil,.nil,(.t (.int .i64 0)),(.t (.int .i64 0)),(.t (.int .i64 0)),.nil,.nil])]) [],oS 11 13 28])
 (.seq
 (.reg 20480 (some [0,1,0,4,12,0,44,0,0,364,876,2028,4095,0,16383]) [oO 29 (.faddr 0) [.tmp 13],oO 30 (.load 1 false) [.tmp 29],mv 31 2,cL 32 n_draw_Mod false [.tmp 31,.cst (.t (.int .i64 4))],oO 33 (.bin .add) [.cst (.t (.int .i64 1)),.tmp 32],mv 34 5,cL 35 n_draw_Cut true [.tmp 34,.cst (.t (.int .i64 128))],mv 36 0,mv 37 3,cL 38 n_draw_Mod false [.tmp 37,.cst (.t (.int .i64 3))],oO 39 (.bin .add) [.cst (.t (.int .i64 1)),.tmp 38],cL 40 n_law40_chains true [.tmp 36,.tmp 39],oO 41 (.build [(.t (.int .i64 0)),(.t (.int .i64 0)),.nil,.nil] [(0,1),(1,1),(2,1),(3,1)]) [.tmp 30,.tmp 33,.tmp 35,.tmp 40],oO 14 (.new 4 [(.agg [(.t (.int .i64 0)),(.t (.int .i64 0)),.nil,.nil])]) [],oS 4 14 41])
 (.seq
 (rG 24576 [oO 43 (.load 11 true) [.tmp 13],oO 44 (.load 4 true) [.tmp 14],cL 45 n_vault_Bind true [.tmp 43,.tmp 44],mv 42 45,oO 46 (.extract 0) [.tmp 42],oO 47 (.extract 1) [.tmp 42],oO 15 (.new 8 [(.agg [(.t (.int .i64 0)),(.t (.int .i64 0)),(.t (.int .i64 0)),(.t (.int .i64 0)),.nil,.nil,.nil,.nil])]) [],oS 8 15 46,mv 16 47])
 (.seq
 (.seq
 (rG 28672 [mv 48 16,bN 49 .neq 48 0,mv 50 49,oF 51 50 (.faddr 0) [.tmp 15],oF 52 50 (.load 1 false) [.tmp 51],oF 53 50 (.faddr 1) [.tmp 14],oF 54 50 (.load 1 false) [.tmp 53],oF 55 50 (.bin .neq) [.tmp 52,.tmp 54],oO 56 .pick [.tmp 50,.cst (.t (.bool true)),.tmp 55],mv 57 56,oF 58 57 (.faddr 7) [.tmp 15],oF 59 57 (.load 1 false) [.tmp 58],oF 60 57 .len [.tmp 59],oF 61 57 (.faddr 3) [.tmp 14],oF 62 57 (.load 1 false) [.tmp 61],oF 63 57 .len [.tmp 62],oF 64 57 (.bin .neq) [.tmp 60,.tmp 63],mF 65 64 57,oG 66 65 (.faddr 3) [.tmp 14],oG 67 65 (.load 1 false) [.tmp 66],oG 68 65 .len [.tmp 67],oG 69 65 (.bin .eql) [.tmp 68,.cst (.t (.int .i64 1))],mG 70 69 65,oG 71 70 (.faddr 7) [.tmp 15],oG 72 70 (.load 1 false) [.tmp 71],oG 73 70 .len [.tmp 72],oG 74 70 (.bin .eql) [.tmp 73,.cst (.t (.int .i64 0))],oG 75 65 .pick [.tmp 70,.tmp 74,.cst (.t (.bool false))],oG 76 65 (.un .not) [.tmp 75],oF 77 57 .pick [.tmp 65,.tmp 76,.cst (.t (.bool false))],oO 78 .pick [.tmp 57,.cst (.t (.bool true)),.tmp 77]])
 (.cond (.tmp 78)
 (.seq
 (rG 32768 [mC 12 (.t (.bool false))])
 .ret)
 .skip))
 (.seq
 (rG 36864 [oO 80 (.faddr 3) [.tmp 13],oO 81 (.load 3 true) [.tmp 80],oO 82 (.faddr 1) [.tmp 15],oO 83 (.load 5 true) [.tmp 82],oO 84 (.faddr 6) [.tmp 15],oO 85 (.load 1 false) [.tmp 84],cL 86 n_wrap_Open true [.tmp 81,.tmp 83,.tmp 85],mv 79 86,oO 87 (.extract 0) [.tmp 79],oO 88 (.extract 1) [.tmp 79],oO 17 (.new 3 [(.agg [.nil,.nil,.nil])]) [],oS 3 17 87,mv 18 88])
 (.seq
 (rG 40960 [oO 90 (.faddr 3) [.tmp 14],oO 91 (.load 1 false) [.tmp 90],oO 92 (.faddr 1) [.tmp 13],oO 93 (.load 1 false) [.tmp 92],cL 94 n_vault_Policy true [.tmp 91,.tmp 93],mv 89 94,oO 95 (.extract 0) [.tmp 89],oO 96 (.extract 1) [.tmp 89],mv 19 95,mv 20 96])
 (.seq
 (rG 45056 [mv 97 18,bN 98 .eql 97 0,mv 99 98,mG 100 20 99,oG 101 99 (.bin .eql) [.tmp 100,.cst (.t (.int .i64 0))],oO 102 .pick [.tmp 99,.tmp 101,.cst (.t (.bool false))],mv 103 102,oG 104 103 (.faddr 2) [.tmp 17],oG 105 103 (.load 1 false) [.tmp 104],oG 106 103 (.faddr 2) [.tmp 14],oG 107 103 (.load 1 false) [.tmp 106],cG 108 103 n_ref1_Same false [.tmp 105,.tmp 107],oO 109 .pick [.tmp 103,.tmp 108,.cst (.t (.bool false))],mv 110 109,oG 111 110 (.faddr 0) [.tmp 17],oG 112 110 (.load 1 false) [.tmp 111],oG 113 110 .len [.tmp 112],oG 114 110 (.bin .eql) [.tmp 113,.cst (.t (.int .i64 0))],oO 115 .pick [.tmp 110,.tmp 114,.cst (.t (.bool false))],mv 116 115,oG 117 116 (.faddr 1) [.tmp 15],oG 118 116 (.faddr 3) [.tmp 117],oG 119 116 (.load 1 false) [.tmp 118],mG 120 19 116,cG 121 116 n_ref1_Same false [.tmp 119,.tmp 120],oO 122 .pick [.tmp 116,.tmp 121,.cst (.t (.bool false))],mv 12 122])
 .ret)))))))))
def yV (n_law40_awake n_draw_Mod n_draw_Enrolled n_draw_Cut n_draw_Chain n_vault_Bind n_wrap_Open n_ref1_Same n_ref11_Open:Nat):AC:=
 (.seq
 (rG 4096 [mC 8 (.t (.bool false))])
 (.seq
 (.seq
 (rG 8192 [cL 18 n_law40_awake false [],oO 19 (.un .not) [.tmp 18]])
 (.cond (.tmp 19)
 (.seq
 (rG 12288 [mC 8 (.t (.bool false))])
 .ret)
 .skip))
 (.seq
 (rG 16384 [mv 20 1,cL 21 n_draw_Mod false [.tmp 20,.cst (.t (.int .i64 4))],oO 22 (.bin .add) [.cst (.t (.int .i64 1)),.tmp 21],mv 23 2,cL 24 n_draw_Mod false [.tmp 23,.cst (.t (.int .i64 4))],oO 25 (.bin .add) [.cst (.t (.int .i64 1)),.tmp 24],mv 1 22,mv 2 25])
 (.seq
 (rG 20480 [mv 26 1,cL 27 n_draw_Enrolled true [.tmp 26,.cst (.t (.int .i64 2))],mv 28 2,cL 29 n_draw_Enrolled true [.tmp 28,.cst (.t (.int .i64 2))],oO 9 (.new 11 [(.agg [(.t (.int .i64 0)),(.t (.int .i64 0)),.nil,.nil,.nil,.nil,(.t (.int .i64 0)),(.t (.int .i64 0)),(.t (.int .i64 0)),.nil,.nil])]) [],oO 10 (.new 11 [(.agg [(.t (.int .i64 0)),(.t (.int .i64 0)),.nil,.nil,.nil,.nil,(.t (.int .i64 0)),(.t (.int .i64 0)),(.t (.int .i64 0)),.nil,.nil])]) [],oS 11 9 27,oS 11 10 29])
 (.seq
 (rG 24576 [mv 30 1,mv 31 3,cL 32 n_draw_Cut true [.tmp 31,.cst (.t (.int .i64 128))],mv 33 0,cL 34 n_draw_Chain true [.tmp 33],oO 35 (.bslice 1 1 .nil [0]) [.tmp 34],oO 36 (.build [(.t (.int .i64 0)),(.t (.int .i64 0)),.nil,.nil] [(0,1),(1,1),(2,1),(3,1)]) [.tmp 30,.cst (.t (.int .i64 1)),.tmp 32,.tmp 35],oO 11 (.new 4 [(.agg [(.t (.int .i64 0)),(.t (.int .i64 0)),.nil,.nil])]) [],oS 4 11 36])
 (.seq
 (rG 28672 [oO 38 (.load 11 true) [.tmp 9],oO 39 (.load 4 true) [.tmp 11],cL 40 n_vault_Bind true [.tmp 38,.tmp 39],mv 37 40,oO 41 (.extract 0) [.tmp 37],oO 42 (.extract 1) [.tmp 37],oO 12 (.new 8 [(.agg [(.t (.int .i64 0)),(.t (.int .i64 0)),(.t (.int .i64 0)),(.t (.int .i64 0)),.nil,.nil,.nil,.nil])]) [],oS 8 12 41,mv 13 42])
 (.seq
 (.seq
 (rG 32768 [mv 43 13,bN 44 .neq 43 0])
 (.cond (.tmp 44)
 (.seq
 (rG 36864 [mC 8 (.t (.bool false))])
 .ret)
 .skip))
 (.seq
 (rG 40960 [oO 46 (.faddr 3) [.tmp 10],oO 47 (.load 3 true) [.tmp 46],oO 48 (.faddr 1) [.tmp 12],oO 49 (.load 5 true) [.tmp 48],oO 50 (.faddr 6) [.tmp 12],oO 51 (.load 1 false) [.tmp 50],cL 52 n_wrap_Open true [.tmp 47,.tmp 49,.tmp 51],mv 45 52,oO 53 (.extract 0) [.tmp 45],oO 54 (.extract 1) [.tmp 45],oO 14 (.new 3 [(.agg [.nil,.nil,.nil])]) [],oS 3 14 53,mv 15 54])
 (.seq
 (.seq
 (rG 45056 [mv 55 1,mv 56 2,bT 57 .eql 55 56])
 (.cond (.tmp 57)
 (.seq
 (rG 49152 [mv 58 15,bN 59 .eql 58 0,mv 60 59,oG 61 60 (.faddr 2) [.tmp 14],oG 62 60 (.load 1 false) [.tmp 61],oG 63 60 (.faddr 2) [.tmp 11],oG 64 60 (.load 1 false) [.tmp 63],cG 65 60 n_ref1_Same false [.tmp 62,.tmp 64],oO 66 .pick [.tmp 60,.tmp 65,.cst (.t (.bool false))],mv 8 66])
 .ret)
 .skip))
 (.seq
 (rG 53248 [oO 68 (.faddr 3) [.tmp 10],oO 69 (.load 3 true) [.tmp 68],oO 70 (.faddr 1) [.tmp 12],oO 71 (.load 5 true) [.tmp 70],oO 72 (.faddr 6) [.tmp 12],oO 73 (.load 1 false) [.tmp 72],cL 74 n_ref11_Open true [.tmp 69,.tmp 71,.tmp 73],mv 67 74,oO 75 (.extract 0) [.tmp 67],oO 76 (.extract 1) [.tmp 67],oO 16 (.new 3 [(.agg [.nil,.nil,.nil])]) [],oS 3 16 75,mv 17 76])
 (.seq
 (rG 57344 [mv 77 15,bN 78 .neq 77 0,mv 79 78,mF 80 17 79,oF 81 79 (.bin .eql) [.tmp 80,.cst (.t (.int .i64 0))],oO 82 .pick [.tmp 79,.cst (.t (.bool true)),.tmp 81],mv 8 82])
 .ret)))))))))))
end Go.Eng
end
section
set_option maxRecDepth 20000
set_option maxHeartbeats 64000000
namespace Go.Eng
def qLm (act:Int) (l:List Im):Int:=pdE l act (qKx act).1 (qKx act).2
def zTp (act:Int) (l:List Im):List UInt8:=pdB l act (qKx act).1 (qKx act).2
def zTo (act:Int) (l:List Im):As:= .reg (qKx act).1 (qKx act).2 (zTp act l)
def jCw:T:= .agg [.int .i64 0,.int .i64 0,.int .i64 0,.sl [],.int .i64 0,.int .i64 0,.sl [],.sl [],.sl [],.sl []]
def zO6 (act:Int) (l:List Im):V:= .tup [.t (if qLm act l=0 then asT (zTo act l) else jCw),.t (.int .i64 (qLm act l))]
theorem zO5 {act:Int} {l:List Im} (h:qLm act l=0):(zTp act l).length=32:=by
 rcases qU3 (act:=act) (l:=l) (qKx act).1 (qKx act).2 with⟨h1,h2,_⟩ | ⟨_,h2,_⟩ | ⟨_,_,h3,_⟩
 ·exact absurd (h2.symm.trans h) h1
 ·exact absurd h h2
 ·exact h3
theorem zO4 {act:Int} {l:List Im} (h:qLm act l=0):(zTo act l).Ok:=by
 refine⟨?_,?_,zO5 h⟩
 ·simp only[qKx,zWz];split<;>decide
 ·simp only[qKx,zWz];split<;>decide
def qMw:Ct where
 α:=List Im×Int
 as x:=[.t (.sl (x.1.map imT)),.t (.int .i64 x.2)]
 ins _:=[]
 pre x:=qQm x.1 ∧ -1000≤x.2∧x.2≤1000
 r x:=zO6 x.2 x.1
 outs _:=[]
 inj:=by
  rintro⟨a,b⟩ ⟨c,d⟩ h _
  simp only[List.cons.injEq,V.t.injEq,T.sl.injEq,T.int.injEq,true_and,and_true] at h
  obtain⟨h1,rfl⟩:=h
  rw[wB (fun _ _=>qDk) h1]
  exact⟨rfl,rfl⟩
theorem zNn {l:List Im} {act:Int} (h:qQm l ∧ -1000≤act∧act≤1000):qMw.fs [.t (.sl (l.map imT)),.t (.int .i64 act)] []=some (zO6 act l,[]):=qMw.eq (l,act) h
theorem zT8 {l:List Im} {act:Int} (h:qQm l ∧ -1000≤act∧act≤1000) (he:qLm act l=0):qMw.fs [.t (.sl (l.map imT)),.t (.int .i64 act)] []=some (.tup [.t (.agg [.int .i64 1,.int .i64 (qKx act).1,.int .i64 (qKx act).2,.sl ((zTp act l).map qA),.int .i64 0,.int .i64 0,.sl [],.sl [],.sl [],.sl []]),.t (.int .i64 0)],[]):=by
 rw[zNn h,zO6,if_pos he,he];rfl
theorem zO7 {l:List Im} {act:Int} (h:qQm l ∧ -1000≤act∧act≤1000) (he:qLm act l≠0):qMw.fs [.t (.sl (l.map imT)),.t (.int .i64 act)] []=some (.tup [.t (.agg [.int .i64 0,.int .i64 0,.int .i64 0,.sl [],.int .i64 0,.int .i64 0,.sl [],.sl [],.sl [],.sl []]),.t (.int .i64 (qLm act l))],[]):=by
 rw[zNn h,zO6,if_neg he];rfl
theorem qP1 (tab:Tab) (gl:Gl) (n1 n2:Nat) (h1:tab.look n1=some qM3.fs) (h2:tab.look n2=some qT2.fs) (l:List Im) (act:Int) (h:qQm l ∧ -1000≤act∧act≤1000) :
  (qAz n1 n2).wp tab gl (qE 0 [.t (.sl (l.map imT)),.t (.int .i64 act)]) (qE 0 []) (jK [(4,some (10,true)),(5,none)] 0 (fun r o=>r=zO6 act l∧o=[])):=by
 have hS:=zPq h.2
 have hD:=zQ3 (l:=l) (act:=act) (s0:=(qKx act).1) (s1:=(qKx act).2) h.1
 change _=some (V.tup [.t (.sl ((zTp act l).map qA)),.t (.int .i64 (qLm act l))],[]) at hD
 by_cases he:qLm act l=0
 ·rw[zO6,if_pos he,zTo]
  rw[he] at hD ⊢
  generalize zTp act l=d at *
  generalize (qKx act).1=a at *
  generalize (qKx act).2=b at *
  simp only[asT] at *
  simp (disch:=omega) only [go_sem,seval,qAz,h1,hS,h2,hD]
 ·rw[zO6,if_neg he]
  have hb:(qLm act l != 0)=true:=by simpa using he
  generalize qLm act l=e at *
  generalize zTp act l=d at *
  generalize (qKx act).1=a at *
  generalize (qKx act).2=b at *
  simp (disch:=omega) only [go_sem,seval,qAz,h1,hS,h2,hD,hb,jCw]
def qI8 (l:List Im):T:= .sl (l.map imT)
theorem qLp {a b:List Im} (h:qI8 a=qI8 b):a=b:=wB (fun _ _=>qDk) (T.sl.inj h)
def zQ6 (act:Int) (l:List Im):List UInt8:=qWd z32 (zTo act l)
theorem zQ7 {act:Int} {l:List Im}:(zQ6 act l).length=32:=qDg
def zNw (act:Int):List (List Im)→Int
 | []=>0
 | l::r=>if qLm act l≠0 then qLm act l else zNw act r
theorem zFi {act:Int} : ∀ {ls:List (List Im)} {k:Nat},(∀ j,j<k→qLm act (ls.getD j [])=0)→k<ls.length→qLm act (ls.getD k [])≠0→zNw act ls=qLm act (ls.getD k [])
 | [],k,_,h,_=>by simp at h
 | l::r,0,_,_,h=>by simp only[List.getD_cons_zero] at h ⊢;rw[zNw,if_pos h]
 | l::r,k+1,h0,h1,h2=>by
  have:=h0 0 (by omega)
  simp only[List.getD_cons_zero] at this
  simp only[List.getD_cons_succ] at h2 ⊢
  rw[zNw,if_neg (by rw[this];decide)]
  exact zFi (fun j hj=>by simpa only[List.getD_cons_succ] using h0 (j+1) (by omega)) (by simpa using h1) h2
theorem qNu {act:Int} : ∀ {ls:List (List Im)},(∀ j,j<ls.length→qLm act (ls.getD j [])=0)→zNw act ls=0
 | [],_=>rfl
 | l::r,h=>by
  have:=h 0 (by simp)
  simp only[List.getD_cons_zero] at this
  rw[zNw,if_neg (by rw[this];decide)]
  exact qNu (fun j hj=>by simpa only[List.getD_cons_succ] using h (j+1) (by simpa using hj))
def qKj (act:Int) (ls:List (List Im)):Int:=if ls.length=0∨8<ls.length then 1 else zNw act ls
def qRm (act:Int) (ls:List (List Im)):List (List UInt8):=if qKj act ls=0 then ls.map (zQ6 act) else []
abbrev zIl (ls:List (List Im)) (act:Int):Prop:=(∀ l∈ls,zIo l)∧ls.length≤9223372036854775807 ∧ -1000≤act∧act≤1000
def qMx:Ct where
 α:=List (List Im)×Int
 as x:=[.t (.sl (x.1.map qI8)),.t (.int .i64 x.2)]
 ins _:=[]
 pre x:=zIl x.1 x.2
 r x:= .tup [.t (.sl ((qRm x.2 x.1).map bsT)),.t (.int .i64 (qKj x.2 x.1))]
 outs _:=[]
 inj:=by
  rintro⟨a,b⟩ ⟨c,d⟩ h _
  simp only[List.cons.injEq,V.t.injEq,T.sl.injEq,T.int.injEq,true_and,and_true] at h
  obtain⟨h1,rfl⟩:=h
  rw[wB (fun _ _=>qLp) h1]
  exact⟨rfl,rfl⟩
theorem zD2 {ls:List (List Im)} {act:Int} (h:zIl ls act):qMx.fs [.t (.sl (ls.map qI8)),.t (.int .i64 act)] []=some (.tup [.t (.sl ((qRm act ls).map bsT)),.t (.int .i64 (qKj act ls))],[]):=qMx.eq (ls,act) h
theorem qLe (tab:Tab) (gl:Gl) (n1 n2:Nat) (h1:tab.look n1=some qMw.fs) (h2:tab.look n2=some qGs.fs) (ls:List (List Im)) (act:Int) (h:zIl ls act) :
  (vY n1 n2).wp tab gl (qE 0 [.t (.sl (ls.map qI8)),.t (.int .i64 act)]) (qE 0 []) (jK [(4,none),(5,none)] 0 (fun r o=>r = .tup [.t (.sl ((qRm act ls).map bsT)),.t (.int .i64 (qKj act ls))]∧o=[])):=by
 obtain⟨hm,hl,ha,ha'⟩:=h
 by_cases z0:ls.length=0
 ·have hE:qKj act ls=1:=if_pos (.inl z0)
  rw[qRm,hE,if_neg (by decide)]
  simp (disch:=omega) only [go_sem,seval,vY,z0,List.map_nil]
 by_cases z8:8<ls.length
 ·have hE:qKj act ls=1:=if_pos (.inr z8)
  rw[qRm,hE,if_neg (by decide)]
  simp (disch:=omega) only [go_sem,seval,vY,z0,z8,List.map_nil]
 have hE:qKj act ls=zNw act ls:=if_neg (by omega)
 simp (disch:=omega) only [go_sem,seval,vY,z0,z8]
 refine kU ls.length (fun k => ∀ j,j<k→qLm act (ls.getD j [])=0) (fun k=>[(1,.t (.int .i64 act)),(6,.sl 9000 0 k),(19,.t (.sl (ls.map qI8))),(20,.t (.int .i64 ls.length)),(21,.t (.int .i64 k))]) (fun k=>[(9000,.live 1 ((((ls.take k).map (zQ6 act)).map bsT).map V.t) true false)]) (fun j hj=>by omega) ?_ (fun k hk hP=>?_)
 ·refine qQ.cv0 (hv:=[(9000,.live 1 [] true false)]) (ho:=[]) id ?_ ?_ rfl rfl
  all_goals simp (disch:=omega) only [go_sem,seval,id]
  all_goals rfl
 ·by_cases hlt:k<ls.length
  ·obtain⟨l,hg⟩ : ∃ l,ls[k]?=some l:=⟨_,List.getElem?_eq_getElem hlt⟩
   have hgd:ls.getD k []=l:=by rw[List.getD_eq_getElem?_getD,hg];rfl
   have hmk:zIo l:=hm _ (List.mem_of_getElem? hg)
   have hc:qI8 l = .sl (l.map imT):=rfl
   by_cases he:qLm act l=0
   ·have hB:=zT8 ⟨hmk.x,ha,ha'⟩ he
    have hD:=zGi (zO4 he)
    rw[show qWd z32 (zTo act l)=zQ6 act l from rfl] at hD
    have hS:List.map V.t (List.map bsT (List.map (zQ6 act) (List.take (k+1) ls)))=List.map V.t (List.map bsT (List.map (zQ6 act) (List.take k ls)))++[V.t (.sl ((zQ6 act l).map qA))]:=by rw[qQo hg,List.map_append,List.map_append];rfl
    have hN : ∀ j,j<k+1→qLm act (ls.getD j [])=0:=fun j hj=>by
     rcases Nat.lt_or_ge j k with h | h
     ·exact hP j h
     ·rw[show j=k by omega,hgd];exact he
    simp only[zTo,asT] at hD
    simp (disch:=omega) only [go_sem,seval,yM,hlt,hg,Option.map_some,hc,h1,hB,h2,hD]
    refine⟨hN,qQ.rd (fun j=>if j=9000 then 45136 else j) ?_ ?_ rfl⟩
    all_goals simp (disch:=omega) only [go_sem,seval,id,hS]
    all_goals first | omega | rfl
   ·have hB:=zO7 ⟨hmk.x,ha,ha'⟩ he
    have hF:=zFi hP hlt (by rw[hgd];exact he)
    rw[hgd] at hF
    have hb:(qLm act l != 0)=true:=by simpa using he
    rw[qRm,hE,hF,if_neg he]
    generalize qLm act l=e at *
    simp (disch:=omega) only [go_sem,seval,yM,hlt,hg,Option.map_some,hc,h1,hB,hb,List.map_nil]
  ·have e:k=ls.length:=by omega
   subst e
   have hz:=qNu (act:=act) (ls:=ls) hP
   have tl:List.take ls.length ls=ls:=List.take_length
   rw[qRm,hE,hz,if_pos rfl]
   simp (disch:=omega) only [go_sem,seval,yM,tl]
def zFv (bs:List (List UInt8)):List UInt8:=if bs.length=1 then bs.getD 0 [] else qWd z32 (.alt bs)
abbrev zVf (bs:List (List UInt8)):Prop:=(1≤bs.length∧bs.length≤8) ∧ ∀ b∈bs,b.length=32
theorem zKe {bs:List (List UInt8)} (h:zVf bs):(zFv bs).length=32:=by
 unfold zFv
 split
 ·exact zFk h.2 (by omega)
 ·exact qDg
theorem zLd {bs:List (List UInt8)} (h:(As.alt bs).Ok):qGs.fs [.t (.sl [.agg [.int .i64 8,.int .i64 0,.int .i64 0,.sl [],.int .i64 0,.int .i64 0,.sl [],.sl [],.sl [],.sl (bs.map bsT)]])] []=some (.t (.sl ((qWd z32 (.alt bs)).map qA)),[]):=zGi h
def qHi (act:Int) (ls:List (List Im)):List UInt8:=if qKj act ls=0 then zFv (qRm act ls) else []
theorem qZh {act:Int} {ls:List (List Im)} (h:qKj act ls=0):zVf (qRm act ls):=by
 rw[qRm,if_pos h]
 have hl : ¬ (ls.length=0∨8<ls.length):=by
  intro hx
  rw[qKj,if_pos hx] at h
  exact absurd h (by decide)
 refine⟨by rw[List.length_map];omega,fun b hb=>?_⟩
 obtain⟨l,_,rfl⟩:=List.mem_map.1 hb
 exact zQ7
def qNc:Ct where
 α:=List (List Im)×Int
 as x:=[.t (.sl (x.1.map qI8)),.t (.int .i64 x.2)]
 ins _:=[]
 pre x:=zIl x.1 x.2
 r x:= .tup [.t (.sl ((qHi x.2 x.1).map qA)),.t (.int .i64 (qKj x.2 x.1))]
 outs _:=[]
 inj:=by
  rintro⟨a,b⟩ ⟨c,d⟩ h _
  simp only[List.cons.injEq,V.t.injEq,T.sl.injEq,T.int.injEq,true_and,and_true] at h
  obtain⟨h1,rfl⟩:=h
  rw[wB (fun _ _=>qLp) h1]
  exact⟨rfl,rfl⟩
theorem zGk {ls:List (List Im)} {act:Int} (h:zIl ls act):qNc.fs [.t (.sl (ls.map qI8)),.t (.int .i64 act)] []=some (.tup [.t (.sl ((qHi act ls).map qA)),.t (.int .i64 (qKj act ls))],[]):=qNc.eq (ls,act) h
theorem qP2 (tab:Tab) (gl:Gl) (n1 n2:Nat) (h1:tab.look n1=some qMx.fs) (h2:tab.look n2=some qGs.fs) (ls:List (List Im)) (act:Int) (h:zIl ls act) :
  (kB n1 n2).wp tab gl (qE 0 [.t (.sl (ls.map qI8)),.t (.int .i64 act)]) (qE 0 []) (jK [(4,none),(5,none)] 0 (fun r o=>r = .tup [.t (.sl ((qHi act ls).map qA)),.t (.int .i64 (qKj act ls))]∧o=[])):=by
 have hB:=zD2 h
 by_cases he:qKj act ls=0
 ·have hj:=qZh he
  rw[qHi,if_pos he,he]
  rw[he] at hB
  generalize qRm act ls=bs at *
  by_cases h1l:bs.length=1
  ·rw[zFv,if_pos h1l]
   simp (disch:=omega) only [go_sem,seval,kB,h1,hB,h1l]
  ·rw[zFv,if_neg h1l]
   have hD:=zLd (bs:=bs) ⟨by omega,hj.2⟩
   generalize qWd z32 (.alt bs)=z at *
   simp (disch:=omega) only [go_sem,seval,kB,h1,hB,h1l,h2,hD]
 ·rw[qHi,if_neg he]
  have hb:(qKj act ls != 0)=true:=by simpa using he
  generalize qKj act ls=e at *
  simp (disch:=omega) only [go_sem,seval,kB,h1,hB,hb,List.map_nil]
def qTc (mach num:Int) (d:List UInt8) (ls:List (List Im)):T:= .agg [.int .i64 mach,.int .i64 num,.sl (d.map qA),.sl (ls.map qI8)]
theorem zL6 {a b c d:Int} {x y:List UInt8} {l m:List (List Im)} (h:qTc a b x l=qTc c d y m):a=c∧b=d∧x=y∧l=m:=by
 simp only[qTc,T.agg.injEq,List.cons.injEq,T.int.injEq,T.sl.injEq,true_and,and_true,qP] at h
 obtain⟨h1,h2,h3,h4⟩:=h
 exact⟨h1,h2,h3,wB (fun _ _=>qLp) h4⟩
def qB8 (mach num:Int) (d:List UInt8):List UInt8:=qBo 24 [beI 2 mach 2,beI 2 num 2,d]
theorem qXw {mach num:Int} {d:List UInt8}:(qB8 mach num d).length=32:=qH
structure Bd where
 num:Int
 pol:List UInt8
 unq:List UInt8
 prv:List UInt8
 brs:List (List UInt8)
def bdT (b:Bd):T:= .agg [.int .i64 b.num,.int .i64 3,.int .i64 0,.int .i64 0,.sl (b.pol.map qA),.sl (b.unq.map qA),.sl (b.prv.map qA),.sl (b.brs.map bsT)]
def zYs:T:= .agg [.int .i64 0,.int .i64 0,.int .i64 0,.int .i64 0,.sl [],.sl [],.sl [],.sl []]
def qZg (m:Nat) (act mach:Int) (d:List UInt8) (ls:List (List Im)):Int:=if mach≠m then 49 else if qKj act ls≠0 then qKj act ls else if 128<d.length then 4 else 0
def zTn (m:Nat) (act mach num:Int) (d:List UInt8) (ls:List (List Im)):Bd:=
 let p:=qHi act ls
 let sec:=qB8 mach num d
 let u:=qAk (qAp sec) d
 ⟨num,p,u,qQw (qR8 m) p u [] (qAp sec) d,if 1<ls.length then qRm act ls else []⟩
def zNm (m:Nat) (act mach num:Int) (d:List UInt8) (ls:List (List Im)):V:= .tup [.t (if qZg m act mach d ls=0 then bdT (zTn m act mach num d ls) else zYs),.t (.int .i64 (qZg m act mach d ls))]
abbrev zYt (m:Nat) (act:Int) (d:List UInt8) (ls:List (List Im)):Prop:=m≤1000000∧d.length≤500∧zIl ls act
theorem zJr {m n:Nat} {a b:Int} (h:qPa m a=qPa n b):m=n∧a=b:=by
 simp only[qPa,T.agg.injEq,List.cons.injEq,T.int.injEq] at h
 exact⟨Int.natCast_inj.1 h.1.2,h.2.1.2⟩
def qKm:Ct where
 α:=(Nat×Int)×Int×Int×List UInt8×List (List Im)
 as x:=[.t (qPa x.1.1 x.1.2),.t (qTc x.2.1 x.2.2.1 x.2.2.2.1 x.2.2.2.2)]
 ins _:=[]
 pre x:=zYt x.1.1 x.1.2 x.2.2.2.1 x.2.2.2.2
 r x:=zNm x.1.1 x.1.2 x.2.1 x.2.2.1 x.2.2.2.1 x.2.2.2.2
 outs _:=[]
 inj:=by
  rintro⟨⟨a,b⟩,c,d,e,f⟩ ⟨⟨g,i⟩,j,k,l,m⟩ h _
  simp only[List.cons.injEq,V.t.injEq,and_true] at h
  obtain⟨h1,h2⟩:=h
  obtain⟨rfl,rfl⟩:=zJr h1
  obtain⟨rfl,rfl,rfl,rfl⟩:=zL6 h2
  exact⟨rfl,rfl⟩
theorem zT7 {m:Nat} {act mach num:Int} {d:List UInt8} {ls:List (List Im)} (h:zYt m act d ls):qKm.fs [.t (qPa m act),.t (qTc mach num d ls)] []=some (zNm m act mach num d ls,[]):=qKm.eq ((m,act),mach,num,d,ls) h
theorem zD0 {m:Nat} {act mach num:Int} {d:List UInt8} {ls:List (List Im)} (h:zYt m act d ls) (he:qZg m act mach d ls=0):qKm.fs [.t (qPa m act),.t (qTc mach num d ls)] []=some (.tup [.t (bdT (zTn m act mach num d ls)),.t (.int .i64 0)],[]):=by
 rw[zT7 h,zNm,if_pos he,he]
theorem qSb {act:Int} {ls:List (List Im)} (h:qKj act ls=0):(qHi act ls).length=32:=by
 rw[qHi,if_pos h];exact zKe (qZh h)
theorem zJ8 {mach num:Int} {d:List UInt8} (h:d.length≤500):jQ.fs [.t (.int .i64 24),.t (.sl [.sl ((beI 2 mach 2).map qA),.sl ((beI 2 num 2).map qA),.sl (d.map qA)])] []=some (.sl 0 0 32,[.live 1 (((qB8 mach num d).map qA).map V.t) true false]):=qZx (t:=24) (fs:=[beI 2 mach 2,beI 2 num 2,d]) (by omega) (by intro x hx;simp only[List.mem_cons,List.not_mem_nil,or_false] at hx;rcases hx with rfl | rfl | rfl;rw[jB];omega;rw[jB];omega;omega) (by simp)
theorem qV5 (tab:Tab) (gl:Gl) (n1 n2 n3 n4 n5 n6:Nat) (h1:tab.look n1=some qNc.fs) (h2:tab.look n2=some wF.fs) (h3:tab.look n3=some jQ.fs) (h4:tab.look n4=some qTy.fs) (h5:tab.look n5=some qNo.fs) (h6:tab.look n6=some qMx.fs) (m:Nat) (act mach num:Int) (d:List UInt8) (ls:List (List Im)) (h:zYt m act d ls) :
  (vX n1 n2 n3 n4 n5 n6).wp tab gl (qE 0 [.t (qPa m act),.t (qTc mach num d ls)]) (qE 0 []) (jK [(4,some (8,true)),(5,none)] 0 (fun r o=>r=zNm m act mach num d ls∧o=[])):=by
 obtain⟨hm,hd,hc⟩:=h
 by_cases e1:mach=m
 ·have hP:=zGk hc
  have b1:(mach != (m:Int))=false:=by simp[e1]
  by_cases e2:qKj act ls=0
  ·have lP:=qSb e2
   have hU:=qVl (b:=[]) (n:=mach) (by decide)
   have hV:=qVl (b:=[]) (n:=num) (by decide)
   simp only[List.map_nil,List.length_nil,List.nil_append] at hU hV
   have tU : ∀ n:Int,List.take 2 (beI 2 n 2)=beI 2 n 2:=fun n=>List.take_of_length_le (by rw[jB];exact Nat.le_refl _)
   have lU : ∀ n:Int,(beI 2 n 2).length=2:=fun n=>jB
   have hH:=zJ8 (mach:=mach) (num:=num) hd
   have lS:=qXw (mach:=mach) (num:=num) (d:=d)
   have tS:List.take 32 (qB8 mach num d)=qB8 mach num d:=List.take_of_length_le (by omega)
   have hK:=zVt (sec:=qB8 mach num d) (p:=qHi act ls) (d:=d) ⟨by omega,lP,by omega⟩
   rw[zTr] at hK
   by_cases e3:128<d.length
   ·have hE:qZg m act mach d ls=4:=by rw[qZg,if_neg (by simpa using e1),if_neg (by simpa using e2),if_pos e3]
    rw[zNm,hE,if_neg (by decide)]
    rw[e2] at hP
    rw[if_neg (by omega)] at hK
    generalize qHi act ls=p at *
    generalize qB8 mach num d=s at *
    simp only[puT,snT,List.map_nil] at hK
    simp (config := { maxSteps:=2000000 }) (disch:=(first | omega | (simp only[qBq,qBp];omega))) only [go_sem,seval,vX,qPa,qTc,zYs,b1,h1,hP,h2,hU,hV,tU,lU,h3,hH,lS,tS,h4,hK,List.map_nil]
    all_goals rfl
   ·have hE:qZg m act mach d ls=0:=by rw[qZg,if_neg (by simpa using e1),if_neg (by simpa using e2),if_neg e3]
    rw[zNm,hE,if_pos rfl,zTn]
    rw[e2] at hP
    rw[if_pos (by omega)] at hK
    have lM:(qAp (qB8 mach num d)).length=32:=jT
    have lN:=xA (s:=qAp (qB8 mach num d)) (d:=d)
    have lQ:=qDp (m:=m)
    have hW:=zTi (pa:=[]) (ps:=qR8 m) (pd:=[]) (p:=qHi act ls) (u:=qAk (qAp (qB8 mach num d)) d) (a:=[]) (s:=qAp (qB8 mach num d)) (d:=d) ⟨by omega,⟨lP,lN⟩,by simp,by omega,by omega⟩
    have hB:=zD2 hc
    rw[e2] at hB
    try simp only
    generalize qQw (qR8 m) (qHi act ls) (qAk (qAp (qB8 mach num d)) d) [] (qAp (qB8 mach num d)) d=w at *
    generalize qAk (qAp (qB8 mach num d)) d=u at *
    generalize qAp (qB8 mach num d)=ms at *
    generalize qHi act ls=p at *
    generalize qB8 mach num d=s at *
    generalize qRm act ls=bl at *
    simp only[puT,snT,List.map_nil] at hK hW
    by_cases e4:1<ls.length
    ·rw[if_pos e4]
     simp (config := { maxSteps:=2000000 }) (disch:=(first | omega | (simp only[qBq,qBp];omega))) only [go_sem,seval,vX,qPa,qTc,bdT,b1,h1,hP,h2,hU,hV,tU,lU,h3,hH,lS,tS,h4,hK,h5,hW,h6,hB,e4,List.map_nil]
     all_goals first | rfl | exact⟨rfl,rfl⟩
    ·rw[if_neg e4]
     simp (config := { maxSteps:=2000000 }) (disch:=(first | omega | (simp only[qBq,qBp];omega))) only [go_sem,seval,vX,qPa,qTc,bdT,b1,h1,hP,h2,hU,hV,tU,lU,h3,hH,lS,tS,h4,hK,h5,hW,e4,List.map_nil]
     all_goals first | rfl | exact⟨rfl,rfl⟩
  ·have hE:qZg m act mach d ls=qKj act ls:=by rw[qZg,if_neg (by simpa using e1),if_pos e2]
   rw[zNm,hE,if_neg e2]
   have hb:(qKj act ls != 0)=true:=by simpa using e2
   generalize qKj act ls=e at *
   simp (config := { maxSteps:=2000000 }) (disch:=(first | omega | (simp only[qBq,qBp];omega))) only [go_sem,seval,vX,qPa,qTc,zYs,b1,h1,hP,hb,List.map_nil]
   all_goals rfl
 ·have hE:qZg m act mach d ls=49:=by rw[qZg,if_pos e1]
  have b1:(mach != (m:Int))=true:=by simpa using e1
  rw[zNm,hE,if_neg (by decide)]
  simp (config := { maxSteps:=2000000 }) (disch:=(first | omega | (simp only[qBq,qBp];omega))) only [go_sem,seval,vX,qPa,qTc,zYs,b1,List.map_nil]
  all_goals rfl
def rd3 (b:List UInt8):List UInt8×List UInt8×List UInt8×Int:=
 let x:=qV (b,0,0) 32
 let y:=qV x.2 32
 let z:=qV y.2 128
 (x.1,y.1,z.1,qAn z.2)
def zM6 (ps p u b:List UInt8):List UInt8×List UInt8×List UInt8×Int:=
 let q:=qUz (qKt ps p u) (qFj p u) b
 if q.2≠0 then ([],[],[],q.2) else
  let r:=rd3 q.1
  if r.2.2.2≠0 then ([],[],[],r.2.2.2) else if u=qAk r.2.1 r.2.2.1 then (r.1,r.2.1,r.2.2.1,0) else ([],[],[],18)
def zDa (r:List UInt8×List UInt8×List UInt8×Int):V:= .tup [.t (snT r.1 r.2.1 r.2.2.1),.t (.int .i64 r.2.2.2)]
abbrev zYj (ps p u b:List UInt8):Prop:=ps.length≤64∧L32 p u∧b.length<1000000∧1≤(zN9 b).2.1.length
def qDf:Ct where
 α:=(List UInt8×List UInt8×List UInt8)×(List UInt8×List UInt8)×List UInt8
 as x:=[.t (snT x.1.1 x.1.2.1 x.1.2.2),.t (puT x.2.1.1 x.2.1.2),.t (.sl (x.2.2.map qA))]
 ins _:=[]
 pre x:=zYj x.1.2.1 x.2.1.1 x.2.1.2 x.2.2
 r x:=zDa (zM6 x.1.2.1 x.2.1.1 x.2.1.2 x.2.2)
 outs _:=[]
 inj:=by
  rintro⟨⟨a,b,c⟩,⟨d,e⟩,l⟩ ⟨⟨f,g,i⟩,⟨j,k⟩,m⟩ h _
  simp only[List.cons.injEq,V.t.injEq,T.sl.injEq,and_true,qP] at h
  obtain⟨h1,h2,rfl⟩:=h
  obtain⟨rfl,rfl,rfl⟩:=qG4 h1
  obtain⟨rfl,rfl⟩:=qJk h2
  exact⟨rfl,rfl⟩
theorem zIa {pa ps pd p u b:List UInt8} (h:zYj ps p u b):qDf.fs [.t (snT pa ps pd),.t (puT p u),.t (.sl (b.map qA))] []=some (zDa (zM6 ps p u b),[]):=qDf.eq ((pa,ps,pd),(p,u),b) h
theorem zGd {k ad b:List UInt8}:(qUz k ad b).1.length≤1024:=by
 have h:(zN9 b).2.1.length≤1024:=vS
 unfold qUz
 simp only
 split
 ·simp
 ·split
  ·rw[yK];exact h
  ·simp
theorem zVh:((128:Nat):Int)=128:=rfl
theorem qY2 (tab:Tab) (gl:Gl) (n1 n2 n3 n4 n5 n6 n7 n8:Nat) (h1:tab.look n1=some qJb.fs) (h2:tab.look n2=some qBa.fs) (h3:tab.look n3=some qEy.fs) (h4:tab.look n4=some qCh.fs) (h5:tab.look n5=some xF.fs) (h6:tab.look n6=some qCg.fs) (h7:tab.look n7=some qQg.fs) (h8:tab.look n8=some kQ.fs) (pa ps pd p u b:List UInt8) (h:zYj ps p u b) :
  (xK n1 n2 n3 n4 n5 n6 n7 n8).wp tab gl (qE 0 [.t (snT pa ps pd),.t (puT p u),.t (.sl (b.map qA))]) (qE 0 []) (jK [(6,some (3,true)),(7,none)] 0 (fun r o=>r=zDa (zM6 ps p u b)∧o=[])):=by
 obtain⟨hps,hL,hb,hc⟩:=h
 have hK:=zH7 (a:=pa) (d:=pd) ⟨hps,hL⟩
 have hE:=qN8 hL
 have lE:=kR hL
 have te:List.take 71 (qFj p u)=qFj p u:=List.take_of_length_le (by omega)
 have hO:=zGc (k:=qKt ps p u) (ad:=qFj p u) (b:=b) ⟨by rw[qGy];omega,by omega,by omega,hc⟩
 have le:=zGd (k:=qKt ps p u) (ad:=qFj p u) (b:=b)
 rw[zM6]
 generalize qUz (qKt ps p u) (qFj p u) b=q at *
 obtain⟨pl,e⟩:=q
 generalize qKt ps p u=k at *
 generalize qFj p u=en at *
 simp only at *
 by_cases he:e=0
 ·subst he
  rw[if_neg (fun h=>h rfl)]
  have r0:qGd (pl,0,0):=⟨Nat.zero_le _,by show pl.length<_;omega⟩
  have e1:=qSe (b:=pl) (by omega)
  have e2:=xG (s:=(pl,0,0)) (k:=32) ⟨r0,by omega⟩
  have ok2:=wI (k:=32) r0
  have le2:=vS (s:=(pl,0,0)) (k:=32)
  have hR:rd3 pl=((qV (pl,0,0) 32).1,(qV (qV (pl,0,0) 32).2 32).1,(qV (qV (qV (pl,0,0) 32).2 32).2 128).1,qAn (qV (qV (qV (pl,0,0) 32).2 32).2 128).2):=rfl
  rw[hR]
  generalize qV (pl,0,0) 32=x at *
  obtain⟨a,s1⟩:=x
  have e3:=xG (s:=s1) (k:=32) ⟨ok2,by omega⟩
  have ok3:=wI (k:=32) ok2
  have le3:=vS (s:=s1) (k:=32)
  try simp only at *
  generalize qV s1 32=y at *
  obtain⟨s,s2⟩:=y
  have e4:=xG (s:=s2) (k:=128) ⟨ok3,by omega⟩
  have ok4:=wI (k:=128) ok3
  have le4:=vS (s:=s2) (k:=128)
  try simp only at *
  generalize qV s2 128=z at *
  obtain⟨d,s3⟩:=z
  have e5:=qSd ok4
  try simp only at *
  generalize qAn s3=f at *
  obtain⟨b1,a1,f1⟩:=s1
  obtain⟨b2,a2,f2⟩:=s2
  obtain⟨b3,a3,f3⟩:=s3
  simp only[rdO,Int.natCast_zero,Int.natCast_one,zVh,zYw] at e1 e2 e3 e4 e5
  try simp only at *
  by_cases hf:f=0
  ·subst hf
   rw[if_neg (fun h=>h rfl)]
   have hU:=zOq (a:=a) (s:=s) (d:=d) ⟨by omega,by omega⟩
   have lU:=xA (s:=s) (d:=d)
   have tU:List.take 32 (qAk s d)=qAk s d:=List.take_of_length_le (by omega)
   have hS:=qFd (a:=u) (b:=qAk s d) ⟨by have:=hL.2;omega,by have:=hL.2;omega⟩
   by_cases hq:u=qAk s d
   ·rw[if_pos hq]
    rw[decide_eq_true hq] at hS
    generalize qAk s d=g at *
    simp (config := { maxSteps:=2000000 }) (disch:=(first | omega | (simp only[qBq,qBp];omega))) only [go_sem,seval,xK,snT,puT,zDa,h1,h2,h3,h4,h5,h6,h7,h8,hK,hE,te,lE,hO,e1,e2,e3,e4,e5,hU,tU,lU,hS]
    all_goals first | rfl | exact⟨rfl,rfl⟩
   ·rw[if_neg hq]
    rw[decide_eq_false hq] at hS
    generalize qAk s d=g at *
    simp (config := { maxSteps:=2000000 }) (disch:=(first | omega | (simp only[qBq,qBp];omega))) only [go_sem,seval,xK,snT,puT,zDa,h1,h2,h3,h4,h5,h6,h7,h8,hK,hE,te,lE,hO,e1,e2,e3,e4,e5,hU,tU,lU,hS,List.map_nil]
    all_goals first | rfl | exact⟨rfl,rfl⟩
  ·rw[if_pos hf]
   have hb:(f != 0)=true:=by simpa using hf
   simp (config := { maxSteps:=2000000 }) (disch:=(first | omega | (simp only[qBq,qBp];omega))) only [go_sem,seval,xK,snT,puT,zDa,h1,h2,h3,h4,h5,h6,h7,h8,hK,hE,te,lE,hO,e1,e2,e3,e4,e5,hb,List.map_nil]
   all_goals first | rfl | exact⟨rfl,rfl⟩
 ·rw[if_pos he]
  have hb:(e != 0)=true:=by simpa using he
  simp (config := { maxSteps:=2000000 }) (disch:=(first | omega | (simp only[qBq,qBp];omega))) only [go_sem,seval,xK,snT,puT,zDa,h1,h2,h3,h4,h5,h6,h7,h8,hK,hE,te,lE,hO,hb,List.map_nil]
  all_goals first | rfl | exact⟨rfl,rfl⟩
theorem qVz (tab:Tab) (gl:Gl) (n1 n2 n3 n4 n5 n6 n7 n8 n9:Nat) (h1:tab.look n1=some qEz.fs) (h2:tab.look n2=some qNh.fs) (h3:tab.look n3=some qBa.fs) (h4:tab.look n4=some qEy.fs) (h5:tab.look n5=some qCh.fs) (h6:tab.look n6=some xF.fs) (h7:tab.look n7=some qCg.fs) (h8:tab.look n8=some qNm.fs) (h9:tab.look n9=some kQ.fs) (pa ps pd p u b:List UInt8) (h:zYj ps p u b) :
  (wZ n1 n2 n3 n4 n5 n6 n7 n8 n9).wp tab gl (qE 0 [.t (snT pa ps pd),.t (puT p u),.t (.sl (b.map qA))]) (qE 0 []) (jK [(6,some (3,true)),(7,none)] 0 (fun r o=>r=zDa (zM6 ps p u b)∧o=[])):=by
 obtain⟨hps,hL,hb,hc⟩:=h
 have hN:=zGj hL
 have hK:=zRy (a:=pa) (s:=ps) (d:=pd) (p:=p) (u:=u) hps
 have hE:=qN8 hL
 have lE:=kR hL
 have te:List.take 71 (qFj p u)=qFj p u:=List.take_of_length_le (by omega)
 have hO:=zGc (k:=qKt ps p u) (ad:=qFj p u) (b:=b) ⟨by rw[qGy];omega,by omega,by omega,hc⟩
 have le:=zGd (k:=qKt ps p u) (ad:=qFj p u) (b:=b)
 rw[zM6]
 generalize qUz (qKt ps p u) (qFj p u) b=q at *
 obtain⟨pl,e⟩:=q
 generalize qKt ps p u=k at *
 generalize qFj p u=en at *
 simp only at *
 by_cases he:e=0
 ·subst he
  rw[if_neg (fun h=>h rfl)]
  have r0:qGd (pl,0,0):=⟨Nat.zero_le _,by show pl.length<_;omega⟩
  have e1:=qSe (b:=pl) (by omega)
  have e2:=xG (s:=(pl,0,0)) (k:=32) ⟨r0,by omega⟩
  have ok2:=wI (k:=32) r0
  have le2:=vS (s:=(pl,0,0)) (k:=32)
  have hR:rd3 pl=((qV (pl,0,0) 32).1,(qV (qV (pl,0,0) 32).2 32).1,(qV (qV (qV (pl,0,0) 32).2 32).2 128).1,qAn (qV (qV (qV (pl,0,0) 32).2 32).2 128).2):=rfl
  rw[hR]
  generalize qV (pl,0,0) 32=x at *
  obtain⟨a,s1⟩:=x
  have e3:=xG (s:=s1) (k:=32) ⟨ok2,by omega⟩
  have ok3:=wI (k:=32) ok2
  have le3:=vS (s:=s1) (k:=32)
  try simp only at *
  generalize qV s1 32=y at *
  obtain⟨s,s2⟩:=y
  have e4:=xG (s:=s2) (k:=128) ⟨ok3,by omega⟩
  have ok4:=wI (k:=128) ok3
  have le4:=vS (s:=s2) (k:=128)
  try simp only at *
  generalize qV s2 128=z at *
  obtain⟨d,s3⟩:=z
  have e5:=qSd ok4
  try simp only at *
  generalize qAn s3=f at *
  obtain⟨b1,a1,f1⟩:=s1
  obtain⟨b2,a2,f2⟩:=s2
  obtain⟨b3,a3,f3⟩:=s3
  simp only[rdO,Int.natCast_zero,Int.natCast_one,zVh,zYw] at e1 e2 e3 e4 e5
  try simp only at *
  by_cases hf:f=0
  ·subst hf
   rw[if_neg (fun h=>h rfl)]
   have hU:=zSx (a:=a) (s:=s) (d:=d) ⟨by omega,by omega⟩
   have lU:=xA (s:=s) (d:=d)
   have tU:List.take 32 (qAk s d)=qAk s d:=List.take_of_length_le (by omega)
   have hS:=qFd (a:=qAk s d) (b:=u) ⟨by have:=hL.2;omega,by have:=hL.2;omega⟩
   by_cases hq:u=qAk s d
   ·rw[if_pos hq]
    rw[decide_eq_true hq.symm] at hS
    generalize qAk s d=g at *
    simp (config := { maxSteps:=2000000 }) (disch:=(first | omega | (simp only[qBq,qBp];omega))) only [go_sem,seval,wZ,snT,puT,zDa,h1,h2,h3,h4,h5,h6,h7,h8,h9,hN,hK,hE,te,lE,hO,e1,e2,e3,e4,e5,hU,tU,lU,hS]
    all_goals first | rfl | exact⟨rfl,rfl⟩
   ·rw[if_neg hq]
    rw[decide_eq_false (fun h=>hq h.symm)] at hS
    generalize qAk s d=g at *
    simp (config := { maxSteps:=2000000 }) (disch:=(first | omega | (simp only[qBq,qBp];omega))) only [go_sem,seval,wZ,snT,puT,zDa,h1,h2,h3,h4,h5,h6,h7,h8,h9,hN,hK,hE,te,lE,hO,e1,e2,e3,e4,e5,hU,tU,lU,hS,List.map_nil]
    all_goals first | rfl | exact⟨rfl,rfl⟩
  ·rw[if_pos hf]
   have hb:(f != 0)=true:=by simpa using hf
   simp (config := { maxSteps:=2000000 }) (disch:=(first | omega | (simp only[qBq,qBp];omega))) only [go_sem,seval,wZ,snT,puT,zDa,h1,h2,h3,h4,h5,h6,h7,h8,h9,hN,hK,hE,te,lE,hO,e1,e2,e3,e4,e5,hb,List.map_nil]
   all_goals first | rfl | exact⟨rfl,rfl⟩
 ·rw[if_pos he]
  have hb:(e != 0)=true:=by simpa using he
  simp (config := { maxSteps:=2000000 }) (disch:=(first | omega | (simp only[qBq,qBp];omega))) only [go_sem,seval,wZ,snT,puT,zDa,h1,h2,h3,h4,h5,h6,h7,h8,h9,hN,hK,hE,te,lE,hO,hb,List.map_nil]
  all_goals first | rfl | exact⟨rfl,rfl⟩
theorem zD1 {l:List Im} {act:Int} (h:qI6 l=0) (ha:1≤act∧act≤3):qLm act l=0:=by
 have e0:prE l act=0:=by unfold prE;rw[if_neg (by omega),if_neg (by omega)]
 have eG:prG l act=rpF act (qUe act l):=if_pos e0
 have hS:=(zOj (act:=act) ha (es:=qUe act l)).1
 rw[qLm,pdE,if_pos e0,eG,qUd]
 rw[if_neg (by rintro (h | h)<;>exact zSc h),if_neg]
 simp only[qKx]
 rintro (⟨h1,h2⟩ | ⟨h1,h2⟩)
 ·by_cases hq:act%2=1
  ·have:=hS.on (a:=0) (by omega) (by simpa using hq)
   rw[this] at h2;cases h2
  ·rw[decide_eq_false hq] at h1;exact h1 rfl
 ·by_cases hq:act/2%2=1
  ·have:=hS.on (a:=1) (by omega) (by simpa using hq)
   rw[this] at h2;cases h2
  ·rw[decide_eq_false hq] at h1;exact h1 rfl
def cw1:List Im:=[(1,[102],0,[]),(3,[107],1,[])]
def cw2:List Im:=[(1,[102],0,[]),(3,[107],2,[])]
theorem zUi:qI6 cw1=0:=by decide
theorem zUj:qI6 cw2=0:=by decide
def qUa:Ct where
 α:=Unit
 as _:=[]
 ins _:=[]
 pre _:=True
 r _:= .t (.sl ([cw1,cw2].map qI8))
 outs _:=[]
 inj:=fun _ _ _ _=>⟨rfl,rfl⟩
theorem zXc:qUa.fs [] []=some (.t (.sl ([cw1,cw2].map qI8)),[]):=qUa.eq () trivial
theorem qYh (tab:Tab) (gl:Gl):qJ4.wp tab gl (qE 0 []) (qE 0 []) (jK [(0,none)] 0 (fun r o=>r = .t (.sl ([cw1,cw2].map qI8))∧o=[])):=by
 simp (disch:=omega) only [go_sem,seval,qJ4]
 exact⟨rfl,rfl⟩
def cwL:List (List Im):=[cw1,cw2]
theorem zZc:zIl cwL 2:=by
 refine⟨?_,by decide,by omega,by omega⟩
 intro l hl
 simp only[cwL,List.mem_cons,List.not_mem_nil,or_false] at hl
 rcases hl with rfl | rfl
 ·refine⟨by simp[cw1],fun x hx=>?_⟩
  simp only[cw1,List.mem_cons,List.not_mem_nil,or_false] at hx
  rcases hx with rfl | rfl
  all_goals exact⟨by simp,by simp,by unfold rI;simp,by unfold rI;simp⟩
 ·refine⟨by simp[cw2],fun x hx=>?_⟩
  simp only[cw2,List.mem_cons,List.not_mem_nil,or_false] at hx
  rcases hx with rfl | rfl
  all_goals exact⟨by simp,by simp,by unfold rI;simp,by unfold rI;simp⟩
theorem qMq {act:Int} {ls:List (List Im)} (h : ∀ l∈ls,qI6 l=0) (ha:1≤act∧act≤3) (hl:1≤ls.length∧ls.length≤8):qKj act ls=0:=by
 rw[qKj,if_neg (by omega)]
 exact qNu (fun j hj=>zD1 (by
  rw[List.getD_eq_getElem?_getD,List.getElem?_eq_getElem hj]
  exact h _ (List.getElem_mem hj)) ha)
theorem zYu:qKj 2 cwL=0:=by
 refine qMq ?_ (by omega) (by decide)
 intro l hl
 simp only[cwL,List.mem_cons,List.not_mem_nil,or_false] at hl
 rcases hl with rfl | rfl
 ·exact zUi
 ·exact zUj
theorem zH2 (tab:Tab) (gl:Gl) (n1 n2 n3 n4 n5 n6:Nat) (h1:tab.look n1=some qUa.fs) (h2:tab.look n2=some qMx.fs) (h3:tab.look n3=some qNc.fs) (h4:tab.look n4=some qM2.fs) (h5:tab.look n5=some qKm.fs) (h6:tab.look n6=some kQ.fs) :
  (qFy n1 n2 n3 n4 n5 n6).wp tab gl (qE 0 []) (qE 0 []) (jK [(0,none)] 0 (fun r o=>r = .t (.bool true)∧o=[])):=by
 have hT:=zXc
 rw[show [cw1,cw2]=cwL from rfl] at hT
 have hB:=zD2 zZc
 have hP:=zGk zZc
 have lB:(qRm 2 cwL).length=2:=by rw[qRm,if_pos zYu,List.length_map];rfl
 have lP:=qSb zYu
 rw[zYu] at hB hP
 have hE:=qZr (m:=1) (a:=2) (by omega)
 rw[show ((1:Nat):Int)=1 from rfl] at hE
 have hN:=zD0 (m:=1) (act:=2) (mach:=1) (num:=3) (d:=[115]) (ls:=cwL) ⟨by omega,by decide,zZc⟩ (by rw[qZg,if_neg (by decide),if_neg (by rw[zYu];decide),if_neg (by decide)])
 have hS:=qFd (a:=qHi 2 cwL) (b:=qHi 2 cwL) ⟨by omega,by omega⟩
 rw[decide_eq_true rfl] at hS
 rw[zTn,if_pos (by decide),bdT] at hN
 simp only[qTc,List.map_cons,List.map_nil] at hN
 have lV:32<(qQw (qR8 1) (qHi 2 cwL) (qAk (qAp (qB8 1 3 [115])) [115]) [] (qAp (qB8 1 3 [115])) [115]).length:=by
  rw[qQw,qOi,kV];omega
 generalize qQw (qR8 1) (qHi 2 cwL) (qAk (qAp (qB8 1 3 [115])) [115]) [] (qAp (qB8 1 3 [115])) [115]=w at *
 generalize qAk (qAp (qB8 1 3 [115])) [115]=u at *
 generalize qHi 2 cwL=p at *
 generalize qRm 2 cwL=bl at *
 generalize cwL=ls at *
 generalize qPa 1 2=en at *
 simp (disch:=omega) only [go_sem,seval,qFy,h1,hT,h2,hB,h3,hP,h4,hE,h5,hN,h6,hS,lB,lP,lV]
def qK1 (codes:List UInt8):Nat→Cd→List (List Im)
 | 0,_=>[]
 | n+1,c=>chG (codes.drop (if codes.length<(nx c 100).1 then 0 else (nx c 100).1))::qK1 codes n (nx c 100).2
theorem qKk {codes:List UInt8} : ∀ {n:Nat} {c:Cd},(qK1 codes n c).length=n
 | 0,_=>rfl
 | n+1,c=>by rw[qK1,List.length_cons,qKk]
theorem qTm {codes:List UInt8} : ∀ {n:Nat} {c:Cd},∀ l∈qK1 codes n c,∃ b,l=chG b
 | 0,c,l,h=>by rw[qK1] at h;exact absurd h (List.not_mem_nil)
 | n+1,c,l,h=>by
  rw[qK1] at h
  rcases List.mem_cons.1 h with h | h
  ·exact⟨_,h⟩
  ·exact qTm l h
def zDh (codes:List UInt8) (n:Nat):List (List Im):=qK1 codes n (codes.take 120,0)
theorem qNp {codes:List UInt8} {n:Nat}:(zDh codes n).length=n:=qKk
theorem qZq {codes:List UInt8} {n:Nat} {l:List Im} (h:l∈zDh codes n) : ∃ b,l=chG b:=by
 rw[zDh] at h
 exact qTm l h
theorem zUm {codes:List UInt8} {n:Nat} {act:Int} (hn:n≤1000) (ha:1≤act∧act≤3):zIl (zDh codes n) act:=by
 have hl:(zDh codes n).length=n:=qNp
 generalize hd:zDh codes n=ls at *
 refine⟨fun l hl=>?_,by omega,by omega,by omega⟩
 rw[←hd] at hl
 obtain⟨b,hb⟩:=qZq hl
 rw[hb]
 exact zUd
theorem zPm {codes:List UInt8} {n:Nat} : ∀ l∈zDh codes n,qI6 l=0:=by
 intro l hl
 obtain⟨b,hb⟩:=qZq hl
 rw[hb]
 exact zD8.1
def qTo:Ct where
 α:=List UInt8×Nat
 as x:=[.t (.sl (x.1.map qA)),.t (.int .i64 x.2)]
 ins _:=[]
 pre x:=x.1.length≤9223372036854775807∧x.2≤100
 r x:= .t (.sl ((zDh x.1 x.2).map qI8))
 outs _:=[]
 inj:=by
  rintro⟨a,b⟩ ⟨c,d⟩ h _
  simp only[List.cons.injEq,V.t.injEq,T.sl.injEq,T.int.injEq,true_and,and_true,qP,Int.natCast_inj] at h
  obtain⟨rfl,rfl⟩:=h
  exact⟨rfl,rfl⟩
theorem zUg {b:List UInt8} {n:Nat} (h:b.length≤9223372036854775807∧n≤100):qTo.fs [.t (.sl (b.map qA)),.t (.int .i64 n)] []=some (.t (.sl ((zDh b n).map qI8)),[]):=qTo.eq (b,n) h
theorem qPu (tab:Tab) (gl:Gl) (n1 n2 n3:Nat) (h1:tab.look n1=some qGp.fs) (h2:tab.look n2=some qCf.fs) (h3:tab.look n3=some qQf.fs) (b:List UInt8) (n:Nat) (hb:b.length≤9223372036854775807) (hn:n≤100) :
  (qEh n1 n2 n3).wp tab gl (qE 0 [.t (.sl (b.map qA)),.t (.int .i64 n)]) (qE 0 []) (jK [(4,none)] 0 (fun r o=>r = .t (.sl ((zDh b n).map qI8))∧o=[])):=by
 have hD:=zEk (b:=b) (n:=120) ⟨hb,by omega⟩
 rw[show ((120:Nat):Int)=120 from rfl] at hD
 have hc0:qB1 (b.take 120,0):=⟨Nat.zero_le _,by show (b.take 120).length<_;rw[List.length_take];omega⟩
 obtain⟨P,hP⟩ : ∃ P,zDh b n=P:=⟨_,rfl⟩
 rw[hP]
 simp (disch:=omega) only [go_sem,seval,qEh,h1,hD]
 refine qDl (σ:=Nat×Cd×List (List Im)) (fun s=>qB1 s.2.1∧s.1+s.2.2.length=n∧s.2.2++qK1 b s.1 s.2.1=P) (fun s=>s.1)
  (fun s=>[(0,.t (.sl (b.map qA))),(1,.t (.int .i64 (s.1:Nat))),(5,.ref 8208 0 0),(6,.sl 9000 0 s.2.2.length)]) (fun s=>[(9000,.live 1 ((s.2.2.map qI8).map V.t) true false),(8208,cdO s.2.1)]) (n,(b.take 120,0),[]) ⟨hc0,by simp,by rw[←hP];rfl⟩ ?_ (fun s hs=>?_)
 ·refine qQ.cv0 (hv:=[(9000,.live 1 [] true false)]) (ho:=[(8208,cdO (b.take 120,0))]) id ?_ ?_ rfl rfl
  all_goals simp (disch:=omega) only [go_sem,seval,id,cdO]
  all_goals rfl
 ·obtain⟨k,c,out⟩:=s
  obtain⟨hc,hk,hq⟩:=hs
  simp only at *
  by_cases hz:k=0
  ·subst hz
   rw[qK1,List.append_nil] at hq
   subst hq
   simp (disch:=omega) only [go_sem,seval,vG]
  ·obtain⟨k',rfl⟩ : ∃ k',k=k'+1:=⟨k-1,by omega⟩
   have hN:=qXm (c:=c) (n:=100) ⟨hc,by omega,by omega⟩
   rw[show ((100:Nat):Int)=100 from rfl] at hN
   have lN:=qR2 (c:=c) (n:=100) (by omega)
   have ok:=qEa (n:=100) hc
   rw[qK1] at hq
   generalize nx c 100=x at *
   obtain⟨f,c'⟩:=x
   simp only at *
   by_cases hf:b.length<f
   ·rw[if_pos hf] at hq
    have hC:=zEj (b:=b) hb
    rw[List.drop_zero] at hq
    generalize chG b=ch at *
    have hS:List.map V.t (List.map qI8 (out++[ch]))=List.map V.t (List.map qI8 out)++[V.t (.sl (ch.map imT))]:=by rw[List.map_append,List.map_append];rfl
    have hQ:(out++[ch])++qK1 b k' c'=P:=by rw[←hq,List.append_assoc];rfl
    simp (disch:=omega) only [go_sem,seval,vG,cdO,h2,hN,hf,h3,hC]
    refine zBp.of (k',c',out++[ch]) ⟨ok,by simp only[List.length_append,List.length_cons,List.length_nil];omega,hQ⟩ (by simp only;omega) (qQ.rd (fun j=>if j=9000 then 36960 else j) ?_ ?_ rfl)
    all_goals simp (disch:=omega) only [go_sem,seval,id,cdO,hS]
    all_goals first | omega | rfl
   ·rw[if_neg hf] at hq
    have hC:=zEj (b:=b.drop f) (by rw[List.length_drop];omega)
    generalize chG (b.drop f)=ch at *
    have hS:List.map V.t (List.map qI8 (out++[ch]))=List.map V.t (List.map qI8 out)++[V.t (.sl (ch.map imT))]:=by rw[List.map_append,List.map_append];rfl
    have hQ:(out++[ch])++qK1 b k' c'=P:=by rw[←hq,List.append_assoc];rfl
    have hdp:List.take (b.length-f) (List.drop f b)=List.drop f b:=List.take_of_length_le (by rw[List.length_drop];omega)
    simp (disch:=omega) only [go_sem,seval,vG,cdO,h2,hN,hf,h3,hdp,hC]
    refine zBp.of (k',c',out++[ch]) ⟨ok,by simp only[List.length_append,List.length_cons,List.length_nil];omega,hQ⟩ (by simp only;omega) (qQ.rd (fun j=>if j=9000 then 36960 else j) ?_ ?_ rfl)
    all_goals simp (disch:=omega) only [go_sem,seval,id,cdO,hS]
    all_goals first | omega | rfl
def f80 (x:Im):Im:=(x.1,x.2.1,x.2.2.1,x.2.2.2.take 80)
abbrev lsX (ls:List (List Im)):Prop:=ls.length≤9223372036854775807 ∧ ∀ l∈ls,qQm l
theorem zZ9 {a:Int}:1≤2+qPe a 2∧2+qPe a 2≤3:=by
 have:=qGz (a:=a) (m:=2) (by omega)
 omega
theorem jC7 : ∀ {b s:List UInt8},b.length=s.length→List.zipWith (· ^^^ ·) (List.zipWith (· ^^^ ·) b s) s=b
 | [],_,_=>rfl
 | x::b,[],h=>by simp at h
 | x::b,y::s,h=>by
  simp only[List.zipWith_cons_cons,List.cons.injEq]
  exact⟨by rw[UInt8.xor_assoc,UInt8.xor_self,UInt8.xor_zero],jC7 (by simpa using h)⟩
theorem zZt {k no b:List UInt8}:qFm k no (qFm k no b)=b:=by
 have h:(qFm k no b).length=b.length:=yK
 rw[qFm,h,qFm]
 exact jC7 (by rw[jT])
theorem zAc {k no ad p:List UInt8} (hn:no.length≤64) (hp:p.length≤1024):zN9 (zIq k no ad p)=(no,qFm k no p,qJo k no ad (qFm k no p),0):=by
 have lc:(qFm k no p).length=p.length:=yK
 have lt:=qBl (k:=k) (no:=no) (ad:=ad) (c:=qFm k no p)
 rw[zIq]
 generalize qJo k no ad (qFm k no p)=t at *
 generalize qFm k no p=c at *
 have l1:(blL [] no).length=2+no.length:=by simp[yJ]
 have l2:(blL (blL [] no) c).length=(blL [] no).length+2+c.length:=yJ
 have e1:blL (blL [] no) c++t=[]++beI 2 (no.length:Int) 2++no++(beI 2 (c.length:Int) 2++c++t):=by
  simp only[blL,List.nil_append,List.append_assoc]
 have e2:blL (blL [] no) c++t=blL [] no++beI 2 (c.length:Int) 2++c++t:=rfl
 have r1:=qFc (most:=64) e1 hn (by omega)
 have r2:=qFc (most:=1024) e2 (by omega) (by omega)
 rw[l1] at r2
 rw[List.length_nil,Nat.zero_add] at r1
 have lb:(blL (blL [] no) c++t).length=2+no.length+2+c.length+32:=by rw[List.length_append,l2,l1,lt]
 have ht:((blL (blL [] no) c++t).drop (2+no.length+2+c.length)).take 32=t:=by
  rw[List.drop_append_of_le_length (by omega),List.drop_of_length_le (by omega),List.nil_append]
  exact List.take_of_length_le (by omega)
 have r3:kW (blL (blL [] no) c++t,2+no.length+2+c.length,0) 32=(t,(blL (blL [] no) c++t,2+no.length+2+c.length+32,0)):=by
  rw[kW,if_neg (by simp),if_neg (by simp only;omega)]
  simp only[ht]
 have r4:qAn (blL (blL [] no) c++t,2+no.length+2+c.length+32,0)=0:=by
  rw[qAn,if_neg (by simp only;omega)]
 simp only[zN9,r1,r2,r3,r4]
theorem zRe {a s d:List UInt8} (ha:a.length≤32) (hs:s.length≤32) (hd:d.length≤128):rd3 (qQv a s d)=(a,s,d,0):=by
 have l1:(blL [] a).length=2+a.length:=by simp[yJ]
 have l2:(blL (blL [] a) s).length=(blL [] a).length+2+s.length:=yJ
 have e1:qQv a s d=[]++beI 2 (a.length:Int) 2++a++(beI 2 (s.length:Int) 2++s++(beI 2 (d.length:Int) 2++d)):=by
  simp only[qQv,blL,List.nil_append,List.append_assoc]
 have e2:qQv a s d=blL [] a++beI 2 (s.length:Int) 2++s++(beI 2 (d.length:Int) 2++d):=by
  simp only[qQv,blL,List.nil_append,List.append_assoc]
 have e3:qQv a s d=blL (blL [] a) s++beI 2 (d.length:Int) 2++d++[]:=by rw[List.append_nil];rfl
 have r1:=qFc (most:=32) e1 ha (by omega)
 have r2:=qFc (most:=32) e2 hs (by omega)
 have r3:=qFc (most:=128) e3 hd (by omega)
 have lb:(qQv a s d).length=6+a.length+s.length+d.length:=kV
 rw[l1] at r2
 rw[l2,l1] at r3
 rw[List.length_nil,Nat.zero_add] at r1
 have r4:qAn (qQv a s d,2+a.length+2+s.length+2+d.length,0)=0:=by
  rw[qAn,if_neg (by simp only;omega)]
 simp only[rd3,r1,r2,r3,r4]
theorem zH9 {ps p s d:List UInt8} (hs:s.length=32) (hd:d.length≤128):zM6 ps p (qAk s d) (qQw ps p (qAk s d) [] s d)=([],s,d,0):=by
 have hp:(qQv [] s d).length≤1024:=by rw[kV];simp only[List.length_nil];omega
 have h0:=zAc (k:=qKt ps p (qAk s d)) (no:=zDi p (qAk s d)) (ad:=qFj p (qAk s d)) (p:=qQv [] s d) (by rw[qDm];omega) hp
 have h1:qUz (qKt ps p (qAk s d)) (qFj p (qAk s d)) (qQw ps p (qAk s d) [] s d)=(qQv [] s d,0):=by
  rw[qQw,qUz,h0]
  simp only
  rw[if_neg (by simp),if_pos trivial,zZt]
 rw[zM6,h1]
 simp only
 rw[if_neg (by simp),zRe (by simp) (by omega) hd]
 first | rfl | simp
theorem zH8 {qs ps p u s d:List UInt8} (hq:qs.length≤64) (hL:L32 p u) (hs:s.length=32) (hd:d.length≤128):zYj qs p u (qQw ps p u [] s d):=by
 have hp:(qQv [] s d).length=6+32+d.length:=by rw[kV,hs];simp only[List.length_nil]
 refine⟨hq,hL,?_,?_⟩
 ·rw[qQw,qOi,hp,qDm];omega
 ·rw[qQw,zAc (by rw[qDm];omega) (by omega)]
  show 1≤(qFm _ _ _).length
  rw[yK,hp];omega
theorem qS7 {r:List UInt8×List UInt8×List UInt8×Int}:zDa r = .tup [.t (.agg [.sl (r.1.map qA),.sl (r.2.1.map qA),.sl (r.2.2.1.map qA)]),.t (.int .i64 r.2.2.2)]:=rfl
theorem qVm (tab:Tab) (gl:Gl) (n1 n2 n3 n4 n5 n6 n7 n8 n9 n10:Nat) (h1:tab.look n1=some qFh.fs) (h2:tab.look n2=some qM8.fs) (h3:tab.look n3=some qM1.fs) (h4:tab.look n4=some qM2.fs) (h5:tab.look n5=some qKn.fs) (h6:tab.look n6=some qTo.fs) (h7:tab.look n7=some qKm.fs) (h8:tab.look n8=some qDf.fs) (h9:tab.look n9=some qNc.fs) (h10:tab.look n10=some kQ.fs)
  (cs:List UInt8) (ma nu n a:Int) (d:List UInt8) (hc:cs.length≤9223372036854775807) (hma:rI ma) (hnu:rI nu) (hn:rI n) (ha:rI a) (hd:d.length≤9223372036854775807) :
  (wO n1 n2 n3 n4 n5 n6 n7 n8 n9 n10).wp tab gl (qE 0 [.t (.sl (cs.map qA)),.t (.int .i64 ma),.t (.int .i64 nu),.t (.int .i64 n),.t (.int .i64 a),.t (.sl (d.map qA))]) (qE 0 []) (jK [(12,none)] 0 (fun r o=>r = .t (.bool true)∧o=[])):=by
 have hM:=qQp (a:=ma) (b:=4) ⟨hma,by omega⟩
 have lM:=qGz (a:=ma) (m:=4) (by omega)
 have hN:=qQp (a:=nu) (b:=4) ⟨hnu,by omega⟩
 have lN:=qGz (a:=nu) (m:=4) (by omega)
 have hK:=qQp (a:=n) (b:=3) ⟨hn,by omega⟩
 have lK:=qGz (a:=n) (m:=3) (by omega)
 have hS:=zPn ha
 have rA:=zZ9 (a:=a)
 generalize 2+qPe a 2=A at *
 generalize qPe ma 4=m at *
 obtain⟨m',rfl⟩ : ∃ k:Nat,m=k:=⟨m.toNat,by omega⟩
 generalize qPe nu 4=nn at *
 obtain⟨nn',rfl⟩ : ∃ k:Nat,nn=k:=⟨nn.toNat,by omega⟩
 generalize qPe n 3=kk at *
 obtain⟨k',rfl⟩ : ∃ k:Nat,kk=k:=⟨kk.toNat,by omega⟩
 have hE:=qZr (m:=1+m') (a:=A) (by omega)
 have cu:qKn.fs [.t (.sl (d.map qA)),.t (.int .i64 128)] []=_:=zNr (b:=d) (n:=128) ⟨hd,by omega⟩
 have lD:(d.take 128).length≤128:=by rw[List.length_take];omega
 generalize d.take 128=D at *
 have hC:=zUg (b:=cs) (n:=1+k') ⟨hc,by omega⟩
 have mL:=zUm (codes:=cs) (n:=1+k') (act:=A) (by omega) rA
 have oL:=zPm (codes:=cs) (n:=1+k')
 have lL:=qNp (codes:=cs) (n:=1+k')
 generalize zDh cs (1+k')=L at *
 have eL:=qMq (act:=A) oL rA (by omega)
 have hP:=zGk mL
 rw[eL] at hP
 have lP:=qSb eL
 have bL:(qRm A L).length=L.length:=by rw[qRm,if_pos eL,List.length_map]
 have hB:=zD0 (m:=1+m') (act:=A) (mach:=((1+m':Nat):Int)) (num:=((1+nn':Nat):Int)) (d:=D) (ls:=L) ⟨by omega,by omega,mL⟩ (by rw[qZg,if_neg (by simp),if_neg (by simpa using eL),if_neg (by omega)])
 have lS:(qAp (qB8 ((1+m':Nat):Int) ((1+nn':Nat):Int) D)).length=32:=jT
 rw[zTn] at hB
 have lU:=xA (s:=qAp (qB8 ((1+m':Nat):Int) ((1+nn':Nat):Int) D)) (d:=D)
 have hO:=zIa (pa:=[]) (pd:=[]) (zH8 (qs:=qR8 (1+m')) (ps:=qR8 (1+m')) (p:=qHi A L) (u:=qAk (qAp (qB8 ((1+m':Nat):Int) ((1+nn':Nat):Int) D)) D) (s:=qAp (qB8 ((1+m':Nat):Int) ((1+nn':Nat):Int) D)) (d:=D) (by rw[qDp];omega) ⟨lP,lU⟩ lS lD)
 rw[zH9 lS lD,qS7] at hO
 have q1:=qFd (a:=D) (b:=D) ⟨by omega,by omega⟩
 rw[decide_eq_true rfl] at q1
 have q2:=qFd (a:=qHi A L) (b:=qHi A L) ⟨by omega,by omega⟩
 rw[decide_eq_true rfl] at q2
 generalize qQw (qR8 (1+m')) (qHi A L) (qAk (qAp (qB8 ((1+m':Nat):Int) ((1+nn':Nat):Int) D)) D) [] (qAp (qB8 ((1+m':Nat):Int) ((1+nn':Nat):Int) D)) D=w at *
 generalize qAk (qAp (qB8 ((1+m':Nat):Int) ((1+nn':Nat):Int) D)) D=u at *
 generalize qAp (qB8 ((1+m':Nat):Int) ((1+nn':Nat):Int) D)=s at *
 generalize qHi A L=p at *
 generalize qRm A L=bl at *
 by_cases h2l:1<L.length
 ·rw[if_pos h2l] at hB
  simp only[qPa,qTc,bdT,snT,puT,List.map_nil] at hE hB hO
  simp (config := { maxSteps:=2000000 }) (disch:=(first | omega | (simp only[qBq,qBp];omega))) only [go_sem,seval,wO,h1,qHx,h2,hM,h3,hS,h4,hE,hN,h5,cu,hK,h6,hC,h7,hB,h8,hO,h9,hP,h10,q1,q2,bL]
  all_goals first | rfl | exact⟨rfl,rfl⟩
 ·rw[if_neg h2l] at hB
  have hl1:L.length=1:=by omega
  simp only[qPa,qTc,bdT,snT,puT,List.map_nil] at hE hB hO
  simp (config := { maxSteps:=2000000 }) (disch:=(first | omega | (simp only[qBq,qBp];omega))) only [go_sem,seval,wO,h1,qHx,h2,hM,h3,hS,h4,hE,hN,h5,cu,hK,h6,hC,h7,hB,h8,hO,h9,hP,h10,q1,q2,hl1]
  all_goals first | rfl | exact⟨rfl,rfl⟩
theorem qVn (tab:Tab) (gl:Gl) (n1 n2 n3 n4 n5 n6 n7 n8 n9:Nat) (h1:tab.look n1=some qFh.fs) (h2:tab.look n2=some qM8.fs) (h3:tab.look n3=some qM2.fs) (h4:tab.look n4=some qKn.fs) (h5:tab.look n5=some qQf.fs) (h6:tab.look n6=some qKm.fs) (h7:tab.look n7=some qDf.fs) (h8:tab.look n8=some kQ.fs) (h9:tab.look n9=some qDf.fs)
  (cs:List UInt8) (ma ot:Int) (d:List UInt8) (hc:cs.length≤9223372036854775807) (hma:rI ma) (hot:rI ot) (hd:d.length≤9223372036854775807) :
  (yV n1 n2 n3 n4 n5 n6 n7 n8 n9).wp tab gl (qE 0 [.t (.sl (cs.map qA)),.t (.int .i64 ma),.t (.int .i64 ot),.t (.sl (d.map qA))]) (qE 0 []) (jK [(8,none)] 0 (fun r o=>r = .t (.bool true)∧o=[])):=by
 have hM:=qQp (a:=ma) (b:=4) ⟨hma,by omega⟩
 have lM:=qGz (a:=ma) (m:=4) (by omega)
 have hN:=qQp (a:=ot) (b:=4) ⟨hot,by omega⟩
 have lN:=qGz (a:=ot) (m:=4) (by omega)
 generalize qPe ma 4=m at *
 obtain⟨m',rfl⟩ : ∃ k:Nat,m=k:=⟨m.toNat,by omega⟩
 generalize qPe ot 4=nn at *
 obtain⟨o',rfl⟩ : ∃ k:Nat,nn=k:=⟨nn.toNat,by omega⟩
 have hE:=qZr (m:=1+m') (a:=2) (by omega)
 have hF:=qZr (m:=1+o') (a:=2) (by omega)
 have cu:qKn.fs [.t (.sl (d.map qA)),.t (.int .i64 128)] []=_:=zNr (b:=d) (n:=128) ⟨hd,by omega⟩
 have lD:(d.take 128).length≤128:=by rw[List.length_take];omega
 generalize d.take 128=D at *
 have hC:=zEj hc
 have mx:=zUd (b:=cs)
 have ox:=(zD8 (b:=cs)).1
 generalize chG cs=x at *
 have mL:zIl [x] 2:=⟨by intro l hl;rw[List.mem_singleton] at hl;rw[hl];exact mx,by simp,by omega,by omega⟩
 have eL:=qMq (act:=2) (ls:=[x]) (by intro l hl;rw[List.mem_singleton] at hl;rw[hl];exact ox) (by omega) (by simp)
 have lP:=qSb eL
 have hB:=zD0 (m:=1+m') (act:=2) (mach:=((1+m':Nat):Int)) (num:=1) (d:=D) (ls:=[x]) ⟨by omega,by omega,mL⟩ (by rw[qZg,if_neg (by simp),if_neg (by simpa using eL),if_neg (by omega)])
 have lS:(qAp (qB8 ((1+m':Nat):Int) 1 D)).length=32:=jT
 rw[zTn,if_neg (by simp)] at hB
 have lU:=xA (s:=qAp (qB8 ((1+m':Nat):Int) 1 D)) (d:=D)
 have hO:=zIa (pa:=[]) (pd:=[]) (zH8 (qs:=qR8 (1+o')) (ps:=qR8 (1+m')) (p:=qHi 2 [x]) (u:=qAk (qAp (qB8 ((1+m':Nat):Int) 1 D)) D) (s:=qAp (qB8 ((1+m':Nat):Int) 1 D)) (d:=D) (by rw[qDp];omega) ⟨lP,lU⟩ lS lD)
 have q1:=qFd (a:=D) (b:=D) ⟨by omega,by omega⟩
 rw[decide_eq_true rfl] at q1
 have hxc : .sl [.sl (x.map imT)]=T.sl ([x].map qI8):=rfl
 by_cases he:m'=o'
 ·subst he
  rw[zH9 lS lD,qS7] at hO
  generalize qQw (qR8 (1+m')) (qHi 2 [x]) (qAk (qAp (qB8 ((1+m':Nat):Int) 1 D)) D) [] (qAp (qB8 ((1+m':Nat):Int) 1 D)) D=w at *
  generalize qAk (qAp (qB8 ((1+m':Nat):Int) 1 D)) D=u at *
  generalize qAp (qB8 ((1+m':Nat):Int) 1 D)=s at *
  generalize qHi 2 [x]=p at *
  simp only[qPa,qTc,bdT,snT,puT,List.map_nil,←hxc] at hE hF hB hO
  simp (config := { maxSteps:=2000000 }) (disch:=(first | omega | (simp only[qBq,qBp];omega))) only [go_sem,seval,yV,h1,qHx,h2,hM,hN,h3,hE,h4,cu,h5,hC,h6,hB,h7,hO,h8,q1]
  all_goals first | rfl | exact⟨rfl,rfl⟩
 ·rw[qS7] at hO
  have ne:(((1+m':Nat):Int)==((1+o':Nat):Int))=false:=by simp;omega
  generalize zM6 (qR8 (1+o')) (qHi 2 [x]) (qAk (qAp (qB8 ((1+m':Nat):Int) 1 D)) D) (qQw (qR8 (1+m')) (qHi 2 [x]) (qAk (qAp (qB8 ((1+m':Nat):Int) 1 D)) D) [] (qAp (qB8 ((1+m':Nat):Int) 1 D)) D)=r at *
  obtain⟨r1,r2,r3,g⟩:=r
  generalize qQw (qR8 (1+m')) (qHi 2 [x]) (qAk (qAp (qB8 ((1+m':Nat):Int) 1 D)) D) [] (qAp (qB8 ((1+m':Nat):Int) 1 D)) D=w at *
  generalize qAk (qAp (qB8 ((1+m':Nat):Int) 1 D)) D=u at *
  generalize qAp (qB8 ((1+m':Nat):Int) 1 D)=s at *
  generalize qHi 2 [x]=p at *
  simp only[qPa,qTc,bdT,snT,puT,List.map_nil,←hxc] at hE hF hB hO
  by_cases hg:g=0
  ·subst hg
   simp (config := { maxSteps:=2000000 }) (disch:=(first | omega | (simp only[qBq,qBp];omega))) only [go_sem,seval,yV,h1,qHx,h2,hM,hN,h3,hE,hF,h4,cu,h5,hC,h6,hB,h7,hO,ne,h9]
   all_goals first | rfl | exact⟨rfl,rfl⟩
  ·have hb:(g != 0)=true:=by simpa using hg
   simp (config := { maxSteps:=2000000 }) (disch:=(first | omega | (simp only[qBq,qBp];omega))) only [go_sem,seval,yV,h1,qHx,h2,hM,hN,h3,hE,hF,h4,cu,h5,hC,h6,hB,h7,hO,ne,h9,hb]
   all_goals first | rfl | exact⟨rfl,rfl⟩
end Go.Eng
end
section
set_option maxRecDepth 20000
namespace Go.Eng
open Go.MuLone
theorem zQw {P:Program} {G:Gl} {f:FuncId} {fn:Func} {c:Code} (hf:P.funcs[f]?=some fn) (hname:(fn.name == "runtime.NumGoroutine")=false) (hb:fn.body=some c)
  (h : ∀ (s:ByteArray) (w:World),Calls P f #[.string s] w fun e w'=>e = .returned (.bool (qCk s.data.toList))∧(w'=w ∨ ∃ pos,w'=w.iter s pos)):FOk P G f qDe.fs:=by
 refine qDe.ok (fun args w=>run_callFunc_enter hf hname hb args w) (fun x _=>?_)
 intro w β F vals env fits hargs
 have hvals:vals = #[.string ⟨List.toArray x⟩]:=by
  obtain⟨l⟩:=vals
  cases hargs with
  | cons h1 h2=>
   cases h2
   cases h1 with
   | t h=>cases h;rfl
 subst hvals
 refine (h _ w).mono fun e w' he=>?_
 obtain⟨rfl,hw⟩:=he
 refine⟨_,β,F,rfl,?_⟩
 have hβ : ∀ k,β k=none:=fun k=>fits.dom k (Nat.zero_le _)
 have hx:qCk (ByteArray.mk (List.toArray x)).data.toList=qCk x:=rfl
 rw[hx]
 have res : ∀ w',qL β F w' (qDe.r x) (.bool (qCk x)):=fun w'=> .t (.bool _)
 have fit : ∀ w',zIr β F w' (qDe.outs x):=fun w'=>⟨fun k o hk=>(by simp[qDe] at hk),fun k _=>hβ k,fun i j bi bj b h1=>(by rw[hβ] at h1;cases h1),fun k bi b h1=>(by rw[hβ] at h1;cases h1)⟩
 rcases hw with rfl | ⟨pos,rfl⟩
 ·exact⟨fit _,res _,fun _ _=>rfl,fun k bi b _ h1=>by (rw[hβ] at h1;cases h1),fun _ _=>Iff.rfl,env.Fw,rfl,rfl,rfl,Nat.le_refl _,fun _ _ _=>rfl⟩
 ·have hsz:(w.iter ⟨List.toArray x⟩ pos).heap.size=w.heap.size+1:=by
   show (w.heap.push _).size=_
   exact Array.size_push _
  have hold : ∀ b,b<w.heap.size→(w.iter ⟨List.toArray x⟩ pos).heap[b]?=w.heap[b]?:=by
   intro b hb
   show (w.heap.push _)[b]?=_
   rw[Array.getElem?_push,if_neg (by omega)]
  exact⟨fit _,res _,fun _ _=>rfl,fun k bi b _ h1=>by (rw[hβ] at h1;cases h1),fun _ _=>Iff.rfl,fun b hb=>by (have:=env.Fw b hb;rw[hsz];omega),rfl,rfl,rfl,by (rw[hsz];omega),fun b hb _=>hold b hb⟩
end Go.Eng
end
section
namespace Go.Eng
def jR:AC:=
 (.seq
 (rG 12288 [bT 8 .lss 7 6])
 (.seq
 (.cond (.tmp 8)
 .skip
 (.exit 0))
 (.seq
 (.block 1
 (.seq
 (rG 16384 [oO 9 (.iaddr 1) [.tmp 5,.tmp 7],oO 10 (.load 1 false) [.tmp 9],mv 4 10])
 (.seq
 (rG 20480 [mv 11 4,oO 12 (.bin .lss) [.tmp 11,.cst (.t (qA 32))],mv 13 12,mF 14 4 13,oF 15 13 (.bin .gtr) [.tmp 14,.cst (.t (qA 126))],oO 16 .pick [.tmp 13,.cst (.t (.bool true)),.tmp 15]])
 (.cond (.tmp 16)
 (.seq
 (rG 24576 [mC 2 (.t (.bool false))])
 .ret)
 .skip))))
 (rG 28672 [bN 17 .add 7 1,mv 7 17]))))
def qBw:AC:=
 (.seq
 (rG 4096 [mC 2 (.t (.bool false))])
 (.seq
 (.seq
 (rG 8192 [mv 5 0,oO 6 .len [.tmp 5],mC 7 (.t (.int .i64 0))])
 (.block 0
 (.loop jR)))
 (.seq
 (rG 32768 [mC 2 (.t (.bool true))])
 .ret)))
def jN (n_bytes_IndexByte n_image_printable:Nat):AC:=
 (.seq
 (.seq
 (rG 16384 [mv 8 4,oO 9 .len [.tmp 8],bN 10 .gtr 9 0])
 (.cond (.tmp 10)
 .skip
 (.exit 0)))
 (.block 1
 (.seq
 (rG 20480 [mv 11 4,cL 12 n_bytes_IndexByte false [.tmp 11,.cst (.t (qA 10))],mv 5 12])
 (.seq
 (.seq
 (rG 24576 [mv 13 5,bN 14 .lss 13 1,mv 15 14,mF 16 3 15,oF 17 15 .len [.tmp 16],oF 18 15 (.bin .eql) [.tmp 17,.cst (.t (.int .i64 4))],oO 19 .pick [.tmp 15,.cst (.t (.bool true)),.tmp 18],mv 20 19,mF 21 4 20,mF 22 5 20,oF 23 20 (.slice 1 false true false) [.tmp 21,.tmp 22],cF 24 20 n_image_printable false [.tmp 23],oF 25 20 (.un .not) [.tmp 24],oO 26 .pick [.tmp 20,.cst (.t (.bool true)),.tmp 25]])
 (.cond (.tmp 26)
 (.seq
 (rG 28672 [mC 2 .nil])
 .ret)
 .skip))
 (.seq
 (rG 32768 [mv 27 3,mv 28 4,mv 29 5,mv 30 5,oO 31 (.slice 1 false true true) [.tmp 28,.tmp 29,.tmp 30],oO 32 (.bslice 1 1 .nil [0]) [.tmp 31],oO 33 (.append 1 24) [.tmp 27,.tmp 32],mv 3 33])
 (rG 36864 [mv 34 4,mv 35 5,bN 36 .add 35 1,oO 37 (.slice 1 true false false) [.tmp 34,.tmp 36],mv 4 37]))))))
def qFx (n_bytes_IndexByte n_image_printable:Nat):AC:=
 (.seq
 (rG 4096 [oO 1 .box [.tmp 0],mC 2 .nil])
 (.seq
 (rG 8192 [mC 3 .nil])
 (.seq
 (.seq
 (rG 12288 [oO 6 (.faddr 3) [.tmp 1],oO 7 (.load 1 false) [.tmp 6],mv 4 7])
 (.block 0
 (.loop (jN n_bytes_IndexByte n_image_printable))))
 (.seq
 (rG 40960 [mv 38 3,mv 2 38])
 .ret))))
def jE (n_image_named n_image_Lines:Nat):AC:=
 (.seq
 (rG 4096 [oO 1 .box [.tmp 0],mC 2 (.t (.int .i64 0))])
 (.seq
 (.block 0
 (.seq
 (rG 8192 [oO 4 (.faddr 0) [.tmp 1],oO 5 (.load 1 false) [.tmp 4],bN 6 .lss 5 1,mv 7 6,oF 8 7 (.faddr 0) [.tmp 1],oF 9 7 (.load 1 false) [.tmp 8],oF 10 7 (.bin .gtr) [.tmp 9,.cst (.t (.int .i64 4))],oO 11 .pick [.tmp 7,.cst (.t (.bool true)),.tmp 10],mv 12 11,oF 13 12 (.faddr 2) [.tmp 1],oF 14 12 (.load 1 false) [.tmp 13],oF 15 12 (.bin .lss) [.tmp 14,.cst (.t (.int .i64 0))],oO 16 .pick [.tmp 12,.cst (.t (.bool true)),.tmp 15],mv 17 16,oF 18 17 (.faddr 2) [.tmp 1],oF 19 17 (.load 1 false) [.tmp 18],oF 20 17 (.bin .gtr) [.tmp 19,.cst (.t (.int .i64 1000000))],oO 21 .pick [.tmp 17,.cst (.t (.bool true)),.tmp 20],mv 3 21])
 (.cond (.tmp 3)
 (.seq
 (rG 12288 [mC 2 (.t (.int .i64 1))])
 .ret)
 (.seq
 (rG 16384 [oO 23 (.faddr 1) [.tmp 1],oO 24 (.load 1 false) [.tmp 23],cL 25 n_image_named false [.tmp 24],oO 26 (.un .not) [.tmp 25],mv 22 26])
 (.cond (.tmp 22)
 (.seq
 (rG 20480 [mC 2 (.t (.int .i64 43))])
 .ret)
 (.seq
 (rG 24576 [oO 28 (.faddr 3) [.tmp 1],oO 29 (.load 1 false) [.tmp 28],oO 30 .len [.tmp 29],bN 31 .gtr 30 64,mv 27 31])
 (.cond (.tmp 27)
 (.seq
 (rG 28672 [mC 2 (.t (.int .i64 4))])
 .ret)
 (.seq
 (rG 32768 [oO 33 (.faddr 0) [.tmp 1],oO 34 (.load 1 false) [.tmp 33],bN 35 .eql 34 4,mv 36 35,oG 37 36 (.load 4 true) [.tmp 1],cG 38 36 n_image_Lines true [.tmp 37],oG 39 36 .len [.tmp 38],oG 40 36 (.bin .eql) [.tmp 39,.cst (.t (.int .i64 0))],oO 41 .pick [.tmp 36,.tmp 40,.cst (.t (.bool false))],mv 32 41])
 (.cond (.tmp 32)
 (.seq
 (rG 36864 [mC 2 (.t (.int .i64 40))])
 .ret)
 .skip)))))))))
 (.seq
 (rG 40960 [mC 2 (.t (.int .i64 0))])
 .ret)))
def qAr (n_image_Check n_wire_Uint n_wire_Blob:Nat):AC:=
 (.seq
 (rG 4096 [oO 1 .box [.tmp 0],mC 2 .nil])
 (.seq
 (.seq
 (rG 8192 [oO 4 (.load 4 true) [.tmp 1],cL 5 n_image_Check false [.tmp 4],bN 6 .neq 5 0])
 (.cond (.tmp 6)
 (.seq
 (rG 12288 [mC 2 .nil])
 .ret)
 .skip))
 (.seq
 (rG 16384 [oO 7 (.faddr 0) [.tmp 1],oO 8 (.load 1 false) [.tmp 7],cL 9 n_wire_Uint false [.cst .nil,.cst (.t (.int .i64 1)),.tmp 8],mv 3 9])
 (.seq
 (rG 20480 [mv 10 3,oO 11 (.faddr 2) [.tmp 1],oO 12 (.load 1 false) [.tmp 11],cL 13 n_wire_Uint false [.tmp 10,.cst (.t (.int .i64 4)),.tmp 12],mv 3 13])
 (.seq
 (rG 24576 [mv 14 3,oO 15 (.faddr 1) [.tmp 1],oO 16 (.load 1 false) [.tmp 15],oO 17 .s2b [.tmp 16],cL 18 n_wire_Blob false [.tmp 14,.tmp 17],mv 3 18])
 (.seq
 (rG 28672 [mv 19 3,oO 20 (.faddr 3) [.tmp 1],oO 21 (.load 1 false) [.tmp 20],cL 22 n_wire_Blob false [.tmp 19,.tmp 21],mv 2 22])
 .ret))))))
def zP (n_digest_Sum:Nat):AC:=
 (.seq
 (rG 20480 [bT 14 .lss 13 12])
 (.seq
 (.cond (.tmp 14)
 .skip
 (.exit 0))
 (.seq
 (.block 1
 (.seq
 (rG 24576 [mv 15 13,mv 7 15])
 (.seq
 (rG 28672 [mv 16 6,oO 17 .len [.tmp 16],bN 18 .gtr 17 0,mv 19 18,mG 20 1 19,mG 21 7 19,oG 22 19 (.bin .shr) [.tmp 20,.tmp 21],oG 23 19 (.bin .and) [.tmp 22,.cst (.t (.int .i64 1))],oG 24 19 (.bin .eql) [.tmp 23,.cst (.t (.int .i64 1))],oO 25 .pick [.tmp 19,.tmp 24,.cst (.t (.bool false))]])
 (.cond (.tmp 25)
 (rG 32768 [mv 26 5,mv 27 7,mv 28 7,mv 29 6,cL 30 n_digest_Sum false [.tmp 28,.tmp 29],oO 31 (.iaddr 1) [.tmp 26,.tmp 27],oS 1 31 30])
 .skip))))
 (rG 36864 [bN 32 .add 13 1,mv 13 32]))))
def qDz (n_image_Encode n_digest_Sum:Nat):AC:=
 (.seq
 (rG 4096 [oO 2 .box [.tmp 0],mC 4 .nil])
 (.seq
 (rG 8192 [oO 8 (.mkslice 1 24 .nil) [.cst (.t (.int .i64 2)),.cst (.t (.int .i64 2))],mv 5 8])
 (.seq
 (rG 12288 [oO 9 (.load 4 true) [.tmp 2],cL 10 n_image_Encode true [.tmp 9],mv 6 10])
 (.seq
 (.seq
 (rG 16384 [mv 11 5,oO 12 .len [.tmp 11],mC 13 (.t (.int .i64 0))])
 (.block 0
 (.loop (zP n_digest_Sum))))
 (.seq
 (rG 40960 [mv 33 5,mv 4 33])
 .ret)))))
def vT (g_image_measured:Nat):AC:=
 (.seq
 (rG 4096 [mC 2 (.t (.int .i64 0))])
 (.seq
 (.seq
 (rG 8192 [mv 3 0,bN 4 .lss 3 0,mv 5 4,mF 6 0 5,oF 7 5 (.bin .geq) [.tmp 6,.cst (.t (.int .i64 5))],oO 8 .pick [.tmp 5,.cst (.t (.bool true)),.tmp 7]])
 (.cond (.tmp 8)
 (.seq
 (rG 12288 [mC 2 (.t (.int .i64 (-1)))])
 .ret)
 .skip))
 (.seq
 (rG 16384 [mv 9 0,oO 10 (.aaddr 5 1) [.glob g_image_measured,.tmp 9],oO 11 (.load 1 false) [.tmp 10],mv 2 11])
 .ret)))
def qBu (n_bytealg_IndexByte:Nat):AC:=
 (.seq
 (rG 4096 [mC 4 (.t (.int .i64 0))])
 (.seq
 (rG 8192 [mv 5 0,mv 6 1,cL 7 n_bytealg_IndexByte false [.tmp 5,.tmp 6],mv 4 7])
 .ret))
def wK (n_image_Check n_image_Register n_image_Digests n_strconv_Itoa:Nat):AC:=
 (.seq
 (rG 4096 [oO 2 .box [.tmp 0],oO 4 (.new 4 [(.agg [(.t (.int .i64 0)),(.t (.int .i64 0)),.nil,.nil])]) []])
 (.seq
 (.seq
 (rG 8192 [oO 5 (.load 4 true) [.tmp 2],cL 6 n_image_Check false [.tmp 5],bN 7 .neq 6 0,mv 8 7,oF 9 8 (.faddr 0) [.tmp 2],oF 10 8 (.load 1 false) [.tmp 9],oF 11 8 (.bin .eql) [.tmp 10,.cst (.t (.int .i64 4))],oO 12 .pick [.tmp 8,.cst (.t (.bool true)),.tmp 11]])
 (.cond (.tmp 12)
 (.seq
 (rG 12288 [oO 13 (.build [(.t (.int .i64 0)),(.t (.int .i64 0)),.nil,.nil] []) [],oS 4 4 13])
 .ret)
 .skip))
 (.seq
 (.reg 16384 (some [0,1,3,0,0,31,0,64,192,0,512,1599,4095,8191,16383,32767]) [oO 14 (.faddr 0) [.tmp 2],oO 15 (.load 1 false) [.tmp 14],cL 16 n_image_Register false [.tmp 15],oO 17 (.load 4 true) [.tmp 2],mv 18 1,cL 19 n_image_Digests true [.tmp 17,.tmp 18],oO 20 (.faddr 1) [.tmp 2],oO 21 (.load 1 false) [.tmp 20],oO 22 (.bin .add) [.tmp 21,.cst (.t (zN [32]))],oO 23 (.faddr 2) [.tmp 2],oO 24 (.load 1 false) [.tmp 23],cL 25 n_strconv_Itoa false [.tmp 24],bT 26 .add 22 25,oO 27 .s2b [.tmp 26],oO 28 (.build [(.t (.int .i64 0)),(.t (.int .i64 0)),.nil,.nil] [(0,1),(1,1),(2,1),(3,1)]) [.tmp 16,.cst (.t (.int .i64 1)),.tmp 19,.tmp 27],oS 4 4 28])
 .ret)))
end Go.Eng
end
section
set_option maxRecDepth 20000
set_option maxHeartbeats 64000000
namespace Go.Eng
def ixN (c:UInt8):List UInt8→Nat→Int
 | [],_ => -1
 | x::r,n=>if x=c then (n:Int) else ixN c r (n+1)
theorem zN3 {c:UInt8} : ∀ {b:List UInt8} {n:Nat},c ∉ b→ixN c b n = -1
 | [],_,_=>rfl
 | x::r,n,h=>by
  rw[ixN,if_neg (fun e=>h (by simp[e])),zN3 (fun e=>h (by simp[e]))]
theorem zN2 {c:UInt8} : ∀ {p q:List UInt8} {n:Nat},c ∉ p→ixN c (p++c::q) n=((n+p.length:Nat):Int)
 | [],q,n,_=>by rw[List.nil_append,ixN,if_pos rfl];rfl
 | x::r,q,n,h=>by
  rw[List.cons_append,ixN,if_neg (fun e=>h (by simp[e])),zN2 (fun e=>h (by simp[e]))]
  simp only[List.length_cons];congr 1;omega
theorem zAv {c:UInt8} : ∀ {b:List UInt8},c∈b → ∃ p q,b=p++c::q∧c ∉ p
 | [],h=>by cases h
 | x::r,h=>by
  by_cases e:x=c
  ·exact⟨[],r,by rw[e];rfl,by simp⟩
  ·have:c∈r:=by
    simp only[List.mem_cons] at h
    rcases h with h | h
    ·exact absurd h.symm e
    ·exact h
   obtain⟨p,q,h1,h2⟩:=zAv this
   exact⟨x::p,q,by rw[h1];rfl,by simp only[List.mem_cons,not_or];exact⟨fun h=>e h.symm,h2⟩⟩
def qKl:Ct where
 α:=List UInt8×UInt8
 as x:=[.t (.sl (x.1.map qA)),.t (qA x.2)]
 ins _:=[]
 pre x:=0<x.1.length∧x.1.length<1000000000
 r x:= .t (.int .i64 (ixN x.2 x.1 0))
 outs _:=[]
 inj:=by
  rintro⟨a,c⟩ ⟨b,d⟩ h _
  simp only[List.cons.injEq,V.t.injEq,T.sl.injEq,qP,and_true] at h
  obtain⟨rfl,h⟩:=h
  cases qMr h
  exact⟨rfl,rfl⟩
theorem zNl {b:List UInt8} {c:UInt8} (h:0<b.length∧b.length<1000000000):qKl.fs [.t (.sl (b.map qA)),.t (qA c)] []=some (.t (.int .i64 (ixN c b 0)),[]):=qKl.eq (b,c) h
theorem qJq (tab:Tab) (gl:Gl) (n1:Nat) (h1:tab.look n1=some qKl.fs) (b:List UInt8) (c:UInt8) (h:0<b.length∧b.length<1000000000) :
  (qBu n1).wp tab gl (qE 0 [.t (.sl (b.map qA)),.t (qA c)]) (qE 0 []) (jK [(4,none)] 0 (fun r o=>r = .t (.int .i64 (ixN c b 0))∧o=[])):=by
 have hB:=zNl (c:=c) h
 simp (disch:=omega) only [go_sem,seval,qBu,h1,hB]
def qTt:Ct where
 α:=List UInt8
 as x:=[.t (.sl (x.map qA))]
 ins _:=[]
 pre x:=x.length<1000000000
 r x:= .t (.bool (x.all okC))
 outs _:=[]
 inj:=by
  intro a b h _
  simp only[List.cons.injEq,V.t.injEq,T.sl.injEq,qP,and_true] at h
  subst h;exact⟨rfl,rfl⟩
theorem zVa {b:List UInt8} (h:b.length<1000000000):qTt.fs [.t (.sl (b.map qA))] []=some (.t (.bool (b.all okC)),[]):=qTt.eq b h
theorem qJr (tab:Tab) (gl:Gl) (b:List UInt8) (h:b.length<1000000000) :
  qBw.wp tab gl (qE 0 [.t (.sl (b.map qA))]) (qE 0 []) (jK [(2,none)] 0 (fun r o=>r = .t (.bool (b.all okC))∧o=[])):=by
 simp (disch:=omega) only [go_sem,seval,qBw]
 refine kU b.length (fun i=>(b.take i).all okC=true) (fun i=>[(5,.t (.sl (b.map qA))),(6,.t (.int .i64 b.length)),(7,.t (.int .i64 (i:Nat)))]) (fun _=>[]) rfl ?_ (fun i hi hP=>?_)
 ·refine qQ.rd id ?_ ?_ rfl
  all_goals simp (disch:=omega) only [go_sem,seval,id]
 ·by_cases hlt:i<b.length
  ·obtain⟨c,hc⟩ : ∃ c,b.getD i 0=c:=⟨_,rfl⟩
   have hc':b[i]?=some c:=by
    rw[←hc];simp[List.getD,hlt]
   have hst:(b.take (i+1)).all okC=okC c:=by
    rw[List.take_add_one,hc',List.all_append,hP];simp
   have hall:okC c=false→b.all okC=false:=fun h=>List.all_eq_false.2 ⟨c,List.mem_of_getElem? hc',by simp[h]⟩
   by_cases a1:c.toNat<32
   ·have hk:okC c=false:=by unfold okC;rw[decide_eq_true a1];rfl
    rw[hall hk]
    simp (disch:=omega) only [go_sem,seval,jR,hc,a1]
   ·by_cases a2:126<c.toNat
    ·have hk:okC c=false:=by unfold okC;rw[decide_eq_true (show c.toNat>126 from a2)];simp
     rw[hall hk]
     simp (disch:=omega) only [go_sem,seval,jR,hc,a1,a2]
    ·have hk:okC c=true:=by unfold okC;rw[decide_eq_false a1,decide_eq_false (show ¬ c.toNat>126 from a2)];rfl
     rw[hk] at hst
     simp (disch:=omega) only [go_sem,seval,jR,hc,a1,a2]
     refine⟨hlt,hst,qQ.rd id ?_ ?_ rfl⟩
     all_goals simp (disch:=omega) only [go_sem,seval,id]
  ·have e:i=b.length:=by omega
   subst e
   rw[List.take_length] at hP
   simp (disch:=omega) only [go_sem,seval,jR,hP]
theorem zKl {pre post:List UInt8} (hn:(10:UInt8) ∉ pre) : ∀ {out:List (List UInt8)} {line:List UInt8},lnS out line (pre++10::post)=if pre.all okC=true then (if (line++pre).length=0∨4≤out.length then [] else lnS (out++[line++pre]) [] post) else []:=by
 induction pre with
 | nil=>
  intro out line
  rw[List.nil_append,lnS,if_pos rfl,List.append_nil]
  simp
 | cons c r ih=>
  intro out line
  have hc : ¬ c=10:=fun e=>hn (by simp[e])
  have hr:(10:UInt8) ∉ r:=fun e=>hn (by simp[e])
  rw[List.cons_append,lnS,if_neg hc]
  cases hk:okC c
  ·rw[if_neg (by decide)];simp[hk]
  ·rw[if_pos rfl,ih hr];simp[hk]
theorem zKm {pre:List UInt8} (hn:(10:UInt8) ∉ pre) : ∀ {out:List (List UInt8)} {line:List UInt8},0<(line++pre).length→lnS out line pre=[]:=by
 induction pre with
 | nil=>intro out line h;rw[lnS,if_pos (by simpa using h)]
 | cons c r ih=>
  intro out line h
  have hc : ¬ c=10:=fun e=>hn (by simp[e])
  have hr:(10:UInt8) ∉ r:=fun e=>hn (by simp[e])
  rw[lnS,if_neg hc]
  split
  ·exact ih hr (by simp;omega)
  ·rfl
theorem qSy (tab:Tab) (gl:Gl) (n1 n2:Nat) (h1:tab.look n1=some qKl.fs) (h2:tab.look n2=some qTt.fs) (x:Im) (hm:imM x) :
  (qFx n1 n2).wp tab gl (qE 0 [.t (imT x)]) (qE 0 []) (jK [(2,none)] 0 (fun r o=>r = .t (.sl ((lnL x.2.2.2).map bsT))∧o=[])):=by
 obtain⟨a,s,v,p⟩:=x
 have hp:=hm.2.1
 simp only at hp ⊢
 simp (disch:=omega) only [go_sem,seval,qFx,zC]
 refine qDl (σ:=List UInt8×List (List UInt8)) (fun t=>t.1.length≤p.length∧lnS t.2 [] t.1=lnL p∧t.2.length≤4) (fun t=>t.1.length)
  (fun t=>[(3,.sl 9000 0 t.2.length),(4,.t (.sl (t.1.map qA)))])
  (fun t=>[(9000,.live 1 ((t.2.map bsT).map V.t) true false)]) (p,[]) ⟨Nat.le_refl _,rfl,by simp⟩ ?_ ?_
 ·refine qQ.cv0 (hv:=[(9000,.live 1 [] true false)]) (ho:=[]) id ?_ ?_ rfl rfl
  all_goals simp (disch:=omega) only [go_sem,seval,id]
 ·rintro⟨rest,out⟩ ⟨hi,hE,ho⟩
  simp only at hi hE ho ⊢
  by_cases hlt:0<rest.length
  ·have hB:=zNl (b:=rest) (c:=10) ⟨hlt,by omega⟩
   by_cases hn:(10:UInt8)∈rest
   ·obtain⟨pre,post,rfl,hpre⟩:=zAv hn
    rw[zN2 hpre,Nat.zero_add] at hB
    rw[zKl hpre,List.nil_append] at hE
    simp only[List.length_append,List.length_cons] at hi hlt
    have tk:List.take pre.length (pre++10::post)=pre:=List.take_left' rfl
    have dk:List.drop (pre.length+1) (pre++10::post)=post:=by rw[List.drop_append];simp
    have tl:(pre++(10:UInt8)::post).length=pre.length+1+post.length:=by simp;omega
    by_cases z1:pre.length<1
    ·have hr:lnL p=[]:=by rw[←hE];split;rw[if_pos (.inl (by omega))];rfl
     rw[hr]
     simp (disch:=omega) only [go_sem,seval,jN,tl,h1,hB,z1,List.map_nil]
    ·by_cases z2:out.length=4
     ·have hr:lnL p=[]:=by rw[←hE];split;rw[if_pos (.inr (by omega))];rfl
      rw[hr]
      simp (disch:=omega) only [go_sem,seval,jN,tl,h1,hB,z1,z2,List.map_nil]
     ·have z2b:((out.length:Int)==4)=false:=by simpa using (by omega : ¬ (out.length:Int)=4)
      have hP:=zVa (b:=pre) (by omega)
      cases hk:pre.all okC
      ·rw[hk] at hP hE
       rw[if_neg (by decide)] at hE
       rw[←hE]
       simp (disch:=omega) only [go_sem,seval,jN,tl,h1,hB,z1,z2,z2b,tk,h2,hP,List.map_nil]
      ·rw[hk] at hP hE
       rw[if_pos rfl,if_neg (by omega)] at hE
       simp (disch:=omega) only [go_sem,seval,jN,tl,h1,hB,z1,z2,z2b,tk,h2,hP,dk]
       refine zBp.of (post,out++[pre]) ⟨by simp only;omega,hE,by simp;omega⟩ (by simp only;omega) ?_
       refine qQ.cv (hv:=[]) (ho:=[(9000,.live 1 (((out++[pre]).map bsT).map V.t) true false)]) [] (fun j=>if j=9000 then 32864 else j) ?_ rfl
       simp (disch:=omega) only [go_sem,seval,id,List.map_cons,List.map_nil,List.take_length]
       rfl
   ·rw[zN3 hn] at hB
    rw[zKm hn (by simpa using hlt)] at hE
    rw[←hE]
    simp (disch:=omega) only [go_sem,seval,jN,h1,hB,List.map_nil]
  ·have e:rest=[]:=List.length_eq_zero_iff.1 (by omega)
   subst e
   rw[lnS,if_neg (by simp)] at hE
   rw[←hE]
   simp (disch:=omega) only [go_sem,seval,jN,List.take_length]
theorem qSx (tab:Tab) (gl:Gl) (n1 n2:Nat) (h1:tab.look n1=some qDe.fs) (h2:tab.look n2=some qM6.fs) (x:Im) (hm:imX x) :
  (jE n1 n2).wp tab gl (qE 0 [.t (imT x)]) (qE 0 []) (jK [(2,none)] 0 (fun r o=>r = .t (.int .i64 (qEt x))∧o=[])):=by
 obtain⟨a,s,v,p⟩:=x
 have hp:=hm.2.2.2
 have hN:=zQl hm.2.2.1
 have hL:=fun h:p.length<1000000000=>zN6 (a:=a) (v:=v) (s:=s) (p:=p) ⟨hm.2.2.1,h,hm.1,hm.2.1⟩
 have lL:=qXf (p:=p)
 simp only at hp hN
 have hl2:((lnL p).map bsT).length=(lnL p).length:=List.length_map _
 by_cases hb:zNk a v
 ·have hr:qEt (a,s,v,p)=1:=if_pos hb
  rw[hr]
  by_cases c1:a<1
  ·simp (disch:=omega) only [go_sem,seval,jE,zC,c1]
  by_cases c2:4<a
  ·simp (disch:=omega) only [go_sem,seval,jE,zC,c1,c2]
  by_cases c3:v<0
  ·simp (disch:=omega) only [go_sem,seval,jE,zC,c1,c2,c3]
  have c4:1000000<v:=by unfold zNk at hb;omega
  simp (disch:=omega) only [go_sem,seval,jE,zC,c1,c2,c3,c4]
 ·have hb':=hb
  unfold zNk at hb'
  have c1 : ¬ a<1:=by omega
  have c2 : ¬ 4<a:=by omega
  have c3 : ¬ v<0:=by omega
  have c4 : ¬ 1000000<v:=by omega
  cases hn:qCk s
  ·have hr:qEt (a,s,v,p)=43:=by unfold qEt;rw[if_neg hb,if_pos hn]
   rw[hr]
   rw[hn] at hN
   simp (disch:=omega) only [go_sem,seval,jE,zC,c1,c2,c3,c4,h1,hN]
  ·rw[hn] at hN
   have hn2 : ¬ qCk s=false:=by rw[hn];decide
   by_cases c5:64<p.length
   ·have hr:qEt (a,s,v,p)=4:=by unfold qEt;rw[if_neg hb,if_neg hn2,if_pos c5]
    rw[hr]
    simp (disch:=omega) only [go_sem,seval,jE,zC,c1,c2,c3,c4,h1,hN,c5]
   ·have hr:qEt (a,s,v,p)=if a=4∧(lnL p).length=0 then 40 else 0:=by unfold qEt;rw[if_neg hb,if_neg hn2,if_neg c5]
    rw[hr]
    have hL:=hL (by omega)
    generalize lnL p=L at *
    by_cases c6:a=4
    ·subst c6
     by_cases c7:L.length=0
     ·simp (disch:=omega) only [go_sem,seval,jE,zC,c3,c4,h1,hN,c5,h2,hL,c7]
     ·have c8:((L.length:Int)==0)=false:=by simpa using (by omega : ¬ (L.length:Int)=0)
      simp (disch:=omega) only [go_sem,seval,jE,zC,c3,c4,h1,hN,c5,h2,hL,c7,c8]
    ·have c8:(a==4)=false:=by simpa using c6
     simp (disch:=omega) only [go_sem,seval,jE,zC,c1,c2,c3,c4,h1,hN,c5,c6,c8]
theorem qPt (tab:Tab) (gl:Gl) (n1 n2 n3:Nat) (h1:tab.look n1=some qKo.fs) (h2:tab.look n2=some wF.fs) (h3:tab.look n3=some qA9.fs) (x:Im) (hm:imM x) :
  (qAr n1 n2 n3).wp tab gl (qE 0 [.t (imT x)]) (qE 0 []) (jK [(2,none)] 0 (fun r o=>r = .t (.sl ((qE2 x).map qA))∧o=[])):=by
 obtain⟨a,s,v,p⟩:=x
 have hC:=zN0 hm
 by_cases hz:qEt (a,s,v,p)=0
 ·obtain⟨g1,g2,g3,g4,g5⟩:=xL hz
  have g6:=qFa g3
  simp only at g1 g2 g3 g4 g6
  have hr:qE2 (a,s,v,p)=blL (blL (beI 1 a 1++beI 4 v 4) s) p:=if_pos hz
  rw[hr]
  rw[hz] at hC
  have u1:wF.fs [.t (.sl []),.t (.int .i64 1),.t (.int .i64 a)] []=_:=zXe (b:=[]) (k:=1) (n:=a) ⟨by decide,by decide,by decide⟩
  rw[List.nil_append] at u1
  have l1:(beI 1 a 1).length=1:=jB
  have u2:wF.fs [.t (.sl ((beI 1 a 1).map qA)),.t (.int .i64 4),.t (.int .i64 v)] []=_:=zXe (b:=beI 1 a 1) (k:=4) (n:=v) ⟨by rw[l1];decide,by decide,by decide⟩
  have l2:(beI 1 a 1++beI 4 v 4).length=5:=by rw[List.length_append,jB,jB]
  have b1:=qA5 (b:=beI 1 a 1++beI 4 v 4) (x:=s) ⟨by omega,by omega⟩
  have l3:(blL (beI 1 a 1++beI 4 v 4) s).length=5+2+s.length:=by rw[yJ,l2]
  have b2:=qA5 (b:=blL (beI 1 a 1++beI 4 v 4) s) (x:=p) ⟨by omega,by omega⟩
  have l4:(blL (blL (beI 1 a 1++beI 4 v 4) s) p).length=5+2+s.length+2+p.length:=by rw[yJ,l3]
  rw[l1] at u2
  rw[l2] at b1
  rw[l3] at b2
  generalize blL (blL (beI 1 a 1++beI 4 v 4) s) p=B4 at *
  generalize blL (beI 1 a 1++beI 4 v 4) s=B3 at *
  generalize beI 1 a 1++beI 4 v 4=B2 at *
  generalize beI 1 a 1=B1 at *
  have t1:List.take 1 B1=B1:=List.take_of_length_le (by omega)
  have t2:List.take 5 B2=B2:=List.take_of_length_le (by omega)
  have t3:List.take (5+2+s.length) B3=B3:=List.take_of_length_le (by omega)
  have t4:List.take (5+2+s.length+2+p.length) B4=B4:=List.take_of_length_le (by omega)
  simp (disch:=omega) only [go_sem,seval,qAr,zC,h1,hC,h2,u1,l1,t1,u2,l2,t2,h3,b1,l3,t3,b2,l4,t4,List.length_nil,List.map_nil,List.take_length]
 ·have hr:qE2 (a,s,v,p)=[]:=if_neg hz
  rw[hr]
  have hz':(qEt (a,s,v,p) != 0)=true:=by simpa using hz
  simp (disch:=omega) only [go_sem,seval,qAr,zC,h1,hC,hz',List.map_nil]
theorem qOu (tab:Tab) (gl:Gl) (n1 n2:Nat) (h1:tab.look n1=some qTq.fs) (h3:tab.look n2=some qAe.fs) (x:Im) (act:Int) (hm:imM x) (ha:0≤act∧act<4) :
  (qDz n1 n2).wp tab gl (qE 0 [.t (imT x),.t (.int .i64 act)]) (qE 0 []) (jK [(4,none)] 0 (fun r o=>r = .t (.sl [bsT (qQh x act 0),bsT (qQh x act 1)])∧o=[])):=by
 have hl:=zJp hm
 have e0:qQh x act 0=if 0<(qE2 x).length∧act%2=1 then qTd (qE2 x) else []:=by unfold qQh;simp[zCn]
 have e1:qQh x act 1=if 0<(qE2 x).length∧act/2%2=1 then zS (qE2 x) else []:=by unfold qQh;simp[zCn]
 obtain⟨a,s,v,p⟩:=x
 have hE:=zUo hm
 generalize qE2 (a,s,v,p)=B at *
 have s0:=zU (bs:=B) (by omega)
 have s1:=zO (bs:=B) (by omega)
 have l0:(qTd B).length=20:=vA
 have l1:(zS B).length=32:=qH
 have t0:List.take 20 (qTd B)=qTd B:=qC4
 have t1:List.take 32 (zS B)=zS B:=kZ
 generalize qTd B=S0 at *
 generalize zS B=S1 at *
 simp only[qEr]
 simp (disch:=omega) only [go_sem,seval,qDz,zC,h1,hE]
 repeat refine And.intro rfl ?_
 refine qD 2 (fun i=>[(1,.t (.int .i64 act)),(5,.sl 8192 0 2),(6,.t (.sl (B.map qA))),(12,.t (.int .i64 2)),(13,.t (.int .i64 (i:Nat)))])
  (fun i=>[(8192,.live 1 [.t (.sl ((if 0<i then qQh (a,s,v,p) act 0 else []).map qA)),.t (.sl ((if 1<i then qQh (a,s,v,p) act 1 else []).map qA))] true false)]) ?_ (fun i hi=>?_)
 ·refine qQ.rd id ?_ ?_ rfl
  all_goals simp (disch:=omega) only [go_sem,seval,id,List.map_nil,Nat.lt_irrefl,Nat.not_lt_zero]
 ·have f0:Int.fdiv act 1=act:=by rw[Int.fdiv_eq_ediv_of_nonneg _ (by decide),Int.ediv_one]
  have f1:Int.fdiv act 2=act/2:=Int.fdiv_eq_ediv_of_nonneg _ (by decide)
  rcases (show i=0∨i=1∨i=2 by omega) with rfl | rfl | rfl
  ·by_cases z:0<B.length
   ·by_cases b0:act%2=1
    ·rw[if_pos ⟨z,b0⟩] at e0
     have q:(act%2==1)=true:=by simpa using b0
     simp (disch:=omega) only [go_sem,seval,zP,f0,q,z,h3,s0,List.map_nil,Nat.lt_irrefl,Nat.not_lt_zero]
     refine qQ.cv (hv:=[]) [32832] id ?_ rfl
     simp (disch:=omega) only [go_sem,seval,id,e0,l0,t0,List.map_nil]
     rfl
    ·rw[if_neg (fun h=>b0 h.2)] at e0
     have q:(act%2==1)=false:=by simpa using b0
     simp (disch:=omega) only [go_sem,seval,zP,f0,q,z,List.map_nil,Nat.lt_irrefl,Nat.not_lt_zero]
     refine qQ.rd id ?_ ?_ rfl
     all_goals simp (disch:=omega) only [go_sem,seval,id,e0,List.map_nil,Nat.lt_irrefl]
   ·rw[if_neg (fun h=>z h.1)] at e0
    simp (disch:=omega) only [go_sem,seval,zP,z,List.map_nil,Nat.lt_irrefl,Nat.not_lt_zero]
    refine qQ.rd id ?_ ?_ rfl
    all_goals simp (disch:=omega) only [go_sem,seval,id,e0,List.map_nil,Nat.lt_irrefl]
  ·by_cases z:0<B.length
   ·by_cases b0:act/2%2=1
    ·rw[if_pos ⟨z,b0⟩] at e1
     have q:(act/2%2==1)=true:=by simpa using b0
     simp (disch:=omega) only [go_sem,seval,zP,f1,q,z,h3,s1,List.map_nil,Nat.lt_irrefl,Nat.not_lt_zero]
     refine qQ.cv (hv:=[]) [32832] id ?_ rfl
     simp (disch:=omega) only [go_sem,seval,id,e1,l1,t1,List.map_nil]
     rfl
    ·rw[if_neg (fun h=>b0 h.2)] at e1
     have q:(act/2%2==1)=false:=by simpa using b0
     simp (disch:=omega) only [go_sem,seval,zP,f1,q,z,List.map_nil,Nat.lt_irrefl,Nat.not_lt_zero]
     refine qQ.rd id ?_ ?_ rfl
     all_goals simp (disch:=omega) only [go_sem,seval,id,e1,List.map_nil,Nat.lt_irrefl]
   ·rw[if_neg (fun h=>z h.1)] at e1
    simp (disch:=omega) only [go_sem,seval,zP,z,List.map_nil,Nat.lt_irrefl,Nat.not_lt_zero]
    refine qQ.rd id ?_ ?_ rfl
    all_goals simp (disch:=omega) only [go_sem,seval,id,e1,List.map_nil,Nat.lt_irrefl]
  ·simp (disch:=omega) only [go_sem,seval,zP]
def zBt:List T:=[.int .i64 (-1),.int .i64 0,.int .i64 4,.int .i64 8,.int .i64 9]
theorem qK8 (tab:Tab) (gl:Gl) (g:Nat) (hg:gl g=some zBt) (a:Int):(vT g).wp tab gl (qE 0 [.t (.int .i64 a)]) (qE 0 []) (jK [(2,none)] 0 (fun r o=>r = .t (.int .i64 (zAh a))∧o=[])):=by
 by_cases c0:a<0
 ·have hr:zAh a = -1:=by unfold zAh;rw[if_neg (by omega),if_neg (by omega),if_neg (by omega),if_neg (by omega)]
  simp (disch:=omega) only [go_sem,seval,vT,c0,hr]
 by_cases c5:5≤a
 ·have hr:zAh a = -1:=by unfold zAh;rw[if_neg (by omega),if_neg (by omega),if_neg (by omega),if_neg (by omega)]
  simp (disch:=omega) only [go_sem,seval,vT,c0,c5,hr]
 rcases (show a=0∨a=1∨a=2∨a=3∨a=4 by omega) with rfl | rfl | rfl | rfl | rfl
 all_goals simp (disch:=omega) only [go_sem,seval,vT,hg,zBt,zAh]
 all_goals trace_state
def qEw:Ct where
 α:=Int
 as x:=[.t (.int .i64 x)]
 ins _:=[]
 pre x:=0≤x∧x≤1000000
 r x:= .t (zN (zDj x.toNat))
 outs _:=[]
 inj:=by
  intro a b h _
  simp only[List.cons.injEq,V.t.injEq,T.int.injEq,true_and,and_true] at h
  subst h;exact⟨rfl,rfl⟩
theorem zP9 {n:Nat} (h:n≤1000000):qEw.fs [.t (.int .i64 (n:Int))] []=some (.t (zN (zDj n)),[]):=qEw.eq (n:Int) ⟨by omega,by omega⟩
theorem qOt (tab:Tab) (gl:Gl) (n1 n2 n3 n4:Nat) (h1:tab.look n1=some qKo.fs) (h2:tab.look n2=some qNg.fs) (h3:tab.look n3=some qTs.fs) (h4:tab.look n4=some qEw.fs) (x:Im) (act:Int) (hm:imM x) (ha:0≤act∧act<4) :
  (wK n1 n2 n3 n4).wp tab gl (qE 0 [.t (imT x),.t (.int .i64 act)]) (qE 0 []) (jK [(4,some (4,true))] 0 (fun r o=>r = .t (evT (ofI x act))∧o=[])):=by
 obtain⟨a,s,v,p⟩:=x
 have hC:=zN0 hm
 have hD:=zU8 (act:=act) ⟨hm,ha⟩
 have hR:=zOf (a:=a)
 by_cases hz:qEt (a,s,v,p)=0
 ·obtain⟨g1,g2,g3,g4,g5⟩:=xL hz
  have g6:=qFa g3
  simp only at g1 g2 g3 g4 g6
  rw[hz] at hC
  by_cases c4:a=4
  ·subst c4
   have hr:ofI (4,s,v,p) act=(0,0,[],[]):=if_pos (.inr rfl)
   rw[hr]
   simp (disch:=omega) only [go_sem,seval,wK,zC,yT,h1,hC,List.map_nil]
  ·have d4:(a==4)=false:=by simpa using c4
   obtain⟨m,rfl⟩:=Int.eq_ofNat_of_zero_le g2.1
   have hL:=zP9 (n:=m) (by omega)
   have hr:ofI (a,s,(m:Int),p) act=(zAh a,1,[qQh (a,s,(m:Int),p) act 0,qQh (a,s,(m:Int),p) act 1],zVi s m):=by
    unfold ofI;rw[if_neg (by simp only;omega)];rfl
   have hlN:(zDj m).length≤8:=qRq.2
   have hlab:zVi s m=s++[32]++zDj m:=rfl
   rw[hr,hlab]
   generalize qQh (a,s,(m:Int),p) act 0=D0 at *
   generalize qQh (a,s,(m:Int),p) act 1=D1 at *
   generalize zDj m=N at *
   generalize zAh a=R at *
   have tL:List.take (s.length+1+N.length) (s++[32]++N)=s++[32]++N:=List.take_of_length_le (by simp;omega)
   have tl:(s++[32]++N).length=s.length+1+N.length:=by simp;omega
   have t2:(s++[32]).length=s.length+1:=by simp
   have b1:qEq .add (zN s) (zN [32])=some (zN (s++[32])):=qMm (by simp;omega)
   have b2:qEq .add (zN (s++[32])) (zN N)=some (zN (s++[32]++N)):=qMm (by simp;omega)
   simp (disch:=omega) only [go_sem,seval,wK,zC,yT,h1,hC,d4,h2,hR,h3,hD,b1,h4,hL,b2,tl,tL,List.take_length]
   all_goals rfl
 ·have hr:ofI (a,s,v,p) act=(0,0,[],[]):=if_pos (.inl hz)
  rw[hr]
  have hz':(qEt (a,s,v,p) != 0)=true:=by simpa using hz
  simp (disch:=omega) only [go_sem,seval,wK,zC,yT,h1,hC,hz',List.map_nil]
end Go.Eng
end
section
set_option maxRecDepth 20000
namespace Go.Eng
open Go.MuLone
theorem qZl : ∀ {k n:Nat},n<10^(k+1)→Lib.decDigits n=zJn k n
 | 0,n,h=>by rw[zJn,Lib.decDigits,dif_pos (by omega)]
 | k+1,n,h=>by
  rw[zJn,Lib.decDigits]
  by_cases h10:n<10
  ·rw[if_pos h10,dif_pos h10]
  ·rw[if_neg h10,dif_neg h10,qZl (k:=k) (n:=n/10) (by rw[Nat.pow_succ] at h;omega)]
theorem zFu {n:Nat} (h:n≤1000000):Lib.itoa (n:Int)=zDj n:=by
 unfold Lib.itoa zDj
 rw[if_neg (by omega),Int.toNat_natCast]
 exact qZl (by have:(10:Nat)^(7+1)=100000000:=(by decide);omega)
def qU5:List T:=Lib.pow10Tab.map (T.int .u64)
theorem zW6 {P:Program} {nm:String} {g:Nat} {k:IntKind} {zs:List Int} {F:Nat→Prop} {w:World} (hg:P.globalNamed nm=some g)
  (h:qL (fun _=>none) F w (.ro (zs.map (T.int k))) (.pointer (some ⟨g,0,none⟩))) (hs:GSz w g (zs.map (T.int k)).length):Lib.TabIs P w nm k zs:=by
 obtain⟨c,e,z,hc,hz⟩:=hs
 rw[List.length_map] at hz
 have hv:w.var? P nm=some c:=by
  unfold World.var?
  rw[hg,Option.bind_some,hc]
 unfold Lib.TabIs
 rw[hv]
 congr 1
 cases h with
 | ro _ a news ha hn h1 hF hw h=>
  rw[List.length_map] at hn
  apply Array.ext
  ·simp[hz]
  ·intro i hi1 hi2
   have hi:i<zs.length:=by omega
   have hn2:i<news.length:=by omega
   have hu:news[i]?=some news[i]:=List.getElem?_eq_getElem hn2
   have hr:=h i (.int k zs[i]) news[i] (by rw[List.getElem?_map,List.getElem?_eq_getElem hi];rfl) hu
   have hcell:=hw i _ hu
   have e:(⟨g,0,none⟩:Addr).add i=⟨g,i,none⟩:=by
    unfold Addr.add;split
    ·rename_i h0;rw[h0]
    ·simp
   rw[e] at hcell
   unfold World.cell? at hcell
   simp only[hc] at hcell
   generalize news[i]=u at *
   cases hr
   have h2:c[i]?=some (.int k zs[i]):=by simpa using hcell
   rw[Array.getElem?_eq_getElem hi1] at h2
   rw[Option.some.inj h2]
   simp
theorem zQv {P:Program} {G:Gl} {f:FuncId} {fn:Func} {c:Code} {g:Nat} (hf:P.funcs[f]?=some fn) (hname:(fn.name == "runtime.NumGoroutine")=false) (hb:fn.body=some c) (hG:G g=some qU5)
  (hg:P.globalNamed "internal/strconv.uint64pow10" = some g)
  (h : ∀ (n:Int) (_ : -9223372036854775808≤n) (_:n≤9223372036854775807) (w:World),Lib.TabIs P w "internal/strconv.uint64pow10" .u64 Lib.pow10Tab→Calls P f #[.int .i64 n] w fun e w'=>e = .returned (.string ⟨(Lib.itoa n).toArray⟩) ∧ ∃ k os,w'=Go.Sort.grow (w.drewN k) os):FOk P G f qEw.fs:=by
 refine qEw.ok (fun args w=>run_callFunc_enter hf hname hb args w) (fun (x:Int) hx=>?_)
 intro w β F vals env fits hargs
 have hx1:(0:Int)≤(x:Int):=hx.1
 have hx2:(x:Int)≤(1000000:Int):=hx.2
 have hvals:vals = #[.int .i64 x]:=by
  obtain⟨l⟩:=vals
  cases hargs with
  | cons h1 h2=>
   cases h2
   cases h1 with
   | t h=>cases h;rfl
 subst hvals
 refine (h x (by omega) (by omega) w (zW6 hg (env.gl g _ hG) (env.gs g _ hG))).mono fun e w' he=>?_
 obtain⟨rfl,k,os,rfl⟩:=he
 refine⟨_,β,F,rfl,?_⟩
 have hβ : ∀ k,β k=none:=fun k=>fits.dom k (Nat.zero_le _)
 obtain⟨n,rfl⟩:=Int.eq_ofNat_of_zero_le hx1
 have hr:qEw.r (n:Int) = .t (zN (zDj n)):=by
  show V.t (zN (zDj (n:Int).toNat))=_
  rw[Int.toNat_natCast]
 have hL:Lib.itoa (n:Int)=zDj n:=zFu (by omega)
 have hsz:w.heap.size≤(Go.Sort.grow (w.drewN k) os).heap.size:=by
  show _≤(w.heap++os).size
  rw[Array.size_append];omega
 have hold : ∀ b,b<w.heap.size→(Go.Sort.grow (w.drewN k) os).heap[b]?=w.heap[b]?:=by
  intro b hb
  show (w.heap++os)[b]?=_
  rw[Array.getElem?_append_left hb]
 refine⟨⟨fun k o hk=>(by simp[qEw] at hk),fun k _=>hβ k,fun i j bi bj b h1=>(by rw[hβ] at h1;cases h1),fun k bi b h1=>(by rw[hβ] at h1;cases h1)⟩,?_,fun _ _=>rfl,fun k bi b _ h1=>by (rw[hβ] at h1;cases h1),fun _ _=>Iff.rfl,fun b hb=>Nat.lt_of_lt_of_le (env.Fw b hb) hsz,rfl,rfl,rfl,hsz,fun b hb _=>hold b hb⟩
 rw[hr,hL]
 exact .t (.str _)
end Go.Eng
end
section
set_option maxRecDepth 20000
namespace Go.Eng
theorem zV4 {P:Program} {G:Nat→Option (List T)} {f:FuncId} {fn:Func} {ps:Array TypeId} {t e:TypeId} (hf:P.funcs[f]?=some fn) (hname:(fn.name == "runtime.NumGoroutine")=false) (hb:fn.body.isNone=true) (hn:Extern.findNext fn=none)
  (he:Extern.find fn=some (Extern.BytealgMakeNoZero.makeNoZero ps #[t])) (ht:P.underlying t=some (.slice e)):FOk P G f qTz.fs:=by
 intro as ins r outs hs
 have key : ∃ n:Nat,(n=20∨n=32)∧as=[.t (.int .i64 n)]∧ins=[]∧r = .sl 0 0 n∧outs=[.live 1 [] true false]:=by
  unfold Ct.fs at hs
  split at hs
  ·rename_i hx
   cases hs
   have h1:=hx.choose_spec
   generalize hx.choose=y at h1 ⊢
   obtain⟨⟨rfl,rfl⟩,h3⟩:=h1
   have h4:(show Int from y)=20∨(show Int from y)=32:=h3
   rcases h4 with h4 | h4
   ·refine⟨20,.inl rfl,?_⟩
    have h5:y=(20:Int):=h4
    subst h5
    exact⟨rfl,rfl,rfl,rfl⟩
   ·refine⟨32,.inr rfl,?_⟩
    have h5:y=(32:Int):=h4
    subst h5
    exact⟨rfl,rfl,rfl,rfl⟩
  ·cases hs
 obtain⟨n,hn2,rfl,rfl,rfl,rfl⟩:=key
 intro w β F vals env fits hargs
 have hvals:vals = #[.int .i64 n]:=by
  obtain⟨l⟩:=vals
  cases hargs with
  | cons h1 h2=>
   cases h2
   cases h1 with
   | t h=>cases h;rfl
 subst hvals
 obtain⟨cs,hrun,hle,hmx⟩:=Lib.run_makeNoZero (P:=P) w ps t e ht n (by omega)
 refine .inr ⟨.slice (some ⟨w.heap.size,0,none⟩) n cs.size,w.drew.drew.alloc (.cells cs e),?_,.slice (some ⟨w.heap.size,0,none⟩) n cs.size,fun k=>if k=0 then some ⟨some w.heap.size,1,cs.size⟩ else none,F,rfl,?_⟩
 ·rw[run_callFunc_extern hf hname hb hn he,hrun];rfl
 ·have hsz:(w.drew.drew.alloc (.cells cs e)).heap.size=w.heap.size+1:=by
   show (w.heap.push _).size=_
   exact Array.size_push _
  have hnew:(w.drew.drew.alloc (.cells cs e)).heap[w.heap.size]?=some (.cells cs e):=by
   show (w.heap.push _)[w.heap.size]?=_
   simp
  have hold : ∀ b,b<w.heap.size→(w.drew.drew.alloc (.cells cs e)).heap[b]?=w.heap[b]?:=by
   intro b hb
   show (w.heap.push _)[b]?=_
   rw[Array.getElem?_push,if_neg (by omega)]
  have hFb : ¬ F w.heap.size:=fun h=>absurd (env.Fw _ h) (by omega)
  have mx:n≤maxLen:=by have:(32:Nat)≤maxLen:=(by decide);omega
  refine⟨⟨fun k o hk=>?_,fun k hk=>?_,fun i j bi bj b h1 h2 h3 h4=>?_,fun k bi b h1 h2=>?_⟩,?_,fun k hk=>?_,fun k bi b _ h1 h2=>?_,fun b _=>Iff.rfl,fun b hb=>?_,rfl,rfl,rfl,?_,fun b hb _=>hold b hb⟩
  ·cases k with
   | succ k=>simp at hk
   | zero=>
    simp only[List.getElem?_cons_zero,Option.some.injEq] at hk
    subst hk
    refine⟨_,if_pos rfl,⟨rfl,by simp,cs,e,(0,0),hnew,by omega,by simp,by simp,hmx mx,fun i x h=>by simp at h,?_⟩,1,[],false,rfl⟩
    simpa using hFb
  ·have:k≠0:=by simp at hk;omega
   exact if_neg this
  ·split at h1<;>split at h2<;>simp_all
  ·split at h1
   ·cases h1
    cases h2
    exact⟨by rw[hsz];omega,hFb⟩
   ·cases h1
  ·exact .sl 0 0 n cs.size w.heap.size 1 cs.size _ (if_pos rfl) hle (by omega) (fun _=>by simp) rfl
  ·simp at hk
  ·split at h1
   ·cases h1
    cases h2
    exact Nat.le_refl _
   ·cases h1
  ·have:=env.Fw b hb
   rw[hsz];omega
  ·rw[hsz];omega
end Go.Eng
end
section
set_option maxRecDepth 20000
namespace Go.Eng
open Go.ChangeShapes Go.WideShapes Go.RowKit
inductive Ty where
 | int (k:IntKind)
 | bool
 | str
 | sl (e:Ty)
 | st (fs:List Ty)
mutual
def Ty.size:Ty→Nat
 | .st fs=>Ty.sizeL fs
 | _=>1
def Ty.sizeL:List Ty→Nat
 | []=>0
 | f::r=>f.size+Ty.sizeL r
end
def isK (P:Program) (t:TypeId) (k:IntKind):Bool:=match P.underlying t with
 | some (.int k')=>decide (k'=k)
 | _=>false
theorem zN1 {P:Program} {t:TypeId} {k:IntKind} (h:isK P t k=true):P.underlying t=some (.int k):=by
 unfold isK at h
 split at h
 ·rename_i h1;rw[h1,of_decide_eq_true h]
 ·cases h
mutual
def Ty.ok (P:Program):Ty→TypeId→Bool
 | .int k,t=>isK P t k
 | .bool,t=>match P.underlying t with | some .bool=>true | _=>false
 | .str,t=>match P.underlying t with | some .string=>true | _=>false
 | .sl e,t=>match P.underlying t with | some (.slice te)=>e.ok P te&&Nat.beq (P.cellsOf te) e.size&&Nat.ble 1 e.size | _=>false
 | .st fs,t=>Nat.beq (P.cellsOf t) (Ty.sizeL fs)&&match P.underlying t with
  | some (.struct gs)=>Ty.okF P fs gs.toList 0
  | some (.array n te)=>Nat.beq fs.length n&&Ty.okA P fs te
  | _=>false
def Ty.okF (P:Program):List Ty→List Field→Nat→Bool
 | [],[],_=>true
 | f::r,g::gs,off=>Nat.beq g.offset off&&Nat.beq (P.cellsOf g.type) f.size&&f.ok P g.type&&Ty.okF P r gs (off+f.size)
 | _,_,_=>false
def Ty.okA (P:Program):List Ty→TypeId→Bool
 | [],_=>true
 | f::r,te=>f.ok P te&&Nat.beq (P.cellsOf te) f.size&&Ty.okA P r te
end
mutual
def Ty.is:Ty→T→Prop
 | .int k,x => ∃ n,(Lit.int k n).wf=true∧x = .int k n
 | .bool,x => ∃ b,x = .bool b
 | .str,x => ∃ s:ByteArray,s.size≤maxLen∧x = .str s
 | .sl e,x => ∃ es:List T,es.length≤maxLen∧(∀ y∈es,e.is y)∧x = .sl es
 | .st fs,x => ∃ cs,Ty.isL fs cs∧x = .agg cs
def Ty.isL:List Ty→List T→Prop
 | [],cs=>cs=[]
 | f::r,cs => ∃ x rest,f.is x∧Ty.isL r rest∧cs=x.cells++rest
end
mutual
theorem Ty.is_size : ∀ (ty:Ty) (x:T),ty.is x→x.cells.length=ty.size
 | .int k,x,h=>by obtain⟨n,_,rfl⟩:=h;rfl
 | .bool,x,h=>by obtain⟨n,rfl⟩:=h;rfl
 | .str,x,h=>by obtain⟨n,_,rfl⟩:=h;rfl
 | .sl e,x,h=>by obtain⟨es,_,_,rfl⟩:=h;rfl
 | .st fs,x,h=>by
  obtain⟨cs,h1,rfl⟩:=h
  show cs.length=Ty.sizeL fs
  exact Ty.isL_size fs cs h1
theorem Ty.isL_size : ∀ (fs:List Ty) (cs:List T),Ty.isL fs cs→cs.length=Ty.sizeL fs
 | [],cs,h=>by cases h;rfl
 | f::r,cs,h=>by
  obtain⟨x,rest,h1,h2,rfl⟩:=h
  rw[List.length_append,Ty.is_size f x h1,Ty.isL_size r rest h2,Ty.sizeL]
end
theorem qU4 {α:Type} {Q:Nat→α→Prop} : ∀ (n:Nat),(∀ i,i<n → ∃ y,Q i y) → ∃ l:List α,l.length=n ∧ ∀ i y,l[i]?=some y→Q i y
 | 0,_=>⟨[],rfl,by simp⟩
 | n+1,h=>by
  obtain⟨l,hl,hq⟩:=qU4 n (fun i hi=>h i (by omega))
  obtain⟨y,hy⟩:=h n (by omega)
  refine⟨l++[y],by simp[hl],fun i z hz=>?_⟩
  rw[List.getElem?_append] at hz
  split at hz
  ·exact hq i z hz
  ·have h1:i-l.length=0:=by
    rcases Nat.eq_zero_or_pos (i-l.length) with h | h
    ·exact h
    ·rw[List.getElem?_eq_none (by simp;omega)] at hz;cases hz
   rw[h1] at hz
   simp only[List.getElem?_cons_zero,Option.some.injEq] at hz
   subst hz
   have:i=n:=by omega
   subst this;exact hy
theorem qTl {w:World} {a:Addr} {u:Value} (h:w.cell? a=some u):a.block<w.heap.size∧a.spot=none:=by
 unfold World.cell? at h
 split at h
 ·rename_i hb
  refine⟨(Array.getElem?_eq_some_iff.1 hb).1,?_⟩
  split at h
  ·cases h
  ·rename_i hs
   simpa using hs
 ·cases h
section
variable {H:Type} {enc:TypeId×Value→H} {P:Program} {w:World} {base:Nat} {sp:Nat→Bool} {held:Bool}
structure qEd (w:World) (ds:List T) (cs:List Value):Prop where
 len:ds.length=cs.length
 one : ∀ u∈cs,u.oneCell'=true
 rep : ∀ (i:Nat) (c:T) (u:Value),ds[i]?=some c→cs[i]?=some u→Rep (fun b=>b<w.heap.size) w c u
theorem qEd.one1 {x:T} {c:Value} (hc:c.oneCell'=true) (h:Rep (fun b=>b<w.heap.size) w x c):qEd w [x] [c]:=
 ⟨rfl,by simpa using hc,fun i d u hd hu=>by
  cases i with
  | zero=>simp only[List.getElem?_cons_zero,Option.some.injEq] at hd hu;subst hd;subst hu;exact h
  | succ i=>simp at hd⟩
theorem qEd.app {ds es:List T} {cs vs:List Value} (h:qEd w ds cs) (h2:qEd w es vs):qEd w (ds++es) (cs++vs):=by
 refine⟨by rw[List.length_append,List.length_append,h.len,h2.len],fun u hu=>?_,fun i c u hc hu=>?_⟩
 ·rcases List.mem_append.1 hu with h3 | h3
  ·exact h.one u h3
  ·exact h2.one u h3
 ·rw[List.getElem?_append] at hc hu
  rw[h.len] at hc
  split at hc
  ·rename_i hl;rw[if_pos hl] at hu;exact h.rep i c u hc hu
  ·rename_i hl;rw[if_neg hl] at hu;exact h2.rep _ c u hc hu
theorem qEd.nil:qEd w [] []:=⟨rfl,by simp,fun i c u hc=>by simp at hc⟩
theorem qN5 (n:Nat) (IH : ∀ (ty:Ty) (t:TypeId) (cs:List Value) (x:DataW H×List MemPlace),ty.ok P t=true→cs.length=ty.size→DataW.trod enc P w base sp held n t cs=some x → ∃ y:T,ty.is y∧qEd w y.cells cs) {cs:List Value} :
  ∀ (fs:List Ty) (gs:List Field) (off:Nat),Ty.okF P fs gs off=true→off+Ty.sizeL fs=cs.length→(∀ g∈gs,∃ x,DataW.trod enc P w base sp held n g.type ((cs.drop g.offset).take (P.cellsOf g.type))=some x)→
   ∃ ds,Ty.isL fs ds∧qEd w ds (cs.drop off)
 | [],[],off,_,hl,_=>⟨[],rfl,by
   have:cs.drop off=[]:=List.drop_eq_nil_of_le (by simp only[Ty.sizeL] at hl;omega)
   rw[this];exact qEd.nil⟩
 | [],_::_,_,h,_,_=>by simp[Ty.okF] at h
 | _::_,[],_,h,_,_=>by simp[Ty.okF] at h
 | f::r,g::gs,off,h,hl,hg=>by
  simp only[Ty.okF,Bool.and_eq_true] at h
  obtain⟨⟨⟨h1,h2⟩,h3⟩,h4⟩:=h
  have e1:=Nat.eq_of_beq_eq_true h1
  have e2:=Nat.eq_of_beq_eq_true h2
  simp only[Ty.sizeL] at hl
  obtain⟨ds,hd1,hd2⟩:=qN5 n IH r gs (off+f.size) h4 (by omega) (fun g' hg'=>hg g' (.tail _ hg'))
  obtain⟨x,hx⟩:=hg g (.head _)
  rw[e1,e2] at hx
  obtain⟨y,hy1,hy2⟩:=IH f g.type _ x h3 (by simp;omega) hx
  refine⟨y.cells++ds,⟨y,ds,hy1,hd1,rfl⟩,?_⟩
  have e3:cs.drop off=(cs.drop off).take f.size++cs.drop (off+f.size):=by
   rw[←List.drop_drop,List.take_append_drop]
  rw[e3]
  exact hy2.app hd2
theorem qQs (n:Nat) (IH : ∀ (ty:Ty) (t:TypeId) (cs:List Value) (x:DataW H×List MemPlace),ty.ok P t=true→cs.length=ty.size→DataW.trod enc P w base sp held n t cs=some x → ∃ y:T,ty.is y∧qEd w y.cells cs) {cs:List Value} {te:TypeId} :
  ∀ (fs:List Ty) (i:Nat),Ty.okA P fs te=true→i*P.cellsOf te+Ty.sizeL fs=cs.length→(∀ j,j<fs.length → ∃ x,DataW.trod enc P w base sp held n te ((cs.drop ((i+j)*P.cellsOf te)).take (P.cellsOf te))=some x)→
   ∃ ds,Ty.isL fs ds∧qEd w ds (cs.drop (i*P.cellsOf te))
 | [],i,_,hl,_=>⟨[],rfl,by
   have:cs.drop (i*P.cellsOf te)=[]:=List.drop_eq_nil_of_le (by simp only[Ty.sizeL] at hl;omega)
   rw[this];exact qEd.nil⟩
 | f::r,i,h,hl,hg=>by
  simp only[Ty.okA,Bool.and_eq_true] at h
  obtain⟨⟨h3,h2⟩,h4⟩:=h
  have e2:=Nat.eq_of_beq_eq_true h2
  simp only[Ty.sizeL] at hl
  have e4:(i+1)*P.cellsOf te=i*P.cellsOf te+f.size:=by rw[Nat.add_mul,Nat.one_mul,e2]
  obtain⟨ds,hd1,hd2⟩:=qQs n IH (cs:=cs) r (i+1) h4 (by rw[e4];omega) (fun j hj=>by
   have:=hg (j+1) (by simp;omega)
   rw[show i+1+j=i+(j+1) by omega];exact this)
  obtain⟨x,hx⟩:=hg 0 (by simp)
  rw[Nat.add_zero,e2,←e2] at hx
  obtain⟨y,hy1,hy2⟩:=IH f te _ x h3 (by rw[e2] at hl ⊢;rw[List.length_take,List.length_drop];omega) hx
  refine⟨y.cells++ds,⟨y,ds,hy1,hd1,rfl⟩,?_⟩
  have e3:cs.drop (i*P.cellsOf te)=(cs.drop (i*P.cellsOf te)).take (P.cellsOf te)++cs.drop ((i+1)*P.cellsOf te):=by
   rw[e4,←e2,←List.drop_drop,List.take_append_drop]
  rw[e3]
  exact hy2.app hd2
theorem qQt : ∀ (n:Nat) (ty:Ty) (t:TypeId) (cs:List Value) (x:DataW H×List MemPlace),ty.ok P t=true→cs.length=ty.size→DataW.trod enc P w base sp held n t cs=some x → ∃ y:T,ty.is y∧qEd w y.cells cs:=by
 intro n
 induction n with
 | zero=>intro ty t cs x _ _ h;simp[DataW.trod] at h
 | succ n IH=>
  intro ty t cs x hty hlen h
  cases ty with
  | int k=>
   obtain⟨m,rfl,_,hw⟩:=DataW.trod_int (zN1 hty) h
   exact⟨.int k m,⟨m,hw,rfl⟩,.one1 rfl (.int k m)⟩
  | bool=>
   simp only[Ty.ok] at hty
   split at hty
   ·rename_i hu
    obtain⟨b,rfl,_⟩:=DataW.trod_bool hu h
    exact⟨.bool b,⟨b,rfl⟩,.one1 rfl (.bool b)⟩
   ·cases hty
  | str=>
   simp only[Ty.ok] at hty
   split at hty
   ·rename_i hu
    obtain⟨s,rfl,_,hs⟩:=DataW.trod_string hu h
    exact⟨.str s,⟨s,hs,rfl⟩,.one1 rfl (.str s)⟩
   ·cases hty
  | sl e=>
   simp only[Ty.ok] at hty
   split at hty
   ·rename_i te hu
    simp only[Bool.and_eq_true] at hty
    obtain⟨⟨h1,h2⟩,h3⟩:=hty
    have e2:=Nat.eq_of_beq_eq_true h2
    have e3:=Nat.le_of_ble_eq_true h3
    rcases DataW.trod_slice hu h with⟨rfl,_⟩ | ⟨a,len,cap,elems,rest,m,hm,rfl,_,_,hlc,hcm,hel,hget,_,_⟩
    ·exact⟨.sl [],⟨[],by simp,by simp,rfl⟩,.one1 rfl .nil⟩
    ·cases hm
     have hcells : ∀ i,i<len → ∃ y:T,e.is y ∧ ∃ cs',qEd w y.cells cs'∧cs'.length=e.size ∧ ∀ j,j<e.size→w.cell? ((a.add (i*e.size)).add j)=cs'[j]?:=by
      intro i hi
      have hg:=hget i hi
      have:elems[i]?=some elems[i]:=List.getElem?_eq_getElem (by omega)
      rw[this,Option.bind_eq_some_iff] at hg
      obtain⟨cs',hc,ht⟩:=hg
      obtain⟨_,hl,hcell⟩:=World.cells?_some hc
      rw[e2] at hl hcell
      obtain⟨y,hy1,hy2⟩:=IH e te cs' _ h1 hl ht
      exact⟨y,hy1,cs',hy2,hl,hcell⟩
     obtain⟨es,hes,hq⟩:=qU4 len hcells
     have hz : ∀ y∈es,y.cells.length=e.size:=fun y hy=>by
      obtain⟨i,hi⟩:=List.getElem?_of_mem hy
      exact e.is_size y (hq i y hi).1
     have hcellk : ∀ k,k<len*e.size → ∃ (i j:Nat) (y:T) (cs':List Value) (u:Value),k=i*e.size+j∧j<e.size∧es[i]?=some y∧qEd w y.cells cs'∧cs'[j]?=some u∧w.cell? (a.add k)=some u:=by
      intro k hk
      have hi:k/e.size<len:=(Nat.div_lt_iff_lt_mul (by omega)).2 hk
      have hj:k%e.size<e.size:=Nat.mod_lt _ (by omega)
      have hy:es[k/e.size]?=some es[k/e.size]:=List.getElem?_eq_getElem (by omega)
      obtain⟨_,cs',hr,hl,hc⟩:=hq _ _ hy
      have hu:cs'[k%e.size]?=some cs'[k%e.size]:=List.getElem?_eq_getElem (by omega)
      have ek:k=k/e.size*e.size+k%e.size:=by rw[Nat.mul_comm];exact (Nat.div_add_mod k e.size).symm
      refine⟨_,_,_,cs',_,ek,hj,hy,hr,hu,?_⟩
      rw[←hu,←hc _ hj,Addr.add_add,←ek]
     refine⟨.sl es,⟨es,by omega,fun y hy=>?_,rfl⟩,.one1 rfl ?_⟩
     ·obtain⟨i,hi⟩:=List.getElem?_of_mem hy
      exact (hq i y hi).1
     ·have hnl:((List.range (len*e.size)).map fun k=>(w.cell? (a.add k)).getD default).length=len*e.size:=by simp
      have hnews : ∀ k u,((List.range (len*e.size)).map fun k=>(w.cell? (a.add k)).getD default)[k]?=some u→k<len*e.size∧w.cell? (a.add k)=some u:=by
       intro k u hu
       have hk:k<len*e.size:=by
        rcases Nat.lt_or_ge k (len*e.size) with h | h
        ·exact h
        ·rw[List.getElem?_eq_none (by omega)] at hu;cases hu
       obtain⟨_,_,_,_,u',_,_,_,_,_,hc⟩:=hcellk k hk
       rw[List.getElem?_map,List.getElem?_range hk,Option.map_some,hc,Option.getD_some,Option.some.injEq] at hu
       subst hu
       exact⟨hk,hc⟩
      have h0:es≠[]→a.block<w.heap.size∧a.spot=none:=by
       intro hne
       have hlp:0<len:=by
        rw[←hes];exact List.length_pos_iff.2 hne
       obtain⟨_,_,_,_,u',_,_,_,_,_,hc⟩:=hcellk 0 (Nat.mul_pos hlp (by omega))
       have e9:a.add 0=a:=by simp[Addr.add]
       rw[e9] at hc
       exact qTl hc
      have key:=Rep.sl (F:=fun b=>b<w.heap.size) (w:=w) es a cap e.size _ (fun hne=>(h0 hne).2) (by omega) (by rw[hes];exact hnl) (fun u hu=>by
       obtain⟨k,hk⟩:=List.getElem?_of_mem hu
       obtain⟨hk1,hk2⟩:=hnews k u hk
       obtain⟨_,_,_,cs',u',_,_,_,hr,hcu,hc⟩:=hcellk k hk1
       rw[hk2] at hc;cases hc
       exact hr.one u (List.mem_of_getElem? hcu)) (fun hne=>(h0 hne).1) (fun k u hk=>(hnews k u hk).2) hz
       (fun i y j c u hy hc hu=>by
        obtain⟨hk1,hk2⟩:=hnews _ u hu
        obtain⟨i',j',y',cs',u',e1,hj',hy',hr,hcu,hc'⟩:=hcellk _ hk1
        rw[hk2] at hc';cases hc'
        have hj:j<e.size:=by rw[←hz y (List.mem_of_getElem? hy)];exact (List.getElem?_eq_some_iff.1 hc).1
        have ei:i=i'∧j=j':=by
         have h5:=congrArg (· / e.size) e1
         have h6:=congrArg (· % e.size) e1
         simp only[Nat.mul_comm _ e.size,Nat.mul_add_div (show 0<e.size by omega),Nat.mul_add_mod,Nat.div_eq_of_lt hj,Nat.div_eq_of_lt hj',Nat.mod_eq_of_lt hj,Nat.mod_eq_of_lt hj'] at h5 h6
         exact⟨by omega,h6⟩
        obtain⟨rfl,rfl⟩:=ei
        rw[hy] at hy';cases hy'
        exact hr.rep j c u hc hcu)
      rw[hes] at key
      exact key
   ·cases hty
  | st fs=>
   simp only[Ty.ok,Bool.and_eq_true] at hty
   obtain⟨h0,hty⟩:=hty
   have e0:=Nat.eq_of_beq_eq_true h0
   split at hty
   ·rename_i gs hu
    obtain⟨xs,m,hm,_,hl,hxl,hget⟩:=DataW.trod_struct hu h
    cases hm
    obtain⟨ds,hd1,hd2⟩:=qN5 n IH (cs:=cs) fs gs.toList 0 hty (by omega) (fun g hg=>by
     obtain⟨i,hi⟩:=List.getElem?_of_mem hg
     have hi':gs[i]?=some g:=by simpa using hi
     have hlt:i<xs.length:=by rw[hxl];exact (Array.getElem?_eq_some_iff.1 hi').1
     exact⟨xs[i],by rw[hget i g hi'];exact List.getElem?_eq_getElem hlt⟩)
    rw[List.drop_zero] at hd2
    exact⟨.agg ds,⟨ds,hd1,rfl⟩,hd2⟩
   ·rename_i m te hu
    simp only[Bool.and_eq_true] at hty
    have e5:=Nat.eq_of_beq_eq_true hty.1
    obtain⟨xs,m',hm,_,hl,hxl,hget⟩:=DataW.trod_array hu h
    cases hm
    obtain⟨ds,hd1,hd2⟩:=qQs n IH (cs:=cs) fs 0 hty.2 (by omega) (fun j hj=>by
     have hlt:j<xs.length:=by omega
     rw[Nat.zero_add]
     exact⟨xs[j],by rw[hget j (by omega)];exact List.getElem?_eq_getElem hlt⟩)
    rw[Nat.zero_mul,List.drop_zero] at hd2
    exact⟨.agg ds,⟨ds,hd1,rfl⟩,hd2⟩
   ·cases hty
theorem zBv {ty:Ty} {t:TypeId} {v:Value} {d:DataW H} {ps:List MemPlace} {b0:Nat} (hty:ty.ok P t=true) (hval:Value.okWide P w .any b0 t v) (h:DataW.Trod enc P w base sp held t v d ps) :
  ∃ y:T,ty.is y∧Rep (fun b=>b<w.heap.size) w y v:=by
 obtain⟨n,hn⟩:=h
 have scalar : ∀ c,v=c→c.cells = #[c]→ty.size=1→(∀ y:T,ty.is y→y.cells=[y]) → ∃ y:T,ty.is y∧Rep (fun b=>b<w.heap.size) w y v:=by
  intro c hv hc hs hy
  subst hv
  rw[hc] at hn
  obtain⟨y,h1,h2⟩:=qQt n ty t _ _ hty (by rw[hs];rfl) hn
  rw[hy y h1] at h2
  exact⟨y,h1,h2.rep 0 y v rfl rfl⟩
 cases ty with
 | int k=>
  obtain⟨m,hv⟩:=okWide_int (zN1 hty) hval
  exact scalar _ hv rfl rfl (fun y hy=>by obtain⟨_,_,rfl⟩:=hy;rfl)
 | bool=>
  simp only[Ty.ok] at hty
  split at hty
  ·rename_i hu
   obtain⟨m,hv⟩:=okWide_bool hu hval
   exact scalar _ hv rfl rfl (fun y hy=>by obtain⟨_,rfl⟩:=hy;rfl)
  ·cases hty
 | str=>
  simp only[Ty.ok] at hty
  split at hty
  ·rename_i hu
   obtain⟨m,hv⟩:=okWide_string hu hval
   exact scalar _ hv rfl rfl (fun y hy=>by obtain⟨_,_,rfl⟩:=hy;rfl)
  ·cases hty
 | sl e=>
  have hty':=hty
  simp only[Ty.ok] at hty'
  split at hty'
  ·rename_i te hu
   obtain⟨a,l,c,hv⟩:=okWide_slice hu hval
   exact scalar _ hv rfl rfl (fun y hy=>by obtain⟨_,_,_,rfl⟩:=hy;rfl)
  ·cases hty'
 | st fs=>
  have hagg : ∃ cs,v = .agg cs∧cs.size=P.cellsOf t:=by
   have hty':=hty
   simp only[Ty.ok,Bool.and_eq_true] at hty'
   obtain⟨_,h2⟩:=hty'
   unfold Value.okWide at hval
   split at h2
   ·rename_i hu;rw[hu] at hval;obtain⟨cs,h3,h4,_⟩:=hval;exact⟨cs,h3,h4⟩
   ·rename_i hu;rw[hu] at hval;obtain⟨cs,h3,h4,_⟩:=hval;exact⟨cs,h3,h4⟩
   ·cases h2
  obtain⟨cs,rfl,hsz⟩:=hagg
  have hsz2:cs.size=Ty.sizeL fs:=by
   simp only[Ty.ok,Bool.and_eq_true] at hty
   rw[hsz];exact Nat.eq_of_beq_eq_true hty.1
  obtain⟨y,h1,h2⟩:=qQt n (.st fs) t _ _ hty (by show cs.toList.length=Ty.sizeL fs;simpa using hsz2) hn
  obtain⟨ds,h3,rfl⟩:=h1
  refine⟨.agg ds,⟨ds,h3,rfl⟩,.agg ds cs ?_ ?_ ?_⟩
  ·have:=h2.len;simpa [Value.cells,T.cells] using this.symm
  ·intro u hu;exact h2.one u (by simpa [Value.cells] using hu)
  ·intro i c u hc hu;exact h2.rep i c u hc (by simpa [Value.cells] using hu)
theorem qUy : ∀ {tys:List Ty} {ts:List TypeId} {vs:List Value} {ds:List (DataW H)} {ps:List MemPlace} {b0:Nat},wU (fun (ty:Ty) (t:TypeId)=>ty.ok P t=true) tys ts→
  (∀ (j:Nat) t v,ts[j]?=some t→vs[j]?=some v→Value.okWide P w .any b0 t v)→DataW.TrodAll enc P w base sp held ts vs ds ps→
  ∃ ys:List T,wU (fun (ty:Ty) (y:T)=>ty.is y) tys ys∧wU (qL (fun _=>none) (fun b=>b<w.heap.size) w) (ys.map V.t) vs
 | [],ts,vs,ds,ps,b0,h,hv,hd=>by
  cases h
  obtain⟨rfl,_,_⟩:=trodAll_nil hd
  exact⟨[],.nil,.nil⟩
 | ty::tys,ts,vs,ds,ps,b0,h,hv,hd=>by
  cases h with
  | cons h1 h2=>
   obtain⟨v,vs',d,ds',p,q,rfl,rfl,rfl,hd1,hd2⟩:=trodAll_cons hd
   obtain⟨y,hy1,hy2⟩:=zBv h1 (hv 0 _ v rfl rfl) hd1
   obtain⟨ys,h3,h4⟩:=qUy h2 (fun j t v' ht hv'=>hv (j+1) t v' ht hv') hd2
   exact⟨y::ys,.cons hy1 h3,.cons (.t hy2) h4⟩
end
end Go.Eng
end
section
set_option maxRecDepth 20000
namespace Go.Eng
open Go.ChangeShapes Go.WideShapes Go.RowKit Go.WideElems
section
variable {H:Type} {enc:TypeId×Value→H} {P:Program}
theorem qXv {W W':World} (hfr : ∀ b,b<W.heap.size→W'.heap[b]?=W.heap[b]?) {p:MemPlace} (hp:p.block<W.heap.size):W.sameAt W' p:=by
 cases p with
 | cell b off=>exact World.cell?_of_block (hfr b hp)
 | map b=>exact hfr b hp
theorem qTh (hl:laidOutB P=true) {W W':World} (hfr : ∀ b,b<W.heap.size→W'.heap[b]?=W.heap[b]?) {sp:Nat→Bool} :
  ∀ {ts:List TypeId} {vs:List Value} {ds:List (DataW H)} {ps:List MemPlace},(∀ t∈ts,P.readableRec t=true∧t<P.types.size)→(∀ p∈ps,p.block<W.heap.size∧sp p.block=true)→
   DataW.TrodAll enc P W 0 (fun _=>true) true ts vs ds ps→DataW.TrodAll enc P W' 0 sp true ts vs ds ps
 | [],vs,ds,ps,_,_,h=>by
  obtain⟨rfl,rfl,rfl⟩:=trodAll_nil h
  exact trodAll_mk0
 | t::ts,vs,ds,ps,ht,hp,h=>by
  obtain⟨v,vs',d,ds',p,q,rfl,rfl,rfl,h1,h2⟩:=trodAll_cons h
  obtain⟨hr,hrow⟩:=ht t (.head _)
  exact⟨p,q,Trod_stays hl hr hrow h1 (fun x hx=>qXv hfr (hp x (List.mem_append_left _ hx)).1) (fun x hx=>(hp x (List.mem_append_left _ hx)).2),
   qTh hl hfr (fun t' ht'=>ht t' (.tail _ ht')) (fun x hx=>hp x (List.mem_append_right _ hx)) h2,rfl⟩
theorem zKj {fn:Func} {s:ChangeSpec} {tb:TypeId} {apart fresh handsOn again:Bool} {W W':World} {args:Array Value} {ds gs:List (DataW H)} {before:List MemPlace}
  (hl:laidOutB P=true) (hts : ∀ t∈fn.params.toList,P.readableRec t=true∧t<P.types.size) (hrt:fn.resultTypes = #[tb]) (hb:P.underlying tb=some .bool) (hsv:s.vars=[])
  (hfn:(s.fn H (ds++gs)).results=[.lit (.bool true)]∧(s.fn H (ds++gs)).args=ds∧(s.fn H (ds++gs)).vars=[])
  (hW:DataW.Whole enc P fn.params.toList s.vars apart W args.toList ds gs before)
  (hos:W'.os=W.os) (hout:W'.output=W.output) (hfr : ∀ b,b<W.heap.size→W'.heap[b]?=W.heap[b]?) :
  s.post enc P fn apart fresh handsOn again W args (.bool true) W':=by
 have hlt : ∀ p∈before,p.block<W.heap.size:=fun p hp=>hW.lt p hp
 have hW':=hW
 obtain⟨p,q,hA,hV,rfl,hz,hn⟩:=hW'
 rw[hsv] at hV
 obtain⟨rfl,rfl⟩:=trodVars_none hV
 have hres : ∀ (b:Nat) (sp:Nat→Bool) (hd:Bool),DataW.TrodAll enc P W' b sp hd fn.resultTypes.toList ((Value.bool true).resultList fn.resultTypes.size) (s.fn H (ds++[])).results []:=by
  intro b sp hd
  rw[hrt,hfn.1]
  exact trodAll_mk1 (shut_bool hb true)
 have hargs : ∀ sp:Nat→Bool,(∀ x∈p++[],sp x.block=true)→DataW.TrodAll enc P W' 0 sp true fn.params.toList args.toList (s.fn H (ds++[])).args p:=by
  intro sp hsp
  rw[hfn.2.1]
  exact qTh hl hfr hts (fun x hx=>⟨hlt x (by simpa using hx),hsp x (by simpa using hx)⟩) hA
 have hvars : ∀ sp:Nat→Bool,DataW.TrodVars enc P W' sp s.vars (s.fn H (ds++[])).vars []:=by
  intro sp
  rw[hsv,hfn.2.2]
  rfl
 refine⟨ds,[],_,[],p,[],hW,hres _ _ _,hargs _ (fun x hx=>by simpa using hlt x hx),hvars _,⟨hos,hout,fun i hi=>?_⟩,fun _=>?_⟩
 ·have e:=hfr i hi
  revert e
  generalize W'.heap[i]?=o'
  intro e
  subst e
  split
  ·rename_i h1 h2
   rw[h1] at h2
   cases h2
   exact⟨rfl,rfl,rfl,fun _ _=>rfl⟩
  ·rename_i h1 h2
   rw[h1] at h2
   cases h2
   exact .inr ⟨rfl,rfl⟩
  ·rfl
 ·refine⟨ok_one hrt rfl (okWide_bool_mk hb _),_,_,([]++p)++[],⟨[]++p,[],trodAll_append (hargs _ (fun _ _=>rfl)) (hres _ _ _),hvars _,rfl,?_,?_⟩,?_⟩
  ·intro b off hx
   have hx':MemPlace.cell b off∈p++[]:=by simpa using hx
   have e:W'.frozen? ⟨b,off,none⟩=W.frozen? ⟨b,off,none⟩:=by
    unfold World.frozen?
    rw[hfr b (hlt _ hx')]
   rw[e]
   exact hz b off hx'
  ·intro ha
   have:=hn ha
   simpa using this
  ·intro x hx _
   simpa using hx
theorem qIb {w:World} : ∀ {laid:List (String×DataW Unit)} {ps:List MemPlace},DataW.LaidVars P w laid ps → ∀ x∈laid,∃ g t cs fuel p,P.globalNamed x.1=some g∧(P.globals[g]?).map (·.type)=some t∧w.var? P x.1=some cs∧
   DataW.trod (fun _=>()) P w 0 (fun _=>true) false fuel t cs.toList=some (x.2,p)
 | [],_,_,x,hx=>by cases hx
 | y::r,ps,h,x,hx=>by
  obtain⟨g,t,cs,fuel,p,q,h1,h2,h3,h4,h5,_⟩:=h
  rcases List.mem_cons.1 hx with rfl | hx
  ·exact⟨g,t,cs,fuel,p,h1,h2,h3,h4⟩
  ·exact qIb h5 x hx
theorem qXt {w:World} {nm:String} {g t e n:Nat} {k:IntKind} {ns:List Int} {cs:Array Value} {fuel:Nat} {p:List MemPlace} {F:Nat→Prop} (hg:P.globalNamed nm=some g) (hv:w.var? P nm=some cs)
  (ht:P.underlying t=some (.array n e)) (he:P.underlying e=some (.int k)) (hc:P.cellsOf e=1) (hct:P.cellsOf t=n) (hn:0<ns.length)
  (h:DataW.trod (fun _=>()) P w 0 (fun _=>true) false fuel t cs.toList=some (.agg (ns.map fun m=> .lit (.int k m)),p)) (hF:g<w.heap.size→F g) :
  qL (fun _=>none) F w (.ro (ns.map (T.int k))) (.pointer (some ⟨g,0,none⟩)):=by
 obtain⟨xs,m,_,hx,hl,hxl,hget⟩:=DataW.trod_array ht h
 simp only[Prod.mk.injEq,DataW.agg.injEq] at hx
 have hlen:ns.length=n:=by
  have:=congrArg List.length hx.1
  simp only[List.length_map] at this
  omega
 have hcl:cs.toList.length=n:=by rw[hl,hct]
 have hcell : ∀ i,i<n→cs.toList[i]?=some (.int k (ns.getD i 0)):=by
  intro i hi
  have h1:=hget i hi
  have h2:xs[i]?=some xs[i]:=List.getElem?_eq_getElem (by omega)
  rw[h2,hc,Nat.mul_one] at h1
  obtain⟨z,hz1,hz2,_⟩:=DataW.trod_int he h1
  have h3:cs.toList[i]?=some (.int k z):=by
   have h4:=congrArg (fun l=>l[0]?) hz1
   simp only[List.getElem?_take,List.getElem?_drop,Nat.add_zero,List.getElem?_cons_zero] at h4
   simpa using h4
  have h5:=congrArg (fun l=>l[i]?) hx.1
  simp only[List.getElem?_map,h2,Option.map_some,hz2] at h5
  have h6:ns[i]?=some ns[i]:=List.getElem?_eq_getElem (by omega)
  rw[h6] at h5
  simp only[Option.map_some,Option.some.injEq,DataW.lit.injEq,Lit.int.injEq,true_and] at h5
  rw[h3,List.getD_eq_getElem?_getD,h6,h5];rfl
 have hw : ∀ j,w.cell? ((⟨g,0,none⟩:Addr).add j)=cs.toList[j]?:=by
  intro j
  have e:(⟨g,0,none⟩:Addr).add j=⟨g,j,none⟩:=by
   unfold Addr.add;split
   ·rename_i h0;rw[h0]
   ·simp
  rw[e,World.var?_cell hg hv j,Array.getElem?_toList]
 refine .ro (ns.map (T.int k)) ⟨g,0,none⟩ cs.toList rfl (by rw[hcl,List.length_map,hlen]) ?_ (hF ?_) (fun j u hu=>(hw j).trans hu) ?_
 ·intro u hu
  obtain⟨i,hi⟩:=List.getElem?_of_mem hu
  rw[hcell i (by rw[←hcl];exact (List.getElem?_eq_some_iff.1 hi).1)] at hi
  cases hi;rfl
 ·have h0:=hw 0
  rw[hcell 0 (by omega)] at h0
  have:=(qTl h0).1
  rw[qA3] at this
  exact this
 ·intro j c u hcj hu
  rw[List.getElem?_map,Option.map_eq_some_iff] at hcj
  obtain⟨z,hz,rfl⟩:=hcj
  rw[hcell j (by rw[←hlen];exact (List.getElem?_eq_some_iff.1 hz).1)] at hu
  cases hu
  rw[List.getD_eq_getElem?_getD,hz]
  exact .int k z
theorem qW9 {w:World} {nm:String} {g t e n:Nat} {k:IntKind} {ns:List Int} {cs:Array Value} {fuel:Nat} {p:List MemPlace} (hg:P.globalNamed nm=some g) (hv:w.var? P nm=some cs)
  (ht:P.underlying t=some (.array n e)) (hct:P.cellsOf t=n)
  (h:DataW.trod (fun _=>()) P w 0 (fun _=>true) false fuel t cs.toList=some (.agg (ns.map fun m=> .lit (.int k m)),p)):GSz w g (ns.map (T.int k)).length:=by
 obtain⟨xs,m,_,hx,hl,hxl,hget⟩:=DataW.trod_array ht h
 simp only[Prod.mk.injEq,DataW.agg.injEq] at hx
 have hlen:ns.length=n:=by
  have:=congrArg List.length hx.1
  simp only[List.length_map] at this
  omega
 have hcl:cs.toList.length=n:=by rw[hl,hct]
 unfold World.var? at hv
 rw[hg,Option.bind_some] at hv
 split at hv
 ·rename_i c e z hc
  cases hv
  exact⟨_,e,z,hc,by rw[List.length_map,hlen,←hcl];simp⟩
 ·cases hv
theorem qGi {w:World} {base:Nat} {sp:Nat→Bool} {held:Bool} : ∀ {ts:List TypeId} {vs:List Value} {ds:List (DataW H)} {ps:List MemPlace},DataW.TrodAll enc P w base sp held ts vs ds ps→ds.length=ts.length
 | [],_,_,_,h=>by obtain⟨rfl,rfl,rfl⟩:=trodAll_nil h;rfl
 | _::_,_,_,_,h=>by
  obtain⟨_,_,_,_,_,_,rfl,rfl,rfl,_,h2⟩:=trodAll_cons h
  simp[qGi h2]
end
theorem qQn {H:Type} {enc:TypeId×Value→H} {C:Checked} {os:Os} {f:FuncId} {fn:Func} {s:ChangeSpec} {laid:List (String×DataW Unit)} {tys:List Ty} {G:Nat→Option (List T)} {tb:TypeId} {apart fresh handsOn again:Bool}
  (own:ownKnob C.prog.godebug=none) (started:os.Started) (noInit:C.prog.inits.idxOf? f=none) (hfn:C.prog.funcs[f]?=some fn)
  (witness : ∃ (w:World) (tape:Tape) (i:Input),w.os=os∧(w.forCall tape i).Shaped C.prog∧i.vars=[]∧Input.okWide C.prog (w.forCall tape i) .any w.heap.size f i∧
   ((s.pre enc C.prog fn [] apart (w.forCall tape i).memory i.args∧laidMetH C.prog laid (w.forCall tape i).memory)∧sizedMet enc C.prog fn (OpenSpec.ofChange s) apart (w.forCall tape i).memory i.args)∧({}:Assume).holds C.prog (lone (Frame.enter C.prog f i.args .normal) [] (w.forCall tape i)))
  (hl:laidOutB C.prog=true) (hts:fn.params.toList.all (fun t=>C.prog.readableRec t&&Nat.blt t C.prog.types.size)=true) (hrt:fn.resultTypes = #[tb]) (hb:C.prog.underlying tb=some .bool) (hsv:s.vars=[])
  (hspec : ∀ ds:List (DataW H),ds.length=tys.length→(s.fn H ds).results=[.lit (.bool true)]∧(s.fn H ds).args=ds∧(s.fn H ds).vars=[])
  (htys:wU (fun (ty:Ty) (t:TypeId)=>ty.ok C.prog t=true) tys fn.params.toList)
  (henv : ∀ W,laidMetH C.prog laid W→zDl G (fun b=>b<W.heap.size) W)
  (hlaw : ∀ ys,wU (fun (ty:Ty) (y:T)=>ty.is y) tys ys→zA4 C.prog G f (ys.map V.t) [] (.t (.bool true)) []) :
  ReturnsInHanded {} C os f .any (fun w args=>(s.pre enc C.prog fn [] apart w args∧laidMetH C.prog laid w)∧sizedMet enc C.prog fn (OpenSpec.ofChange s) apart w args) (s.post enc C.prog fn apart fresh handsOn again):=by
 have hts' : ∀ t∈fn.params.toList,C.prog.readableRec t=true∧t<C.prog.types.size:=by
  intro t ht
  have:=List.all_eq_true.1 hts t ht
  rw[Bool.and_eq_true] at this
  exact⟨this.1,by simpa [Nat.blt_eq] using this.2⟩
 refine returnsInHanded_of_change_and (C:=C) (X:=fun w _=>laidMetH C.prog laid w) (fun _ _ _ hh h=>laidMetH.of_heap hh h) own started noInit hfn witness ?_
 intro W base args ds gs before hval hW _ _ hL _
 have hW':=hW
 obtain⟨p,q,hA,hV,rfl,_,_⟩:=hW'
 rw[hsv] at hV
 obtain⟨rfl,rfl⟩:=trodVars_none hV
 obtain⟨ys,hys,hreps⟩:=qUy htys (fun j t v ht hv=>hval j t v (by simpa using ht) (by simpa using hv)) hA
 have hlen:ds.length=tys.length:=by rw[qGi hA,htys.length]
 have hcall:=hlaw ys hys W (fun _=>none) (fun b=>b<W.heap.size) args (henv W hL)
  ⟨fun k o h=>by simp at h,fun _ _=>rfl,fun _ _ _ _ _ h=>by simp at h,fun _ _ _ h=>by simp at h⟩ hreps
 refine hcall.mono fun e W' ⟨x,β',F',he,hp⟩=>?_
 subst he
 have hx:x = .bool true:=by
  have:=hp.res
  cases this with
  | t h=>cases h;rfl
 subst hx
 exact⟨_,rfl,zKj hl hts' hrt hb hsv (by rw[List.append_nil];exact hspec ds hlen) hW hp.os hp.output (fun b hb=>hp.frame b hb (fun _ _ h=>by simp at h))⟩
end Go.Eng
end
section
set_option maxRecDepth 20000
namespace Go.Eng
theorem qB4 {y:T} (h:(Ty.int .i64).is y) : ∃ n:Int,(-9223372036854775808≤n∧n<9223372036854775808)∧y = .int .i64 n:=by
 obtain⟨n,hw,rfl⟩:=h
 refine⟨n,?_,rfl⟩
 simp only[Lit.wf,Bool.and_eq_true,decide_eq_true_eq] at hw
 obtain⟨h1,h2⟩:=hw
 have e1:IntKind.i64.min = -9223372036854775808:=by decide
 have e2:IntKind.i64.max=9223372036854775807:=by decide
 rw[e1] at h1
 rw[e2] at h2
 omega
theorem zZn {y:T} (h:(Ty.int .u8).is y) : ∃ b:UInt8,y=qA b:=by
 obtain⟨n,hw,rfl⟩:=h
 simp only[Lit.wf,Bool.and_eq_true,decide_eq_true_eq] at hw
 obtain⟨h1,h2⟩:=hw
 have e1:IntKind.u8.min=0:=by decide
 have e2:IntKind.u8.max=255:=by decide
 rw[e1] at h1
 rw[e2] at h2
 refine⟨UInt8.ofNat n.toNat,?_⟩
 unfold qA
 congr 1
 rw[UInt8.toNat_ofNat']
 omega
theorem zZk {y:T} (h:Ty.bool.is y) : ∃ b:Bool,y = .bool b:=h
theorem qR0 {α:Type} {f:α→T} {es:List T} (h : ∀ y∈es,∃ a,y=f a) : ∃ l:List α,es=l.map f:=by
 induction es with
 | nil=>exact⟨[],rfl⟩
 | cons y r ih=>
  obtain⟨a,rfl⟩:=h y (.head _)
  obtain⟨l,rfl⟩:=ih (fun z hz=>h z (.tail _ hz))
  exact⟨a::l,rfl⟩
theorem mx:maxLen=9223372036854775807:=by decide
theorem qAm {y:T} (h:(Ty.sl (.int .u8)).is y) : ∃ bs:List UInt8,bs.length≤9223372036854775807∧y = .sl (bs.map qA):=by
 obtain⟨es,hl,he,rfl⟩:=h
 obtain⟨bs,rfl⟩:=qR0 (f:=qA) (fun y hy=>zZn (he y hy))
 rw[List.length_map,mx] at hl
 exact⟨bs,hl,rfl⟩
theorem zP8 {y:T} (h:(Ty.sl (.sl (.int .u8))).is y) : ∃ l:List (List UInt8),l.length≤9223372036854775807∧(∀ d∈l,d.length<9223372036854775808)∧y = .sl (l.map bsT):=by
 obtain⟨es,hl,he,rfl⟩:=h
 obtain⟨l,hl2⟩:=qR0 (f:=bsT) (es:=es) (fun y hy=>by
  obtain⟨bs,_,h2⟩:=qAm (he y hy)
  exact⟨bs,h2⟩)
 subst hl2
 rw[List.length_map,mx] at hl
 refine⟨l,hl,fun d hd=>?_,rfl⟩
 obtain⟨bs,hb,h2⟩:=qAm (he (bsT d) (List.mem_map_of_mem hd))
 have h3:d.map qA=bs.map qA:=by
  have:T.sl (d.map qA)=T.sl (bs.map qA):=h2
  exact T.sl.inj this
 have h4:=congrArg List.length h3
 simp only[List.length_map] at h4
 omega
theorem zZm {y:T} (h:(Ty.st [.int .i64,.int .i64]).is y) : ∃ a b:Int,(-9223372036854775808≤a∧a<9223372036854775808)∧(-9223372036854775808≤b∧b<9223372036854775808)∧y = .agg [.int .i64 a,.int .i64 b]:=by
 obtain⟨cs,hc,rfl⟩:=h
 obtain⟨x,r,hx,hr,rfl⟩:=hc
 obtain⟨x2,r2,hx2,hr2,rfl⟩:=hr
 cases hr2
 obtain⟨a,ha,rfl⟩:=qB4 hx
 obtain⟨b,hb,rfl⟩:=qB4 hx2
 exact⟨a,b,ha,hb,rfl⟩
theorem zKd {y:T} (h:(Ty.sl (.sl (.int .u8))).is y) : ∃ l:List (List UInt8),l.length≤9223372036854775807∧(∀ d∈l,d.length≤9223372036854775807)∧y = .sl (l.map bsT):=by
 obtain⟨l,h1,h2,h3⟩:=zP8 h
 exact⟨l,h1,fun d hd=>by have:=h2 d hd;omega,h3⟩
theorem jDs {y:T} (h:(Ty.st [.int .i64,.int .i64,.sl (.sl (.int .u8)),.sl (.int .u8)]).is y) : ∃ (a b:Int) (l:List (List UInt8)) (d:List UInt8),(l.length≤9223372036854775807∧(∀ d∈l,d.length≤9223372036854775807)∧d.length≤9223372036854775807)∧y = .agg [.int .i64 a,.int .i64 b,.sl (l.map bsT),.sl (d.map qA)]:=by
 obtain⟨cs,hc,rfl⟩:=h
 obtain⟨x,r,hx,hr,rfl⟩:=hc
 obtain⟨x2,r2,hx2,hr2,rfl⟩:=hr
 obtain⟨x3,r3,hx3,hr3,rfl⟩:=hr2
 obtain⟨x4,r4,hx4,hr4,rfl⟩:=hr3
 cases hr4
 obtain⟨a,_,rfl⟩:=qB4 hx
 obtain⟨b,_,rfl⟩:=qB4 hx2
 obtain⟨l,h1,h2,rfl⟩:=zKd hx3
 obtain⟨d,h3,rfl⟩:=qAm hx4
 exact⟨a,b,l,d,⟨h1,h2,h3⟩,rfl⟩
end Go.Eng
end
section
set_option maxRecDepth 20000
namespace Go.Eng
theorem zVd {y:T} (h:Ty.str.is y) : ∃ s:List UInt8,s.length≤9223372036854775807∧y=zN s:=by
 obtain⟨⟨⟨s⟩⟩,hs,rfl⟩:=h
 rw[mx] at hs
 exact⟨s,hs,rfl⟩
theorem zZl {y:T} (h:(Ty.st [.int .i64,.str,.int .i64,.sl (.int .u8)]).is y) : ∃ (a v:Int) (s p:List UInt8),rI a∧rI v∧s.length≤9223372036854775807∧p.length≤9223372036854775807∧y=imT (a,s,v,p):=by
 obtain⟨cs,hc,rfl⟩:=h
 obtain⟨x,r,hx,hr,rfl⟩:=hc
 obtain⟨x2,r2,hx2,hr2,rfl⟩:=hr
 obtain⟨x3,r3,hx3,hr3,rfl⟩:=hr2
 obtain⟨x4,r4,hx4,hr4,rfl⟩:=hr3
 cases hr4
 obtain⟨a,ha,rfl⟩:=qB4 hx
 obtain⟨s,hs,rfl⟩:=zVd hx2
 obtain⟨v,hv,rfl⟩:=qB4 hx3
 obtain⟨p,hp,rfl⟩:=qAm hx4
 exact⟨a,v,s,p,ha,hv,hs,hp,rfl⟩
end Go.Eng
end
section
set_option maxRecDepth 20000
namespace Go.Eng
open Go.MuLone
theorem zN4 {c:UInt8} : ∀ {b:List UInt8} {n:Nat},ixN c b n=if Lib.indexByte b c = -1 then -1 else (n:Int)+Lib.indexByte b c
 | [],n=>rfl
 | x::r,n=>by
  have hg:=Lib.indexByte_ge r c
  unfold ixN Lib.indexByte
  by_cases h:x=c
  ·subst h;simp
  ·rw[if_neg h,zN4]
   have hb:(x==c)=false:=by simpa using h
   rw[hb]
   by_cases h2:Lib.indexByte r c = -1
   ·simp[h2]
   ·have h2b:(Lib.indexByte r c == -1)=false:=by simpa using h2
    rw[h2b,if_neg h2]
    simp only[Bool.false_eq_true,if_false]
    rw[if_neg (by omega)]
    push_cast;omega
theorem zV3 {P:Program} {G:Nat→Option (List T)} {f:FuncId} {fn:Func} (hf:P.funcs[f]?=some fn) (hname:(fn.name == "runtime.NumGoroutine")=false) (hb:fn.body.isNone=true) (hn:Extern.findNext fn=none)
  (he:Extern.find fn=some Extern.BytealgIndexByte.indexByte):FOk P G f qKl.fs:=by
 intro as ins r outs hs
 have key : ∃ (b:List UInt8) (c:UInt8),0<b.length∧as=[.t (.sl (b.map qA)),.t (qA c)]∧ins=[]∧r = .t (.int .i64 (ixN c b 0))∧outs=[]:=by
  unfold Ct.fs at hs
  split at hs
  ·rename_i hx
   cases hs
   have h1:=hx.choose_spec
   generalize hx.choose=y at h1 ⊢
   obtain⟨⟨rfl,rfl⟩,h3⟩:=h1
   exact⟨y.1,y.2,h3.1,rfl,rfl,rfl,rfl⟩
  ·cases hs
 obtain⟨b,c,hpos,rfl,rfl,rfl,rfl⟩:=key
 intro w β F vals env fits hargs
 have hβ : ∀ k,β k=none:=fun k=>fits.dom k (Nat.zero_le _)
 have hvals : ∃ (blk off cap:Nat),vals = #[.slice (some ⟨blk,off,none⟩) b.length cap,.int .u8 c.toNat] ∧ ∀ i,i<b.length→w.cell? ⟨blk,off+i,none⟩=some (.int .u8 ((b.map fun x=>(x.toNat:Int)).getD i 0)):=by
  obtain⟨l⟩:=vals
  cases hargs with
  | cons h1 h2=>
   cases h2 with
   | cons h2 h3=>
    cases h3
    cases h1 with
    | t h1=>
     cases h2 with
     | t h2=>
      generalize hes:b.map qA=es at h1
      have hlen:es.length=b.length:=by rw[←hes];simp
      cases h2
      cases h1 with
      | nil=>simp at hlen;omega
      | sl _ ad cap sz news ha hc hn h1 hF hw hz h=>
       have hne:es≠[]:=by intro e;rw[e] at hlen;simp at hlen;omega
       have hsp:=ha hne
       have hsz:sz=1:=by
        have hm:qA b[0]∈es:=by rw[←hes];exact List.mem_map.2 ⟨_,List.getElem_mem hpos,rfl⟩
        exact (hz _ hm).symm
       subst hsz
       obtain⟨blk,off,sp⟩:=ad
       simp only at hsp
       subst hsp
       refine⟨blk,off,cap,by rw[hlen],fun i hi=>?_⟩
       have hi2:i<news.length:=by omega
       have hu:news[i]?=some news[i]:=List.getElem?_eq_getElem hi2
       have hr:Rep F w (qA b[i]) news[i]:=h i (qA b[i]) 0 (qA b[i]) _ (by rw[←hes];simp[hi]) rfl (by rw[Nat.mul_one,Nat.add_zero];exact hu)
       have hc:=hw i _ hu
       have e:(⟨blk,off,none⟩:Addr).add i=⟨blk,off+i,none⟩:=by unfold Addr.add;split<;>simp_all
       rw[e] at hc
       rw[hc]
       generalize news[i]=u at *
       cases hr
       simp[hi]
 obtain⟨blk,off,cap,rfl,hc⟩:=hvals
 have hrun:=Lib.run_indexByteSlice (P:=P) w blk off b.length cap (b.map fun x=>(x.toNat:Int)) (by simp) hc c.toNat
 have hbs:Lib.bytesOf (b.map fun x=>(x.toNat:Int))=b:=by
  unfold Lib.bytesOf
  rw[List.map_map]
  refine (List.map_congr_left (fun x _=>?_)).trans (List.map_id b)
  simp
 have hcc:((c.toNat:Int).toNat).toUInt8=c:=by simp
 rw[hbs,hcc] at hrun
 have hres:ixN c b 0=Lib.indexByte b c:=by
  rw[zN4]
  split
  ·rename_i h;rw[h]
  ·simp
 refine .inr ⟨.int .i64 (Lib.indexByte b c),w,?_,.int .i64 (Lib.indexByte b c),β,F,rfl,?_⟩
 ·rw[run_callFunc_extern hf hname hb hn he,hrun];rfl
 ·rw[hres]
  exact⟨⟨fun k o hk=>(by simp at hk),fun k _=>hβ k,fun i j bi bj b h1=>(by rw[hβ] at h1;cases h1),fun k bi b h1=>(by rw[hβ] at h1;cases h1)⟩,.t (.int _ _),fun _ _=>rfl,fun k bi b _ h1=>(by rw[hβ] at h1;cases h1),fun _ _=>Iff.rfl,env.Fw,rfl,rfl,rfl,Nat.le_refl _,fun _ _ _=>rfl⟩
end Go.Eng
end
