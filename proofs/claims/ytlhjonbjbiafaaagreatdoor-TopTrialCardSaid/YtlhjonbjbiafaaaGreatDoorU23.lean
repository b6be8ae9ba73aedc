/- A part of an abstract machine, its walks, their tie. -/
import Derived.Test.YtlhjonbjbiafaaaGreatDoorU22
import Derived.Test.YtlhjonbjbiafaaaGreatDoorU16
set_option linter.all false
section
set_option maxHeartbeats 64000000
set_option maxRecDepth 20000
namespace Go.Eng
variable (tab:Tab) (gl:Gl)
variable {vv:V} {oo:List Ob}
def qK4:ECt where
 α:=Int
 β:=Dk
 aS:=fun n=>[.t (.int .i64 n)]
 pre:=fun n=>n=4
 r:=fun r'=> .t (dkA r')
 R:=fun n r'=>r'=⟨[[],[],[],[]],0,0,0,false⟩
theorem jCy {g:EF qK4}{n:Int}(hp:n=4):qK4.fs g [.t (.int .i64 n)] []=some (.t (dkA (⟨[[],[],[],[]],0,0,0,false⟩)),[]):=fnQ qK4 n hp
theorem jJj {n:Int}(hV:vv = .t (dkA (⟨[[],[],[],[]],0,0,0,false⟩)))(hO:oo=[]):qK4.K n vv oo:=⟨_,rfl,hV,hO⟩
theorem zJs  (n:Int)(hp:n=4) :
  qKm.1.wp tab gl (qF 0 [.t (.int .i64 n)]) (qF 0 []) (zD [(2,(some (5,true)))] 0 (qK4.K n)):=by
 subst hp;have f:(if (64:Int)<if (0:Int)>4 then (0:Int) else 4 then (64:Int) else if (0:Int)>4 then (0:Int) else 4).toNat=4:=rfl;simp(maxSteps:=9^9)(disch:=try exact dS)only[go_sem,qKm];try rw[f]
 try simp(maxSteps:=9^9)(disch:=try exact dS)only[go_sem,List.replicate_succ,List.replicate_zero]
 exact jJj rfl rfl
def qK7:ECt where
 α:=Dk
 β:=Dk
 aS:=fun k=>[.t (dkA k)]
 pre:=fun k=>True
 r:=fun r'=> .t (dkA r')
 R:=fun k r'=>r' = { k with off:=true }
 inj:=by rintro k k' e _;simp only[qAf,qJ3,qRv] at e;obtain rfl:=e;rfl
theorem jC1 {g:EF qK7}{k:Dk}:qK7.fs g [.t (dkA k)] []=some (.t (dkA ({ k with off:=true })),[]):=fnQ qK7 k trivial
theorem zQl {k:Dk}(hV:vv = .t (dkA ({ k with off:=true })))(hO:oo=[]):qK7.K k vv oo:=⟨_,rfl,hV,hO⟩
theorem zE8  (k:Dk) :
  qHr.1.wp tab gl (qF 0 [.t (dkA k)]) (qF 0 []) (zD [(2,(some (5,true)))] 0 (qK7.K k)):=by
 simp(maxSteps:=9^9)(disch:=try exact dS)only[go_sem,qHr,dkA];first | exact (zQl rfl rfl) | exact⟨rfl,(zQl rfl rfl)⟩ | exact⟨rfl,rfl,(zQl rfl rfl)⟩ | exact⟨rfl,rfl,rfl,(zQl rfl rfl)⟩
def qK6:ECt where
 α:=Dk
 β:=Dk
 aS:=fun k=>[.t (dkA k)]
 pre:=fun k=>True
 r:=fun r'=> .t (dkA r')
 R:=fun k r'=>r'=⟨k.ar,0,0,0,false⟩
 inj:=by rintro k k' e _;simp only[qAf,qJ3,qRv] at e;obtain rfl:=e;rfl
theorem jC0 {g:EF qK6}{k:Dk}:qK6.fs g [.t (dkA k)] []=some (.t (dkA (⟨k.ar,0,0,0,false⟩)),[]):=fnQ qK6 k trivial
theorem zQk {k:Dk}(hV:vv = .t (dkA (⟨k.ar,0,0,0,false⟩)))(hO:oo=[]):qK6.K k vv oo:=⟨_,rfl,hV,hO⟩
theorem qVn  (k:Dk) :
  qC7.1.wp tab gl (qF 0 [.t (dkA k)]) (qF 0 []) (zD [(2,(some (5,true)))] 0 (qK6.K k)):=by
 simp(maxSteps:=9^9)(disch:=try exact dS)only[go_sem,qC7,dkA];first | exact (zQk rfl rfl) | exact⟨rfl,(zQk rfl rfl)⟩ | exact⟨rfl,rfl,(zQk rfl rfl)⟩ | exact⟨rfl,rfl,rfl,(zQk rfl rfl)⟩
def okD (k:Dk):Prop:=k.off=false∧k.ar.length=4∧k.cut=0∧(0≤k.wr∧k.wr≤1000000)
def qGh:ECt where
 α:=Dk×Int
 β:=Bool
 aS:=fun (k,i)=>[.t (dkA k),.t (.int .i64 i)]
 pre:=fun (k,i)=>k.ar.length=4
 r:=fun r'=> .t (.bool r')
 R:=fun (k,i) r'=>r'=decide (0≤i∧i<4)
 inj:=by rintro⟨k,i⟩ ⟨k',i'⟩ e _;simp only[qAf,qJ3,qRv] at e;obtain⟨rfl,rfl⟩:=e;rfl
theorem zVd {g:EF qGh}{k:Dk}{i:Int}(hp:k.ar.length=4):qGh.fs g [.t (dkA k),.t (.int .i64 i)] []=some (.t (.bool (decide (0≤i∧i<4))),[]):=fnQ qGh (k,i) hp
theorem jJk {k:Dk}{i:Int}(hV:vv = .t (.bool (decide (0≤i∧i<4))))(hO:oo=[]):qGh.K (k,i) vv oo:=⟨_,rfl,hV,hO⟩
theorem zCi  (k:Dk)(i:Int)(hp:k.ar.length=4) :
  qAl.1.wp tab gl (qF 0 [.t (dkA k),.t (.int .i64 i)]) (qF 0 []) (zD [(4,none)] 0 (qGh.K (k,i))):=by
 have key : ∀ r,r=decide (0≤i∧i<4)→qGh.K (k,i) (.t (.bool r)) []:=fun r e=>jJk (by rw[e]) rfl
 by_cases c1:i<0
 ·simp(maxSteps:=9^9)(disch:=try exact dS)only[go_sem,qAl,dkA,c1];refine key _ ?_;simp;omega
 by_cases c2:i<4
 ·simp(maxSteps:=9^9)(disch:=try exact dS)only[go_sem,qAl,dkA,c1,c2,hp];refine key _ ?_;simp;omega
 simp(maxSteps:=9^9)(disch:=try exact dS)only[go_sem,qAl,dkA,c1,c2,hp];refine key _ ?_;simp;omega
def zAw:Ct where
 α:=List UInt8×List UInt8
 aS x:=[.t (.sl (x.1.map qA)),.t (.int .i64 x.2.length),.ref 0 0 0,.ref 1 0 0]
 ins x:=[.live 1 [.t (.sl (x.2.map qA))] true true,.live 1 [.t (.bool false)] true true]
 pre x:=x.2.length≤100000
 r x:= .t (.sl (x.2.map qA))
 outs x:=[.live 1 [.t (.sl (x.2.map qA))] true true,.live 1 [.t (.bool false)] true true]
 inj:=by
  rintro⟨a,b⟩ ⟨c,d⟩ h h2;simp only[List.cons.injEq,V.t.injEq,T.sl.injEq,T.int.injEq,Ob.live.injEq,true_and,and_true,jB] at h h2;obtain⟨rfl,-⟩:=h;subst h2;exact⟨rfl,rfl⟩
theorem jH7 {a b:List UInt8}(h:b.length≤100000):zAw.fs [.t (.sl (a.map qA)),.t (.int .i64 b.length),.ref 0 0 0,.ref 1 0 0] [.live 1 [.t (.sl (b.map qA))] true true,.live 1 [.t (.bool false)] true true]=some (.t (.sl (b.map qA)),[.live 1 [.t (.sl (b.map qA))] true true,.live 1 [.t (.bool false)] true true]):=zAw.eq (a,b) h
theorem qV5 (a b:List UInt8)(hb:b.length≤100000):qC8.1.wp tab gl (qF 0 [.t (.sl (a.map qA)),.t (.int .i64 b.length),.ref 0 0 0,.ref 1 0 0]) (qF 0 [.live 1 [.t (.sl (b.map qA))] true true,.live 1 [.t (.bool false)] true true]) (zD [(6,none)] 2 (fun r o=>r = .t (.sl (b.map qA))∧o=[.live 1 [.t (.sl (b.map qA))] true true,.live 1 [.t (.bool false)] true true])):=by
 simp(maxSteps:=9^9)(disch:=try exact dS)only[go_sem,qC8,List.take_length];repeat refine aiG ?_
def qXr (n:Nat):Ct where
 α:=Dk×Int×List UInt8
 aS x:=[.t (dkA x.1),.t (.int .i64 x.2.1),.t (.sl (x.2.2.map qA)),.fn n [.ref 0 0 0,.ref 1 0 0]]
 ins x:=[.live 1 [.t (.sl (x.2.2.map qA))] true true,.live 1 [.t (.bool false)] true true]
 pre x:=okD x.1∧(x.2.1=0∨x.2.1=1)∧x.2.2.length≤65536
 r x:= .tup [.t (dkA { x.1 with wr:=x.1.wr+1,ar:=x.1.ar.set x.2.1.toNat x.2.2 }),.t (.int .i64 0)]
 outs x:=[.live 1 [.t (.sl (x.2.2.map qA))] true true,.live 1 [.t (.bool false)] true true]
 inj:=by
  rintro⟨a,b,c⟩ ⟨d,e,f⟩ h h2;simp only[List.cons.injEq,V.t.injEq,T.sl.injEq,T.int.injEq,jC5,true_and,and_true,jB] at h;obtain⟨rfl,rfl,rfl⟩:=h;exact⟨rfl,rfl⟩
theorem zXn {n:Nat}{k:Dk}{i:Int}{b:List UInt8}(h:okD k∧(i=0∨i=1)∧b.length≤65536):(qXr n).fs [.t (dkA k),.t (.int .i64 i),.t (.sl (b.map qA)),.fn n [.ref 0 0 0,.ref 1 0 0]] [.live 1 [.t (.sl (b.map qA))] true true,.live 1 [.t (.bool false)] true true]=some (.tup [.t (dkA { k with wr:=k.wr+1,ar:=k.ar.set i.toNat b }),.t (.int .i64 0)],[.live 1 [.t (.sl (b.map qA))] true true,.live 1 [.t (.bool false)] true true]):=(qXr n).eq (k,i,b) h
theorem zJz (n:Nat){g1}(h1:LkE tab 133 qGh g1)(hn:tab.look n=some zAw.fs)(k:Dk)(i:Int)(b:List UInt8)(h:okD k∧(i=0∨i=1)∧b.length≤65536):qKn.1.wp tab gl (qF 0 [.t (dkA k),.t (.int .i64 i),.t (.sl (b.map qA)),.fn n [.ref 0 0 0,.ref 1 0 0]]) (qF 0 [.live 1 [.t (.sl (b.map qA))] true true,.live 1 [.t (.bool false)] true true]) (zD [(8,some (5,true)),(9,none)] 2 (fun r o=>r = .tup [.t (dkA { k with wr:=k.wr+1,ar:=k.ar.set i.toNat b }),.t (.int .i64 0)]∧o=[.live 1 [.t (.sl (b.map qA))] true true,.live 1 [.t (.bool false)] true true])):=by
 obtain⟨⟨ho,hl,hc,hw⟩,hi,hb⟩:=h;have e1:=zVd (g:=g1) (k:=k) (i:=i) hl;rw[show decide (0≤i∧i<4)=true by simp only[decide_eq_true_eq];omega] at e1;obtain⟨ar,wr,cut,tn,off⟩:=k;simp only at ho hl hc hw;subst ho hc
 match ar,hl with
 | [a0,a1,a2,a3],_=>
  have e:=fun a => @jH7 a b oM
  have hw' : ¬ wr+1=0:=oM;simp only[dkA,mcn,qO] at e1;rcases hi with rfl | rfl;all_goals
   simp(maxSteps:=9^9)(disch:=try exact dS)only[go_sem,qKn,dkA,h1,e1,hw',mcn,qO];refine qG 5 ?_;simp(maxSteps:=9^9)(disch:=try exact dS)only[go_sem,qD,dkA,hn,e,mcn,qO];repeat refine aiG ?_
def qK8:ECt where
 α:=Dk×Int×List UInt8
 β:=Dk×Int
 aS:=fun (k,i,b)=>[.t (dkA k),.t (.int .i64 i),.t (.sl (b.map qA))]
 pre:=fun (k,i,b)=>okD k∧(i=0∨i=1)∧b.length≤65536
 r:=fun (r,e)=> .tup [.t (dkA r),.t (.int .i64 e)]
 R:=fun (k,i,b) (r,e)=>r = { k with wr:=k.wr+1,ar:=k.ar.set i.toNat b }∧e=0
 inj:=by rintro⟨k,i,b⟩ ⟨k',i',b'⟩ e _;simp only[qAf,qJ3,qRv] at e;obtain⟨rfl,rfl,rfl⟩:=e;rfl
theorem jC2 {g:EF qK8}{k:Dk}{i:Int}{b:List UInt8}(hp:okD k∧(i=0∨i=1)∧b.length≤65536) : ∃ (r:Dk) (e:Int),(r = { k with wr:=k.wr+1,ar:=k.ar.set i.toNat b }∧e=0)∧qK8.fs g [.t (dkA k),.t (.int .i64 i),.t (.sl (b.map qA))] []=some (.tup [.t (dkA r),.t (.int .i64 e)],[]):=by
 obtain⟨y,h1,h2⟩:=qK8.eq g (k,i,b) hp;exact⟨y.1,y.2,h1,h2⟩
theorem jJl {k:Dk}{i:Int}{b:List UInt8}(r:Dk)(e:Int)(hR:r = { k with wr:=k.wr+1,ar:=k.ar.set i.toNat b }∧e=0)(hV:vv = .tup [.t (dkA r),.t (.int .i64 e)])(hO:oo=[]):qK8.K (k,i,b) vv oo:=⟨(r,e),hR,hV,hO⟩
theorem zCh (h1:LkC tab 102 zAw)(h2:tab.look 101=some (qXr 102).fs)(k:Dk)(i:Int)(b:List UInt8)(hp:okD k∧(i=0∨i=1)∧b.length≤65536) :
  qF3.1.wp tab gl (qF 0 [.t (dkA k),.t (.int .i64 i),.t (.sl (b.map qA))]) (qF 0 []) (zD [(6,(some (5,true))),(7,none)] 0 (qK8.K (k,i,b))):=by
 have e:=zXn (n:=102) hp;have hr:dkA { k with wr:=k.wr+1,ar:=k.ar.set i.toNat b } = .agg [.sl ((k.ar.set i.toNat b).map bsT),.int .i64 (k.wr+1),.int .i64 k.cut,.int .i64 k.tn,.bool k.off]:=rfl;rw[hr] at e;obtain⟨⟨ho,hl,hc,hw⟩,hi,hb⟩:=hp;have hw' : ¬ k.wr+1=0:=oM;simp only[dkA,hc,ho] at e;simp(maxSteps:=9^9)(disch:=try exact dS)only[go_sem,qF3,dkA,hc,ho,h2,e,hw'];repeat refine aiG ?_
 exact jJl { k with wr:=k.wr+1,ar:=k.ar.set i.toNat b } 0 ⟨rfl,rfl⟩ (by simp only[dkA,hc,ho]) rfl
def qK5:ECt where
 α:=Dk×Int
 β:=List UInt8×Int
 aS:=fun (k,i)=>[.t (dkA k),.t (.int .i64 i)]
 pre:=fun (k,i)=>k.off=false∧k.ar.length=4∧(i=0∨i=1)∧(k.ar.getD i.toNat []).length≤65536
 r:=fun (b,e)=> .tup [.t (.sl (b.map qA)),.t (.int .i64 e)]
 R:=fun (k,i) (b,e)=>b=k.ar.getD i.toNat []∧e=0
 inj:=by rintro⟨k,i⟩ ⟨k',i'⟩ e _;simp only[qAf,qJ3,qRv] at e;obtain⟨rfl,rfl⟩:=e;rfl
theorem zVc {g:EF qK5}{k:Dk}{i:Int}(hp:k.off=false∧k.ar.length=4∧(i=0∨i=1)∧(k.ar.getD i.toNat []).length≤65536) : ∃ (b:List UInt8) (e:Int),(b=k.ar.getD i.toNat []∧e=0)∧qK5.fs g [.t (dkA k),.t (.int .i64 i)] []=some (.tup [.t (.sl (b.map qA)),.t (.int .i64 e)],[]):=by
 obtain⟨y,h1,h2⟩:=qK5.eq g (k,i) hp;exact⟨y.1,y.2,h1,h2⟩
theorem jCz {k:Dk}{i:Int}(b:List UInt8)(e:Int)(hR:b=k.ar.getD i.toNat []∧e=0)(hV:vv = .tup [.t (.sl (b.map qA)),.t (.int .i64 e)])(hO:oo=[]):qK5.K (k,i) vv oo:=⟨(b,e),hR,hV,hO⟩
theorem zE7 {g1}(h1:LkE tab 133 qGh g1)(k:Dk)(i:Int)(hp:k.off=false∧k.ar.length=4∧(i=0∨i=1)∧(k.ar.getD i.toNat []).length≤65536) :
  qD4.1.wp tab gl (qF 0 [.t (dkA k),.t (.int .i64 i)]) (qF 0 []) (zD [(4,none),(5,none)] 0 (qK5.K (k,i))):=by
 obtain⟨ho,hl,hi,hz⟩:=hp;have e1:=zVd (g:=g1) (k:=k) (i:=i) hl;rw[show decide (0≤i∧i<4)=true by simp only[decide_eq_true_eq];omega] at e1;obtain⟨ar,wr,cut,tn,off⟩:=k;simp only at ho hl;subst ho
 match ar,hl with
 | [a0,a1,a2,a3],_=>
  simp only[dkA,mcn,qO] at e1;rcases hi with rfl | rfl
  ·have hz':a0.length≤65536:=hz;simp(maxSteps:=9^9)(disch:=try exact dS)only[go_sem,qD4,dkA,h1,e1,mcn,qO];repeat refine aiG ?_
   exact jCz (k:=⟨[a0,a1,a2,a3],wr,cut,tn,false⟩) (i:=0) a0 0 ⟨rfl,rfl⟩ rfl rfl
  ·have hz':a1.length≤65536:=hz;simp(maxSteps:=9^9)(disch:=try exact dS)only[go_sem,qD4,dkA,h1,e1,mcn,qO];repeat refine aiG ?_
   exact jCz (k:=⟨[a0,a1,a2,a3],wr,cut,tn,false⟩) (i:=1) a1 0 ⟨rfl,rfl⟩ rfl rfl
end Go.Eng
end
