/- A part of an abstract machine, its walks, their tie. -/
import Derived.Test.YtpolalhffkhimaaGreatDoorE21
import Derived.Test.YtpolalhffkhimaaGreatDoorE16
set_option linter.all false
section
set_option maxHeartbeats 64000000
set_option maxRecDepth 20000
namespace Go.Eng
variable (tab:Tab) (gl:Gl)
variable {vv:V} {oo:List Ob}
def qLc:ECt where
 α:=Int
 β:=Dk
 aS:=fun n=>[.t (.int .i64 n)]
 pre:=fun n=>n=4
 r:=fun r'=> .t (dkA r')
 R:=fun n r'=>r'=⟨[[],[],[],[]],0,0,0,false⟩
theorem jDb {g:EF qLc}{n:Int}(hp:n=4):qLc.fs g [.t (.int .i64 n)] []=some (.t (dkA (⟨[[],[],[],[]],0,0,0,false⟩)),[]):=fnQ qLc n hp
theorem jKd {n:Int}(hV:vv = .t (dkA (⟨[[],[],[],[]],0,0,0,false⟩)))(hO:oo=[]):qLc.K n vv oo:=⟨_,rfl,hV,hO⟩
theorem zJk  (n:Int)(hp:n=4) :
  qKv.1.wp tab gl (qE 0 [.t (.int .i64 n)]) (qE 0 []) (zA [(2,(some (5,true)))] 0 (qLc.K n)):=by
 subst hp;have f:(if (64:Int)<if (0:Int)>4 then (0:Int) else 4 then (64:Int) else if (0:Int)>4 then (0:Int) else 4).toNat=4:=rfl;simp(maxSteps:=9^9)(disch:=try exact dS)only[go_sem,qKv];try rw[f]
 try simp(maxSteps:=9^9)(disch:=try exact dS)only[go_sem,List.replicate_succ,List.replicate_zero]
 exact jKd rfl rfl
def qLf:ECt where
 α:=Dk
 β:=Dk
 aS:=fun k=>[.t (dkA k)]
 pre:=fun k=>True
 r:=fun r'=> .t (dkA r')
 R:=fun k r'=>r' = { k with off:=true }
 inj:=by rintro k k' e _;simp only[xU,qJ7,qSf] at e;obtain rfl:=e;rfl
theorem jDe {g:EF qLf}{k:Dk}:qLf.fs g [.t (dkA k)] []=some (.t (dkA ({ k with off:=true })),[]):=fnQ qLf k trivial
theorem zQp {k:Dk}(hV:vv = .t (dkA ({ k with off:=true })))(hO:oo=[]):qLf.K k vv oo:=⟨_,rfl,hV,hO⟩
theorem zEv  (k:Dk) :
  qHx.1.wp tab gl (qE 0 [.t (dkA k)]) (qE 0 []) (zA [(2,(some (5,true)))] 0 (qLf.K k)):=by
 simp(maxSteps:=9^9)(disch:=try exact dS)only[go_sem,qHx,dkA];first | exact (zQp rfl rfl) | exact⟨rfl,(zQp rfl rfl)⟩ | exact⟨rfl,rfl,(zQp rfl rfl)⟩ | exact⟨rfl,rfl,rfl,(zQp rfl rfl)⟩
def qLe:ECt where
 α:=Dk
 β:=Dk
 aS:=fun k=>[.t (dkA k)]
 pre:=fun k=>True
 r:=fun r'=> .t (dkA r')
 R:=fun k r'=>r'=⟨k.ar,0,0,0,false⟩
 inj:=by rintro k k' e _;simp only[xU,qJ7,qSf] at e;obtain rfl:=e;rfl
theorem jDd {g:EF qLe}{k:Dk}:qLe.fs g [.t (dkA k)] []=some (.t (dkA (⟨k.ar,0,0,0,false⟩)),[]):=fnQ qLe k trivial
theorem zQo {k:Dk}(hV:vv = .t (dkA (⟨k.ar,0,0,0,false⟩)))(hO:oo=[]):qLe.K k vv oo:=⟨_,rfl,hV,hO⟩
theorem qV2  (k:Dk) :
  qC9.1.wp tab gl (qE 0 [.t (dkA k)]) (qE 0 []) (zA [(2,(some (5,true)))] 0 (qLe.K k)):=by
 simp(maxSteps:=9^9)(disch:=try exact dS)only[go_sem,qC9,dkA];first | exact (zQo rfl rfl) | exact⟨rfl,(zQo rfl rfl)⟩ | exact⟨rfl,rfl,(zQo rfl rfl)⟩ | exact⟨rfl,rfl,rfl,(zQo rfl rfl)⟩
def okD (k:Dk):Prop:=k.off=false∧k.ar.length=4∧k.cut=0∧(0≤k.wr∧k.wr≤1000000)
def qGq:ECt where
 α:=Dk×Int
 β:=Bool
 aS:=fun (k,i)=>[.t (dkA k),.t (.int .i64 i)]
 pre:=fun (k,i)=>k.ar.length=4
 r:=fun r'=> .t (.bool r')
 R:=fun (k,i) r'=>r'=decide (0≤i∧i<4)
 inj:=by rintro⟨k,i⟩ ⟨k',i'⟩ e _;simp only[xU,qJ7,qSf] at e;obtain⟨rfl,rfl⟩:=e;rfl
theorem zVl {g:EF qGq}{k:Dk}{i:Int}(hp:k.ar.length=4):qGq.fs g [.t (dkA k),.t (.int .i64 i)] []=some (.t (.bool (decide (0≤i∧i<4))),[]):=fnQ qGq (k,i) hp
theorem jKe {k:Dk}{i:Int}(hV:vv = .t (.bool (decide (0≤i∧i<4))))(hO:oo=[]):qGq.K (k,i) vv oo:=⟨_,rfl,hV,hO⟩
theorem zCc  (k:Dk)(i:Int)(hp:k.ar.length=4) :
  qAa.1.wp tab gl (qE 0 [.t (dkA k),.t (.int .i64 i)]) (qE 0 []) (zA [(4,none)] 0 (qGq.K (k,i))):=by
 have key : ∀ r,r=decide (0≤i∧i<4)→qGq.K (k,i) (.t (.bool r)) []:=fun r e=>jKe (by rw[e]) rfl
 by_cases c1:i<0
 ·simp(maxSteps:=9^9)(disch:=try exact dS)only[go_sem,qAa,dkA,c1];refine key _ ?_;simp;omega
 by_cases c2:i<4
 ·simp(maxSteps:=9^9)(disch:=try exact dS)only[go_sem,qAa,dkA,c1,c2,hp];refine key _ ?_;simp;omega
 simp(maxSteps:=9^9)(disch:=try exact dS)only[go_sem,qAa,dkA,c1,c2,hp];refine key _ ?_;simp;omega
def zAr:Ct where
 α:=List UInt8×List UInt8
 aS x:=[.t (.sl (x.1.map qA)),.t (.int .i64 x.2.length),.ref 0 0 0,.ref 1 0 0]
 ins x:=[.live 1 [.t (.sl (x.2.map qA))] true true,.live 1 [.t (.bool false)] true true]
 pre x:=x.2.length≤100000
 r x:= .t (.sl (x.2.map qA))
 outs x:=[.live 1 [.t (.sl (x.2.map qA))] true true,.live 1 [.t (.bool false)] true true]
 inj:=by
  rintro⟨a,b⟩ ⟨c,d⟩ h h2;simp only[List.cons.injEq,V.t.injEq,T.sl.injEq,T.int.injEq,Ob.live.injEq,true_and,and_true,jC] at h h2;obtain⟨rfl,-⟩:=h;subst h2;exact⟨rfl,rfl⟩
theorem jIy {a b:List UInt8}(h:b.length≤100000):zAr.fs [.t (.sl (a.map qA)),.t (.int .i64 b.length),.ref 0 0 0,.ref 1 0 0] [.live 1 [.t (.sl (b.map qA))] true true,.live 1 [.t (.bool false)] true true]=some (.t (.sl (b.map qA)),[.live 1 [.t (.sl (b.map qA))] true true,.live 1 [.t (.bool false)] true true]):=zAr.eq (a,b) h
theorem qWn (a b:List UInt8)(hb:b.length≤100000):qDa.1.wp tab gl (qE 0 [.t (.sl (a.map qA)),.t (.int .i64 b.length),.ref 0 0 0,.ref 1 0 0]) (qE 0 [.live 1 [.t (.sl (b.map qA))] true true,.live 1 [.t (.bool false)] true true]) (zA [(6,none)] 2 (fun r o=>r = .t (.sl (b.map qA))∧o=[.live 1 [.t (.sl (b.map qA))] true true,.live 1 [.t (.bool false)] true true])):=by
 simp(maxSteps:=9^9)(disch:=try exact dS)only[go_sem,qDa,List.take_length];repeat refine aiG ?_
def qX4 (n:Nat):Ct where
 α:=Dk×Int×List UInt8
 aS x:=[.t (dkA x.1),.t (.int .i64 x.2.1),.t (.sl (x.2.2.map qA)),.fn n [.ref 0 0 0,.ref 1 0 0]]
 ins x:=[.live 1 [.t (.sl (x.2.2.map qA))] true true,.live 1 [.t (.bool false)] true true]
 pre x:=okD x.1∧(x.2.1=0∨x.2.1=1)∧x.2.2.length≤65536
 r x:= .tup [.t (dkA { x.1 with wr:=x.1.wr+1,ar:=x.1.ar.set x.2.1.toNat x.2.2 }),.t (.int .i64 0)]
 outs x:=[.live 1 [.t (.sl (x.2.2.map qA))] true true,.live 1 [.t (.bool false)] true true]
 inj:=by
  rintro⟨a,b,c⟩ ⟨d,e,f⟩ h h2;simp only[List.cons.injEq,V.t.injEq,T.sl.injEq,T.int.injEq,jDi,true_and,and_true,jC] at h;obtain⟨rfl,rfl,rfl⟩:=h;exact⟨rfl,rfl⟩
theorem zX7 {n:Nat}{k:Dk}{i:Int}{b:List UInt8}(h:okD k∧(i=0∨i=1)∧b.length≤65536):(qX4 n).fs [.t (dkA k),.t (.int .i64 i),.t (.sl (b.map qA)),.fn n [.ref 0 0 0,.ref 1 0 0]] [.live 1 [.t (.sl (b.map qA))] true true,.live 1 [.t (.bool false)] true true]=some (.tup [.t (dkA { k with wr:=k.wr+1,ar:=k.ar.set i.toNat b }),.t (.int .i64 0)],[.live 1 [.t (.sl (b.map qA))] true true,.live 1 [.t (.bool false)] true true]):=(qX4 n).eq (k,i,b) h
theorem zJr (n:Nat){g1}(h1:LkE tab 107 qGq g1)(hn:tab.look n=some zAr.fs)(k:Dk)(i:Int)(b:List UInt8)(h:okD k∧(i=0∨i=1)∧b.length≤65536):qKw.1.wp tab gl (qE 0 [.t (dkA k),.t (.int .i64 i),.t (.sl (b.map qA)),.fn n [.ref 0 0 0,.ref 1 0 0]]) (qE 0 [.live 1 [.t (.sl (b.map qA))] true true,.live 1 [.t (.bool false)] true true]) (zA [(8,some (5,true)),(9,none)] 2 (fun r o=>r = .tup [.t (dkA { k with wr:=k.wr+1,ar:=k.ar.set i.toNat b }),.t (.int .i64 0)]∧o=[.live 1 [.t (.sl (b.map qA))] true true,.live 1 [.t (.bool false)] true true])):=by
 obtain⟨⟨ho,hl,hc,hw⟩,hi,hb⟩:=h;have e1:=zVl (g:=g1) (k:=k) (i:=i) hl;rw[show decide (0≤i∧i<4)=true by simp only[decide_eq_true_eq];omega] at e1;obtain⟨ar,wr,cut,tn,off⟩:=k;simp only at ho hl hc hw;subst ho hc
 match ar,hl with
 | [a0,a1,a2,a3],_=>
  have e:=fun a => @jIy a b oM
  have hw' : ¬ wr+1=0:=oM;simp only[dkA,mcn,qG] at e1;rcases hi with rfl | rfl;all_goals
   simp(maxSteps:=9^9)(disch:=try exact dS)only[go_sem,qKw,dkA,h1,e1,hw',mcn,qG];refine qJ 5 ?_;simp(maxSteps:=9^9)(disch:=try exact dS)only[go_sem,qF,dkA,hn,e,mcn,qG];repeat refine aiG ?_
def qLg:ECt where
 α:=Dk×Int×List UInt8
 β:=Dk×Int
 aS:=fun (k,i,b)=>[.t (dkA k),.t (.int .i64 i),.t (.sl (b.map qA))]
 pre:=fun (k,i,b)=>okD k∧(i=0∨i=1)∧b.length≤65536
 r:=fun (r,e)=> .tup [.t (dkA r),.t (.int .i64 e)]
 R:=fun (k,i,b) (r,e)=>r = { k with wr:=k.wr+1,ar:=k.ar.set i.toNat b }∧e=0
 inj:=by rintro⟨k,i,b⟩ ⟨k',i',b'⟩ e _;simp only[xU,qJ7,qSf] at e;obtain⟨rfl,rfl,rfl⟩:=e;rfl
theorem jDf {g:EF qLg}{k:Dk}{i:Int}{b:List UInt8}(hp:okD k∧(i=0∨i=1)∧b.length≤65536) : ∃ (r:Dk) (e:Int),(r = { k with wr:=k.wr+1,ar:=k.ar.set i.toNat b }∧e=0)∧qLg.fs g [.t (dkA k),.t (.int .i64 i),.t (.sl (b.map qA))] []=some (.tup [.t (dkA r),.t (.int .i64 e)],[]):=by
 obtain⟨y,h1,h2⟩:=qLg.eq g (k,i,b) hp;exact⟨y.1,y.2,h1,h2⟩
theorem jKf {k:Dk}{i:Int}{b:List UInt8}(r:Dk)(e:Int)(hR:r = { k with wr:=k.wr+1,ar:=k.ar.set i.toNat b }∧e=0)(hV:vv = .tup [.t (dkA r),.t (.int .i64 e)])(hO:oo=[]):qLg.K (k,i,b) vv oo:=⟨(r,e),hR,hV,hO⟩
theorem zCb (h1:LkC tab 105 zAr)(h2:tab.look 104=some (qX4 105).fs)(k:Dk)(i:Int)(b:List UInt8)(hp:okD k∧(i=0∨i=1)∧b.length≤65536) :
  qGb.1.wp tab gl (qE 0 [.t (dkA k),.t (.int .i64 i),.t (.sl (b.map qA))]) (qE 0 []) (zA [(6,(some (5,true))),(7,none)] 0 (qLg.K (k,i,b))):=by
 have e:=zX7 (n:=105) hp;have hr:dkA { k with wr:=k.wr+1,ar:=k.ar.set i.toNat b } = .agg [.sl ((k.ar.set i.toNat b).map bsT),.int .i64 (k.wr+1),.int .i64 k.cut,.int .i64 k.tn,.bool k.off]:=rfl;rw[hr] at e;obtain⟨⟨ho,hl,hc,hw⟩,hi,hb⟩:=hp;have hw' : ¬ k.wr+1=0:=oM;simp only[dkA,hc,ho] at e;simp(maxSteps:=9^9)(disch:=try exact dS)only[go_sem,qGb,dkA,hc,ho,h2,e,hw'];repeat refine aiG ?_
 exact jKf { k with wr:=k.wr+1,ar:=k.ar.set i.toNat b } 0 ⟨rfl,rfl⟩ (by simp only[dkA,hc,ho]) rfl
def qLd:ECt where
 α:=Dk×Int
 β:=List UInt8×Int
 aS:=fun (k,i)=>[.t (dkA k),.t (.int .i64 i)]
 pre:=fun (k,i)=>k.off=false∧k.ar.length=4∧(i=0∨i=1)∧(k.ar.getD i.toNat []).length≤65536
 r:=fun (b,e)=> .tup [.t (.sl (b.map qA)),.t (.int .i64 e)]
 R:=fun (k,i) (b,e)=>b=k.ar.getD i.toNat []∧e=0
 inj:=by rintro⟨k,i⟩ ⟨k',i'⟩ e _;simp only[xU,qJ7,qSf] at e;obtain⟨rfl,rfl⟩:=e;rfl
theorem zVk {g:EF qLd}{k:Dk}{i:Int}(hp:k.off=false∧k.ar.length=4∧(i=0∨i=1)∧(k.ar.getD i.toNat []).length≤65536) : ∃ (b:List UInt8) (e:Int),(b=k.ar.getD i.toNat []∧e=0)∧qLd.fs g [.t (dkA k),.t (.int .i64 i)] []=some (.tup [.t (.sl (b.map qA)),.t (.int .i64 e)],[]):=by
 obtain⟨y,h1,h2⟩:=qLd.eq g (k,i) hp;exact⟨y.1,y.2,h1,h2⟩
theorem jDc {k:Dk}{i:Int}(b:List UInt8)(e:Int)(hR:b=k.ar.getD i.toNat []∧e=0)(hV:vv = .tup [.t (.sl (b.map qA)),.t (.int .i64 e)])(hO:oo=[]):qLd.K (k,i) vv oo:=⟨(b,e),hR,hV,hO⟩
theorem zEu {g1}(h1:LkE tab 107 qGq g1)(k:Dk)(i:Int)(hp:k.off=false∧k.ar.length=4∧(i=0∨i=1)∧(k.ar.getD i.toNat []).length≤65536) :
  qD4.1.wp tab gl (qE 0 [.t (dkA k),.t (.int .i64 i)]) (qE 0 []) (zA [(4,none),(5,none)] 0 (qLd.K (k,i))):=by
 obtain⟨ho,hl,hi,hz⟩:=hp;have e1:=zVl (g:=g1) (k:=k) (i:=i) hl;rw[show decide (0≤i∧i<4)=true by simp only[decide_eq_true_eq];omega] at e1;obtain⟨ar,wr,cut,tn,off⟩:=k;simp only at ho hl;subst ho
 match ar,hl with
 | [a0,a1,a2,a3],_=>
  simp only[dkA,mcn,qG] at e1;rcases hi with rfl | rfl
  ·have hz':a0.length≤65536:=hz;simp(maxSteps:=9^9)(disch:=try exact dS)only[go_sem,qD4,dkA,h1,e1,mcn,qG];repeat refine aiG ?_
   exact jDc (k:=⟨[a0,a1,a2,a3],wr,cut,tn,false⟩) (i:=0) a0 0 ⟨rfl,rfl⟩ rfl rfl
  ·have hz':a1.length≤65536:=hz;simp(maxSteps:=9^9)(disch:=try exact dS)only[go_sem,qD4,dkA,h1,e1,mcn,qG];repeat refine aiG ?_
   exact jDc (k:=⟨[a0,a1,a2,a3],wr,cut,tn,false⟩) (i:=1) a1 0 ⟨rfl,rfl⟩ rfl rfl
end Go.Eng
end
