/- My own text: an abstract machine, its walks over the functions reached, and their tie to the program. -/
import Derived.Test.YtgpbjaleeeacdaaGreatDoorV3
set_option linter.unusedSimpArgs false
set_option linter.unusedVariables false
section
set_option maxRecDepth 20000
set_option maxHeartbeats 16000000
namespace Go.Eng
def zTb (i:Nat):UInt8:=if 12≤i then 255 else 0
theorem qZe {i:Nat} (h:i<12):zTb i=0:=if_neg (by omega)
theorem qZf {i:Nat} (h : ¬ i<12):zTb i=255:=if_pos (by omega)
def qD1 (a:Nat):jH:=(List.range 16).map fun i=>List.replicate (szA a) (zTb i)
theorem wU {a i:Nat} (h:i<16):(qD1 a).take (i+1)=(qD1 a).take i++[List.replicate (szA a) (zTb i)]:=by
 rw[qDy (d:=[]) (by simp[qD1];omega)]
 congr 2
 simp[qD1,List.getD,h]
theorem qEn {a:Nat}:(qD1 a).take 16=qD1 a:=List.take_of_length_le (by simp[qD1])
theorem qL {a:Nat}:List.length (qD1 a)=16:=by simp[qD1]
def qBn (s:Int):List jH:=if s%4=0 then [] else [if s%2=1 then qD1 0 else [],if s/2%2=1 then qD1 1 else []]
theorem qGa {s:Int} (h : ¬ s%4=0):qBn s=[if s%2=1 then qD1 0 else [],if s/2%2=1 then qD1 1 else []]:=if_neg h
def kV:Ct where
 α:=Int
 as x:=[.t (.int .i64 x)]
 ins _:=[]
 pre _:=True
 r x:= .t (.int .i64 (if x=0 then 20 else if x=1 then 32 else 0))
 outs _:=[]
 inj:=by
  intro a b h _
  simp at h
  subst h;exact⟨rfl,rfl⟩
theorem qJ:kV.fs [.t (.int .i64 0)] []=some (.t (.int .i64 20),[]):=kV.eq (0:Int) trivial
theorem qK:kV.fs [.t (.int .i64 1)] []=some (.t (.int .i64 32),[]):=kV.eq (1:Int) trivial
def wZ:Ct where
 α:=Nat×UInt8
 as x:=[.t (.int .i64 x.1),.t (qA x.2)]
 ins _:=[]
 pre x:=x.1=20∨x.1=32
 r x:= .sl 0 0 x.1
 outs x:=[.live 1 (((List.replicate x.1 x.2).map qA).map V.t) true false]
 inj:=by
  rintro⟨a,b⟩ ⟨c,d⟩ h _
  simp[qPq,Int.natCast_inj] at h
  obtain⟨rfl,rfl⟩:=h
  exact⟨rfl,rfl⟩
theorem jB {x:UInt8}:wZ.fs [.t (.int .i64 20),.t (qA x)] []=some (.sl 0 0 20,[.live 1 (((List.replicate 20 x).map qA).map V.t) true false]):=wZ.eq (20,x) (.inl rfl)
theorem jC {x:UInt8}:wZ.fs [.t (.int .i64 32),.t (qA x)] []=some (.sl 0 0 32,[.live 1 (((List.replicate 32 x).map qA).map V.t) true false]):=wZ.eq (32,x) (.inr rfl)
theorem qUb (tab:Tab) (gl:Gl) (n1 n2:Nat) (h1:tab.look n1=some kV.fs) (h2:tab.look n2=some wZ.fs) (a:Nat) (ha:a<2) (i:Nat):(qHk n1 n2).wp tab gl (qE 0 [.t (.int .i64 a),.t (.int .i64 i)]) (qE 0 []) (xM [] [(4,none)] 0 (fun r o=>r = .sl 0 0 (szA a)∧o=[.live 1 (((List.replicate (szA a) (zTb i)).map qA).map V.t) true false])):=by
 rcases (show a=0∨a=1 by omega) with rfl | rfl<;>by_cases hi:i<12
 all_goals simp (disch:=omega) only [go_sem,↓reduceIte,Nat.reduceAdd,Nat.reduceEqDiff,Nat.reduceLeDiff,reduceCtorEq,qHk,h1,h2,qJ,qK,jB,jC,szA]
 all_goals first | rw[qZe hi] | rw[qZf hi]
def qE1:Ct where
 α:=Nat×Nat
 as x:=[.t (.int .i64 x.1),.t (.int .i64 x.2)]
 ins _:=[]
 pre x:=x.1<2
 r x:= .sl 0 0 (szA x.1)
 outs x:=[.live 1 (((List.replicate (szA x.1) (zTb x.2)).map qA).map V.t) true false]
 inj:=by
  rintro⟨a,b⟩ ⟨c,d⟩ h _
  simp[Int.natCast_inj] at h
  obtain⟨rfl,rfl⟩:=h
  exact⟨rfl,rfl⟩
theorem vE {i:Nat}:qE1.fs [.t (.int .i64 0),.t (.int .i64 i)] []=some (.sl 0 0 20,[.live 1 (((List.replicate 20 (zTb i)).map qA).map V.t) true false]):=qE1.eq (0,i) (by simp[qE1])
theorem vF {i:Nat}:qE1.fs [.t (.int .i64 1),.t (.int .i64 i)] []=some (.sl 0 0 32,[.live 1 (((List.replicate 32 (zTb i)).map qA).map V.t) true false]):=qE1.eq (1,i) (by simp[qE1])
theorem qPh (tab:Tab) (gl:Gl) (n1 n2:Nat) (s:Int) (h3:s%4=0):(yI n1 n2).wp tab gl (qE 0 [.t (.int .i64 s)]) (qE 0 []) (xM [] [(2,some (2,true))] 0 (fun r o=>r = .agg [.nil,.t (.int .i64 0)]∧o=[])):=by
 simp (disch:=omega) only [go_sem,↓reduceIte,Nat.reduceAdd,Nat.reduceEqDiff,Nat.reduceLeDiff,reduceCtorEq,yI,h3]
theorem zD3 (tab:Tab) (gl:Gl) (n1:Nat) (s:Int) (h3:s%4=0):(kT n1).wp tab gl (qE 0 [.t (.int .i64 s)]) (qE 0 []) (xM [] [(2,some (2,true))] 0 (fun r o=>r = .agg [.nil,.t (.int .i64 0)]∧o=[])):=by
 simp (disch:=omega) only [go_sem,↓reduceIte,Nat.reduceAdd,Nat.reduceEqDiff,Nat.reduceLeDiff,reduceCtorEq,kT,h3]
theorem qS4 (tab:Tab) (gl:Gl) (n1 n2:Nat) (h1:tab.look n1=some kV.fs) (h2:tab.look n2=some wZ.fs) (s:Int) (h3 : ¬ s%4=0):(yI n1 n2).wp tab gl (qE 0 [.t (.int .i64 s)]) (qE 0 []) (xM [] [(2,some (2,true))] 0 (fun r o=>r=twR (qBn s) 0∧o=twO (qBn s))):=by
 have h4:(s%4==0)=false:=by simpa using h3
 have hf1:s.fdiv 1=s:=Int.fdiv_one s
 have hf2:s.fdiv 2=s/2:=Int.fdiv_eq_ediv_of_nonneg s (by omega)
 have hc0:s%2=0∨s%2=1:=by omega
 have hc1:s/2%2=0∨s/2%2=1:=by omega
 rcases hc0 with c0 | c0<;>rcases hc1 with c1 | c1
 ·exact absurd (by omega) h3
 ·rw[qGa h3,if_neg (by omega),if_pos (by omega)]
  simp (disch:=omega) only [go_sem,↓reduceIte,Nat.reduceAdd,Nat.reduceEqDiff,reduceCtorEq,yI,h4,hf1,hf2]
  refine qD 2 (fun k=>match k with | 0=>[(0,.t (.int .i64 s)),(2,.ref 4096 0 0),(3,.ref 16384 0 0),(12,.t (.int .i64 0))] | 1=>[(0,.t (.int .i64 s)),(2,.ref 4096 0 0),(3,.ref 16384 0 0),(12,.t (.int .i64 1))] | _=>[(0,.t (.int .i64 s)),(2,.ref 4096 0 0),(3,.ref 16384 0 0),(12,.t (.int .i64 2))]) (fun k=>match k with | 0=>[(16384,.live 2 [.agg [.nil,.t (.int .i64 0)]] true true),(4096,.live 2 [.agg [.nil,.t (.int .i64 0)]] true true)] | 1=>[(16384,.live 2 [.agg [.sl 9000 0 1,.t (.int .i64 0)]] true true),(9000,.live 1 [.sl 9001 0 0] true false),(9001,.live 1 ((([]:jH).map bsT).map V.t) true false),(4096,.live 2 [.agg [.nil,.t (.int .i64 0)]] true true)] | _=>[(16384,.live 2 [.agg [.sl 9000 0 2,.t (.int .i64 0)]] true true),(9000,.live 1 [.sl 9001 0 0,.sl 9002 0 16] true false),(9001,.live 1 ((([]:jH).map bsT).map V.t) true false),(9002,.live 1 (((qD1 1:jH).map bsT).map V.t) true false),(4096,.live 2 [.agg [.nil,.t (.int .i64 0)]] true true)]) ?_ (fun k hk=>?_)
  ·refine qI.rd id ?_ ?_ rfl
   all_goals simp (disch:=omega) only [go_sem,↓reduceIte,Nat.reduceEqDiff,Nat.reduceBEq,reduceCtorEq,id]
  ·rcases (show k=0∨k=1∨k=2 by omega) with rfl | rfl | rfl
   ·simp (disch:=omega) only [go_sem,↓reduceIte,Nat.reduceAdd,Nat.reduceEqDiff,Int.reduceLT,reduceCtorEq,zM,c0,c1,qL,h1,h2,qJ,qK,jB,jC,hf1,hf2]
    refine qF 1 ?_
    simp (disch:=omega) only [go_sem,↓reduceIte,Nat.reduceAdd,Nat.reduceEqDiff,Nat.reduceLT,Nat.reduceLeDiff,Int.reduceLT,Int.reduceAdd,reduceCtorEq,Int.reducePow,qB,qV,c0,c1,qL,h1,h2,qJ,qK,jB,jC,hf1,hf2]
    refine qI.trans (fs':=[(0,.t (.int .i64 s)),(2,.ref 4096 0 0),(3,.ref 16384 0 0),(12,.t (.int .i64 1))]) (qI.cv0 (hv:=[(9001,.live 1 [] true false)]) (ho:=[(16384,.live 2 [.agg [.sl 9000 0 1,.t (.int .i64 0)]] true true),(9000,.live 1 [.sl 9001 0 0] true false),(4096,.live 2 [.agg [.nil,.t (.int .i64 0)]] true true)]) (fun j=>if j=9000 then 65600 else j) ?_ ?_ rfl rfl) (qI.rd id ?_ ?_ rfl)
    all_goals simp (disch:=omega) only [go_sem,↓reduceIte,Nat.reduceAdd,Nat.reduceEqDiff,Nat.reduceBEq,reduceCtorEq,List.map_cons,List.map_nil,id]
   ·simp (disch:=omega) only [go_sem,↓reduceIte,Nat.reduceAdd,Nat.reduceEqDiff,Int.reduceLT,reduceCtorEq,zM,c0,c1,qL,h1,h2,qJ,qK,jB,jC,hf1,hf2]
    refine qD 16 (fun i=>[(0,.t (.int .i64 s)),(2,.ref 4096 0 0),(3,.ref 16384 0 0),(12,.t (.int .i64 1)),(4,.t (.int .i64 1)),(5,.sl 9100 0 i),(6,.t (.int .i64 (i:Nat)))]) (fun i=>[(9100,.live 1 ((((qD1 1).take i).map bsT).map V.t) true false),(16384,.live 2 [.agg [.sl 9000 0 1,.t (.int .i64 0)]] true true),(9000,.live 1 [.sl 9001 0 0] true false),(9001,.live 1 ((([]:jH).map bsT).map V.t) true false),(4096,.live 2 [.agg [.nil,.t (.int .i64 0)]] true true)]) ?_ (fun i hi=>?_)
    ·refine qI.cv0 (hv:=[(9100,.live 1 [] true false)]) (ho:=[(16384,.live 2 [.agg [.sl 9000 0 1,.t (.int .i64 0)]] true true),(9000,.live 1 [.sl 9001 0 0] true false),(9001,.live 1 ((([]:jH).map bsT).map V.t) true false),(4096,.live 2 [.agg [.nil,.t (.int .i64 0)]] true true)]) id ?_ ?_ rfl rfl
     all_goals simp (disch:=omega) only [go_sem,↓reduceIte,Nat.reduceAdd,Nat.reduceEqDiff,Nat.reduceBEq,reduceCtorEq,List.map_cons,List.map_nil,id]
    ·by_cases hlt:i<16
     ·by_cases h12:i<12
      ·simp (disch:=omega) only [go_sem,↓reduceIte,Nat.reduceAdd,Nat.reduceEqDiff,Nat.reduceLT,Nat.reduceLeDiff,Int.reduceLT,reduceCtorEq,Int.reducePow,qV,c0,c1,qL,h1,h2,qJ,qK,jB,jC,hf1,hf2]
       refine⟨hlt,qI.cv (hv:=[]) [61504] (fun j=>if j=9100 then 61536 else j) ?_ rfl⟩
       simp (disch:=omega) only [go_sem,↓reduceIte,Nat.reduceAdd,Nat.reduceEqDiff,Nat.reduceLeDiff,Nat.reduceBEq,reduceCtorEq,wU hlt,szA,List.take_replicate,Nat.min_self,qZe h12]
       rfl
      ·simp (disch:=omega) only [go_sem,↓reduceIte,Nat.reduceAdd,Nat.reduceEqDiff,Nat.reduceLT,Nat.reduceLeDiff,Int.reduceLT,reduceCtorEq,Int.reducePow,qV,c0,c1,qL,h1,h2,qJ,qK,jB,jC,hf1,hf2]
       refine⟨hlt,qI.cv (hv:=[]) [61504] (fun j=>if j=9100 then 61536 else j) ?_ rfl⟩
       simp (disch:=omega) only [go_sem,↓reduceIte,Nat.reduceAdd,Nat.reduceEqDiff,Nat.reduceLeDiff,Nat.reduceBEq,reduceCtorEq,wU hlt,szA,List.take_replicate,Nat.min_self,qZf h12]
       rfl
     ·have e:i=16:=by omega
      subst e
      simp (disch:=omega) only [go_sem,↓reduceIte,Nat.reduceAdd,Nat.reduceEqDiff,Nat.reduceMul,Nat.reduceLT,Nat.reduceLeDiff,Int.reduceLT,Int.reduceAdd,reduceCtorEq,qV,c0,c1,qL,h1,h2,qJ,qK,jB,jC,hf1,hf2]
      refine qI.rd (fun j=>if j=9000 then 65600 else if j=9002 then 9100 else j) ?_ ?_ rfl
      all_goals simp (disch:=omega) only [go_sem,↓reduceIte,Nat.reduceAdd,Nat.reduceEqDiff,Nat.reduceBEq,reduceCtorEq,qEn]
   ·simp (disch:=omega) only [go_sem,↓reduceIte,Nat.reduceAdd,Nat.reduceEqDiff,Nat.reduceLeDiff,Nat.reduceBEq,Int.reduceLT,reduceCtorEq,zM,c0,c1,qL,h1,h2,qJ,qK,jB,jC,hf1,hf2]
    exact⟨rfl,rfl⟩
 ·rw[qGa h3,if_pos (by omega),if_neg (by omega)]
  simp (disch:=omega) only [go_sem,↓reduceIte,Nat.reduceAdd,Nat.reduceEqDiff,reduceCtorEq,yI,h4,hf1,hf2]
  refine qD 2 (fun k=>match k with | 0=>[(0,.t (.int .i64 s)),(2,.ref 4096 0 0),(3,.ref 16384 0 0),(12,.t (.int .i64 0))] | 1=>[(0,.t (.int .i64 s)),(2,.ref 4096 0 0),(3,.ref 16384 0 0),(12,.t (.int .i64 1))] | _=>[(0,.t (.int .i64 s)),(2,.ref 4096 0 0),(3,.ref 16384 0 0),(12,.t (.int .i64 2))]) (fun k=>match k with | 0=>[(16384,.live 2 [.agg [.nil,.t (.int .i64 0)]] true true),(4096,.live 2 [.agg [.nil,.t (.int .i64 0)]] true true)] | 1=>[(16384,.live 2 [.agg [.sl 9000 0 1,.t (.int .i64 0)]] true true),(9000,.live 1 [.sl 9001 0 16] true false),(9001,.live 1 (((qD1 0:jH).map bsT).map V.t) true false),(4096,.live 2 [.agg [.nil,.t (.int .i64 0)]] true true)] | _=>[(16384,.live 2 [.agg [.sl 9000 0 2,.t (.int .i64 0)]] true true),(9000,.live 1 [.sl 9001 0 16,.sl 9002 0 0] true false),(9001,.live 1 (((qD1 0:jH).map bsT).map V.t) true false),(9002,.live 1 ((([]:jH).map bsT).map V.t) true false),(4096,.live 2 [.agg [.nil,.t (.int .i64 0)]] true true)]) ?_ (fun k hk=>?_)
  ·refine qI.rd id ?_ ?_ rfl
   all_goals simp (disch:=omega) only [go_sem,↓reduceIte,Nat.reduceEqDiff,Nat.reduceBEq,reduceCtorEq,id]
  ·rcases (show k=0∨k=1∨k=2 by omega) with rfl | rfl | rfl
   ·simp (disch:=omega) only [go_sem,↓reduceIte,Nat.reduceAdd,Nat.reduceEqDiff,Int.reduceLT,reduceCtorEq,zM,c0,c1,qL,h1,h2,qJ,qK,jB,jC,hf1,hf2]
    refine qD 16 (fun i=>[(0,.t (.int .i64 s)),(2,.ref 4096 0 0),(3,.ref 16384 0 0),(12,.t (.int .i64 0)),(4,.t (.int .i64 0)),(5,.sl 9100 0 i),(6,.t (.int .i64 (i:Nat)))]) (fun i=>[(9100,.live 1 ((((qD1 0).take i).map bsT).map V.t) true false),(16384,.live 2 [.agg [.nil,.t (.int .i64 0)]] true true),(4096,.live 2 [.agg [.nil,.t (.int .i64 0)]] true true)]) ?_ (fun i hi=>?_)
    ·refine qI.cv0 (hv:=[(9100,.live 1 [] true false)]) (ho:=[(16384,.live 2 [.agg [.nil,.t (.int .i64 0)]] true true),(4096,.live 2 [.agg [.nil,.t (.int .i64 0)]] true true)]) id ?_ ?_ rfl rfl
     all_goals simp (disch:=omega) only [go_sem,↓reduceIte,Nat.reduceEqDiff,Nat.reduceBEq,reduceCtorEq,List.map_cons,List.map_nil,id]
    ·by_cases hlt:i<16
     ·by_cases h12:i<12
      ·simp (disch:=omega) only [go_sem,↓reduceIte,Nat.reduceAdd,Nat.reduceEqDiff,Nat.reduceLT,Nat.reduceLeDiff,Int.reduceLT,reduceCtorEq,Int.reducePow,qV,c0,c1,qL,h1,h2,qJ,qK,jB,jC,hf1,hf2]
       refine⟨hlt,qI.cv (hv:=[]) [61504] (fun j=>if j=9100 then 61536 else j) ?_ rfl⟩
       simp (disch:=omega) only [go_sem,↓reduceIte,Nat.reduceAdd,Nat.reduceEqDiff,Nat.reduceLeDiff,Nat.reduceBEq,reduceCtorEq,wU hlt,szA,List.take_replicate,Nat.min_self,qZe h12]
       rfl
      ·simp (disch:=omega) only [go_sem,↓reduceIte,Nat.reduceAdd,Nat.reduceEqDiff,Nat.reduceLT,Nat.reduceLeDiff,Int.reduceLT,reduceCtorEq,Int.reducePow,qV,c0,c1,qL,h1,h2,qJ,qK,jB,jC,hf1,hf2]
       refine⟨hlt,qI.cv (hv:=[]) [61504] (fun j=>if j=9100 then 61536 else j) ?_ rfl⟩
       simp (disch:=omega) only [go_sem,↓reduceIte,Nat.reduceAdd,Nat.reduceEqDiff,Nat.reduceLeDiff,Nat.reduceBEq,reduceCtorEq,wU hlt,szA,List.take_replicate,Nat.min_self,qZf h12]
       rfl
     ·have e:i=16:=by omega
      subst e
      simp (disch:=omega) only [go_sem,↓reduceIte,Nat.reduceAdd,Nat.reduceEqDiff,Nat.reduceLT,Nat.reduceLeDiff,Int.reduceLT,Int.reduceAdd,reduceCtorEq,qV,c0,c1,qL,h1,h2,qJ,qK,jB,jC,hf1,hf2]
      refine qI.rd (fun j=>if j=9000 then 65600 else if j=9001 then 9100 else j) ?_ ?_ rfl
      all_goals simp (disch:=omega) only [go_sem,↓reduceIte,Nat.reduceAdd,Nat.reduceEqDiff,Nat.reduceBEq,reduceCtorEq,qEn]
   ·simp (disch:=omega) only [go_sem,↓reduceIte,Nat.reduceAdd,Nat.reduceEqDiff,Int.reduceLT,reduceCtorEq,zM,c0,c1,qL,h1,h2,qJ,qK,jB,jC,hf1,hf2]
    refine qF 1 ?_
    simp (disch:=omega) only [go_sem,↓reduceIte,Nat.reduceAdd,Nat.reduceEqDiff,Nat.reduceMul,Nat.reduceLT,Nat.reduceLeDiff,Int.reduceLT,Int.reduceAdd,reduceCtorEq,Int.reducePow,qB,qV,c0,c1,qL,h1,h2,qJ,qK,jB,jC,hf1,hf2]
    refine qI.trans (fs':=[(0,.t (.int .i64 s)),(2,.ref 4096 0 0),(3,.ref 16384 0 0),(12,.t (.int .i64 2))]) (qI.cv0 (hv:=[(9002,.live 1 [] true false)]) (ho:=[(16384,.live 2 [.agg [.sl 9000 0 2,.t (.int .i64 0)]] true true),(9000,.live 1 [.sl 9001 0 16,.sl 9002 0 0] true false),(9001,.live 1 (((qD1 0:jH).map bsT).map V.t) true false),(4096,.live 2 [.agg [.nil,.t (.int .i64 0)]] true true)]) (fun j=>if j=9000 then 65600 else j) ?_ ?_ rfl rfl) (qI.rd id ?_ ?_ rfl)
    all_goals simp (disch:=omega) only [go_sem,↓reduceIte,Nat.reduceAdd,Nat.reduceEqDiff,Nat.reduceBEq,reduceCtorEq,List.map_cons,List.map_nil,id]
   ·simp (disch:=omega) only [go_sem,↓reduceIte,Nat.reduceAdd,Nat.reduceEqDiff,Nat.reduceLeDiff,Nat.reduceBEq,Int.reduceLT,reduceCtorEq,zM,c0,c1,qL,h1,h2,qJ,qK,jB,jC,hf1,hf2]
    exact⟨rfl,rfl⟩
 ·rw[qGa h3,if_pos (by omega),if_pos (by omega)]
  simp (disch:=omega) only [go_sem,↓reduceIte,Nat.reduceAdd,Nat.reduceEqDiff,reduceCtorEq,yI,h4,hf1,hf2]
  refine qD 2 (fun k=>match k with | 0=>[(0,.t (.int .i64 s)),(2,.ref 4096 0 0),(3,.ref 16384 0 0),(12,.t (.int .i64 0))] | 1=>[(0,.t (.int .i64 s)),(2,.ref 4096 0 0),(3,.ref 16384 0 0),(12,.t (.int .i64 1))] | _=>[(0,.t (.int .i64 s)),(2,.ref 4096 0 0),(3,.ref 16384 0 0),(12,.t (.int .i64 2))]) (fun k=>match k with | 0=>[(16384,.live 2 [.agg [.nil,.t (.int .i64 0)]] true true),(4096,.live 2 [.agg [.nil,.t (.int .i64 0)]] true true)] | 1=>[(16384,.live 2 [.agg [.sl 9000 0 1,.t (.int .i64 0)]] true true),(9000,.live 1 [.sl 9001 0 16] true false),(9001,.live 1 (((qD1 0:jH).map bsT).map V.t) true false),(4096,.live 2 [.agg [.nil,.t (.int .i64 0)]] true true)] | _=>[(16384,.live 2 [.agg [.sl 9000 0 2,.t (.int .i64 0)]] true true),(9000,.live 1 [.sl 9001 0 16,.sl 9002 0 16] true false),(9001,.live 1 (((qD1 0:jH).map bsT).map V.t) true false),(9002,.live 1 (((qD1 1:jH).map bsT).map V.t) true false),(4096,.live 2 [.agg [.nil,.t (.int .i64 0)]] true true)]) ?_ (fun k hk=>?_)
  ·refine qI.rd id ?_ ?_ rfl
   all_goals simp (disch:=omega) only [go_sem,↓reduceIte,Nat.reduceEqDiff,Nat.reduceBEq,reduceCtorEq,id]
  ·rcases (show k=0∨k=1∨k=2 by omega) with rfl | rfl | rfl
   ·simp (disch:=omega) only [go_sem,↓reduceIte,Nat.reduceAdd,Nat.reduceEqDiff,Int.reduceLT,reduceCtorEq,zM,c0,c1,qL,h1,h2,qJ,qK,jB,jC,hf1,hf2]
    refine qD 16 (fun i=>[(0,.t (.int .i64 s)),(2,.ref 4096 0 0),(3,.ref 16384 0 0),(12,.t (.int .i64 0)),(4,.t (.int .i64 0)),(5,.sl 9100 0 i),(6,.t (.int .i64 (i:Nat)))]) (fun i=>[(9100,.live 1 ((((qD1 0).take i).map bsT).map V.t) true false),(16384,.live 2 [.agg [.nil,.t (.int .i64 0)]] true true),(4096,.live 2 [.agg [.nil,.t (.int .i64 0)]] true true)]) ?_ (fun i hi=>?_)
    ·refine qI.cv0 (hv:=[(9100,.live 1 [] true false)]) (ho:=[(16384,.live 2 [.agg [.nil,.t (.int .i64 0)]] true true),(4096,.live 2 [.agg [.nil,.t (.int .i64 0)]] true true)]) id ?_ ?_ rfl rfl
     all_goals simp (disch:=omega) only [go_sem,↓reduceIte,Nat.reduceEqDiff,Nat.reduceBEq,reduceCtorEq,List.map_cons,List.map_nil,id]
    ·by_cases hlt:i<16
     ·by_cases h12:i<12
      ·simp (disch:=omega) only [go_sem,↓reduceIte,Nat.reduceAdd,Nat.reduceEqDiff,Nat.reduceLT,Nat.reduceLeDiff,Int.reduceLT,reduceCtorEq,Int.reducePow,qV,c0,c1,qL,h1,h2,qJ,qK,jB,jC,hf1,hf2]
       refine⟨hlt,qI.cv (hv:=[]) [61504] (fun j=>if j=9100 then 61536 else j) ?_ rfl⟩
       simp (disch:=omega) only [go_sem,↓reduceIte,Nat.reduceAdd,Nat.reduceEqDiff,Nat.reduceLeDiff,Nat.reduceBEq,reduceCtorEq,wU hlt,szA,List.take_replicate,Nat.min_self,qZe h12]
       rfl
      ·simp (disch:=omega) only [go_sem,↓reduceIte,Nat.reduceAdd,Nat.reduceEqDiff,Nat.reduceLT,Nat.reduceLeDiff,Int.reduceLT,reduceCtorEq,Int.reducePow,qV,c0,c1,qL,h1,h2,qJ,qK,jB,jC,hf1,hf2]
       refine⟨hlt,qI.cv (hv:=[]) [61504] (fun j=>if j=9100 then 61536 else j) ?_ rfl⟩
       simp (disch:=omega) only [go_sem,↓reduceIte,Nat.reduceAdd,Nat.reduceEqDiff,Nat.reduceLeDiff,Nat.reduceBEq,reduceCtorEq,wU hlt,szA,List.take_replicate,Nat.min_self,qZf h12]
       rfl
     ·have e:i=16:=by omega
      subst e
      simp (disch:=omega) only [go_sem,↓reduceIte,Nat.reduceAdd,Nat.reduceEqDiff,Nat.reduceLT,Nat.reduceLeDiff,Int.reduceLT,Int.reduceAdd,reduceCtorEq,qV,c0,c1,qL,h1,h2,qJ,qK,jB,jC,hf1,hf2]
      refine qI.rd (fun j=>if j=9000 then 65600 else if j=9001 then 9100 else j) ?_ ?_ rfl
      all_goals simp (disch:=omega) only [go_sem,↓reduceIte,Nat.reduceAdd,Nat.reduceEqDiff,Nat.reduceBEq,reduceCtorEq,qEn]
   ·simp (disch:=omega) only [go_sem,↓reduceIte,Nat.reduceAdd,Nat.reduceEqDiff,Int.reduceLT,reduceCtorEq,zM,c0,c1,qL,h1,h2,qJ,qK,jB,jC,hf1,hf2]
    refine qD 16 (fun i=>[(0,.t (.int .i64 s)),(2,.ref 4096 0 0),(3,.ref 16384 0 0),(12,.t (.int .i64 1)),(4,.t (.int .i64 1)),(5,.sl 9100 0 i),(6,.t (.int .i64 (i:Nat)))]) (fun i=>[(9100,.live 1 ((((qD1 1).take i).map bsT).map V.t) true false),(16384,.live 2 [.agg [.sl 9000 0 1,.t (.int .i64 0)]] true true),(9000,.live 1 [.sl 9001 0 16] true false),(9001,.live 1 (((qD1 0:jH).map bsT).map V.t) true false),(4096,.live 2 [.agg [.nil,.t (.int .i64 0)]] true true)]) ?_ (fun i hi=>?_)
    ·refine qI.cv0 (hv:=[(9100,.live 1 [] true false)]) (ho:=[(16384,.live 2 [.agg [.sl 9000 0 1,.t (.int .i64 0)]] true true),(9000,.live 1 [.sl 9001 0 16] true false),(9001,.live 1 (((qD1 0:jH).map bsT).map V.t) true false),(4096,.live 2 [.agg [.nil,.t (.int .i64 0)]] true true)]) id ?_ ?_ rfl rfl
     all_goals simp (disch:=omega) only [go_sem,↓reduceIte,Nat.reduceAdd,Nat.reduceEqDiff,Nat.reduceBEq,reduceCtorEq,List.map_cons,List.map_nil,id]
    ·by_cases hlt:i<16
     ·by_cases h12:i<12
      ·simp (disch:=omega) only [go_sem,↓reduceIte,Nat.reduceAdd,Nat.reduceEqDiff,Nat.reduceLT,Nat.reduceLeDiff,Int.reduceLT,reduceCtorEq,Int.reducePow,qV,c0,c1,qL,h1,h2,qJ,qK,jB,jC,hf1,hf2]
       refine⟨hlt,qI.cv (hv:=[]) [61504] (fun j=>if j=9100 then 61536 else j) ?_ rfl⟩
       simp (disch:=omega) only [go_sem,↓reduceIte,Nat.reduceAdd,Nat.reduceEqDiff,Nat.reduceLeDiff,Nat.reduceBEq,reduceCtorEq,wU hlt,szA,List.take_replicate,Nat.min_self,qZe h12]
       rfl
      ·simp (disch:=omega) only [go_sem,↓reduceIte,Nat.reduceAdd,Nat.reduceEqDiff,Nat.reduceLT,Nat.reduceLeDiff,Int.reduceLT,reduceCtorEq,Int.reducePow,qV,c0,c1,qL,h1,h2,qJ,qK,jB,jC,hf1,hf2]
       refine⟨hlt,qI.cv (hv:=[]) [61504] (fun j=>if j=9100 then 61536 else j) ?_ rfl⟩
       simp (disch:=omega) only [go_sem,↓reduceIte,Nat.reduceAdd,Nat.reduceEqDiff,Nat.reduceLeDiff,Nat.reduceBEq,reduceCtorEq,wU hlt,szA,List.take_replicate,Nat.min_self,qZf h12]
       rfl
     ·have e:i=16:=by omega
      subst e
      simp (disch:=omega) only [go_sem,↓reduceIte,Nat.reduceAdd,Nat.reduceEqDiff,Nat.reduceMul,Nat.reduceLT,Nat.reduceLeDiff,Int.reduceLT,Int.reduceAdd,reduceCtorEq,qV,c0,c1,qL,h1,h2,qJ,qK,jB,jC,hf1,hf2]
      refine qI.rd (fun j=>if j=9000 then 65600 else if j=9002 then 9100 else j) ?_ ?_ rfl
      all_goals simp (disch:=omega) only [go_sem,↓reduceIte,Nat.reduceAdd,Nat.reduceEqDiff,Nat.reduceBEq,reduceCtorEq,qEn]
   ·simp (disch:=omega) only [go_sem,↓reduceIte,Nat.reduceAdd,Nat.reduceEqDiff,Nat.reduceLeDiff,Nat.reduceBEq,Int.reduceLT,reduceCtorEq,zM,c0,c1,qL,h1,h2,qJ,qK,jB,jC,hf1,hf2]
    exact⟨rfl,rfl⟩
theorem zIg (tab:Tab) (gl:Gl) (n1:Nat) (h1:tab.look n1=some qE1.fs) (s:Int) (h3 : ¬ s%4=0):(kT n1).wp tab gl (qE 0 [.t (.int .i64 s)]) (qE 0 []) (xM [] [(2,some (2,true))] 0 (fun r o=>r=twR (qBn s) 0∧o=twO (qBn s))):=by
 have h4:(s%4==0)=false:=by simpa using h3
 have hf1:s.fdiv 1=s:=Int.fdiv_one s
 have hf2:s.fdiv 2=s/2:=Int.fdiv_eq_ediv_of_nonneg s (by omega)
 have hc0:s%2=0∨s%2=1:=by omega
 have hc1:s/2%2=0∨s/2%2=1:=by omega
 rcases hc0 with c0 | c0<;>rcases hc1 with c1 | c1
 ·exact absurd (by omega) h3
 ·rw[qGa h3,if_neg (by omega),if_pos (by omega)]
  simp (disch:=omega) only [go_sem,↓reduceIte,Nat.reduceAdd,Nat.reduceEqDiff,Nat.reduceLeDiff,reduceCtorEq,kT,h4,hf1,hf2]
  refine qD 2 (fun k=>match k with | 0=>[(0,.t (.int .i64 s)),(2,.ref 4096 0 0),(3,.ref 8208 0 0),(4,.t (.int .i64 0))] | 1=>[(0,.t (.int .i64 s)),(2,.ref 4096 0 0),(3,.ref 8208 0 0),(4,.t (.int .i64 1))] | _=>[(0,.t (.int .i64 s)),(2,.ref 4096 0 0),(3,.ref 8208 0 0),(4,.t (.int .i64 2))]) (fun k=>match k with | 0=>[(8208,.live 2 [.agg [.nil,.t (.int .i64 0)]] true true),(4096,.live 2 [.agg [.nil,.t (.int .i64 0)]] true true)] | 1=>[(8208,.live 2 [.agg [.sl 9000 0 1,.t (.int .i64 0)]] true true),(9000,.live 1 [.sl 9001 0 0] true false),(9001,.live 1 ((([]:jH).map bsT).map V.t) true false),(4096,.live 2 [.agg [.nil,.t (.int .i64 0)]] true true)] | _=>[(8208,.live 2 [.agg [.sl 9000 0 2,.t (.int .i64 0)]] true true),(9000,.live 1 [.sl 9001 0 0,.sl 9002 0 16] true false),(9001,.live 1 ((([]:jH).map bsT).map V.t) true false),(9002,.live 1 (((qD1 1:jH).map bsT).map V.t) true false),(4096,.live 2 [.agg [.nil,.t (.int .i64 0)]] true true)]) ?_ (fun k hk=>?_)
  ·refine qI.rd id ?_ ?_ rfl
   all_goals simp (disch:=omega) only [go_sem,↓reduceIte,Nat.reduceEqDiff,Nat.reduceBEq,reduceCtorEq,id]
  ·rcases (show k=0∨k=1∨k=2 by omega) with rfl | rfl | rfl
   ·simp (disch:=omega) only [go_sem,↓reduceIte,Nat.reduceAdd,Nat.reduceEqDiff,Int.reduceLT,reduceCtorEq,yC,c0,c1,qL,h1,vE,vF,hf1,hf2]
    refine qF 1 ?_
    simp (disch:=omega) only [go_sem,↓reduceIte,Nat.reduceAdd,Nat.reduceEqDiff,Nat.reduceLT,Nat.reduceLeDiff,Int.reduceLT,Int.reduceAdd,reduceCtorEq,Int.reducePow,qB,jR,c0,c1,qL,h1,vE,vF,hf1,hf2]
    refine qI.trans (fs':=[(0,.t (.int .i64 s)),(2,.ref 4096 0 0),(3,.ref 8208 0 0),(4,.t (.int .i64 1))]) (qI.cv0 (hv:=[(9001,.live 1 [] true false)]) (ho:=[(8208,.live 2 [.agg [.sl 9000 0 1,.t (.int .i64 0)]] true true),(9000,.live 1 [.sl 9001 0 0] true false),(4096,.live 2 [.agg [.nil,.t (.int .i64 0)]] true true)]) (fun j=>if j=9000 then 53312 else j) ?_ ?_ rfl rfl) (qI.rd id ?_ ?_ rfl)
    all_goals simp (disch:=omega) only [go_sem,↓reduceIte,Nat.reduceAdd,Nat.reduceEqDiff,Nat.reduceBEq,reduceCtorEq,List.map_cons,List.map_nil,id]
   ·simp (disch:=omega) only [go_sem,↓reduceIte,Nat.reduceAdd,Nat.reduceEqDiff,Int.reduceLT,reduceCtorEq,yC,c0,c1,qL,h1,vE,vF,hf1,hf2]
    refine qD 16 (fun i=>[(0,.t (.int .i64 s)),(2,.ref 4096 0 0),(3,.ref 8208 0 0),(4,.t (.int .i64 1)),(5,.sl 9100 0 i),(6,.t (.int .i64 (i:Nat)))]) (fun i=>[(9100,.live 1 ((((qD1 1).take i).map bsT).map V.t) true false),(8208,.live 2 [.agg [.sl 9000 0 1,.t (.int .i64 0)]] true true),(9000,.live 1 [.sl 9001 0 0] true false),(9001,.live 1 ((([]:jH).map bsT).map V.t) true false),(4096,.live 2 [.agg [.nil,.t (.int .i64 0)]] true true)]) ?_ (fun i hi=>?_)
    ·refine qI.cv0 (hv:=[(9100,.live 1 [] true false)]) (ho:=[(8208,.live 2 [.agg [.sl 9000 0 1,.t (.int .i64 0)]] true true),(9000,.live 1 [.sl 9001 0 0] true false),(9001,.live 1 ((([]:jH).map bsT).map V.t) true false),(4096,.live 2 [.agg [.nil,.t (.int .i64 0)]] true true)]) id ?_ ?_ rfl rfl
     all_goals simp (disch:=omega) only [go_sem,↓reduceIte,Nat.reduceAdd,Nat.reduceEqDiff,Nat.reduceBEq,reduceCtorEq,List.map_cons,List.map_nil,id]
    ·by_cases hlt:i<16
     ·simp (disch:=omega) only [go_sem,↓reduceIte,Nat.reduceAdd,Nat.reduceEqDiff,Nat.reduceLT,Nat.reduceLeDiff,Int.reduceLT,reduceCtorEq,Int.reducePow,jR,c0,c1,qL,h1,vE,vF,hf1,hf2]
      refine⟨hlt,qI.cv (hv:=[]) [49200] (fun j=>if j=9100 then 49232 else j) ?_ rfl⟩
      simp (disch:=omega) only [go_sem,↓reduceIte,Nat.reduceAdd,Nat.reduceEqDiff,Nat.reduceLeDiff,Nat.reduceBEq,reduceCtorEq,wU hlt,szA,List.take_replicate,Nat.min_self]
      rfl
     ·have e:i=16:=by omega
      subst e
      simp (disch:=omega) only [go_sem,↓reduceIte,Nat.reduceAdd,Nat.reduceEqDiff,Nat.reduceMul,Nat.reduceLT,Nat.reduceLeDiff,Int.reduceLT,Int.reduceAdd,reduceCtorEq,jR,c0,c1,qL,h1,vE,vF,hf1,hf2]
      refine qI.rd (fun j=>if j=9000 then 53312 else if j=9002 then 9100 else j) ?_ ?_ rfl
      all_goals simp (disch:=omega) only [go_sem,↓reduceIte,Nat.reduceAdd,Nat.reduceEqDiff,Nat.reduceBEq,reduceCtorEq,qEn]
   ·simp (disch:=omega) only [go_sem,↓reduceIte,Nat.reduceAdd,Nat.reduceEqDiff,Nat.reduceLeDiff,Nat.reduceBEq,Int.reduceLT,reduceCtorEq,yC,c0,c1,qL,h1,vE,vF,hf1,hf2]
    exact⟨rfl,rfl⟩
 ·rw[qGa h3,if_pos (by omega),if_neg (by omega)]
  simp (disch:=omega) only [go_sem,↓reduceIte,Nat.reduceAdd,Nat.reduceEqDiff,Nat.reduceLeDiff,reduceCtorEq,kT,h4,hf1,hf2]
  refine qD 2 (fun k=>match k with | 0=>[(0,.t (.int .i64 s)),(2,.ref 4096 0 0),(3,.ref 8208 0 0),(4,.t (.int .i64 0))] | 1=>[(0,.t (.int .i64 s)),(2,.ref 4096 0 0),(3,.ref 8208 0 0),(4,.t (.int .i64 1))] | _=>[(0,.t (.int .i64 s)),(2,.ref 4096 0 0),(3,.ref 8208 0 0),(4,.t (.int .i64 2))]) (fun k=>match k with | 0=>[(8208,.live 2 [.agg [.nil,.t (.int .i64 0)]] true true),(4096,.live 2 [.agg [.nil,.t (.int .i64 0)]] true true)] | 1=>[(8208,.live 2 [.agg [.sl 9000 0 1,.t (.int .i64 0)]] true true),(9000,.live 1 [.sl 9001 0 16] true false),(9001,.live 1 (((qD1 0:jH).map bsT).map V.t) true false),(4096,.live 2 [.agg [.nil,.t (.int .i64 0)]] true true)] | _=>[(8208,.live 2 [.agg [.sl 9000 0 2,.t (.int .i64 0)]] true true),(9000,.live 1 [.sl 9001 0 16,.sl 9002 0 0] true false),(9001,.live 1 (((qD1 0:jH).map bsT).map V.t) true false),(9002,.live 1 ((([]:jH).map bsT).map V.t) true false),(4096,.live 2 [.agg [.nil,.t (.int .i64 0)]] true true)]) ?_ (fun k hk=>?_)
  ·refine qI.rd id ?_ ?_ rfl
   all_goals simp (disch:=omega) only [go_sem,↓reduceIte,Nat.reduceEqDiff,Nat.reduceBEq,reduceCtorEq,id]
  ·rcases (show k=0∨k=1∨k=2 by omega) with rfl | rfl | rfl
   ·simp (disch:=omega) only [go_sem,↓reduceIte,Nat.reduceAdd,Nat.reduceEqDiff,Int.reduceLT,reduceCtorEq,yC,c0,c1,qL,h1,vE,vF,hf1,hf2]
    refine qD 16 (fun i=>[(0,.t (.int .i64 s)),(2,.ref 4096 0 0),(3,.ref 8208 0 0),(4,.t (.int .i64 0)),(5,.sl 9100 0 i),(6,.t (.int .i64 (i:Nat)))]) (fun i=>[(9100,.live 1 ((((qD1 0).take i).map bsT).map V.t) true false),(8208,.live 2 [.agg [.nil,.t (.int .i64 0)]] true true),(4096,.live 2 [.agg [.nil,.t (.int .i64 0)]] true true)]) ?_ (fun i hi=>?_)
    ·refine qI.cv0 (hv:=[(9100,.live 1 [] true false)]) (ho:=[(8208,.live 2 [.agg [.nil,.t (.int .i64 0)]] true true),(4096,.live 2 [.agg [.nil,.t (.int .i64 0)]] true true)]) id ?_ ?_ rfl rfl
     all_goals simp (disch:=omega) only [go_sem,↓reduceIte,Nat.reduceEqDiff,Nat.reduceBEq,reduceCtorEq,List.map_cons,List.map_nil,id]
    ·by_cases hlt:i<16
     ·simp (disch:=omega) only [go_sem,↓reduceIte,Nat.reduceAdd,Nat.reduceEqDiff,Nat.reduceLT,Nat.reduceLeDiff,Int.reduceLT,reduceCtorEq,Int.reducePow,jR,c0,c1,qL,h1,vE,vF,hf1,hf2]
      refine⟨hlt,qI.cv (hv:=[]) [49200] (fun j=>if j=9100 then 49232 else j) ?_ rfl⟩
      simp (disch:=omega) only [go_sem,↓reduceIte,Nat.reduceAdd,Nat.reduceEqDiff,Nat.reduceLeDiff,Nat.reduceBEq,reduceCtorEq,wU hlt,szA,List.take_replicate,Nat.min_self]
      rfl
     ·have e:i=16:=by omega
      subst e
      simp (disch:=omega) only [go_sem,↓reduceIte,Nat.reduceAdd,Nat.reduceEqDiff,Nat.reduceLT,Nat.reduceLeDiff,Int.reduceLT,Int.reduceAdd,reduceCtorEq,jR,c0,c1,qL,h1,vE,vF,hf1,hf2]
      refine qI.rd (fun j=>if j=9000 then 53312 else if j=9001 then 9100 else j) ?_ ?_ rfl
      all_goals simp (disch:=omega) only [go_sem,↓reduceIte,Nat.reduceAdd,Nat.reduceEqDiff,Nat.reduceBEq,reduceCtorEq,qEn]
   ·simp (disch:=omega) only [go_sem,↓reduceIte,Nat.reduceAdd,Nat.reduceEqDiff,Int.reduceLT,reduceCtorEq,yC,c0,c1,qL,h1,vE,vF,hf1,hf2]
    refine qF 1 ?_
    simp (disch:=omega) only [go_sem,↓reduceIte,Nat.reduceAdd,Nat.reduceEqDiff,Nat.reduceMul,Nat.reduceLT,Nat.reduceLeDiff,Int.reduceLT,Int.reduceAdd,reduceCtorEq,Int.reducePow,qB,jR,c0,c1,qL,h1,vE,vF,hf1,hf2]
    refine qI.trans (fs':=[(0,.t (.int .i64 s)),(2,.ref 4096 0 0),(3,.ref 8208 0 0),(4,.t (.int .i64 2))]) (qI.cv0 (hv:=[(9002,.live 1 [] true false)]) (ho:=[(8208,.live 2 [.agg [.sl 9000 0 2,.t (.int .i64 0)]] true true),(9000,.live 1 [.sl 9001 0 16,.sl 9002 0 0] true false),(9001,.live 1 (((qD1 0:jH).map bsT).map V.t) true false),(4096,.live 2 [.agg [.nil,.t (.int .i64 0)]] true true)]) (fun j=>if j=9000 then 53312 else j) ?_ ?_ rfl rfl) (qI.rd id ?_ ?_ rfl)
    all_goals simp (disch:=omega) only [go_sem,↓reduceIte,Nat.reduceAdd,Nat.reduceEqDiff,Nat.reduceBEq,reduceCtorEq,List.map_cons,List.map_nil,id]
   ·simp (disch:=omega) only [go_sem,↓reduceIte,Nat.reduceAdd,Nat.reduceEqDiff,Nat.reduceLeDiff,Nat.reduceBEq,Int.reduceLT,reduceCtorEq,yC,c0,c1,qL,h1,vE,vF,hf1,hf2]
    exact⟨rfl,rfl⟩
 ·rw[qGa h3,if_pos (by omega),if_pos (by omega)]
  simp (disch:=omega) only [go_sem,↓reduceIte,Nat.reduceAdd,Nat.reduceEqDiff,Nat.reduceLeDiff,reduceCtorEq,kT,h4,hf1,hf2]
  refine qD 2 (fun k=>match k with | 0=>[(0,.t (.int .i64 s)),(2,.ref 4096 0 0),(3,.ref 8208 0 0),(4,.t (.int .i64 0))] | 1=>[(0,.t (.int .i64 s)),(2,.ref 4096 0 0),(3,.ref 8208 0 0),(4,.t (.int .i64 1))] | _=>[(0,.t (.int .i64 s)),(2,.ref 4096 0 0),(3,.ref 8208 0 0),(4,.t (.int .i64 2))]) (fun k=>match k with | 0=>[(8208,.live 2 [.agg [.nil,.t (.int .i64 0)]] true true),(4096,.live 2 [.agg [.nil,.t (.int .i64 0)]] true true)] | 1=>[(8208,.live 2 [.agg [.sl 9000 0 1,.t (.int .i64 0)]] true true),(9000,.live 1 [.sl 9001 0 16] true false),(9001,.live 1 (((qD1 0:jH).map bsT).map V.t) true false),(4096,.live 2 [.agg [.nil,.t (.int .i64 0)]] true true)] | _=>[(8208,.live 2 [.agg [.sl 9000 0 2,.t (.int .i64 0)]] true true),(9000,.live 1 [.sl 9001 0 16,.sl 9002 0 16] true false),(9001,.live 1 (((qD1 0:jH).map bsT).map V.t) true false),(9002,.live 1 (((qD1 1:jH).map bsT).map V.t) true false),(4096,.live 2 [.agg [.nil,.t (.int .i64 0)]] true true)]) ?_ (fun k hk=>?_)
  ·refine qI.rd id ?_ ?_ rfl
   all_goals simp (disch:=omega) only [go_sem,↓reduceIte,Nat.reduceEqDiff,Nat.reduceBEq,reduceCtorEq,id]
  ·rcases (show k=0∨k=1∨k=2 by omega) with rfl | rfl | rfl
   ·simp (disch:=omega) only [go_sem,↓reduceIte,Nat.reduceAdd,Nat.reduceEqDiff,Int.reduceLT,reduceCtorEq,yC,c0,c1,qL,h1,vE,vF,hf1,hf2]
    refine qD 16 (fun i=>[(0,.t (.int .i64 s)),(2,.ref 4096 0 0),(3,.ref 8208 0 0),(4,.t (.int .i64 0)),(5,.sl 9100 0 i),(6,.t (.int .i64 (i:Nat)))]) (fun i=>[(9100,.live 1 ((((qD1 0).take i).map bsT).map V.t) true false),(8208,.live 2 [.agg [.nil,.t (.int .i64 0)]] true true),(4096,.live 2 [.agg [.nil,.t (.int .i64 0)]] true true)]) ?_ (fun i hi=>?_)
    ·refine qI.cv0 (hv:=[(9100,.live 1 [] true false)]) (ho:=[(8208,.live 2 [.agg [.nil,.t (.int .i64 0)]] true true),(4096,.live 2 [.agg [.nil,.t (.int .i64 0)]] true true)]) id ?_ ?_ rfl rfl
     all_goals simp (disch:=omega) only [go_sem,↓reduceIte,Nat.reduceEqDiff,Nat.reduceBEq,reduceCtorEq,List.map_cons,List.map_nil,id]
    ·by_cases hlt:i<16
     ·simp (disch:=omega) only [go_sem,↓reduceIte,Nat.reduceAdd,Nat.reduceEqDiff,Nat.reduceLT,Nat.reduceLeDiff,Int.reduceLT,reduceCtorEq,Int.reducePow,jR,c0,c1,qL,h1,vE,vF,hf1,hf2]
      refine⟨hlt,qI.cv (hv:=[]) [49200] (fun j=>if j=9100 then 49232 else j) ?_ rfl⟩
      simp (disch:=omega) only [go_sem,↓reduceIte,Nat.reduceAdd,Nat.reduceEqDiff,Nat.reduceLeDiff,Nat.reduceBEq,reduceCtorEq,wU hlt,szA,List.take_replicate,Nat.min_self]
      rfl
     ·have e:i=16:=by omega
      subst e
      simp (disch:=omega) only [go_sem,↓reduceIte,Nat.reduceAdd,Nat.reduceEqDiff,Nat.reduceLT,Nat.reduceLeDiff,Int.reduceLT,Int.reduceAdd,reduceCtorEq,jR,c0,c1,qL,h1,vE,vF,hf1,hf2]
      refine qI.rd (fun j=>if j=9000 then 53312 else if j=9001 then 9100 else j) ?_ ?_ rfl
      all_goals simp (disch:=omega) only [go_sem,↓reduceIte,Nat.reduceAdd,Nat.reduceEqDiff,Nat.reduceBEq,reduceCtorEq,qEn]
   ·simp (disch:=omega) only [go_sem,↓reduceIte,Nat.reduceAdd,Nat.reduceEqDiff,Int.reduceLT,reduceCtorEq,yC,c0,c1,qL,h1,vE,vF,hf1,hf2]
    refine qD 16 (fun i=>[(0,.t (.int .i64 s)),(2,.ref 4096 0 0),(3,.ref 8208 0 0),(4,.t (.int .i64 1)),(5,.sl 9100 0 i),(6,.t (.int .i64 (i:Nat)))]) (fun i=>[(9100,.live 1 ((((qD1 1).take i).map bsT).map V.t) true false),(8208,.live 2 [.agg [.sl 9000 0 1,.t (.int .i64 0)]] true true),(9000,.live 1 [.sl 9001 0 16] true false),(9001,.live 1 (((qD1 0:jH).map bsT).map V.t) true false),(4096,.live 2 [.agg [.nil,.t (.int .i64 0)]] true true)]) ?_ (fun i hi=>?_)
    ·refine qI.cv0 (hv:=[(9100,.live 1 [] true false)]) (ho:=[(8208,.live 2 [.agg [.sl 9000 0 1,.t (.int .i64 0)]] true true),(9000,.live 1 [.sl 9001 0 16] true false),(9001,.live 1 (((qD1 0:jH).map bsT).map V.t) true false),(4096,.live 2 [.agg [.nil,.t (.int .i64 0)]] true true)]) id ?_ ?_ rfl rfl
     all_goals simp (disch:=omega) only [go_sem,↓reduceIte,Nat.reduceAdd,Nat.reduceEqDiff,Nat.reduceBEq,reduceCtorEq,List.map_cons,List.map_nil,id]
    ·by_cases hlt:i<16
     ·simp (disch:=omega) only [go_sem,↓reduceIte,Nat.reduceAdd,Nat.reduceEqDiff,Nat.reduceLT,Nat.reduceLeDiff,Int.reduceLT,reduceCtorEq,Int.reducePow,jR,c0,c1,qL,h1,vE,vF,hf1,hf2]
      refine⟨hlt,qI.cv (hv:=[]) [49200] (fun j=>if j=9100 then 49232 else j) ?_ rfl⟩
      simp (disch:=omega) only [go_sem,↓reduceIte,Nat.reduceAdd,Nat.reduceEqDiff,Nat.reduceLeDiff,Nat.reduceBEq,reduceCtorEq,wU hlt,szA,List.take_replicate,Nat.min_self]
      rfl
     ·have e:i=16:=by omega
      subst e
      simp (disch:=omega) only [go_sem,↓reduceIte,Nat.reduceAdd,Nat.reduceEqDiff,Nat.reduceMul,Nat.reduceLT,Nat.reduceLeDiff,Int.reduceLT,Int.reduceAdd,reduceCtorEq,jR,c0,c1,qL,h1,vE,vF,hf1,hf2]
      refine qI.rd (fun j=>if j=9000 then 53312 else if j=9002 then 9100 else j) ?_ ?_ rfl
      all_goals simp (disch:=omega) only [go_sem,↓reduceIte,Nat.reduceAdd,Nat.reduceEqDiff,Nat.reduceBEq,reduceCtorEq,qEn]
   ·simp (disch:=omega) only [go_sem,↓reduceIte,Nat.reduceAdd,Nat.reduceEqDiff,Nat.reduceLeDiff,Nat.reduceBEq,Int.reduceLT,reduceCtorEq,yC,c0,c1,qL,h1,vE,vF,hf1,hf2]
    exact⟨rfl,rfl⟩
end Go.Eng
end
section
set_option maxRecDepth 20000
set_option maxHeartbeats 16000000
namespace Go.Eng
def qAa:Ct where
 α:=Int
 as x:=[.t (.int .i64 x)]
 ins _:=[]
 pre _:=True
 r x:= .t (.bool (decide ((0:Int)≤x∧x<(16:Int))))
 outs _:=[]
 inj:=by
  intro a b h _
  simp at h
  subst h;exact⟨rfl,rfl⟩
theorem qV2 {i:Int} (h:0≤i∧i<16):qAa.fs [.t (.int .i64 i)] []=some (.t (.bool true),[]):=by
 refine (qAa.eq i trivial).trans ?_
 simp[qAa,h]
theorem zKy {i:Int} (h : ¬ (0≤i∧i<16)):qAa.fs [.t (.int .i64 i)] []=some (.t (.bool false),[]):=by
 refine (qAa.eq i trivial).trans ?_
 simp only[qAa,decide_eq_false h]
def qJ7:Ct where
 α:=List jH×Int×Nat
 as x:=[.t (vY x.1 x.2.1),.t (.int .i64 x.2.2)]
 ins _:=[]
 pre x:=RK x.1∧x.2.2<2
 r x:= .t (.bool (onB x.1 x.2.2))
 outs _:=[]
 inj:=by
  rintro⟨a,u,i⟩ ⟨b,v,j⟩ h _
  simp only[List.cons.injEq,V.t.injEq,T.int.injEq,true_and,and_true,Int.natCast_inj] at h
  obtain⟨h1,rfl⟩:=h
  obtain⟨rfl,rfl⟩:=qIr h1
  exact⟨rfl,rfl⟩
theorem jAf {bk:List jH} {u:Int} {a:Nat} (hk:RK bk) (h:a<2):qJ7.fs [.t (.agg [.sl (bk.map qCi),.int .i64 u]),.t (.int .i64 a)] []=some (.t (.bool (onB bk a)),[]):=qJ7.eq (bk,u,a) ⟨hk,h⟩
theorem kK {b0 b1:jH} {u:Int} (hk:RK [b0,b1]):qJ7.fs [.t (.agg [.sl [.sl (b0.map bsT),.sl (b1.map bsT)],.int .i64 u]),.t (.int .i64 0)] []=some (.t (.bool (decide (b0.length=16))),[]):=qJ7.eq ([b0,b1],u,0) ⟨hk,by show 0<2;omega⟩
theorem kL {b0 b1:jH} {u:Int} (hk:RK [b0,b1]):qJ7.fs [.t (.agg [.sl [.sl (b0.map bsT),.sl (b1.map bsT)],.int .i64 u]),.t (.int .i64 1)] []=some (.t (.bool (decide (b1.length=16))),[]):=qJ7.eq ([b0,b1],u,1) ⟨hk,by show 1<2;omega⟩
theorem zTd {u:Int} {a:Nat} (h:a<2):qJ7.fs [.t (.agg [.sl [],.int .i64 u]),.t (.int .i64 a)] []=some (.t (.bool false),[]):=by
 refine (qJ7.eq ([],u,a) ⟨.nil,h⟩).trans ?_
 simp[qJ7,onB]
def vN:Ct where
 α:=List jH×Int×Nat
 as x:=[.t (vY x.1 x.2.1),.t (.int .i64 x.2.2)]
 ins _:=[]
 pre x:=RK x.1∧x.2.2<1000000000
 r x:= .t (.bool (zNo x.1 x.2.2))
 outs _:=[]
 inj:=by
  rintro⟨a,u,i⟩ ⟨b,v,j⟩ h _
  simp only[List.cons.injEq,V.t.injEq,T.int.injEq,true_and,and_true,Int.natCast_inj] at h
  obtain⟨h1,rfl⟩:=h
  obtain⟨rfl,rfl⟩:=qIr h1
  exact⟨rfl,rfl⟩
theorem RK.on {bk:List jH} (h:RK bk) (a:Nat):zNo bk a=onB bk a:=by
 cases h with
 | nil=>simp[zNo,onB]
 | two b0 b1 h0 h1=>
  have key : ∀ b:jH,qVr b→decide (0<List.length b)=decide (List.length b=16):=by
   intro b hb
   rcases hb with h | h<;>simp[h]
  match a with
  | 0=>simpa [zNo,onB] using key b0 h0
  | 1=>simpa [zNo,onB] using key b1 h1
  | a+2=>simp[zNo,onB]
theorem zBd {bk:List jH} {u:Int} {a:Nat} (hk:RK bk) (h:a<1000000000):vN.fs [.t (.agg [.sl (bk.map qCi),.int .i64 u]),.t (.int .i64 a)] []=some (.t (.bool (onB bk a)),[]):=by
 refine (vN.eq (bk,u,a) ⟨hk,h⟩).trans ?_
 simp only[vN,hk.on]
theorem jX {b0 b1:jH} {u:Int} (hk:RK [b0,b1]):vN.fs [.t (.agg [.sl [.sl (b0.map bsT),.sl (b1.map bsT)],.int .i64 u]),.t (.int .i64 0)] []=some (.t (.bool (decide (b0.length=16))),[]):=by
 refine (vN.eq ([b0,b1],u,0) ⟨hk,by show 0<1000000000;omega⟩).trans ?_
 simp only[vN,hk.on];rfl
theorem jY {b0 b1:jH} {u:Int} (hk:RK [b0,b1]):vN.fs [.t (.agg [.sl [.sl (b0.map bsT),.sl (b1.map bsT)],.int .i64 u]),.t (.int .i64 1)] []=some (.t (.bool (decide (b1.length=16))),[]):=by
 refine (vN.eq ([b0,b1],u,1) ⟨hk,by show 1<1000000000;omega⟩).trans ?_
 simp only[vN,hk.on];rfl
def zDd (bk:List jH) (a i:Nat):List UInt8:=(bk.getD a []).getD i []
def jI9 (bank i:Int):Prop:=bank<0∨2≤bank∨i<0∨16≤i
instance (bank i:Int):Decidable (jI9 bank i):=by unfold jI9;infer_instance
theorem RM.val {bk:List jH} (h:RM bk) (a i:Nat):(zDd bk a i).length<1000000000:=by
 by_cases ha:a<bk.length
 ·have e:bk.getD a []=bk[a]:=by simp[List.getD,ha]
  unfold zDd
  rw[e]
  exact qF9 (h.2 _ (List.getElem_mem ha)) i
 ·have e:bk.getD a []=[]:=by simp[List.getD,List.getElem?_eq_none (Nat.le_of_not_lt ha)]
  unfold zDd
  rw[e];simp
theorem RK.len {bk:List jH} (h:RK bk) {a:Nat} (ho:onB bk a=true):a<bk.length:=by
 simp only[onB,decide_eq_true_eq] at ho
 rcases Nat.lt_or_ge a bk.length with h1 | h1
 ·exact h1
 ·rw[List.getD,List.getElem?_eq_none h1] at ho;simp at ho
end Go.Eng
end
section
set_option maxRecDepth 20000
set_option maxHeartbeats 16000000
namespace Go.Eng
def qEk:Ct where
 α:=Int×Bool
 as x:=[.t (.int .i64 x.1),.t (.bool x.2)]
 ins _:=[]
 pre _:=True
 r x:= .t (.int .i64 (yV x.1 x.2))
 outs _:=[]
 inj:=by
  rintro⟨a,b⟩ ⟨c,d⟩ h _
  simp at h
  obtain⟨rfl,rfl⟩:=h;exact⟨rfl,rfl⟩
theorem qV5 {i:Int} {rs:Bool}:qEk.fs [.t (.int .i64 i),.t (.bool rs)] []=some (.t (.int .i64 (yV i rs)),[]):=qEk.eq (i,rs) trivial
def qB0:Ct where
 α:=Int×Bool
 as x:=[.t (.int .i64 x.1),.t (.bool x.2)]
 ins _:=[]
 pre _:=True
 r x:= .t (.int .i64 (if yV x.1 x.2=5 then -1 else yV x.1 x.2))
 outs _:=[]
 inj:=by
  rintro⟨a,b⟩ ⟨c,d⟩ h _
  simp at h
  obtain⟨rfl,rfl⟩:=h;exact⟨rfl,rfl⟩
theorem qR9 {i:Int} {rs:Bool}:qB0.fs [.t (.int .i64 i),.t (.bool rs)] []=some (.t (.int .i64 (if yV i rs=5 then -1 else yV i rs)),[]):=qB0.eq (i,rs) trivial
end Go.Eng
end
section
set_option maxRecDepth 20000
set_option maxHeartbeats 64000000
namespace Go.Eng
def qAj (l0 l1:Nat) (loc i:Int) (nd k0 k1:Nat):Int:=
 if loc<0∨4<loc∨i<0∨16≤i∨nd≠2 then 1 else if loc<yV i false then 13
 else if (l0≠16∧0<k0)∨(l1≠16∧0<k1) then 27 else if (l0=16∧k0≠20)∨(l1=16∧k1≠32) then 24 else 0
def vS (a:Nat) (b:jH) (i:Nat) (d:List UInt8):jH:=if List.length b=16 then b.set i (qX0 a (b.getD i []++d)) else b
theorem qG {a:Nat} {b:jH} {i:Nat} {d:List UInt8}:List.length (vS a b i d)=List.length b:=by
 unfold vS;split<;>simp
def qG1 (bk:List jH) (i:Nat) (ds:List (List UInt8)):List jH:=match bk with
 | [b0,b1]=>[vS 0 b0 i (ds.getD 0 []),vS 1 b1 i (ds.getD 1 [])]
 | bk=>bk
def xS (bk:List jH) (loc i:Int) (ds:List (List UInt8)):Int:=qAj (bk.getD 0 []).length (bk.getD 1 []).length loc i ds.length (ds.getD 0 []).length (ds.getD 1 []).length
def qF5 (bk:List jH) (u loc i:Int) (ds:List (List UInt8)):V:=
 if qAj (bk.getD 0 []).length (bk.getD 1 []).length loc i ds.length (ds.getD 0 []).length (ds.getD 1 []).length=0 then .tup [.t (vY (qG1 bk i.toNat ds) (u+1)),.t (.int .i64 0)]
 else .tup [.t (vY [] 0),.t (.int .i64 (qAj (bk.getD 0 []).length (bk.getD 1 []).length loc i ds.length (ds.getD 0 []).length (ds.getD 1 []).length))]
theorem qWs {x:List UInt8}:qX0 0 x=qJy x:=rfl
theorem qWt {x:List UInt8}:qX0 1 x=zK x:=rfl
theorem wW {x:List UInt8}:List.take 20 (qJy x)=qJy x:=List.take_of_length_le (by rw[jV];exact Nat.le_refl _)
theorem yY {x:List UInt8}:List.take 32 (zK x)=zK x:=List.take_of_length_le (by rw[qM];exact Nat.le_refl _)
theorem qKt (tab:Tab) (gl:Gl) (n1 n2 n3 n4 n5 n6:Nat) (h1:tab.look n1=some qAa.fs) (h2:tab.look n2=some qEk.fs) (h3:tab.look n3=some qJ7.fs) (h4:tab.look n4=some kV.fs) (h5:tab.look n5=some yJ.fs) (h6:tab.look n6=some kA.fs)
  (b0 b1:jH) (u loc:Int) (n:Nat) (d0 d1:List UInt8) (hu:0≤u∧u<1000000000) (hk:RM [b0,b1]) (hv0:(b0.getD n []).length≤64) (hv1:(b1.getD n []).length≤64) (hd:d0.length<9223372036854775808∧d1.length<9223372036854775808) (e1 : ¬(loc<0∨4<loc∨16≤n)) (e2 : ¬ loc<yV n false) :
  (zF n1 n2 n3 n4 n5 n6).wp tab gl (qE 0 [.t (vY [b0,b1] u),.t (.int .i64 loc),.t (.int .i64 n),.t (.sl [bsT d0,bsT d1])]) (qE 0 []) (zZ [(8,some (2,true)),(9,none)] 0 (fun r o=>r=qF5 [b0,b1] u loc n [d0,d1]∧o=[])):=by
 have gg:qVr b0∧qVr b1:=by
  obtain⟨hrk,_⟩:=hk
  cases hrk with
  | two _ _ h0 h1=>exact⟨h0,h1⟩
 obtain⟨g0,g1⟩:=gg
 simp (disch:=omega) only [go_sem,seval,zF,h1,qV2,h2,qV5,List.map_nil,List.map_cons]
 refine jQ (fs':=[(2,.t (.int .i64 (n:Nat))),(3,.t (.sl [bsT d0,bsT d1])),(4,.ref 4096 0 0),(8,.ref 4112 0 0),(38,.t (.sl [bsT d0,bsT d1])),(39,.t (.int .i64 2)),(40,.t (.int .i64 0))]) (hs':=[(4112,.live 2 [.agg [.nil,.t (.int .i64 0)]] true true),(4096,.live 2 [.t (vY [b0,b1] u)] true true)]) (qI.rd id ?_ ?_ rfl) ?_
 ·simp (disch:=omega) only [go_sem,seval,id]
 ·simp (disch:=omega) only [go_sem,seval,id]
 rcases g0 with z0 | z0<;>rcases g1 with z1 | z1
 ·have zz:True:=trivial
  by_cases p2:0<d0.length
  ·have zz:True:=trivial
   have hE:qAj 0 0 loc n 2 d0.length d1.length=27:=by unfold qAj;rw[if_neg (by omega),if_neg (by omega),if_pos (by omega)]
   refine qF 3 ?_
   simp (disch:=omega) only [go_sem,seval,qB,qX,h3,kK hk.1,kL hk.1,h4,qJ,qK,h5,qY hk,h6,qT,qS,z0,z1,hE,List.map_nil,qF5,xS,List.getD_cons_zero,List.getD_cons_succ,List.length_cons,List.length_nil]
   all_goals repeat refine And.intro rfl ?_
   all_goals rfl
  ·have zz:True:=trivial
   by_cases p1:0<d1.length
   ·have zz:True:=trivial
    have hE:qAj 0 0 loc n 2 d0.length d1.length=27:=by unfold qAj;rw[if_neg (by omega),if_neg (by omega),if_pos (by omega)]
    refine qF 3 ?_
    simp (disch:=omega) only [go_sem,seval,qB,qX,h3,kK hk.1,kL hk.1,h4,qJ,qK,h5,qY hk,h6,qT,qS,z0,z1,hE,List.map_nil,qF5,xS,List.getD_cons_zero,List.getD_cons_succ,List.length_cons,List.length_nil]
    all_goals repeat refine And.intro rfl ?_
    all_goals rfl
   ·have zz:True:=trivial
    refine qF 3 ?_
    simp (disch:=omega) only [go_sem,seval,qB,qX,h3,kK hk.1,kL hk.1,h4,qJ,qK,h5,qY hk,h6,qT,qS,z0,z1]
    all_goals repeat refine And.intro rfl ?_
    refine jQ (fs':=[(2,.t (.int .i64 (n:Nat))),(3,.t (.sl [bsT d0,bsT d1])),(4,.ref 4096 0 0),(8,.ref 4112 0 0),(56,.t (.sl [bsT d0,bsT d1])),(57,.t (.int .i64 2)),(58,.t (.int .i64 0))]) (hs':=[(4112,.live 2 [.agg [.nil,.t (.int .i64 0)]] true true),(4096,.live 2 [.t (vY [b0,b1] u)] true true)]) (qI.rd id ?_ ?_ rfl) ?_
    ·simp (disch:=omega) only [go_sem,seval,id]
    ·simp (disch:=omega) only [go_sem,seval,id]
    have hE:qAj 0 0 loc n 2 d0.length d1.length=0:=by unfold qAj;rw[if_neg (by omega),if_neg (by omega),if_neg (by omega),if_neg (by omega)]
    refine qF 3 ?_
    simp (disch:=omega) only [go_sem,seval,qB,zE,h3,kK hk.1,kL hk.1,h4,qJ,qK,h5,qY hk,h6,qT,qS,z0,z1]
    all_goals repeat refine And.intro rfl ?_
    refine qD 2 (fun k=>match k with | 0=>[(2,.t (.int .i64 (n:Nat))),(3,.t (.sl [bsT d0,bsT d1])),(4,.ref 4096 0 0),(8,.ref 4112 0 0),(14,.ref 73760 0 0),(79,.t (.int .i64 2)),(80,.t (.int .i64 0))] | 1=>[(2,.t (.int .i64 (n:Nat))),(3,.t (.sl [bsT d0,bsT d1])),(4,.ref 4096 0 0),(8,.ref 4112 0 0),(14,.ref 73760 0 0),(79,.t (.int .i64 2)),(80,.t (.int .i64 1))] | _=>[(2,.t (.int .i64 (n:Nat))),(3,.t (.sl [bsT d0,bsT d1])),(4,.ref 4096 0 0),(8,.ref 4112 0 0),(14,.ref 73760 0 0),(79,.t (.int .i64 2)),(80,.t (.int .i64 2))]) (fun k=>match k with | 0=>[(73760,.live 2 [.agg [.sl 73744 0 2,.t (.int .i64 u)]] true true),(73746,.live 1 (((b1).map bsT).map V.t) true false),(73745,.live 1 (((b0).map bsT).map V.t) true false),(73744,.live 1 [.sl 73745 0 0,.sl 73746 0 0] true false),(4112,.live 2 [.agg [.nil,.t (.int .i64 0)]] true true),(4096,.live 2 [.t (vY [b0,b1] u)] true true)] | 1=>[(73760,.live 2 [.agg [.sl 73744 0 2,.t (.int .i64 u)]] true true),(73746,.live 1 (((b1).map bsT).map V.t) true false),(73745,.live 1 (((vS 0 b0 n d0).map bsT).map V.t) true false),(73744,.live 1 [.sl 73745 0 0,.sl 73746 0 0] true false),(4112,.live 2 [.agg [.nil,.t (.int .i64 0)]] true true),(4096,.live 2 [.t (vY [b0,b1] u)] true true)] | _=>[(73760,.live 2 [.agg [.sl 73744 0 2,.t (.int .i64 u)]] true true),(73746,.live 1 (((vS 1 b1 n d1).map bsT).map V.t) true false),(73745,.live 1 (((vS 0 b0 n d0).map bsT).map V.t) true false),(73744,.live 1 [.sl 73745 0 0,.sl 73746 0 0] true false),(4112,.live 2 [.agg [.nil,.t (.int .i64 0)]] true true),(4096,.live 2 [.t (vY [b0,b1] u)] true true)]) ?_ (fun k hk2=>?_)
    ·refine qI.rd id ?_ ?_ rfl
     all_goals simp (disch:=omega) only [go_sem,seval,id,z0,z1]
    ·rcases (show k=0∨k=1∨k=2 by omega) with rfl | rfl | rfl
     ·have q:=List.take_of_length_le (show (b0.getD n []++d0).length≤(List.getD b0 n []).length+d0.length by rw[List.length_append];exact Nat.le_refl _)
      simp (disch:=omega) only [go_sem,seval,qR,h3,kK hk.1,kL hk.1,h4,qJ,qK,h5,qY hk,h6,qT,qS,z0,z1,qG,q]
      refine qI.rd id ?_ ?_ rfl
      all_goals simp (disch:=omega) only [go_sem,seval,id,vS,z0,z1]
     ·have q:=List.take_of_length_le (show (b1.getD n []++d1).length≤(List.getD b1 n []).length+d1.length by rw[List.length_append];exact Nat.le_refl _)
      simp (disch:=omega) only [go_sem,seval,qR,h3,kK hk.1,kL hk.1,h4,qJ,qK,h5,qY hk,h6,qT,qS,z0,z1,qG,q]
      refine qI.rd id ?_ ?_ rfl
      all_goals simp (disch:=omega) only [go_sem,seval,id,vS,z0,z1]
     ·have t0:List.take 0 (vS 0 b0 n d0)=vS 0 b0 n d0:=List.take_of_length_le (by rw[qG,z0];exact Nat.le_refl _)
      have t1:List.take 0 (vS 1 b1 n d1)=vS 1 b1 n d1:=List.take_of_length_le (by rw[qG,z1];exact Nat.le_refl _)
      have y0:vS 0 b0 n d0=[]:=List.eq_nil_of_length_eq_zero (by rw[qG,z0])
      have y1:vS 1 b1 n d1=[]:=List.eq_nil_of_length_eq_zero (by rw[qG,z1])
      simp (disch:=omega) only [go_sem,seval,qR,qG,t0,t1,z0,z1,hE,qG1,Int.toNat_natCast,List.map_cons,List.map_nil,y0,y1,qF5,xS,List.getD_cons_zero,List.getD_cons_succ,List.length_cons,List.length_nil]
 ·have zz:True:=trivial
  by_cases p1:0<d0.length
  ·have zz:True:=trivial
   have hE:qAj 0 16 loc n 2 d0.length d1.length=27:=by unfold qAj;rw[if_neg (by omega),if_neg (by omega),if_pos (by omega)]
   refine qF 3 ?_
   simp (disch:=omega) only [go_sem,seval,qB,qX,h3,kK hk.1,kL hk.1,h4,qJ,qK,h5,qY hk,h6,qT,qS,z0,z1,hE,List.map_nil,qF5,xS,List.getD_cons_zero,List.getD_cons_succ,List.length_cons,List.length_nil]
   all_goals repeat refine And.intro rfl ?_
   all_goals rfl
  ·have zz:True:=trivial
   refine qF 3 ?_
   simp (disch:=omega) only [go_sem,seval,qB,qX,h3,kK hk.1,kL hk.1,h4,qJ,qK,h5,qY hk,h6,qT,qS,z0,z1]
   all_goals repeat refine And.intro rfl ?_
   refine jQ (fs':=[(2,.t (.int .i64 (n:Nat))),(3,.t (.sl [bsT d0,bsT d1])),(4,.ref 4096 0 0),(8,.ref 4112 0 0),(56,.t (.sl [bsT d0,bsT d1])),(57,.t (.int .i64 2)),(58,.t (.int .i64 0))]) (hs':=[(4112,.live 2 [.agg [.nil,.t (.int .i64 0)]] true true),(4096,.live 2 [.t (vY [b0,b1] u)] true true)]) (qI.rd id ?_ ?_ rfl) ?_
   ·simp (disch:=omega) only [go_sem,seval,id]
   ·simp (disch:=omega) only [go_sem,seval,id]
   by_cases q1:d1.length≠32
   ·have zz:True:=trivial
    have hE:qAj 0 16 loc n 2 d0.length d1.length=24:=by unfold qAj;rw[if_neg (by omega),if_neg (by omega),if_neg (by omega),if_pos (by omega)]
    refine qF 3 ?_
    simp (disch:=omega) only [go_sem,seval,qB,zE,h3,kK hk.1,kL hk.1,h4,qJ,qK,h5,qY hk,h6,qT,qS,z0,z1,hE,List.map_nil,qF5,xS,List.getD_cons_zero,List.getD_cons_succ,List.length_cons,List.length_nil]
    all_goals repeat refine And.intro rfl ?_
    all_goals rfl
   ·have zz:True:=trivial
    have hE:qAj 0 16 loc n 2 d0.length d1.length=0:=by unfold qAj;rw[if_neg (by omega),if_neg (by omega),if_neg (by omega),if_neg (by omega)]
    refine qF 3 ?_
    simp (disch:=omega) only [go_sem,seval,qB,zE,h3,kK hk.1,kL hk.1,h4,qJ,qK,h5,qY hk,h6,qT,qS,z0,z1]
    all_goals repeat refine And.intro rfl ?_
    refine qD 2 (fun k=>match k with | 0=>[(2,.t (.int .i64 (n:Nat))),(3,.t (.sl [bsT d0,bsT d1])),(4,.ref 4096 0 0),(8,.ref 4112 0 0),(14,.ref 73760 0 0),(79,.t (.int .i64 2)),(80,.t (.int .i64 0))] | 1=>[(2,.t (.int .i64 (n:Nat))),(3,.t (.sl [bsT d0,bsT d1])),(4,.ref 4096 0 0),(8,.ref 4112 0 0),(14,.ref 73760 0 0),(79,.t (.int .i64 2)),(80,.t (.int .i64 1))] | _=>[(2,.t (.int .i64 (n:Nat))),(3,.t (.sl [bsT d0,bsT d1])),(4,.ref 4096 0 0),(8,.ref 4112 0 0),(14,.ref 73760 0 0),(79,.t (.int .i64 2)),(80,.t (.int .i64 2))]) (fun k=>match k with | 0=>[(73760,.live 2 [.agg [.sl 73744 0 2,.t (.int .i64 u)]] true true),(73746,.live 1 (((b1).map bsT).map V.t) true false),(73745,.live 1 (((b0).map bsT).map V.t) true false),(73744,.live 1 [.sl 73745 0 0,.sl 73746 0 16] true false),(4112,.live 2 [.agg [.nil,.t (.int .i64 0)]] true true),(4096,.live 2 [.t (vY [b0,b1] u)] true true)] | 1=>[(73760,.live 2 [.agg [.sl 73744 0 2,.t (.int .i64 u)]] true true),(73746,.live 1 (((b1).map bsT).map V.t) true false),(73745,.live 1 (((vS 0 b0 n d0).map bsT).map V.t) true false),(73744,.live 1 [.sl 73745 0 0,.sl 73746 0 16] true false),(4112,.live 2 [.agg [.nil,.t (.int .i64 0)]] true true),(4096,.live 2 [.t (vY [b0,b1] u)] true true)] | _=>[(73760,.live 2 [.agg [.sl 73744 0 2,.t (.int .i64 u)]] true true),(73746,.live 1 (((vS 1 b1 n d1).map bsT).map V.t) true false),(73745,.live 1 (((vS 0 b0 n d0).map bsT).map V.t) true false),(73744,.live 1 [.sl 73745 0 0,.sl 73746 0 16] true false),(4112,.live 2 [.agg [.nil,.t (.int .i64 0)]] true true),(4096,.live 2 [.t (vY [b0,b1] u)] true true)]) ?_ (fun k hk2=>?_)
    ·refine qI.rd id ?_ ?_ rfl
     all_goals simp (disch:=omega) only [go_sem,seval,id,z0,z1]
    ·rcases (show k=0∨k=1∨k=2 by omega) with rfl | rfl | rfl
     ·have q:=List.take_of_length_le (show (b0.getD n []++d0).length≤(List.getD b0 n []).length+d0.length by rw[List.length_append];exact Nat.le_refl _)
      simp (disch:=omega) only [go_sem,seval,qR,h3,kK hk.1,kL hk.1,h4,qJ,qK,h5,qY hk,h6,qT,qS,z0,z1,qG,q]
      refine qI.rd id ?_ ?_ rfl
      all_goals simp (disch:=omega) only [go_sem,seval,id,vS,z0,z1]
     ·have q:=List.take_of_length_le (show (b1.getD n []++d1).length≤(List.getD b1 n []).length+d1.length by rw[List.length_append];exact Nat.le_refl _)
      simp (config := { maxSteps:=2000000 }) (disch:=(first | omega | (simp only[wL,wK];omega))) only [go_sem,seval,qR,h3,kK hk.1,kL hk.1,h4,qJ,qK,h5,qY hk,h6,qT,qS,z0,z1,qG,q]
      repeat refine And.intro rfl ?_
      refine qI.cv (hv:=[]) [94544] id ?_ rfl
      simp (config := { maxSteps:=2000000 }) (disch:=(first | omega | (simp only[wL,wK];omega))) only [go_sem,seval,id,vS,z0,z1,wW,yY,qWs,qWt,jV,qM]
      all_goals rfl
     ·have t0:List.take 0 (vS 0 b0 n d0)=vS 0 b0 n d0:=List.take_of_length_le (by rw[qG,z0];exact Nat.le_refl _)
      have t1:List.take 16 (vS 1 b1 n d1)=vS 1 b1 n d1:=List.take_of_length_le (by rw[qG,z1];exact Nat.le_refl _)
      have y0:vS 0 b0 n d0=[]:=List.eq_nil_of_length_eq_zero (by rw[qG,z0])
      simp (disch:=omega) only [go_sem,seval,qR,qG,t0,t1,z0,z1,hE,qG1,Int.toNat_natCast,List.map_cons,List.map_nil,y0,qF5,xS,List.getD_cons_zero,List.getD_cons_succ,List.length_cons,List.length_nil]
 ·have zz:True:=trivial
  by_cases p1:0<d1.length
  ·have zz:True:=trivial
   have hE:qAj 16 0 loc n 2 d0.length d1.length=27:=by unfold qAj;rw[if_neg (by omega),if_neg (by omega),if_pos (by omega)]
   refine qF 3 ?_
   simp (disch:=omega) only [go_sem,seval,qB,qX,h3,kK hk.1,kL hk.1,h4,qJ,qK,h5,qY hk,h6,qT,qS,z0,z1,hE,List.map_nil,qF5,xS,List.getD_cons_zero,List.getD_cons_succ,List.length_cons,List.length_nil]
   all_goals repeat refine And.intro rfl ?_
   all_goals rfl
  ·have zz:True:=trivial
   refine qF 3 ?_
   simp (disch:=omega) only [go_sem,seval,qB,qX,h3,kK hk.1,kL hk.1,h4,qJ,qK,h5,qY hk,h6,qT,qS,z0,z1]
   all_goals repeat refine And.intro rfl ?_
   refine jQ (fs':=[(2,.t (.int .i64 (n:Nat))),(3,.t (.sl [bsT d0,bsT d1])),(4,.ref 4096 0 0),(8,.ref 4112 0 0),(56,.t (.sl [bsT d0,bsT d1])),(57,.t (.int .i64 2)),(58,.t (.int .i64 0))]) (hs':=[(4112,.live 2 [.agg [.nil,.t (.int .i64 0)]] true true),(4096,.live 2 [.t (vY [b0,b1] u)] true true)]) (qI.rd id ?_ ?_ rfl) ?_
   ·simp (disch:=omega) only [go_sem,seval,id]
   ·simp (disch:=omega) only [go_sem,seval,id]
   by_cases q1:d0.length≠20
   ·have zz:True:=trivial
    have hE:qAj 16 0 loc n 2 d0.length d1.length=24:=by unfold qAj;rw[if_neg (by omega),if_neg (by omega),if_neg (by omega),if_pos (by omega)]
    refine qF 3 ?_
    simp (disch:=omega) only [go_sem,seval,qB,zE,h3,kK hk.1,kL hk.1,h4,qJ,qK,h5,qY hk,h6,qT,qS,z0,z1,hE,List.map_nil,qF5,xS,List.getD_cons_zero,List.getD_cons_succ,List.length_cons,List.length_nil]
    all_goals repeat refine And.intro rfl ?_
    all_goals rfl
   ·have zz:True:=trivial
    have hE:qAj 16 0 loc n 2 d0.length d1.length=0:=by unfold qAj;rw[if_neg (by omega),if_neg (by omega),if_neg (by omega),if_neg (by omega)]
    refine qF 3 ?_
    simp (disch:=omega) only [go_sem,seval,qB,zE,h3,kK hk.1,kL hk.1,h4,qJ,qK,h5,qY hk,h6,qT,qS,z0,z1]
    all_goals repeat refine And.intro rfl ?_
    refine qD 2 (fun k=>match k with | 0=>[(2,.t (.int .i64 (n:Nat))),(3,.t (.sl [bsT d0,bsT d1])),(4,.ref 4096 0 0),(8,.ref 4112 0 0),(14,.ref 73760 0 0),(79,.t (.int .i64 2)),(80,.t (.int .i64 0))] | 1=>[(2,.t (.int .i64 (n:Nat))),(3,.t (.sl [bsT d0,bsT d1])),(4,.ref 4096 0 0),(8,.ref 4112 0 0),(14,.ref 73760 0 0),(79,.t (.int .i64 2)),(80,.t (.int .i64 1))] | _=>[(2,.t (.int .i64 (n:Nat))),(3,.t (.sl [bsT d0,bsT d1])),(4,.ref 4096 0 0),(8,.ref 4112 0 0),(14,.ref 73760 0 0),(79,.t (.int .i64 2)),(80,.t (.int .i64 2))]) (fun k=>match k with | 0=>[(73760,.live 2 [.agg [.sl 73744 0 2,.t (.int .i64 u)]] true true),(73746,.live 1 (((b1).map bsT).map V.t) true false),(73745,.live 1 (((b0).map bsT).map V.t) true false),(73744,.live 1 [.sl 73745 0 16,.sl 73746 0 0] true false),(4112,.live 2 [.agg [.nil,.t (.int .i64 0)]] true true),(4096,.live 2 [.t (vY [b0,b1] u)] true true)] | 1=>[(73760,.live 2 [.agg [.sl 73744 0 2,.t (.int .i64 u)]] true true),(73746,.live 1 (((b1).map bsT).map V.t) true false),(73745,.live 1 (((vS 0 b0 n d0).map bsT).map V.t) true false),(73744,.live 1 [.sl 73745 0 16,.sl 73746 0 0] true false),(4112,.live 2 [.agg [.nil,.t (.int .i64 0)]] true true),(4096,.live 2 [.t (vY [b0,b1] u)] true true)] | _=>[(73760,.live 2 [.agg [.sl 73744 0 2,.t (.int .i64 u)]] true true),(73746,.live 1 (((vS 1 b1 n d1).map bsT).map V.t) true false),(73745,.live 1 (((vS 0 b0 n d0).map bsT).map V.t) true false),(73744,.live 1 [.sl 73745 0 16,.sl 73746 0 0] true false),(4112,.live 2 [.agg [.nil,.t (.int .i64 0)]] true true),(4096,.live 2 [.t (vY [b0,b1] u)] true true)]) ?_ (fun k hk2=>?_)
    ·refine qI.rd id ?_ ?_ rfl
     all_goals simp (disch:=omega) only [go_sem,seval,id,z0,z1]
    ·rcases (show k=0∨k=1∨k=2 by omega) with rfl | rfl | rfl
     ·have q:=List.take_of_length_le (show (b0.getD n []++d0).length≤(List.getD b0 n []).length+d0.length by rw[List.length_append];exact Nat.le_refl _)
      simp (config := { maxSteps:=2000000 }) (disch:=(first | omega | (simp only[wL,wK];omega))) only [go_sem,seval,qR,h3,kK hk.1,kL hk.1,h4,qJ,qK,h5,qY hk,h6,qT,qS,z0,z1,qG,q]
      repeat refine And.intro rfl ?_
      refine qI.cv (hv:=[]) [94544] id ?_ rfl
      simp (config := { maxSteps:=2000000 }) (disch:=(first | omega | (simp only[wL,wK];omega))) only [go_sem,seval,id,vS,z0,z1,wW,yY,qWs,qWt,jV,qM]
      all_goals rfl
     ·have q:=List.take_of_length_le (show (b1.getD n []++d1).length≤(List.getD b1 n []).length+d1.length by rw[List.length_append];exact Nat.le_refl _)
      simp (disch:=omega) only [go_sem,seval,qR,h3,kK hk.1,kL hk.1,h4,qJ,qK,h5,qY hk,h6,qT,qS,z0,z1,qG,q]
      refine qI.rd id ?_ ?_ rfl
      all_goals simp (disch:=omega) only [go_sem,seval,id,vS,z0,z1]
     ·have t0:List.take 16 (vS 0 b0 n d0)=vS 0 b0 n d0:=List.take_of_length_le (by rw[qG,z0];exact Nat.le_refl _)
      have t1:List.take 0 (vS 1 b1 n d1)=vS 1 b1 n d1:=List.take_of_length_le (by rw[qG,z1];exact Nat.le_refl _)
      have y1:vS 1 b1 n d1=[]:=List.eq_nil_of_length_eq_zero (by rw[qG,z1])
      simp (disch:=omega) only [go_sem,seval,qR,qG,t0,t1,z0,z1,hE,qG1,Int.toNat_natCast,List.map_cons,List.map_nil,y1,qF5,xS,List.getD_cons_zero,List.getD_cons_succ,List.length_cons,List.length_nil]
 ·have zz:True:=trivial
  refine qF 3 ?_
  simp (disch:=omega) only [go_sem,seval,qB,qX,h3,kK hk.1,kL hk.1,h4,qJ,qK,h5,qY hk,h6,qT,qS,z0,z1]
  all_goals repeat refine And.intro rfl ?_
  refine jQ (fs':=[(2,.t (.int .i64 (n:Nat))),(3,.t (.sl [bsT d0,bsT d1])),(4,.ref 4096 0 0),(8,.ref 4112 0 0),(56,.t (.sl [bsT d0,bsT d1])),(57,.t (.int .i64 2)),(58,.t (.int .i64 0))]) (hs':=[(4112,.live 2 [.agg [.nil,.t (.int .i64 0)]] true true),(4096,.live 2 [.t (vY [b0,b1] u)] true true)]) (qI.rd id ?_ ?_ rfl) ?_
  ·simp (disch:=omega) only [go_sem,seval,id]
  ·simp (disch:=omega) only [go_sem,seval,id]
  by_cases q2:d0.length≠20
  ·have zz:True:=trivial
   have hE:qAj 16 16 loc n 2 d0.length d1.length=24:=by unfold qAj;rw[if_neg (by omega),if_neg (by omega),if_neg (by omega),if_pos (by omega)]
   refine qF 3 ?_
   simp (disch:=omega) only [go_sem,seval,qB,zE,h3,kK hk.1,kL hk.1,h4,qJ,qK,h5,qY hk,h6,qT,qS,z0,z1,hE,List.map_nil,qF5,xS,List.getD_cons_zero,List.getD_cons_succ,List.length_cons,List.length_nil]
   all_goals repeat refine And.intro rfl ?_
   all_goals rfl
  ·have zz:True:=trivial
   by_cases q1:d1.length≠32
   ·have zz:True:=trivial
    have hE:qAj 16 16 loc n 2 d0.length d1.length=24:=by unfold qAj;rw[if_neg (by omega),if_neg (by omega),if_neg (by omega),if_pos (by omega)]
    refine qF 3 ?_
    simp (disch:=omega) only [go_sem,seval,qB,zE,h3,kK hk.1,kL hk.1,h4,qJ,qK,h5,qY hk,h6,qT,qS,z0,z1,hE,List.map_nil,qF5,xS,List.getD_cons_zero,List.getD_cons_succ,List.length_cons,List.length_nil]
    all_goals repeat refine And.intro rfl ?_
    all_goals rfl
   ·have zz:True:=trivial
    have hE:qAj 16 16 loc n 2 d0.length d1.length=0:=by unfold qAj;rw[if_neg (by omega),if_neg (by omega),if_neg (by omega),if_neg (by omega)]
    refine qF 3 ?_
    simp (disch:=omega) only [go_sem,seval,qB,zE,h3,kK hk.1,kL hk.1,h4,qJ,qK,h5,qY hk,h6,qT,qS,z0,z1]
    all_goals repeat refine And.intro rfl ?_
    refine qD 2 (fun k=>match k with | 0=>[(2,.t (.int .i64 (n:Nat))),(3,.t (.sl [bsT d0,bsT d1])),(4,.ref 4096 0 0),(8,.ref 4112 0 0),(14,.ref 73760 0 0),(79,.t (.int .i64 2)),(80,.t (.int .i64 0))] | 1=>[(2,.t (.int .i64 (n:Nat))),(3,.t (.sl [bsT d0,bsT d1])),(4,.ref 4096 0 0),(8,.ref 4112 0 0),(14,.ref 73760 0 0),(79,.t (.int .i64 2)),(80,.t (.int .i64 1))] | _=>[(2,.t (.int .i64 (n:Nat))),(3,.t (.sl [bsT d0,bsT d1])),(4,.ref 4096 0 0),(8,.ref 4112 0 0),(14,.ref 73760 0 0),(79,.t (.int .i64 2)),(80,.t (.int .i64 2))]) (fun k=>match k with | 0=>[(73760,.live 2 [.agg [.sl 73744 0 2,.t (.int .i64 u)]] true true),(73746,.live 1 (((b1).map bsT).map V.t) true false),(73745,.live 1 (((b0).map bsT).map V.t) true false),(73744,.live 1 [.sl 73745 0 16,.sl 73746 0 16] true false),(4112,.live 2 [.agg [.nil,.t (.int .i64 0)]] true true),(4096,.live 2 [.t (vY [b0,b1] u)] true true)] | 1=>[(73760,.live 2 [.agg [.sl 73744 0 2,.t (.int .i64 u)]] true true),(73746,.live 1 (((b1).map bsT).map V.t) true false),(73745,.live 1 (((vS 0 b0 n d0).map bsT).map V.t) true false),(73744,.live 1 [.sl 73745 0 16,.sl 73746 0 16] true false),(4112,.live 2 [.agg [.nil,.t (.int .i64 0)]] true true),(4096,.live 2 [.t (vY [b0,b1] u)] true true)] | _=>[(73760,.live 2 [.agg [.sl 73744 0 2,.t (.int .i64 u)]] true true),(73746,.live 1 (((vS 1 b1 n d1).map bsT).map V.t) true false),(73745,.live 1 (((vS 0 b0 n d0).map bsT).map V.t) true false),(73744,.live 1 [.sl 73745 0 16,.sl 73746 0 16] true false),(4112,.live 2 [.agg [.nil,.t (.int .i64 0)]] true true),(4096,.live 2 [.t (vY [b0,b1] u)] true true)]) ?_ (fun k hk2=>?_)
    ·refine qI.rd id ?_ ?_ rfl
     all_goals simp (disch:=omega) only [go_sem,seval,id,z0,z1]
    ·rcases (show k=0∨k=1∨k=2 by omega) with rfl | rfl | rfl
     ·have q:=List.take_of_length_le (show (b0.getD n []++d0).length≤(List.getD b0 n []).length+d0.length by rw[List.length_append];exact Nat.le_refl _)
      simp (config := { maxSteps:=2000000 }) (disch:=(first | omega | (simp only[wL,wK];omega))) only [go_sem,seval,qR,h3,kK hk.1,kL hk.1,h4,qJ,qK,h5,qY hk,h6,qT,qS,z0,z1,qG,q]
      repeat refine And.intro rfl ?_
      refine qI.cv (hv:=[]) [94544] id ?_ rfl
      simp (config := { maxSteps:=2000000 }) (disch:=(first | omega | (simp only[wL,wK];omega))) only [go_sem,seval,id,vS,z0,z1,wW,yY,qWs,qWt,jV,qM]
      all_goals rfl
     ·have q:=List.take_of_length_le (show (b1.getD n []++d1).length≤(List.getD b1 n []).length+d1.length by rw[List.length_append];exact Nat.le_refl _)
      simp (config := { maxSteps:=2000000 }) (disch:=(first | omega | (simp only[wL,wK];omega))) only [go_sem,seval,qR,h3,kK hk.1,kL hk.1,h4,qJ,qK,h5,qY hk,h6,qT,qS,z0,z1,qG,q]
      repeat refine And.intro rfl ?_
      refine qI.cv (hv:=[]) [94544] id ?_ rfl
      simp (config := { maxSteps:=2000000 }) (disch:=(first | omega | (simp only[wL,wK];omega))) only [go_sem,seval,id,vS,z0,z1,wW,yY,qWs,qWt,jV,qM]
      all_goals rfl
     ·have t0:List.take 16 (vS 0 b0 n d0)=vS 0 b0 n d0:=List.take_of_length_le (by rw[qG,z0];exact Nat.le_refl _)
      have t1:List.take 16 (vS 1 b1 n d1)=vS 1 b1 n d1:=List.take_of_length_le (by rw[qG,z1];exact Nat.le_refl _)
      simp (disch:=omega) only [go_sem,seval,qR,qG,t0,t1,z0,z1,hE,qG1,Int.toNat_natCast,List.map_cons,List.map_nil,qF5,xS,List.getD_cons_zero,List.getD_cons_succ,List.length_cons,List.length_nil]
theorem qUa (tab:Tab) (gl:Gl) (n1 n2 n3 n4 n5 n6:Nat) (h2:tab.look n1=some qB0.fs) (h3:tab.look n2=some vN.fs) (h4:tab.look n3=some kV.fs) (h5:tab.look n4=some yJ.fs) (h7:tab.look n5=some qF1.fs) (h6:tab.look n6=some kA.fs)
  (b0 b1:jH) (u loc:Int) (n:Nat) (d0 d1:List UInt8) (hu:0≤u∧u<1000000000) (hk:RM [b0,b1]) (hv0:(b0.getD n []).length≤64) (hv1:(b1.getD n []).length≤64) (hd:d0.length<9223372036854775808∧d1.length<9223372036854775808) (e1 : ¬(loc<0∨4<loc∨16≤n)) (e2 : ¬ loc<yV n false) :
  (jG n1 n2 n3 n4 n5 n6).wp tab gl (qE 0 [.t (vY [b0,b1] u),.t (.int .i64 loc),.t (.int .i64 n),.t (.sl [bsT d0,bsT d1])]) (qE 0 []) (zZ [(8,some (2,true)),(9,none)] 0 (fun r o=>r=qF5 [b0,b1] u loc n [d0,d1]∧o=[])):=by
 have gg:qVr b0∧qVr b1:=by
  obtain⟨hrk,_⟩:=hk
  cases hrk with
  | two _ _ h0 h1=>exact⟨h0,h1⟩
 obtain⟨g0,g1⟩:=gg
 have a6 : ¬ yV (n:Int) false=5:=by unfold yV;split<;>(try split)<;>(try split)<;>simp_all
 simp (disch:=omega) only [go_sem,seval,jG,h2,qR9,a6,List.map_nil,List.map_cons]
 refine jQ (fs':=[(2,.t (.int .i64 (n:Nat))),(3,.t (.sl [bsT d0,bsT d1])),(4,.ref 4096 0 0),(8,.ref 4112 0 0),(10,.t (.int .i64 0))]) (hs':=[(4112,.live 2 [.agg [.nil,.t (.int .i64 0)]] true true),(4096,.live 2 [.t (vY [b0,b1] u)] true true)]) (qI.rd id ?_ ?_ rfl) ?_
 ·simp (disch:=omega) only [go_sem,seval,id]
 ·simp (disch:=omega) only [go_sem,seval,id]
 rcases g0 with z0 | z0<;>rcases g1 with z1 | z1
 ·have zz:True:=trivial
  by_cases p2:0<d0.length
  ·have zz:True:=trivial
   have hE:qAj 0 0 loc n 2 d0.length d1.length=27:=by unfold qAj;rw[if_neg (by omega),if_neg (by omega),if_pos (by omega)]
   refine qF 3 ?_
   simp (disch:=omega) only [go_sem,seval,qB,zL,h3,jX hk.1,jY hk.1,h4,qJ,qK,h5,qY hk,h7,jS,h6,qT,qS,z0,z1,hE,List.map_nil,qF5,xS,List.getD_cons_zero,List.getD_cons_succ,List.length_cons,List.length_nil]
   all_goals repeat refine And.intro rfl ?_
   all_goals rfl
  ·have zz:True:=trivial
   by_cases p1:0<d1.length
   ·have zz:True:=trivial
    have hE:qAj 0 0 loc n 2 d0.length d1.length=27:=by unfold qAj;rw[if_neg (by omega),if_neg (by omega),if_pos (by omega)]
    refine qF 3 ?_
    simp (disch:=omega) only [go_sem,seval,qB,zL,h3,jX hk.1,jY hk.1,h4,qJ,qK,h5,qY hk,h7,jS,h6,qT,qS,z0,z1,hE,List.map_nil,qF5,xS,List.getD_cons_zero,List.getD_cons_succ,List.length_cons,List.length_nil]
    all_goals repeat refine And.intro rfl ?_
    all_goals rfl
   ·have zz:True:=trivial
    refine qF 3 ?_
    simp (disch:=omega) only [go_sem,seval,qB,zL,h3,jX hk.1,jY hk.1,h4,qJ,qK,h5,qY hk,h7,jS,h6,qT,qS,z0,z1]
    all_goals repeat refine And.intro rfl ?_
    refine jQ (fs':=[(2,.t (.int .i64 (n:Nat))),(3,.t (.sl [bsT d0,bsT d1])),(4,.ref 4096 0 0),(8,.ref 4112 0 0),(11,.t (.int .i64 0))]) (hs':=[(4112,.live 2 [.agg [.nil,.t (.int .i64 0)]] true true),(4096,.live 2 [.t (vY [b0,b1] u)] true true)]) (qI.rd id ?_ ?_ rfl) ?_
    ·simp (disch:=omega) only [go_sem,seval,id]
    ·simp (disch:=omega) only [go_sem,seval,id]
    have hE:qAj 0 0 loc n 2 d0.length d1.length=0:=by unfold qAj;rw[if_neg (by omega),if_neg (by omega),if_neg (by omega),if_neg (by omega)]
    refine qF 3 ?_
    simp (disch:=omega) only [go_sem,seval,qB,zY,h3,jX hk.1,jY hk.1,h4,qJ,qK,h5,qY hk,h7,jS,h6,qT,qS,z0,z1]
    all_goals repeat refine And.intro rfl ?_
    refine qD 2 (fun k=>match k with | 0=>[(2,.t (.int .i64 (n:Nat))),(3,.t (.sl [bsT d0,bsT d1])),(4,.ref 4096 0 0),(8,.ref 4112 0 0),(12,.ref 65568 0 0),(13,.t (.int .i64 0))] | 1=>[(2,.t (.int .i64 (n:Nat))),(3,.t (.sl [bsT d0,bsT d1])),(4,.ref 4096 0 0),(8,.ref 4112 0 0),(12,.ref 65568 0 0),(13,.t (.int .i64 1))] | _=>[(2,.t (.int .i64 (n:Nat))),(3,.t (.sl [bsT d0,bsT d1])),(4,.ref 4096 0 0),(8,.ref 4112 0 0),(12,.ref 65568 0 0),(13,.t (.int .i64 2))]) (fun k=>match k with | 0=>[(65568,.live 2 [.agg [.sl 65552 0 2,.t (.int .i64 u)]] true true),(65554,.live 1 (((b1).map bsT).map V.t) true false),(65553,.live 1 (((b0).map bsT).map V.t) true false),(65552,.live 1 [.sl 65553 0 0,.sl 65554 0 0] true false),(4112,.live 2 [.agg [.nil,.t (.int .i64 0)]] true true),(4096,.live 2 [.t (vY [b0,b1] u)] true true)] | 1=>[(65568,.live 2 [.agg [.sl 65552 0 2,.t (.int .i64 u)]] true true),(65554,.live 1 (((b1).map bsT).map V.t) true false),(65553,.live 1 (((vS 0 b0 n d0).map bsT).map V.t) true false),(65552,.live 1 [.sl 65553 0 0,.sl 65554 0 0] true false),(4112,.live 2 [.agg [.nil,.t (.int .i64 0)]] true true),(4096,.live 2 [.t (vY [b0,b1] u)] true true)] | _=>[(65568,.live 2 [.agg [.sl 65552 0 2,.t (.int .i64 u)]] true true),(65554,.live 1 (((vS 1 b1 n d1).map bsT).map V.t) true false),(65553,.live 1 (((vS 0 b0 n d0).map bsT).map V.t) true false),(65552,.live 1 [.sl 65553 0 0,.sl 65554 0 0] true false),(4112,.live 2 [.agg [.nil,.t (.int .i64 0)]] true true),(4096,.live 2 [.t (vY [b0,b1] u)] true true)]) ?_ (fun k hk2=>?_)
    ·refine qI.rd id ?_ ?_ rfl
     all_goals simp (disch:=omega) only [go_sem,seval,id,z0,z1]
    ·rcases (show k=0∨k=1∨k=2 by omega) with rfl | rfl | rfl
     ·have q:=List.take_of_length_le (show (b0.getD n []++d0).length≤(List.getD b0 n []).length+d0.length by rw[List.length_append];exact Nat.le_refl _)
      simp (disch:=omega) only [go_sem,seval,zD,h3,jX hk.1,jY hk.1,h4,qJ,qK,h5,qY hk,h7,jS,h6,qT,qS,z0,z1,qG,q]
      refine qI.rd id ?_ ?_ rfl
      all_goals simp (disch:=omega) only [go_sem,seval,id,vS,z0,z1]
     ·have q:=List.take_of_length_le (show (b1.getD n []++d1).length≤(List.getD b1 n []).length+d1.length by rw[List.length_append];exact Nat.le_refl _)
      simp (disch:=omega) only [go_sem,seval,zD,h3,jX hk.1,jY hk.1,h4,qJ,qK,h5,qY hk,h7,jS,h6,qT,qS,z0,z1,qG,q]
      refine qI.rd id ?_ ?_ rfl
      all_goals simp (disch:=omega) only [go_sem,seval,id,vS,z0,z1]
     ·have t0:List.take 0 (vS 0 b0 n d0)=vS 0 b0 n d0:=List.take_of_length_le (by rw[qG,z0];exact Nat.le_refl _)
      have t1:List.take 0 (vS 1 b1 n d1)=vS 1 b1 n d1:=List.take_of_length_le (by rw[qG,z1];exact Nat.le_refl _)
      have y0:vS 0 b0 n d0=[]:=List.eq_nil_of_length_eq_zero (by rw[qG,z0])
      have y1:vS 1 b1 n d1=[]:=List.eq_nil_of_length_eq_zero (by rw[qG,z1])
      simp (disch:=omega) only [go_sem,seval,zD,qG,t0,t1,z0,z1,hE,qG1,Int.toNat_natCast,List.map_cons,List.map_nil,y0,y1,qF5,xS,List.getD_cons_zero,List.getD_cons_succ,List.length_cons,List.length_nil]
 ·have zz:True:=trivial
  by_cases p1:0<d0.length
  ·have zz:True:=trivial
   have hE:qAj 0 16 loc n 2 d0.length d1.length=27:=by unfold qAj;rw[if_neg (by omega),if_neg (by omega),if_pos (by omega)]
   refine qF 3 ?_
   simp (disch:=omega) only [go_sem,seval,qB,zL,h3,jX hk.1,jY hk.1,h4,qJ,qK,h5,qY hk,h7,jS,h6,qT,qS,z0,z1,hE,List.map_nil,qF5,xS,List.getD_cons_zero,List.getD_cons_succ,List.length_cons,List.length_nil]
   all_goals repeat refine And.intro rfl ?_
   all_goals rfl
  ·have zz:True:=trivial
   refine qF 3 ?_
   simp (disch:=omega) only [go_sem,seval,qB,zL,h3,jX hk.1,jY hk.1,h4,qJ,qK,h5,qY hk,h7,jS,h6,qT,qS,z0,z1]
   all_goals repeat refine And.intro rfl ?_
   refine jQ (fs':=[(2,.t (.int .i64 (n:Nat))),(3,.t (.sl [bsT d0,bsT d1])),(4,.ref 4096 0 0),(8,.ref 4112 0 0),(11,.t (.int .i64 0))]) (hs':=[(4112,.live 2 [.agg [.nil,.t (.int .i64 0)]] true true),(4096,.live 2 [.t (vY [b0,b1] u)] true true)]) (qI.rd id ?_ ?_ rfl) ?_
   ·simp (disch:=omega) only [go_sem,seval,id]
   ·simp (disch:=omega) only [go_sem,seval,id]
   by_cases q1:d1.length≠32
   ·have zz:True:=trivial
    have hE:qAj 0 16 loc n 2 d0.length d1.length=24:=by unfold qAj;rw[if_neg (by omega),if_neg (by omega),if_neg (by omega),if_pos (by omega)]
    refine qF 3 ?_
    simp (disch:=omega) only [go_sem,seval,qB,zY,h3,jX hk.1,jY hk.1,h4,qJ,qK,h5,qY hk,h7,jS,h6,qT,qS,z0,z1,hE,List.map_nil,qF5,xS,List.getD_cons_zero,List.getD_cons_succ,List.length_cons,List.length_nil]
    all_goals repeat refine And.intro rfl ?_
    all_goals rfl
   ·have zz:True:=trivial
    have hE:qAj 0 16 loc n 2 d0.length d1.length=0:=by unfold qAj;rw[if_neg (by omega),if_neg (by omega),if_neg (by omega),if_neg (by omega)]
    refine qF 3 ?_
    simp (disch:=omega) only [go_sem,seval,qB,zY,h3,jX hk.1,jY hk.1,h4,qJ,qK,h5,qY hk,h7,jS,h6,qT,qS,z0,z1]
    all_goals repeat refine And.intro rfl ?_
    refine qD 2 (fun k=>match k with | 0=>[(2,.t (.int .i64 (n:Nat))),(3,.t (.sl [bsT d0,bsT d1])),(4,.ref 4096 0 0),(8,.ref 4112 0 0),(12,.ref 65568 0 0),(13,.t (.int .i64 0))] | 1=>[(2,.t (.int .i64 (n:Nat))),(3,.t (.sl [bsT d0,bsT d1])),(4,.ref 4096 0 0),(8,.ref 4112 0 0),(12,.ref 65568 0 0),(13,.t (.int .i64 1))] | _=>[(2,.t (.int .i64 (n:Nat))),(3,.t (.sl [bsT d0,bsT d1])),(4,.ref 4096 0 0),(8,.ref 4112 0 0),(12,.ref 65568 0 0),(13,.t (.int .i64 2))]) (fun k=>match k with | 0=>[(65568,.live 2 [.agg [.sl 65552 0 2,.t (.int .i64 u)]] true true),(65554,.live 1 (((b1).map bsT).map V.t) true false),(65553,.live 1 (((b0).map bsT).map V.t) true false),(65552,.live 1 [.sl 65553 0 0,.sl 65554 0 16] true false),(4112,.live 2 [.agg [.nil,.t (.int .i64 0)]] true true),(4096,.live 2 [.t (vY [b0,b1] u)] true true)] | 1=>[(65568,.live 2 [.agg [.sl 65552 0 2,.t (.int .i64 u)]] true true),(65554,.live 1 (((b1).map bsT).map V.t) true false),(65553,.live 1 (((vS 0 b0 n d0).map bsT).map V.t) true false),(65552,.live 1 [.sl 65553 0 0,.sl 65554 0 16] true false),(4112,.live 2 [.agg [.nil,.t (.int .i64 0)]] true true),(4096,.live 2 [.t (vY [b0,b1] u)] true true)] | _=>[(65568,.live 2 [.agg [.sl 65552 0 2,.t (.int .i64 u)]] true true),(65554,.live 1 (((vS 1 b1 n d1).map bsT).map V.t) true false),(65553,.live 1 (((vS 0 b0 n d0).map bsT).map V.t) true false),(65552,.live 1 [.sl 65553 0 0,.sl 65554 0 16] true false),(4112,.live 2 [.agg [.nil,.t (.int .i64 0)]] true true),(4096,.live 2 [.t (vY [b0,b1] u)] true true)]) ?_ (fun k hk2=>?_)
    ·refine qI.rd id ?_ ?_ rfl
     all_goals simp (disch:=omega) only [go_sem,seval,id,z0,z1]
    ·rcases (show k=0∨k=1∨k=2 by omega) with rfl | rfl | rfl
     ·have q:=List.take_of_length_le (show (b0.getD n []++d0).length≤(List.getD b0 n []).length+d0.length by rw[List.length_append];exact Nat.le_refl _)
      simp (disch:=omega) only [go_sem,seval,zD,h3,jX hk.1,jY hk.1,h4,qJ,qK,h5,qY hk,h7,jS,h6,qT,qS,z0,z1,qG,q]
      refine qI.rd id ?_ ?_ rfl
      all_goals simp (disch:=omega) only [go_sem,seval,id,vS,z0,z1]
     ·have q:=List.take_of_length_le (show (b1.getD n []++d1).length≤(List.getD b1 n []).length+d1.length by rw[List.length_append];exact Nat.le_refl _)
      simp (config := { maxSteps:=2000000 }) (disch:=(first | omega | (simp only[wL,wK];omega))) only [go_sem,seval,zD,h3,jX hk.1,jY hk.1,h4,qJ,qK,h5,qY hk,h7,jS,h6,qT,qS,z0,z1,qG,q]
      repeat refine And.intro rfl ?_
      refine qI.cv (hv:=[]) [86352] id ?_ rfl
      simp (config := { maxSteps:=2000000 }) (disch:=(first | omega | (simp only[wL,wK];omega))) only [go_sem,seval,id,vS,z0,z1,wW,yY,qWs,qWt,jV,qM]
      all_goals rfl
     ·have t0:List.take 0 (vS 0 b0 n d0)=vS 0 b0 n d0:=List.take_of_length_le (by rw[qG,z0];exact Nat.le_refl _)
      have t1:List.take 16 (vS 1 b1 n d1)=vS 1 b1 n d1:=List.take_of_length_le (by rw[qG,z1];exact Nat.le_refl _)
      have y0:vS 0 b0 n d0=[]:=List.eq_nil_of_length_eq_zero (by rw[qG,z0])
      simp (disch:=omega) only [go_sem,seval,zD,qG,t0,t1,z0,z1,hE,qG1,Int.toNat_natCast,List.map_cons,List.map_nil,y0,qF5,xS,List.getD_cons_zero,List.getD_cons_succ,List.length_cons,List.length_nil]
 ·have zz:True:=trivial
  by_cases p1:0<d1.length
  ·have zz:True:=trivial
   have hE:qAj 16 0 loc n 2 d0.length d1.length=27:=by unfold qAj;rw[if_neg (by omega),if_neg (by omega),if_pos (by omega)]
   refine qF 3 ?_
   simp (disch:=omega) only [go_sem,seval,qB,zL,h3,jX hk.1,jY hk.1,h4,qJ,qK,h5,qY hk,h7,jS,h6,qT,qS,z0,z1,hE,List.map_nil,qF5,xS,List.getD_cons_zero,List.getD_cons_succ,List.length_cons,List.length_nil]
   all_goals repeat refine And.intro rfl ?_
   all_goals rfl
  ·have zz:True:=trivial
   refine qF 3 ?_
   simp (disch:=omega) only [go_sem,seval,qB,zL,h3,jX hk.1,jY hk.1,h4,qJ,qK,h5,qY hk,h7,jS,h6,qT,qS,z0,z1]
   all_goals repeat refine And.intro rfl ?_
   refine jQ (fs':=[(2,.t (.int .i64 (n:Nat))),(3,.t (.sl [bsT d0,bsT d1])),(4,.ref 4096 0 0),(8,.ref 4112 0 0),(11,.t (.int .i64 0))]) (hs':=[(4112,.live 2 [.agg [.nil,.t (.int .i64 0)]] true true),(4096,.live 2 [.t (vY [b0,b1] u)] true true)]) (qI.rd id ?_ ?_ rfl) ?_
   ·simp (disch:=omega) only [go_sem,seval,id]
   ·simp (disch:=omega) only [go_sem,seval,id]
   by_cases q1:d0.length≠20
   ·have zz:True:=trivial
    have hE:qAj 16 0 loc n 2 d0.length d1.length=24:=by unfold qAj;rw[if_neg (by omega),if_neg (by omega),if_neg (by omega),if_pos (by omega)]
    refine qF 3 ?_
    simp (disch:=omega) only [go_sem,seval,qB,zY,h3,jX hk.1,jY hk.1,h4,qJ,qK,h5,qY hk,h7,jS,h6,qT,qS,z0,z1,hE,List.map_nil,qF5,xS,List.getD_cons_zero,List.getD_cons_succ,List.length_cons,List.length_nil]
    all_goals repeat refine And.intro rfl ?_
    all_goals rfl
   ·have zz:True:=trivial
    have hE:qAj 16 0 loc n 2 d0.length d1.length=0:=by unfold qAj;rw[if_neg (by omega),if_neg (by omega),if_neg (by omega),if_neg (by omega)]
    refine qF 3 ?_
    simp (disch:=omega) only [go_sem,seval,qB,zY,h3,jX hk.1,jY hk.1,h4,qJ,qK,h5,qY hk,h7,jS,h6,qT,qS,z0,z1]
    all_goals repeat refine And.intro rfl ?_
    refine qD 2 (fun k=>match k with | 0=>[(2,.t (.int .i64 (n:Nat))),(3,.t (.sl [bsT d0,bsT d1])),(4,.ref 4096 0 0),(8,.ref 4112 0 0),(12,.ref 65568 0 0),(13,.t (.int .i64 0))] | 1=>[(2,.t (.int .i64 (n:Nat))),(3,.t (.sl [bsT d0,bsT d1])),(4,.ref 4096 0 0),(8,.ref 4112 0 0),(12,.ref 65568 0 0),(13,.t (.int .i64 1))] | _=>[(2,.t (.int .i64 (n:Nat))),(3,.t (.sl [bsT d0,bsT d1])),(4,.ref 4096 0 0),(8,.ref 4112 0 0),(12,.ref 65568 0 0),(13,.t (.int .i64 2))]) (fun k=>match k with | 0=>[(65568,.live 2 [.agg [.sl 65552 0 2,.t (.int .i64 u)]] true true),(65554,.live 1 (((b1).map bsT).map V.t) true false),(65553,.live 1 (((b0).map bsT).map V.t) true false),(65552,.live 1 [.sl 65553 0 16,.sl 65554 0 0] true false),(4112,.live 2 [.agg [.nil,.t (.int .i64 0)]] true true),(4096,.live 2 [.t (vY [b0,b1] u)] true true)] | 1=>[(65568,.live 2 [.agg [.sl 65552 0 2,.t (.int .i64 u)]] true true),(65554,.live 1 (((b1).map bsT).map V.t) true false),(65553,.live 1 (((vS 0 b0 n d0).map bsT).map V.t) true false),(65552,.live 1 [.sl 65553 0 16,.sl 65554 0 0] true false),(4112,.live 2 [.agg [.nil,.t (.int .i64 0)]] true true),(4096,.live 2 [.t (vY [b0,b1] u)] true true)] | _=>[(65568,.live 2 [.agg [.sl 65552 0 2,.t (.int .i64 u)]] true true),(65554,.live 1 (((vS 1 b1 n d1).map bsT).map V.t) true false),(65553,.live 1 (((vS 0 b0 n d0).map bsT).map V.t) true false),(65552,.live 1 [.sl 65553 0 16,.sl 65554 0 0] true false),(4112,.live 2 [.agg [.nil,.t (.int .i64 0)]] true true),(4096,.live 2 [.t (vY [b0,b1] u)] true true)]) ?_ (fun k hk2=>?_)
    ·refine qI.rd id ?_ ?_ rfl
     all_goals simp (disch:=omega) only [go_sem,seval,id,z0,z1]
    ·rcases (show k=0∨k=1∨k=2 by omega) with rfl | rfl | rfl
     ·have q:=List.take_of_length_le (show (b0.getD n []++d0).length≤(List.getD b0 n []).length+d0.length by rw[List.length_append];exact Nat.le_refl _)
      simp (config := { maxSteps:=2000000 }) (disch:=(first | omega | (simp only[wL,wK];omega))) only [go_sem,seval,zD,h3,jX hk.1,jY hk.1,h4,qJ,qK,h5,qY hk,h7,jS,h6,qT,qS,z0,z1,qG,q]
      repeat refine And.intro rfl ?_
      refine qI.cv (hv:=[]) [86352] id ?_ rfl
      simp (config := { maxSteps:=2000000 }) (disch:=(first | omega | (simp only[wL,wK];omega))) only [go_sem,seval,id,vS,z0,z1,wW,yY,qWs,qWt,jV,qM]
      all_goals rfl
     ·have q:=List.take_of_length_le (show (b1.getD n []++d1).length≤(List.getD b1 n []).length+d1.length by rw[List.length_append];exact Nat.le_refl _)
      simp (disch:=omega) only [go_sem,seval,zD,h3,jX hk.1,jY hk.1,h4,qJ,qK,h5,qY hk,h7,jS,h6,qT,qS,z0,z1,qG,q]
      refine qI.rd id ?_ ?_ rfl
      all_goals simp (disch:=omega) only [go_sem,seval,id,vS,z0,z1]
     ·have t0:List.take 16 (vS 0 b0 n d0)=vS 0 b0 n d0:=List.take_of_length_le (by rw[qG,z0];exact Nat.le_refl _)
      have t1:List.take 0 (vS 1 b1 n d1)=vS 1 b1 n d1:=List.take_of_length_le (by rw[qG,z1];exact Nat.le_refl _)
      have y1:vS 1 b1 n d1=[]:=List.eq_nil_of_length_eq_zero (by rw[qG,z1])
      simp (disch:=omega) only [go_sem,seval,zD,qG,t0,t1,z0,z1,hE,qG1,Int.toNat_natCast,List.map_cons,List.map_nil,y1,qF5,xS,List.getD_cons_zero,List.getD_cons_succ,List.length_cons,List.length_nil]
 ·have zz:True:=trivial
  refine qF 3 ?_
  simp (disch:=omega) only [go_sem,seval,qB,zL,h3,jX hk.1,jY hk.1,h4,qJ,qK,h5,qY hk,h7,jS,h6,qT,qS,z0,z1]
  all_goals repeat refine And.intro rfl ?_
  refine jQ (fs':=[(2,.t (.int .i64 (n:Nat))),(3,.t (.sl [bsT d0,bsT d1])),(4,.ref 4096 0 0),(8,.ref 4112 0 0),(11,.t (.int .i64 0))]) (hs':=[(4112,.live 2 [.agg [.nil,.t (.int .i64 0)]] true true),(4096,.live 2 [.t (vY [b0,b1] u)] true true)]) (qI.rd id ?_ ?_ rfl) ?_
  ·simp (disch:=omega) only [go_sem,seval,id]
  ·simp (disch:=omega) only [go_sem,seval,id]
  by_cases q2:d0.length≠20
  ·have zz:True:=trivial
   have hE:qAj 16 16 loc n 2 d0.length d1.length=24:=by unfold qAj;rw[if_neg (by omega),if_neg (by omega),if_neg (by omega),if_pos (by omega)]
   refine qF 3 ?_
   simp (disch:=omega) only [go_sem,seval,qB,zY,h3,jX hk.1,jY hk.1,h4,qJ,qK,h5,qY hk,h7,jS,h6,qT,qS,z0,z1,hE,List.map_nil,qF5,xS,List.getD_cons_zero,List.getD_cons_succ,List.length_cons,List.length_nil]
   all_goals repeat refine And.intro rfl ?_
   all_goals rfl
  ·have zz:True:=trivial
   by_cases q1:d1.length≠32
   ·have zz:True:=trivial
    have hE:qAj 16 16 loc n 2 d0.length d1.length=24:=by unfold qAj;rw[if_neg (by omega),if_neg (by omega),if_neg (by omega),if_pos (by omega)]
    refine qF 3 ?_
    simp (disch:=omega) only [go_sem,seval,qB,zY,h3,jX hk.1,jY hk.1,h4,qJ,qK,h5,qY hk,h7,jS,h6,qT,qS,z0,z1,hE,List.map_nil,qF5,xS,List.getD_cons_zero,List.getD_cons_succ,List.length_cons,List.length_nil]
    all_goals repeat refine And.intro rfl ?_
    all_goals rfl
   ·have zz:True:=trivial
    have hE:qAj 16 16 loc n 2 d0.length d1.length=0:=by unfold qAj;rw[if_neg (by omega),if_neg (by omega),if_neg (by omega),if_neg (by omega)]
    refine qF 3 ?_
    simp (disch:=omega) only [go_sem,seval,qB,zY,h3,jX hk.1,jY hk.1,h4,qJ,qK,h5,qY hk,h7,jS,h6,qT,qS,z0,z1]
    all_goals repeat refine And.intro rfl ?_
    refine qD 2 (fun k=>match k with | 0=>[(2,.t (.int .i64 (n:Nat))),(3,.t (.sl [bsT d0,bsT d1])),(4,.ref 4096 0 0),(8,.ref 4112 0 0),(12,.ref 65568 0 0),(13,.t (.int .i64 0))] | 1=>[(2,.t (.int .i64 (n:Nat))),(3,.t (.sl [bsT d0,bsT d1])),(4,.ref 4096 0 0),(8,.ref 4112 0 0),(12,.ref 65568 0 0),(13,.t (.int .i64 1))] | _=>[(2,.t (.int .i64 (n:Nat))),(3,.t (.sl [bsT d0,bsT d1])),(4,.ref 4096 0 0),(8,.ref 4112 0 0),(12,.ref 65568 0 0),(13,.t (.int .i64 2))]) (fun k=>match k with | 0=>[(65568,.live 2 [.agg [.sl 65552 0 2,.t (.int .i64 u)]] true true),(65554,.live 1 (((b1).map bsT).map V.t) true false),(65553,.live 1 (((b0).map bsT).map V.t) true false),(65552,.live 1 [.sl 65553 0 16,.sl 65554 0 16] true false),(4112,.live 2 [.agg [.nil,.t (.int .i64 0)]] true true),(4096,.live 2 [.t (vY [b0,b1] u)] true true)] | 1=>[(65568,.live 2 [.agg [.sl 65552 0 2,.t (.int .i64 u)]] true true),(65554,.live 1 (((b1).map bsT).map V.t) true false),(65553,.live 1 (((vS 0 b0 n d0).map bsT).map V.t) true false),(65552,.live 1 [.sl 65553 0 16,.sl 65554 0 16] true false),(4112,.live 2 [.agg [.nil,.t (.int .i64 0)]] true true),(4096,.live 2 [.t (vY [b0,b1] u)] true true)] | _=>[(65568,.live 2 [.agg [.sl 65552 0 2,.t (.int .i64 u)]] true true),(65554,.live 1 (((vS 1 b1 n d1).map bsT).map V.t) true false),(65553,.live 1 (((vS 0 b0 n d0).map bsT).map V.t) true false),(65552,.live 1 [.sl 65553 0 16,.sl 65554 0 16] true false),(4112,.live 2 [.agg [.nil,.t (.int .i64 0)]] true true),(4096,.live 2 [.t (vY [b0,b1] u)] true true)]) ?_ (fun k hk2=>?_)
    ·refine qI.rd id ?_ ?_ rfl
     all_goals simp (disch:=omega) only [go_sem,seval,id,z0,z1]
    ·rcases (show k=0∨k=1∨k=2 by omega) with rfl | rfl | rfl
     ·have q:=List.take_of_length_le (show (b0.getD n []++d0).length≤(List.getD b0 n []).length+d0.length by rw[List.length_append];exact Nat.le_refl _)
      simp (config := { maxSteps:=2000000 }) (disch:=(first | omega | (simp only[wL,wK];omega))) only [go_sem,seval,zD,h3,jX hk.1,jY hk.1,h4,qJ,qK,h5,qY hk,h7,jS,h6,qT,qS,z0,z1,qG,q]
      repeat refine And.intro rfl ?_
      refine qI.cv (hv:=[]) [86352] id ?_ rfl
      simp (config := { maxSteps:=2000000 }) (disch:=(first | omega | (simp only[wL,wK];omega))) only [go_sem,seval,id,vS,z0,z1,wW,yY,qWs,qWt,jV,qM]
      all_goals rfl
     ·have q:=List.take_of_length_le (show (b1.getD n []++d1).length≤(List.getD b1 n []).length+d1.length by rw[List.length_append];exact Nat.le_refl _)
      simp (config := { maxSteps:=2000000 }) (disch:=(first | omega | (simp only[wL,wK];omega))) only [go_sem,seval,zD,h3,jX hk.1,jY hk.1,h4,qJ,qK,h5,qY hk,h7,jS,h6,qT,qS,z0,z1,qG,q]
      repeat refine And.intro rfl ?_
      refine qI.cv (hv:=[]) [86352] id ?_ rfl
      simp (config := { maxSteps:=2000000 }) (disch:=(first | omega | (simp only[wL,wK];omega))) only [go_sem,seval,id,vS,z0,z1,wW,yY,qWs,qWt,jV,qM]
      all_goals rfl
     ·have t0:List.take 16 (vS 0 b0 n d0)=vS 0 b0 n d0:=List.take_of_length_le (by rw[qG,z0];exact Nat.le_refl _)
      have t1:List.take 16 (vS 1 b1 n d1)=vS 1 b1 n d1:=List.take_of_length_le (by rw[qG,z1];exact Nat.le_refl _)
      simp (disch:=omega) only [go_sem,seval,zD,qG,t0,t1,z0,z1,hE,qG1,Int.toNat_natCast,List.map_cons,List.map_nil,qF5,xS,List.getD_cons_zero,List.getD_cons_succ,List.length_cons,List.length_nil]
theorem qG4 (tab:Tab) (gl:Gl) (n1 n2 n3 n4 n5 n6:Nat) (h1:tab.look n1=some qAa.fs) (h2:tab.look n2=some qEk.fs) (bk:List jH) (u loc i:Int) (ds:List (List UInt8)) (hd:ds.length<1000000000)
  (hb:(loc<0∨4<loc∨i<0∨16≤i∨ds.length≠2)∨loc<yV i false) :
  (zF n1 n2 n3 n4 n5 n6).wp tab gl (qE 0 [.t (vY bk u),.t (.int .i64 loc),.t (.int .i64 i),.t (.sl (ds.map bsT))]) (qE 0 []) (zZ [(8,some (2,true)),(9,none)] 0 (fun r o=>r = .tup [.t (vY [] 0),.t (.int .i64 (if loc<0∨4<loc∨i<0∨16≤i∨ds.length≠2 then 1 else 13))]∧o=[])):=by
 by_cases a1:loc<0
 ·simp (disch:=omega) only [go_sem,seval,zF,a1,List.map_nil]
 ·by_cases a2:4<loc
  ·simp (disch:=omega) only [go_sem,seval,zF,a1,a2,List.map_nil]
  ·by_cases a3:i<0
   ·simp (disch:=omega) only [go_sem,seval,zF,a1,a2,a3,h1,zKy,List.map_nil]
   ·by_cases a4:16≤i
    ·simp (disch:=omega) only [go_sem,seval,zF,a1,a2,a3,a4,h1,zKy,List.map_nil]
    ·by_cases a5:ds.length=2
     ·have a6:loc<yV i false:=by rcases hb with h | h;(omega);(exact h)
      simp (disch:=omega) only [go_sem,seval,zF,a1,a2,a3,a4,a5,a6,h1,qV2,h2,qV5,List.map_nil,ne_eq]
     ·simp (disch:=omega) only [go_sem,seval,zF,a1,a2,a3,a4,a5,h1,qV2,List.map_nil,ne_eq]
theorem qNq (tab:Tab) (gl:Gl) (n1 n2 n3 n4 n5 n6:Nat) (h2:tab.look n1=some qB0.fs) (bk:List jH) (u loc i:Int) (ds:List (List UInt8)) (hd:ds.length<1000000000)
  (hb:(loc<0∨4<loc∨i<0∨16≤i∨ds.length≠2)∨loc<yV i false) :
  (jG n1 n2 n3 n4 n5 n6).wp tab gl (qE 0 [.t (vY bk u),.t (.int .i64 loc),.t (.int .i64 i),.t (.sl (ds.map bsT))]) (qE 0 []) (zZ [(8,some (2,true)),(9,none)] 0 (fun r o=>r = .tup [.t (vY [] 0),.t (.int .i64 (if loc<0∨4<loc∨i<0∨16≤i∨ds.length≠2 then 1 else 13))]∧o=[])):=by
 have a7 : ¬ yV i false=5:=by unfold yV;split<;>(try split)<;>(try split)<;>simp_all
 by_cases a1:loc<0
 ·simp (disch:=omega) only [go_sem,seval,jG,a1,List.map_nil]
 ·by_cases a2:4<loc
  ·simp (disch:=omega) only [go_sem,seval,jG,a1,a2,List.map_nil]
  ·by_cases a3:i<0
   ·simp (disch:=omega) only [go_sem,seval,jG,a1,a2,a3,List.map_nil]
   ·by_cases a4:16≤i
    ·simp (disch:=omega) only [go_sem,seval,jG,a1,a2,a3,a4,List.map_nil]
    ·by_cases a5:ds.length=2
     ·have a6:loc<yV i false:=by rcases hb with h | h;(omega);(exact h)
      simp (disch:=omega) only [go_sem,seval,jG,a1,a2,a3,a4,a5,a6,a7,h2,qR9,List.map_nil,ne_eq]
     ·simp (disch:=omega) only [go_sem,seval,jG,a1,a2,a3,a4,a5,List.map_nil,ne_eq]
theorem zEe {u:Int} {a:Nat} (ha:a<2):vN.fs [.t (.agg [.sl [],.int .i64 u]),.t (.int .i64 a)] []=some (.t (.bool false),[]):=(zBd (bk:=[]) .nil (by omega)).trans (by simp[onB])
theorem qKs (tab:Tab) (gl:Gl) (n1 n2 n3 n4 n5 n6:Nat) (h1:tab.look n1=some qAa.fs) (h2:tab.look n2=some qEk.fs) (h3:tab.look n3=some qJ7.fs) (h5:tab.look n5=some yJ.fs)
  (u loc:Int) (n:Nat) (d0 d1:List UInt8) (hu:0≤u∧u<1000000000) (hd:d0.length<9223372036854775808∧d1.length<9223372036854775808) (e1 : ¬(loc<0∨4<loc∨16≤n)) (e2 : ¬ loc<yV n false) :
  (zF n1 n2 n3 n4 n5 n6).wp tab gl (qE 0 [.t (vY [] u),.t (.int .i64 loc),.t (.int .i64 n),.t (.sl [bsT d0,bsT d1])]) (qE 0 []) (zZ [(8,some (2,true)),(9,none)] 0 (fun r o=>r=qF5 [] u loc n [d0,d1]∧o=[])):=by
 have c0:=zTd (u:=u) (a:=0) (by omega)
 have c1:=zTd (u:=u) (a:=1) (by omega)
 rw[show ((0:Nat):Int)=0 from rfl] at c0
 rw[show ((1:Nat):Int)=1 from rfl] at c1
 simp (disch:=omega) only [go_sem,seval,zF,h1,qV2,h2,qV5,List.map_nil,List.map_cons]
 refine jQ (fs':=[(2,.t (.int .i64 (n:Nat))),(3,.t (.sl [bsT d0,bsT d1])),(4,.ref 4096 0 0),(8,.ref 4112 0 0),(38,.t (.sl [bsT d0,bsT d1])),(39,.t (.int .i64 2)),(40,.t (.int .i64 0))]) (hs':=[(4112,.live 2 [.agg [.nil,.t (.int .i64 0)]] true true),(4096,.live 2 [.t (vY [] u)] true true)]) (qI.rd id ?_ ?_ rfl) ?_
 ·simp (disch:=omega) only [go_sem,seval,id]
 ·simp (disch:=omega) only [go_sem,seval,id,List.map_nil]
 by_cases p:0<d0.length∨0<d1.length
 ·have hE:qAj 0 0 loc n 2 d0.length d1.length=27:=by unfold qAj;rw[if_neg (by omega),if_neg (by omega),if_pos (by omega)]
  by_cases p0:0<d0.length
  ·refine qF 3 ?_
   simp (disch:=omega) only [go_sem,seval,qB,qX,h3,c0,c1,hE,List.map_nil,qF5,xS,List.getD_nil,List.getD_cons_zero,List.getD_cons_succ,List.length_cons,List.length_nil]
  ·refine qF 3 ?_
   simp (disch:=omega) only [go_sem,seval,qB,qX,h3,c0,c1,hE,List.map_nil,qF5,xS,List.getD_nil,List.getD_cons_zero,List.getD_cons_succ,List.length_cons,List.length_nil]
 ·have hE:qAj 0 0 loc n 2 d0.length d1.length=0:=by unfold qAj;rw[if_neg (by omega),if_neg (by omega),if_neg (by omega),if_neg (by omega)]
  refine qF 3 ?_
  simp (disch:=omega) only [go_sem,seval,qB,qX,h3,c0,c1,List.map_nil]
  refine qF 3 ?_
  simp (disch:=omega) only [go_sem,seval,qB,zE,h3,c0,c1,h5,zGa,List.map_nil]
  refine qF 1 ?_
  simp (disch:=omega) only [go_sem,seval,qB,qR,hE,List.map_nil,qF5,xS,qG1,List.getD_nil,List.getD_cons_zero,List.getD_cons_succ,List.length_cons,List.length_nil]
theorem qT9 (tab:Tab) (gl:Gl) (n1 n2 n3 n4 n5 n6:Nat) (h2:tab.look n1=some qB0.fs) (h3:tab.look n2=some vN.fs) (h5:tab.look n4=some yJ.fs)
  (u loc:Int) (n:Nat) (d0 d1:List UInt8) (hu:0≤u∧u<1000000000) (hd:d0.length<9223372036854775808∧d1.length<9223372036854775808) (e1 : ¬(loc<0∨4<loc∨16≤n)) (e2 : ¬ loc<yV n false) :
  (jG n1 n2 n3 n4 n5 n6).wp tab gl (qE 0 [.t (vY [] u),.t (.int .i64 loc),.t (.int .i64 n),.t (.sl [bsT d0,bsT d1])]) (qE 0 []) (zZ [(8,some (2,true)),(9,none)] 0 (fun r o=>r=qF5 [] u loc n [d0,d1]∧o=[])):=by
 have a6 : ¬ yV (n:Int) false=5:=by unfold yV;split<;>(try split)<;>(try split)<;>simp_all
 have c0:=zEe (u:=u) (a:=0) (by omega)
 have c1:=zEe (u:=u) (a:=1) (by omega)
 rw[show ((0:Nat):Int)=0 from rfl] at c0
 rw[show ((1:Nat):Int)=1 from rfl] at c1
 simp (disch:=omega) only [go_sem,seval,jG,h2,qR9,a6,List.map_nil,List.map_cons]
 refine jQ (fs':=[(2,.t (.int .i64 (n:Nat))),(3,.t (.sl [bsT d0,bsT d1])),(4,.ref 4096 0 0),(8,.ref 4112 0 0),(10,.t (.int .i64 0))]) (hs':=[(4112,.live 2 [.agg [.nil,.t (.int .i64 0)]] true true),(4096,.live 2 [.t (vY [] u)] true true)]) (qI.rd id ?_ ?_ rfl) ?_
 ·simp (disch:=omega) only [go_sem,seval,id]
 ·simp (disch:=omega) only [go_sem,seval,id,List.map_nil]
 by_cases p:0<d0.length∨0<d1.length
 ·have hE:qAj 0 0 loc n 2 d0.length d1.length=27:=by unfold qAj;rw[if_neg (by omega),if_neg (by omega),if_pos (by omega)]
  by_cases p0:0<d0.length
  ·refine qF 3 ?_
   simp (disch:=omega) only [go_sem,seval,qB,zL,h3,c0,c1,hE,List.map_nil,qF5,xS,List.getD_nil,List.getD_cons_zero,List.getD_cons_succ,List.length_cons,List.length_nil]
   all_goals repeat refine And.intro rfl ?_
   all_goals rfl
  ·refine qF 3 ?_
   simp (disch:=omega) only [go_sem,seval,qB,zL,h3,c0,c1,hE,List.map_nil,qF5,xS,List.getD_nil,List.getD_cons_zero,List.getD_cons_succ,List.length_cons,List.length_nil]
   all_goals repeat refine And.intro rfl ?_
   all_goals rfl
 ·have hE:qAj 0 0 loc n 2 d0.length d1.length=0:=by unfold qAj;rw[if_neg (by omega),if_neg (by omega),if_neg (by omega),if_neg (by omega)]
  refine qF 3 ?_
  simp (disch:=omega) only [go_sem,seval,qB,zL,h3,c0,c1,List.map_nil]
  all_goals repeat refine And.intro rfl ?_
  refine qF 3 ?_
  simp (disch:=omega) only [go_sem,seval,qB,zY,h3,c0,c1,h5,zGa,List.map_nil]
  all_goals repeat refine And.intro rfl ?_
  refine qF 3 ?_
  simp (disch:=omega) only [go_sem,seval,qB,zD,h3,c0,c1,hE,List.map_nil,qF5,xS,qG1,List.getD_nil,List.getD_cons_zero,List.getD_cons_succ,List.length_cons,List.length_nil]
def RV (bk:List jH):Prop:=RK bk ∧ ∀ b∈bk,∀ x∈b,x.length≤64
theorem RV.rm {bk:List jH} (h:RV bk):RM bk:=by
 refine⟨h.1,fun b hb=>⟨?_,fun x hx=>Nat.lt_of_le_of_lt (h.2 b hb x hx) (by omega)⟩⟩
 have:qVr b:=by
  obtain⟨hk,_⟩:=h
  cases hk with
  | nil=>simp at hb
  | two b0 b1 h0 h1=>
   simp only[List.mem_cons,List.not_mem_nil,or_false] at hb
   rcases hb with rfl | rfl
   ·exact h0
   ·exact h1
 rcases this with h | h<;>omega
theorem qM6 {b:jH} {m n:Nat} (h : ∀ x∈b,x.length≤m):(b.getD n []).length≤m:=by
 by_cases hi:n<List.length b
 ·have:b.getD n []=b[n]:=by simp[List.getD,hi]
  rw[this];exact h _ (List.getElem_mem hi)
 ·simp[List.getD,List.getElem?_eq_none (Nat.le_of_not_lt hi)]
abbrev zYp:=List jH×Int×Int×Int×List (List UInt8)
def zY6 (x:zYp):Prop:=RV x.1∧(0≤x.2.1∧x.2.1<1000000000)∧x.2.2.2.2.length<1000000000 ∧ ∀ d∈x.2.2.2.2,d.length<9223372036854775808
def kI:Ct where
 α:=zYp
 as x:=[.t (vY x.1 x.2.1),.t (.int .i64 x.2.2.1),.t (.int .i64 x.2.2.2.1),.t (.sl (x.2.2.2.2.map bsT))]
 ins _:=[]
 pre:=zY6
 r x:=qF5 x.1 x.2.1 x.2.2.1 x.2.2.2.1 x.2.2.2.2
 outs _:=[]
 inj:=by
  rintro⟨a,u,l,i,ds⟩ ⟨b,v,l',i',ds'⟩ h _
  simp only[List.cons.injEq,V.t.injEq,T.int.injEq,T.sl.injEq,true_and,and_true,qA6] at h
  obtain⟨h1,rfl,rfl,rfl⟩:=h
  obtain⟨rfl,rfl⟩:=qIr h1
  exact⟨rfl,rfl⟩
theorem zE2 {bk:List jH} {u loc i:Int} {ds:List (List UInt8)} (hb:(loc<0∨4<loc∨i<0∨16≤i∨ds.length≠2)∨loc<yV i false) :
  qF5 bk u loc i ds = .tup [.t (vY [] 0),.t (.int .i64 (if loc<0∨4<loc∨i<0∨16≤i∨ds.length≠2 then 1 else 13))]:=by
 have he:qAj (bk.getD 0 []).length (bk.getD 1 []).length loc i ds.length (ds.getD 0 []).length (ds.getD 1 []).length=if loc<0∨4<loc∨i<0∨16≤i∨ds.length≠2 then 1 else 13:=by
  unfold qAj
  by_cases h:loc<0∨4<loc∨i<0∨16≤i∨ds.length≠2
  ·rw[if_pos h,if_pos h]
  ·have h2:loc<yV i false:=by rcases hb with h' | h';exact absurd h' h;exact h'
   rw[if_neg h,if_neg h,if_pos h2]
 unfold qF5
 rw[he]
 split
 ·split at *<;>simp_all
 ·rfl
theorem qMv (tab:Tab) (gl:Gl) (n1 n2 n3 n4 n5 n6:Nat) (h1:tab.look n1=some qAa.fs) (h2:tab.look n2=some qEk.fs) (h3:tab.look n3=some qJ7.fs) (h4:tab.look n4=some kV.fs) (h5:tab.look n5=some yJ.fs) (h6:tab.look n6=some kA.fs) (x:kI.α) (hx:kI.pre x) :
  (zF n1 n2 n3 n4 n5 n6).wp tab gl (qE 0 (kI.as x)) (qE 0 (kI.ins x)) (zZ [(8,some (2,true)),(9,none)] (kI.ins x).length (fun r o=>r=kI.r x∧o=kI.outs x)):=by
 obtain⟨bk,u,loc,i,ds⟩:=x
 obtain⟨hv,hu,hd,hd2⟩:=hx
 simp only[kI] at *
 by_cases hb:(loc<0∨4<loc∨i<0∨16≤i∨ds.length≠2)∨loc<yV i false
 ·rw[zE2 hb]
  exact qG4 tab gl n1 n2 n3 n4 n5 n6 h1 h2 bk u loc i ds hd hb
 ·obtain⟨n,rfl⟩:=Int.eq_ofNat_of_zero_le (show 0≤i by omega)
  match ds,hd2,hb with
  | [d0,d1],hd2,hb=>
   have m0:=hd2 d0 (by simp)
   have m1:=hd2 d1 (by simp)
   have e1 : ¬(loc<0∨4<loc∨16≤n):=by omega
   have e2 : ¬ loc<yV n false:=by omega
   have hm:=hv.rm
   obtain⟨hk,hl⟩:=hv
   cases hk with
   | nil=>exact qKs tab gl n1 n2 n3 n4 n5 n6 h1 h2 h3 h5 u loc n d0 d1 hu ⟨m0,m1⟩ e1 e2
   | two b0 b1 g0 g1=>exact qKt tab gl n1 n2 n3 n4 n5 n6 h1 h2 h3 h4 h5 h6 b0 b1 u loc n d0 d1 hu hm (qM6 (hl b0 (by simp))) (qM6 (hl b1 (by simp))) ⟨m0,m1⟩ e1 e2
  | [],_,hb=>simp at hb
  | [_],_,hb=>simp at hb
  | _::_::_::_,_,hb=>simp at hb
theorem qXn (tab:Tab) (gl:Gl) (n1 n2 n3 n4 n5 n6:Nat) (h2:tab.look n1=some qB0.fs) (h3:tab.look n2=some vN.fs) (h4:tab.look n3=some kV.fs) (h5:tab.look n4=some yJ.fs) (h7:tab.look n5=some qF1.fs) (h6:tab.look n6=some kA.fs) (x:kI.α) (hx:kI.pre x) :
  (jG n1 n2 n3 n4 n5 n6).wp tab gl (qE 0 (kI.as x)) (qE 0 (kI.ins x)) (zZ [(8,some (2,true)),(9,none)] (kI.ins x).length (fun r o=>r=kI.r x∧o=kI.outs x)):=by
 obtain⟨bk,u,loc,i,ds⟩:=x
 obtain⟨hv,hu,hd,hd2⟩:=hx
 simp only[kI] at *
 by_cases hb:(loc<0∨4<loc∨i<0∨16≤i∨ds.length≠2)∨loc<yV i false
 ·rw[zE2 hb]
  exact qNq tab gl n1 n2 n3 n4 n5 n6 h2 bk u loc i ds hd hb
 ·obtain⟨n,rfl⟩:=Int.eq_ofNat_of_zero_le (show 0≤i by omega)
  match ds,hd2,hb with
  | [d0,d1],hd2,hb=>
   have m0:=hd2 d0 (by simp)
   have m1:=hd2 d1 (by simp)
   have e1 : ¬(loc<0∨4<loc∨16≤n):=by omega
   have e2 : ¬ loc<yV n false:=by omega
   have hm:=hv.rm
   obtain⟨hk,hl⟩:=hv
   cases hk with
   | nil=>exact qT9 tab gl n1 n2 n3 n4 n5 n6 h2 h3 h5 u loc n d0 d1 hu ⟨m0,m1⟩ e1 e2
   | two b0 b1 g0 g1=>exact qUa tab gl n1 n2 n3 n4 n5 n6 h2 h3 h4 h5 h7 h6 b0 b1 u loc n d0 d1 hu hm (qM6 (hl b0 (by simp))) (qM6 (hl b1 (by simp))) ⟨m0,m1⟩ e1 e2
  | [],_,hb=>simp at hb
  | [_],_,hb=>simp at hb
  | _::_::_::_,_,hb=>simp at hb
def qCx:Ct where
 α:=List (List UInt8)×List (List UInt8)
 as x:=[.t (.sl (x.1.map bsT)),.t (.sl (x.2.map bsT))]
 ins _:=[]
 pre x:=zA6 x.1∧zA6 x.2
 r x:= .t (.bool (decide (x.1=x.2)))
 outs _:=[]
 inj:=by
  rintro⟨a,b⟩ ⟨c,d⟩ h _
  simp[qA6] at h
  obtain⟨rfl,rfl⟩:=h
  exact⟨rfl,rfl⟩
theorem qV7 {a:jH} (h:zA6 a):qCx.fs [.t (.sl (a.map bsT)),.t (.sl (a.map bsT))] []=some (.t (.bool true),[]):=by
 refine (qCx.eq (a,a) ⟨h,h⟩).trans ?_
 simp[qCx]
theorem RM.bank {bk:List jH} (h:RM bk) (a:Nat):zA6 (bk.getD a []):=by
 by_cases ha:a<bk.length
 ·have e:bk.getD a []=bk[a]:=by simp[List.getD,ha]
  rw[e];exact h.2 _ (List.getElem_mem ha)
 ·have e:bk.getD a []=[]:=by simp[List.getD,List.getElem?_eq_none (Nat.le_of_not_lt ha)]
  rw[e];exact⟨by simp,by simp⟩
def xL:Ct where
 α:=Int
 as s:=[.t (.int .i64 s)]
 ins _:=[]
 pre _:=True
 r s:=twR (qBn s) 0
 outs s:=twO (qBn s)
 inj:=by
  rintro a b h _
  simp only[List.cons.injEq,V.t.injEq,T.int.injEq,true_and,and_true] at h
  subst h
  exact⟨rfl,rfl⟩
theorem zLh {a:Nat} (ha:a<2):qVr (qD1 a):= .inr qL
theorem zLg {a:Nat} (ha:a<2) : ∀ x∈qD1 a,x.length≤64:=by
 intro x hx
 simp only[qD1,List.mem_map,List.mem_range] at hx
 obtain⟨i,_,rfl⟩:=hx
 simp only[List.length_replicate]
 have:a=0∨a=1:=by omega
 rcases this with rfl | rfl<;>decide
theorem zPx {s:Int}:RV (qBn s):=by
 unfold qBn
 split
 ·exact⟨.nil,by simp⟩
 ·refine⟨.two _ _ ?_ ?_,?_⟩
  ·split
   ·exact zLh (by omega)
   ·exact .inl rfl
  ·split
   ·exact zLh (by omega)
   ·exact .inl rfl
  ·intro b hb
   simp only[List.mem_cons,List.not_mem_nil,or_false] at hb
   rcases hb with rfl | rfl
   ·split
    ·exact zLg (by omega)
    ·simp
   ·split
    ·exact zLg (by omega)
    ·simp
def qEj:Ct where
 α:=Unit
 as _:=[]
 ins _:=[]
 pre _:=True
 r _:= .t (.bool true)
 outs _:=[]
 inj:=by rintro a b h _;exact⟨rfl,rfl⟩
theorem qEg:qEj.fs [] []=some (.t (.bool true),[]):=qEj.eq () trivial
end Go.Eng
end
section
set_option maxRecDepth 20000
namespace Go.Eng
theorem qKw (tab:Tab) (gl:Gl) (n1 n2:Nat) (h1:tab.look n1=some qDm.fs) (h2:tab.look n2=some qJ9.fs) (x:(kU 5 qCk).α) (hx:(kU 5 qCk).pre x) :
  (qAb n1 n2).wp tab gl (qE 0 ((kU 5 qCk).as x)) (qE 0 ((kU 5 qCk).ins x)) (zZ [] ((kU 5 qCk).ins x).length (fun r o=>r=(kU 5 qCk).r x∧o=(kU 5 qCk).outs x)):=by
 obtain⟨hs,bs⟩:=x
 obtain⟨hb,hh⟩:=hx
 match hs,hh with
 | [x0,x1,x2,x3,x4],_=>exact qMq tab gl n1 n2 h1 h2 bs x0 x1 x2 x3 x4 hb
theorem qKx (tab:Tab) (gl:Gl) (x:wT.α) (hx:wT.pre x) :
  vL.wp tab gl (qE 0 (wT.as x)) (qE 0 (wT.ins x)) (zZ [(2,none)] (wT.ins x).length (fun r o=>r=wT.r x∧o=wT.outs x)):=by
 obtain⟨bk,u⟩:=x
 have hx':RK bk:=hx
 clear hx
 cases hx' with
 | nil=>exact qKu tab gl u
 | two b0 b1 h0 h1=>exact qKv tab gl b0 b1 (by rcases h0 with h | h<;>omega) (by rcases h1 with h | h<;>omega) u
theorem qNv (tab:Tab) (gl:Gl) (x:yJ.α) (hx:yJ.pre x) :
  wJ.wp tab gl (qE 0 (yJ.as x)) (qE 0 (yJ.ins x)) (xM [] [(2,some (2,true))] (yJ.ins x).length (fun r o=>r=yJ.r x∧o=yJ.outs x)):=by
 obtain⟨bk,u⟩:=x
 obtain⟨hk,hm⟩:=hx
 have hk':RK bk:=hk
 clear hk
 cases hk' with
 | nil=>exact qNt tab gl u
 | two b0 b1 h0 h1=>exact qNu tab gl b0 b1 u (hm b0 (.head _)) (hm b1 (.tail _ (.head _)))
theorem qPk (tab:Tab) (gl:Gl) (n1 n2:Nat) (h1:tab.look n1=some kV.fs) (h2:tab.look n2=some wZ.fs) (x:xL.α) :
  (yI n1 n2).wp tab gl (qE 0 (xL.as x)) (qE 0 (xL.ins x)) (xM [] [(2,some (2,true))] (xL.ins x).length (fun r o=>r=xL.r x∧o=xL.outs x)):=by
 have x':Int:=x
 by_cases h:(show Int from x)%4=0
 ·have:=qPh tab gl n1 n2 x h
  show (yI n1 n2).wp tab gl (qE 0 [.t (.int .i64 x)]) (qE 0 []) (xM [] [(2,some (2,true))] 0 (fun r o=>r=twR (qBn x) 0∧o=twO (qBn x)))
  have e:qBn x=[]:=if_pos h
  rw[e];exact this
 ·exact qS4 tab gl n1 n2 h1 h2 x h
theorem zD8 (tab:Tab) (gl:Gl) (n1:Nat) (h1:tab.look n1=some qE1.fs) (x:xL.α) :
  (kT n1).wp tab gl (qE 0 (xL.as x)) (qE 0 (xL.ins x)) (xM [] [(2,some (2,true))] (xL.ins x).length (fun r o=>r=xL.r x∧o=xL.outs x)):=by
 by_cases h:(show Int from x)%4=0
 ·have:=zD3 tab gl n1 x h
  show (kT n1).wp tab gl (qE 0 [.t (.int .i64 x)]) (qE 0 []) (xM [] [(2,some (2,true))] 0 (fun r o=>r=twR (qBn x) 0∧o=twO (qBn x)))
  have e:qBn x=[]:=if_pos h
  rw[e];exact this
 ·exact zIg tab gl n1 h1 x h
theorem zAv (tab:Tab) (gl:Gl) (x:wZ.α) (hx:wZ.pre x) :
  qHj.wp tab gl (qE 0 (wZ.as x)) (qE 0 (wZ.ins x)) (xM [] [(4,none)] (wZ.ins x).length (fun r o=>r=wZ.r x∧o=wZ.outs x)):=by
 obtain⟨n,x⟩:=x
 have hx':n=20∨n=32:=hx
 exact zD4 tab gl x n (by omega)
theorem qUh (tab:Tab) (gl:Gl) (x:vN.α) (hx:vN.pre x) :
  xT.wp tab gl (qE 0 (vN.as x)) (qE 0 (vN.ins x)) (zZ [(4,none)] (vN.ins x).length (fun r o=>r=vN.r x∧o=vN.outs x)):=by
 obtain⟨bk,u,a⟩:=x
 obtain⟨hk,ha⟩:=hx
 have hk':RK bk:=hk
 have ha':a<1000000000:=ha
 refine qXl tab gl bk u a ha' ?_ ?_
 ·cases hk'<;>simp
 ·intro b hb
  clear hk
  cases hk' with
  | nil=>simp at hb
  | two b0 b1 h0 h1=>
   simp only[List.mem_cons,List.not_mem_nil,or_false] at hb
   rcases hb with rfl | rfl
   ·rcases h0 with h | h<;>omega
   ·rcases h1 with h | h<;>omega
end Go.Eng
end
section
set_option maxRecDepth 20000
set_option maxHeartbeats 16000000
namespace Go.Eng
def stN (x:List UInt8) (b:jH):Nat→jH
 | 0=>b
 | k+1=>(stN x b k).set (12+k) x
theorem qU6 {x:List UInt8} {b:jH} {k:Nat}:List.length (stN x b k)=List.length b:=by
 induction k with
 | zero=>rfl
 | succ k ih=>simp only[stN,List.length_set,ih]
def jAw (bk:List jH):List jH:=match bk with
 | [b0,b1]=>[stN (List.replicate 20 255) b0 4,stN (List.replicate 32 255) b1 4]
 | bk=>bk
end Go.Eng
end
section
set_option maxRecDepth 20000
set_option maxHeartbeats 16000000
namespace Go.Eng
theorem zAu (tab:Tab) (gl:Gl) (n1:Nat) (h1:tab.look n1=some qF1.fs) (x:yJ.α) (hx:yJ.pre x) :
  (qBz n1).wp tab gl (qE 0 (yJ.as x)) (qE 0 (yJ.ins x)) (xM [] [(2,some (2,true))] (yJ.ins x).length (fun r o=>r=yJ.r x∧o=yJ.outs x)):=by
 obtain⟨bk,u⟩:=x
 obtain⟨hk,hm⟩:=hx
 have hk':RK bk:=hk
 clear hk
 cases hk' with
 | nil=>exact zAn tab gl n1 u
 | two b0 b1 h0 h1'=>exact zAo tab gl n1 h1 b0 b1 u (hm b0 (.head _)) (hm b1 (.tail _ (.head _)))
theorem RV.of2 {b0 b1:jH} (h0:qVr b0) (h1:qVr b1) (m0 : ∀ x∈b0,x.length≤64) (m1 : ∀ x∈b1,x.length≤64):RV [b0,b1]:=by
 refine⟨.two _ _ h0 h1,fun b hb=>?_⟩
 simp only[List.mem_cons,List.not_mem_nil,or_false] at hb
 rcases hb with rfl | rfl
 ·exact m0
 ·exact m1
theorem qPp {b c:jH} (h:qVr b) (hl:List.length c=List.length b):qVr c:=by
 rcases h with h | h
 ·exact .inl (by rw[hl,h])
 ·exact .inr (by rw[hl,h])
theorem zTs {b:jH} {i:Nat} {y:List UInt8} (h : ∀ x∈b,x.length≤64) (hy:y.length≤64) : ∀ x∈b.set i y,x.length≤64:=by
 intro x hx
 rcases List.mem_or_eq_of_mem_set hx with h1 | rfl
 ·exact h x h1
 ·exact hy
theorem RV.cases {bk:List jH} (h:RV bk):bk=[] ∨ ∃ b0 b1,bk=[b0,b1]∧qVr b0∧qVr b1∧(∀ x∈b0,x.length≤64)∧(∀ x∈b1,x.length≤64):=by
 obtain⟨hk,hm⟩:=h
 cases hk with
 | nil=>exact .inl rfl
 | two b0 b1 h0 h1=>exact .inr ⟨b0,b1,rfl,h0,h1,hm b0 (.head _),hm b1 (.tail _ (.head _))⟩
theorem zJ6 {a:Nat} (ha:a<2) {b:jH} {i:Nat} {d:List UInt8} (h : ∀ x∈b,x.length≤64) : ∀ x∈vS a b i d,x.length≤64:=by
 unfold vS
 split
 ·refine zTs h ?_
  have:a=0∨a=1:=by omega
  rcases this with rfl | rfl
  ·rw[qWs,jV];omega
  ·rw[qWt,qM];omega
 ·exact h
theorem zM0 {y:List UInt8} {b:jH} (hy:y.length≤64) (h : ∀ x∈b,x.length≤64) : ∀ k,∀ x∈stN y b k,x.length≤64
 | 0=>h
 | k+1=>zTs (zM0 hy h k) hy
theorem RV.ext {bk:List jH} (h:RV bk) (i:Nat) (ds:List (List UInt8)):RV (qG1 bk i ds):=by
 rcases h.cases with rfl | ⟨b0,b1,rfl,h0,h1,m0,m1⟩
 ·exact h
 ·exact .of2 (qPp h0 qG) (qPp h1 qG) (zJ6 (by omega) m0) (zJ6 (by omega) m1)
theorem RV.res {bk:List jH} (h:RV bk):RV (jAw bk):=by
 rcases h.cases with rfl | ⟨b0,b1,rfl,h0,h1,m0,m1⟩
 ·exact h
 ·exact .of2 (qPp h0 qU6) (qPp h1 qU6) (zM0 (by rw[List.length_replicate];omega) m0 4) (zM0 (by rw[List.length_replicate];omega) m1 4)
end Go.Eng
end
section
set_option maxRecDepth 20000
set_option maxHeartbeats 64000000
namespace Go.Eng
def zYj (x:List jH×Int) (l i:Int) (ds:List (List UInt8)):List jH×Int:=if xS x.1 l i ds=0 then (qG1 x.1 i.toNat ds,x.2+1) else x
def Ans (x:List jH×Int) (v:V) (y:List jH×Int):Prop := ∃ (bk:List jH) (u e:Int),v = .tup [.t (.agg [.sl (bk.map qCi),.int .i64 u]),.t (.int .i64 e)]∧((e=0∧y=(bk,u))∨(e≠0∧y=x))
def RS (n:Nat) (x:List jH×Int):Prop:=RV x.1∧0≤x.2∧x.2≤n
theorem RS.up {n m:Nat} {x:List jH×Int} (h:RS n x) (hm:n≤m):RS m x:=⟨h.1,h.2.1,by have:=h.2.2;omega⟩
theorem RS.ext {n:Nat} {x:List jH×Int} (h:RS n x) (l i:Int) (ds:List (List UInt8)):RS (n+1) (zYj x l i ds):=by
 unfold zYj
 split
 ·exact⟨h.1.ext _ _,by have:=h.2.1;simp only;omega,by have:=h.2.2;simp only;omega⟩
 ·exact h.up (by omega)
theorem Ans.rv {x:List jH×Int} {v:V} {y:List jH×Int} (h:Ans x v y) (hv : ∃ bk' u' e,v = .tup [.t (vY bk' u'),.t (.int .i64 e)]∧RV bk'∧(e=0→u'=x.2+1)) : ∃ bk' u' e,v = .tup [.t (.agg [.sl (bk'.map qCi),.int .i64 u']),.t (.int .i64 e)]∧RM bk':=by
 obtain⟨bk',u',e,h1,h2,_⟩:=hv
 exact⟨bk',u',e,h1,h2.rm⟩
theorem RK.cases {bk:List jH} (h:RK bk):bk=[] ∨ ∃ b0 b1,bk=[b0,b1]∧qVr b0∧qVr b1:=by
 cases h with
 | nil=>exact .inl rfl
 | two b0 b1 h0 h1=>exact .inr ⟨b0,b1,rfl,h0,h1⟩
theorem qYv {b0 b1:jH} {i:Nat} {ds:List (List UInt8)}:qG1 [b0,b1] i ds=[vS 0 b0 i (ds.getD 0 []),vS 1 b1 i (ds.getD 1 [])]:=rfl
def vT:Ct where
 α:=List UInt8×Nat×Int
 as x:=[.t (.sl (x.1.map qA)),.t (.int .i64 x.2.1),.t (.int .i64 x.2.2)]
 ins _:=[]
 pre x:=x.1.length<1000000000∧1≤x.2.1∧x.2.1≤8
 r x:= .sl 0 0 (x.1.length+x.2.1)
 outs x:=[.live 1 (((x.1++beI x.2.1 x.2.2 x.2.1).map qA).map V.t) true false]
 inj:=by
  rintro⟨a,s,n⟩ ⟨c,t,m⟩ h _
  simp only[List.cons.injEq,V.t.injEq,T.sl.injEq,T.int.injEq,true_and,and_true,qZ,Int.natCast_inj] at h
  obtain⟨rfl,rfl,rfl⟩:=h
  exact⟨rfl,rfl⟩
theorem qMo {b:List UInt8} {n:Int} (hb:b.length<1000000000):vT.fs [.t (.sl (b.map qA)),.t (.int .i64 2),.t (.int .i64 n)] []=some (.sl 0 0 (b.length+2),[.live 1 (((b++beI 2 n 2).map qA).map V.t) true false]):=vT.eq (b,2,n) ⟨hb,by show 1≤2;omega,by show 2≤8;omega⟩
theorem zJ {s k:Nat} {n:Int}:(beI s n k).length=k:=by simp[beI]
def qB7 (bk:List jH) (a:Nat) (s:Int):Nat→List UInt8
 | 0=>[]
 | i+1=>if s/2^i%2=1 then qB7 bk a s i++zDd bk a i else qB7 bk a s i
theorem qIh {n:Nat}:(zNp n).length=4:=rfl
theorem qOx {bk:List jH} {a:Nat} {s:Int}:qB7 bk a s 0=[]:=rfl
theorem qP1 {bk:List jH} {a i:Nat} {s:Int} (h:s/2^i%2=1):qB7 bk a s (i+1)=qB7 bk a s i++zDd bk a i:=if_pos h
theorem qEr {bk:List jH} {a i:Nat} {s:Int} (h : ¬ s/2^i%2=1):qB7 bk a s (i+1)=qB7 bk a s i:=if_neg h
def PD (A B:Prop) (k:Nat):Prop:=(1≤k→A)∧(2≤k→B)
def zA1 (s:Int):Prop:=s<0∨65535<s
instance {s:Int}:Decidable (zA1 s):=inferInstanceAs (Decidable (_∨_))
def qB3 (s0 s1:Int):List UInt8:=beI 2 s0 2++beI 2 s1 2
def zBa (bk:List jH) (s0 s1:Int):List UInt8:=qB7 bk 0 s0 16++qB7 bk 1 s1 16
def qM2 (bk:List jH) (s0 s1:Int):Int:=if zA1 s0∨zA1 s1 then 1 else if (s0≠0∧onB bk 0=false)∨(s1≠0∧onB bk 1=false) then 27 else 0
def zA3 (bk:List jH) (s0 s1:Int):V:=if qM2 bk s0 s1=0 then .tup [.sl 0 0 32,.t (.int .i64 0)] else .tup [.nil,.t (.int .i64 (qM2 bk s0 s1))]
def zA2 (bk:List jH) (s0 s1:Int):List Ob:=if qM2 bk s0 s1=0 then [.live 1 (((qD5 5 [qB3 s0 s1,zBa bk s0 s1]).map qA).map V.t) true false] else []
theorem vZ {bk:List jH} (h:RV bk) (a:Nat) (s:Int) : ∀ i,(qB7 bk a s i).length≤64*i
 | 0=>by simp[qB7]
 | i+1=>by
  have ih:=vZ h a s i
  have hv:(zDd bk a i).length≤64:=by
   unfold zDd
   rcases h.cases with rfl | ⟨b0,b1,rfl,_,_,m0,m1⟩
   ·simp
   ·match a with
    | 0=>exact qM6 m0
    | 1=>exact qM6 m1
    | a+2=>simp
  unfold qB7
  split
  ·rw[List.length_append];omega
  ·omega
def yE:Ct where
 α:=Nat×List (List UInt8)
 as x:=[.t (.int .i64 x.1),.t (.sl (x.2.map bsT))]
 ins _:=[]
 pre x:=x.1<256∧(zH x.1 x.2).length<1000000000
 r _:= .sl 0 0 32
 outs x:=[.live 1 (((qD5 x.1 x.2).map qA).map V.t) true false]
 inj:=by
  rintro⟨a,b⟩ ⟨c,d⟩ h _
  simp[qA6,Int.natCast_inj] at h
  obtain⟨rfl,rfl⟩:=h
  exact⟨rfl,rfl⟩
theorem zE8 {x y:List UInt8} (h:(zH 5 [x,y]).length<1000000000):yE.fs [.t (.int .i64 5),.t (.sl [.sl (x.map qA),.sl (y.map qA)])] []=some (.sl 0 0 32,[.live 1 (((qD5 5 [x,y]).map qA).map V.t) true false]):=yE.eq (5,[x,y]) ⟨by show 5<256;omega,h⟩
theorem qMu (tab:Tab) (gl:Gl) (n1 n2 n3:Nat) (h1:tab.look n1=some vT.fs) (h2:tab.look n2=some qJ7.fs) (h3:tab.look n3=some yE.fs) (bk:List jH) (u s0 s1:Int) (hv:RV bk) :
  (qDd n1 n2 n3).wp tab gl (qE 0 [.t (vY bk u),.t (.agg [.int .i64 s0,.int .i64 s1])]) (qE 0 []) (xM [] [(4,none),(5,none)] 0 (fun r o=>r=zA3 bk s0 s1∧o=zA2 bk s0 s1)):=by
 simp (disch:=omega) only [go_sem,seval,qDd]
 have t2:List.take 2 (beI 2 s0 2)=beI 2 s0 2:=List.take_of_length_le (by rw[zJ];exact Nat.le_refl _)
 have t4:List.take 4 (beI 2 s0 2++beI 2 s1 2)=beI 2 s0 2++beI 2 s1 2:=List.take_of_length_le (by rw[List.length_append,zJ,zJ];exact Nat.le_refl _)
 by_cases b0:zA1 s0
 ·have hE:qM2 bk s0 s1=1:=by unfold qM2;rw[if_pos (.inl b0)]
  rw[zA3,zA2,hE]
  unfold zA1 at b0
  refine qF 1 ?_
  by_cases c0:s0<0
  ·simp (disch:=omega) only [go_sem,seval,qB,zQ,c0]
  ·simp (disch:=omega) only [go_sem,seval,qB,zQ,c0]
 have hb0 : ¬ s0<0 ∧ ¬ 65535<s0:=by unfold zA1 at b0;omega
 obtain⟨c0,d0⟩:=hb0
 have hm:=hv.rm
 have hu:=qMo (b:=[]) (n:=s0) (by decide)
 simp only[List.map_nil,List.length_nil,List.nil_append] at hu
 by_cases b1:zA1 s1
 ·have hE:qM2 bk s0 s1=1:=by unfold qM2;rw[if_pos (.inr b1)]
  rw[zA3,zA2,hE]
  unfold zA1 at b1
  refine qF 2 ?_
  by_cases c1:s1<0
  ·simp (disch:=omega) only [go_sem,seval,qB,zQ,c0,d0,c1,h1,hu,List.map_nil]
  ·simp (disch:=omega) only [go_sem,seval,qB,zQ,c0,d0,c1,h1,hu,List.map_nil]
 have hb1 : ¬ s1<0 ∧ ¬ 65535<s1:=by unfold zA1 at b1;omega
 obtain⟨c1,d1⟩:=hb1
 refine qD 2 (fun k=>match k with
  | 0=>[(2,.ref 4096 0 0),(3,.ref 4112 0 0),(6,.t (.sl (([]:List UInt8).map qA))),(7,.nil),(13,.t (.agg [.int .i64 s0,.int .i64 s1])),(14,.t (.int .i64 0))]
  | 1=>[(2,.ref 4096 0 0),(3,.ref 4112 0 0),(6,.t (.sl ((beI 2 s0 2).map qA))),(7,.nil),(13,.t (.agg [.int .i64 s0,.int .i64 s1])),(14,.t (.int .i64 1))]
  | _=>[(2,.ref 4096 0 0),(3,.ref 4112 0 0),(6,.t (.sl ((qB3 s0 s1).map qA))),(7,.nil),(13,.t (.agg [.int .i64 s0,.int .i64 s1])),(14,.t (.int .i64 2))])
  (fun _=>[(4112,.live 1 [.t (.int .i64 s0),.t (.int .i64 s1)] true true),(4096,.live 2 [.t (vY bk u)] true true)]) ?_ (fun k hk=>?_)
 ·refine qI.rd id ?_ ?_ rfl
  all_goals simp (disch:=omega) only [go_sem,seval,id,List.map_nil]
 ·rcases (show k=0∨k=1∨k=2 by omega) with rfl | rfl | rfl
  ·simp (disch:=omega) only [go_sem,seval,zQ,c0,d0,h1,hu,List.map_nil]
   refine qI.cv (hv:=[]) [32800] id ?_ rfl
   simp (disch:=omega) only [go_sem,seval,id,zJ,t2]
   rfl
  ·have hu:=qMo (b:=beI 2 s0 2) (n:=s1) (by rw[zJ];omega)
   rw[zJ] at hu
   simp (disch:=omega) only [go_sem,seval,zQ,c1,d1,h1,hu]
   refine qI.cv (hv:=[]) [32800] id ?_ rfl
   simp (disch:=omega) only [go_sem,seval,id,zJ,qB3,t4]
   rfl
  ·simp (disch:=omega) only [go_sem,seval,zQ]
   refine yO 2 (PD (s0=0∨onB bk 0=true) (s1=0∨onB bk 1=true)) (fun k=>match k with | 0=>[(2,.ref 4096 0 0),(6,.t (.sl ((qB3 s0 s1).map qA))),(7,.sl 9100 0 (List.length ([]:List UInt8))),(27,.t (.agg [.int .i64 s0,.int .i64 s1])),(28,.t (.int .i64 0))] | 1=>[(2,.ref 4096 0 0),(6,.t (.sl ((qB3 s0 s1).map qA))),(7,.sl 9100 0 (List.length (qB7 bk 0 s0 16))),(27,.t (.agg [.int .i64 s0,.int .i64 s1])),(28,.t (.int .i64 1))] | _=>[(2,.ref 4096 0 0),(6,.t (.sl ((qB3 s0 s1).map qA))),(7,.sl 9100 0 (List.length (qB7 bk 0 s0 16++qB7 bk 1 s1 16))),(27,.t (.agg [.int .i64 s0,.int .i64 s1])),(28,.t (.int .i64 2))]) (fun k=>match k with | 0=>[(9100,.live 1 ((([]:List UInt8).map qA).map V.t) true false),(4096,.live 2 [.t (vY bk u)] true true)] | 1=>[(9100,.live 1 (((qB7 bk 0 s0 16).map qA).map V.t) true false),(4096,.live 2 [.t (vY bk u)] true true)] | _=>[(9100,.live 1 (((qB7 bk 0 s0 16++qB7 bk 1 s1 16).map qA).map V.t) true false),(4096,.live 2 [.t (vY bk u)] true true)]) ⟨fun h=>absurd h (by omega),fun h=>absurd h (by omega)⟩ ?_ (fun k hk hP=>?_)
   ·refine qI.cv0 (hv:=[(9100,.live 1 [] true false)]) (ho:=[(4096,.live 2 [.t (vY bk u)] true true)]) id ?_ ?_ rfl rfl
    all_goals simp (disch:=omega) only [go_sem,seval,id,List.map_cons,List.map_nil,List.length_nil]
   ·rcases (show k=0∨k=1∨k=2 by omega) with rfl | rfl | rfl
    ·by_cases z:s0=0
     ·have zz:(s0==0)=true:=by simpa using z
      simp (disch:=omega) only [go_sem,seval,zR,zz]
      refine qD 16 (fun i=>[(2,.ref 4096 0 0),(6,.t (.sl ((qB3 s0 s1).map qA))),(7,.sl 9100 0 (List.length (qB7 bk 0 s0 i))),(10,.t (.int .i64 0)),(11,.t (.int .i64 s0)),(27,.t (.agg [.int .i64 s0,.int .i64 s1])),(28,.t (.int .i64 0)),(40,.t (.int .i64 (i:Nat)))]) (fun i=>[(9100,.live 1 (((qB7 bk 0 s0 i).map qA).map V.t) true false),(4096,.live 2 [.t (vY bk u)] true true)]) ?_ (fun i hi=>?_)
      ·refine qI.rd id ?_ ?_ rfl
       all_goals simp (disch:=omega) only [go_sem,seval,id,qOx,List.append_nil]
      ·have l0:=vZ hv 0 s0 16
       have l1:=vZ hv 0 s0 i
       by_cases hlt:i<16
       ·have hsh:s0.fdiv (2^i)=s0/2^i:=Int.fdiv_eq_ediv_of_nonneg _ (Int.le_of_lt (Int.pow_pos (by decide)))
        have hb : ¬ s0/2^i%2=1:=by rw[z];simp
        simp (disch:=omega) only [go_sem,seval,zA,hsh,hb]
        refine⟨hlt,qI.rd id ?_ ?_ rfl⟩
        all_goals simp (disch:=omega) only [go_sem,seval,id,qEr (bk:=bk) (a:=0) hb]
       ·have e:i=16:=by omega
        subst e
        simp (disch:=omega) only [go_sem,seval,zA]
        refine⟨⟨fun _=> .inl z,fun h=>absurd h (by omega)⟩,qI.rd id ?_ ?_ rfl⟩
        all_goals simp (disch:=omega) only [go_sem,seval,id]
     ·have zz:(s0==0)=false:=by simpa using z
      have c0:=jAf (u:=u) (a:=0) hv.1 (by omega)
      rw[show ((0:Nat):Int)=0 from rfl] at c0
      cases ho:onB bk 0
      ·rw[ho] at c0
       have hE:qM2 bk s0 s1=27:=by
        unfold qM2
        rw[if_neg (by rintro (h | h);exact b0 h;exact b1 h),if_pos (.inl ⟨z,ho⟩)]
       rw[zA3,zA2,hE]
       simp (disch:=omega) only [go_sem,seval,zR,zz,h2,c0]
      ·rw[ho] at c0
       have hbl:=hv.1.len ho
       have hbn:List.length (bk.getD 0 [])=16:=by simpa [onB] using ho
       simp (disch:=omega) only [go_sem,seval,zR,zz,h2,c0]
       refine qD 16 (fun i=>[(2,.ref 4096 0 0),(6,.t (.sl ((qB3 s0 s1).map qA))),(7,.sl 9100 0 (List.length (qB7 bk 0 s0 i))),(10,.t (.int .i64 0)),(11,.t (.int .i64 s0)),(27,.t (.agg [.int .i64 s0,.int .i64 s1])),(28,.t (.int .i64 0)),(40,.t (.int .i64 (i:Nat)))]) (fun i=>[(9100,.live 1 (((qB7 bk 0 s0 i).map qA).map V.t) true false),(4096,.live 2 [.t (vY bk u)] true true)]) ?_ (fun i hi=>?_)
       ·refine qI.rd id ?_ ?_ rfl
        all_goals simp (disch:=omega) only [go_sem,seval,id,qOx,List.append_nil]
       ·have l0:=vZ hv 0 s0 16
        have l1:=vZ hv 0 s0 i
        by_cases hlt:i<16
        ·have hsh:s0.fdiv (2^i)=s0/2^i:=Int.fdiv_eq_ediv_of_nonneg _ (Int.le_of_lt (Int.pow_pos (by decide)))
         by_cases hb:s0/2^i%2=1
         ·have hvl:=hm.val 0 i
          have hx:(bk.getD 0 []).getD i []=zDd bk 0 i:=rfl
          simp (disch:=omega) only [go_sem,seval,zA,hsh,hb,hx]
          refine⟨hlt,qI.rd (fun j=>if j=9100 then 77968 else j) ?_ ?_ rfl⟩
          all_goals simp (disch:=omega) only [go_sem,seval,qP1 (bk:=bk) (a:=0) hb,List.append_assoc]
          all_goals try omega
         ·simp (disch:=omega) only [go_sem,seval,zA,hsh,hb]
          refine⟨hlt,qI.rd id ?_ ?_ rfl⟩
          all_goals simp (disch:=omega) only [go_sem,seval,id,qEr (bk:=bk) (a:=0) hb]
        ·have e:i=16:=by omega
         subst e
         simp (disch:=omega) only [go_sem,seval,zA]
         refine⟨⟨fun _=>(by first | exact .inr ho | trivial),fun h=>absurd h (by omega)⟩,qI.rd id ?_ ?_ rfl⟩
         all_goals simp (disch:=omega) only [go_sem,seval,id]
    ·by_cases z:s1=0
     ·have zz:(s1==0)=true:=by simpa using z
      simp (disch:=omega) only [go_sem,seval,zR,zz]
      refine qD 16 (fun i=>[(2,.ref 4096 0 0),(6,.t (.sl ((qB3 s0 s1).map qA))),(7,.sl 9100 0 (List.length (qB7 bk 0 s0 16++qB7 bk 1 s1 i))),(10,.t (.int .i64 1)),(11,.t (.int .i64 s1)),(27,.t (.agg [.int .i64 s0,.int .i64 s1])),(28,.t (.int .i64 1)),(40,.t (.int .i64 (i:Nat)))]) (fun i=>[(9100,.live 1 (((qB7 bk 0 s0 16++qB7 bk 1 s1 i).map qA).map V.t) true false),(4096,.live 2 [.t (vY bk u)] true true)]) ?_ (fun i hi=>?_)
      ·refine qI.rd id ?_ ?_ rfl
       all_goals simp (disch:=omega) only [go_sem,seval,id,qOx,List.append_nil]
      ·have l0:=vZ hv 0 s0 16
       have l1:=vZ hv 1 s1 i
       by_cases hlt:i<16
       ·have hsh:s1.fdiv (2^i)=s1/2^i:=Int.fdiv_eq_ediv_of_nonneg _ (Int.le_of_lt (Int.pow_pos (by decide)))
        have hb : ¬ s1/2^i%2=1:=by rw[z];simp
        simp (disch:=omega) only [go_sem,seval,zA,hsh,hb]
        refine⟨hlt,qI.rd id ?_ ?_ rfl⟩
        all_goals simp (disch:=omega) only [go_sem,seval,id,qEr (bk:=bk) (a:=1) hb]
       ·have e:i=16:=by omega
        subst e
        simp (disch:=omega) only [go_sem,seval,zA]
        refine⟨⟨fun _=>hP.1 (by omega),fun _=> .inl z⟩,qI.rd id ?_ ?_ rfl⟩
        all_goals simp (disch:=omega) only [go_sem,seval,id]
     ·have zz:(s1==0)=false:=by simpa using z
      have c1:=jAf (u:=u) (a:=1) hv.1 (by omega)
      rw[show ((1:Nat):Int)=1 from rfl] at c1
      cases ho:onB bk 1
      ·rw[ho] at c1
       have hE:qM2 bk s0 s1=27:=by
        unfold qM2
        rw[if_neg (by rintro (h | h);exact b0 h;exact b1 h),if_pos (.inr ⟨z,ho⟩)]
       rw[zA3,zA2,hE]
       simp (disch:=omega) only [go_sem,seval,zR,zz,h2,c1]
      ·rw[ho] at c1
       have hbl:=hv.1.len ho
       have hbn:List.length (bk.getD 1 [])=16:=by simpa [onB] using ho
       simp (disch:=omega) only [go_sem,seval,zR,zz,h2,c1]
       refine qD 16 (fun i=>[(2,.ref 4096 0 0),(6,.t (.sl ((qB3 s0 s1).map qA))),(7,.sl 9100 0 (List.length (qB7 bk 0 s0 16++qB7 bk 1 s1 i))),(10,.t (.int .i64 1)),(11,.t (.int .i64 s1)),(27,.t (.agg [.int .i64 s0,.int .i64 s1])),(28,.t (.int .i64 1)),(40,.t (.int .i64 (i:Nat)))]) (fun i=>[(9100,.live 1 (((qB7 bk 0 s0 16++qB7 bk 1 s1 i).map qA).map V.t) true false),(4096,.live 2 [.t (vY bk u)] true true)]) ?_ (fun i hi=>?_)
       ·refine qI.rd id ?_ ?_ rfl
        all_goals simp (disch:=omega) only [go_sem,seval,id,qOx,List.append_nil]
       ·have l0:=vZ hv 0 s0 16
        have l1:=vZ hv 1 s1 i
        by_cases hlt:i<16
        ·have hsh:s1.fdiv (2^i)=s1/2^i:=Int.fdiv_eq_ediv_of_nonneg _ (Int.le_of_lt (Int.pow_pos (by decide)))
         by_cases hb:s1/2^i%2=1
         ·have hvl:=hm.val 1 i
          have hx:(bk.getD 1 []).getD i []=zDd bk 1 i:=rfl
          simp (disch:=omega) only [go_sem,seval,zA,hsh,hb,hx]
          refine⟨hlt,qI.rd (fun j=>if j=9100 then 77968 else j) ?_ ?_ rfl⟩
          all_goals simp (disch:=omega) only [go_sem,seval,qP1 (bk:=bk) (a:=1) hb,List.append_assoc]
          all_goals try omega
         ·simp (disch:=omega) only [go_sem,seval,zA,hsh,hb]
          refine⟨hlt,qI.rd id ?_ ?_ rfl⟩
          all_goals simp (disch:=omega) only [go_sem,seval,id,qEr (bk:=bk) (a:=1) hb]
        ·have e:i=16:=by omega
         subst e
         simp (disch:=omega) only [go_sem,seval,zA]
         refine⟨⟨fun _=>hP.1 (by omega),fun _=>by first | exact .inr ho | trivial⟩,qI.rd id ?_ ?_ rfl⟩
         all_goals simp (disch:=omega) only [go_sem,seval,id]
    ·have l0:=vZ hv 0 s0 16
     have l1:=vZ hv 1 s1 16
     have p0:=hP.1 (by omega)
     have p1:=hP.2 (by omega)
     have hE:qM2 bk s0 s1=0:=by
      unfold qM2
      rw[if_neg (by rintro (h | h);exact b0 h;exact b1 h),if_neg]
      rintro (⟨h1,h2⟩ | ⟨h1,h2⟩)
      ·rcases p0 with h | h
       ·exact h1 h
       ·rw[h] at h2;cases h2
      ·rcases p1 with h | h
       ·exact h1 h
       ·rw[h] at h2;cases h2
     have hv2:(zBa bk s0 s1).length≤2048:=by unfold zBa;rw[List.length_append];omega
     have hh2:(qB3 s0 s1).length=4:=by unfold qB3;rw[List.length_append,zJ,zJ]
     have hvs:qB7 bk 0 s0 16++qB7 bk 1 s1 16=zBa bk s0 s1:=rfl
     rw[zA3,zA2,if_pos hE,if_pos hE]
     have hf:(zH 5 [qB3 s0 s1,zBa bk s0 s1]).length<1000000000:=by
      simp only[zH,List.flatMap_cons,List.flatMap_nil,List.length_cons,List.length_append,List.length_nil,qIh]
      omega
     have hq:=zE8 hf
     have tv:List.take (zBa bk s0 s1).length (zBa bk s0 s1)=zBa bk s0 s1:=List.take_of_length_le (Nat.le_refl _)
     simp (disch:=omega) only [go_sem,seval,zR,hvs,h3,hq,tv]
theorem zG5 (s:Int):(qBn s=[]∧xL.fs [.t (.int .i64 s)] []=some (.agg [.nil,.t (.int .i64 0)],[])) ∨ ∃ b0 b1:jH,qBn s=[b0,b1]∧qVr b0∧qVr b1∧xL.fs [.t (.int .i64 s)] []=some (.agg [.sl 0 0 2,.t (.int .i64 0)],[.live 1 [.sl 1 0 b0.length,.sl 2 0 b1.length] true false,.live 1 ((b0.map bsT).map V.t) true false,.live 1 ((b1.map bsT).map V.t) true false]):=by
 have h:=xL.eq s trivial
 rcases (zPx (s:=s)).cases with e | ⟨b0,b1,e,h0,h1,_,_⟩
 ·refine .inl ⟨e,h.trans ?_⟩
  show some (twR (qBn s) 0,twO (qBn s))=_
  rw[e];rfl
 ·refine .inr ⟨b0,b1,e,h0,h1,h.trans ?_⟩
  show some (twR (qBn s) 0,twO (qBn s))=_
  rw[e];rfl
def jDj (s:Rd):Int:=(zTj s 1).1
def jD0 (s:Rd):Prop:=(zTj s 1).2.2.2=0∧4≤jDj s
instance {s:Rd}:Decidable (jD0 s):=inferInstanceAs (Decidable (_∧_))
def RZ (bk:List jH):Prop := ∀ a,a<2 → ∀ x∈bk.getD a [],x.length=szA a
theorem zMr {b:jH} {i z:Nat} {y:List UInt8} (h : ∀ x∈b,x.length=z) (hy:y.length=z) : ∀ x∈b.set i y,x.length=z:=by
 intro x hx
 rcases List.mem_or_eq_of_mem_set hx with h1 | rfl
 ·exact h x h1
 ·exact hy
theorem zXl {y:List UInt8} {b:jH} {z:Nat} (hy:y.length=z) (h : ∀ x∈b,x.length=z) : ∀ k,∀ x∈stN y b k,x.length=z
 | 0=>h
 | k+1=>zMr (zXl hy h k) hy
theorem RZ.two {b0 b1:jH} (h0 : ∀ x∈b0,x.length=20) (h1 : ∀ x∈b1,x.length=32):RZ [b0,b1]:=by
 intro a ha
 match a,ha with
 | 0,_=>exact h0
 | 1,_=>exact h1
theorem RZ.nil:RZ []:=by
 intro a ha x hx
 simp at hx
theorem RZ.ext {bk:List jH} {i:Nat} {ds:List (List UInt8)} (hv:RV bk) (h:RZ bk):RZ (qG1 bk i ds):=by
 rcases hv.1.cases with rfl | ⟨b0,b1,rfl,g0,g1⟩
 ·exact RZ.nil
 ·rw[qYv]
  refine RZ.two ?_ ?_
  ·unfold vS;split
   ·exact zMr (h 0 (by omega)) (qBq (a:=0))
   ·exact h 0 (by omega)
  ·unfold vS;split
   ·exact zMr (h 1 (by omega)) (qBq (a:=1))
   ·exact h 1 (by omega)
theorem RZ.res {bk:List jH} (hv:RV bk) (h:RZ bk):RZ (jAw bk):=by
 rcases hv.1.cases with rfl | ⟨b0,b1,rfl,g0,g1⟩
 ·exact RZ.nil
 ·exact RZ.two (zXl List.length_replicate (h 0 (by omega)) 4) (zXl List.length_replicate (h 1 (by omega)) 4)
theorem zFl {a:Nat} : ∀ x∈qD1 a,x.length=szA a:=by
 intro x hx
 unfold qD1 at hx
 obtain⟨i,_,rfl⟩:=List.mem_map.1 hx
 exact List.length_replicate
theorem RZ.new {s:Int}:RZ (qBn s):=by
 unfold qBn
 split
 ·exact RZ.nil
 ·refine RZ.two ?_ ?_
  ·split
   ·exact zFl (a:=0)
   ·intro x hx;simp at hx
  ·split
   ·exact zFl (a:=1)
   ·intro x hx;simp at hx
end Go.Eng
end
section
namespace Go.Eng
def wG (n_digest_Size:Nat):AC:=
 (.seq
 (rG 36864 [bT 49 .lss 48 47])
 (.seq
 (.cond (.tmp 49)
 .skip
 (.exit 1))
 (.seq
 (.block 2
 (.seq
 (rG 40960 [mv 50 48,oO 51 (.iaddr 1) [.tmp 46,.tmp 48],oO 52 (.load 1 false) [.tmp 51],mv 5 50,mv 6 52])
 (.seq
 (rG 45056 [mC 7 (.t (.int .i64 0))])
 (.seq
 (.seq
 (rG 49152 [oO 53 (.faddr 1) [.tmp 2],oO 54 (.load 1 false) [.tmp 53],bN 55 .neq 54 5,mv 56 55,mG 57 1 56,mG 58 5 56,oG 59 56 (.bin .shr) [.tmp 57,.tmp 58],oG 60 56 (.bin .and) [.tmp 59,.cst (.t (.int .i64 1))],oG 61 56 (.bin .eql) [.tmp 60,.cst (.t (.int .i64 1))],oO 62 .pick [.tmp 56,.tmp 61,.cst (.t (.bool false))]])
 (.cond (.tmp 62)
 (rG 53248 [mv 63 5,cL 64 n_digest_Size false [.tmp 63],mv 7 64])
 .skip))
 (.seq
 (rG 57344 [mv 65 6,oO 66 .len [.tmp 65],mv 67 7,bT 68 .neq 66 67])
 (.cond (.tmp 68)
 (.seq
 (rG 61440 [mC 4 (.t (.int .i64 27))])
 .ret)
 .skip))))))
 (rG 65536 [bN 69 .add 48 1,mv 48 69]))))
def zW (n_digest_Size:Nat):AC:=
 (.seq
 (rG 4096 [oO 2 .box [.tmp 0],mC 4 (.t (.int .i64 0))])
 (.seq
 (.block 0
 (.seq
 (rG 8192 [mv 9 1,bN 10 .lss 9 1,mv 11 10,mF 12 1 11,oF 13 11 (.bin .gtr) [.tmp 12,.cst (.t (.int .i64 3))],oO 14 .pick [.tmp 11,.cst (.t (.bool true)),.tmp 13],mv 15 14,oF 16 15 (.faddr 0) [.tmp 2],oF 17 15 (.load 1 false) [.tmp 16],oF 18 15 (.bin .lss) [.tmp 17,.cst (.t (.int .i64 0))],oO 19 .pick [.tmp 15,.cst (.t (.bool true)),.tmp 18],mv 20 19,oF 21 20 (.faddr 0) [.tmp 2],oF 22 20 (.load 1 false) [.tmp 21],oF 23 20 (.bin .gtr) [.tmp 22,.cst (.t (.int .i64 11))],oO 24 .pick [.tmp 20,.cst (.t (.bool true)),.tmp 23],mv 25 24,oF 26 25 (.faddr 1) [.tmp 2],oF 27 25 (.load 1 false) [.tmp 26],oF 28 25 (.bin .lss) [.tmp 27,.cst (.t (.int .i64 1))],oO 29 .pick [.tmp 25,.cst (.t (.bool true)),.tmp 28],mv 30 29,oF 31 30 (.faddr 1) [.tmp 2],oF 32 30 (.load 1 false) [.tmp 31],oF 33 30 (.bin .gtr) [.tmp 32,.cst (.t (.int .i64 5))],oO 34 .pick [.tmp 30,.cst (.t (.bool true)),.tmp 33],mv 8 34])
 (.cond (.tmp 8)
 (.seq
 (rG 12288 [mC 4 (.t (.int .i64 1))])
 .ret)
 (.seq
 (rG 16384 [oO 36 (.faddr 3) [.tmp 2],oO 37 (.load 1 false) [.tmp 36],oO 38 .len [.tmp 37],bN 39 .gtr 38 64,mv 35 39])
 (.cond (.tmp 35)
 (.seq
 (rG 20480 [mC 4 (.t (.int .i64 4))])
 .ret)
 (.seq
 (rG 24576 [oO 41 (.faddr 2) [.tmp 2],oO 42 (.load 1 false) [.tmp 41],oO 43 .len [.tmp 42],bN 44 .neq 43 2,mv 40 44])
 (.cond (.tmp 40)
 (.seq
 (rG 28672 [mC 4 (.t (.int .i64 27))])
 .ret)
 .skip)))))))
 (.seq
 (.seq
 (rG 32768 [oO 45 (.faddr 2) [.tmp 2],oO 46 (.load 1 false) [.tmp 45],oO 47 .len [.tmp 46],mC 48 (.t (.int .i64 0))])
 (.block 1
 (.loop (wG n_digest_Size))))
 (.seq
 (rG 69632 [mC 4 (.t (.int .i64 0))])
 .ret))))
def vV (n_digest_Sum:Nat):AC:=
 (.seq
 (rG 16384 [bT 21 .lss 20 19])
 (.seq
 (.cond (.tmp 21)
 .skip
 (.exit 0))
 (.seq
 (.block 1
 (.seq
 (rG 20480 [mv 22 20,mv 10 22])
 (.seq
 (rG 24576 [mv 23 1,bN 24 .neq 23 5,mv 25 24,mG 26 2 25,mG 27 10 25,oG 28 25 (.bin .shr) [.tmp 26,.tmp 27],oG 29 25 (.bin .and) [.tmp 28,.cst (.t (.int .i64 1))],oG 30 25 (.bin .eql) [.tmp 29,.cst (.t (.int .i64 1))],oO 31 .pick [.tmp 25,.tmp 30,.cst (.t (.bool false))]])
 (.cond (.tmp 31)
 (.reg 28672 (some [0,1,0,0,0,24,63,127]) [oO 32 (.faddr 2) [.tmp 9],oO 33 (.load 1 false) [.tmp 32],mv 34 10,mv 35 10,mv 36 3,cL 37 n_digest_Sum false [.tmp 35,.tmp 36],oO 38 (.iaddr 1) [.tmp 33,.tmp 34],oS 1 38 37])
 .skip))))
 (rG 32768 [bN 39 .add 20 1,mv 20 39]))))
def qK5 (n_bytes_Clone n_digest_Sum:Nat):AC:=
 (.seq
 (rG 4096 [oO 8 (.new 4 [(.agg [(.t (.int .i64 0)),(.t (.int .i64 0)),.nil,.nil])]) []])
 (.seq
 (.reg 8192 (some [0,0,0,0,8,31,0,127]) [mv 11 0,mv 12 1,oO 13 (.mkslice 1 24 .nil) [.cst (.t (.int .i64 2)),.cst (.t (.int .i64 2))],mv 14 3,cL 15 n_bytes_Clone true [.tmp 14],oO 16 (.build [(.t (.int .i64 0)),(.t (.int .i64 0)),.nil,.nil] [(0,1),(1,1),(2,1),(3,1)]) [.tmp 11,.tmp 12,.tmp 13,.tmp 15],oO 9 (.new 4 [(.agg [(.t (.int .i64 0)),(.t (.int .i64 0)),.nil,.nil])]) [],oS 4 9 16])
 (.seq
 (.seq
 (rG 12288 [oO 17 (.faddr 2) [.tmp 9],oO 18 (.load 1 false) [.tmp 17],oO 19 .len [.tmp 18],mC 20 (.t (.int .i64 0))])
 (.block 0
 (.loop (vV n_digest_Sum))))
 (.seq
 (rG 36864 [oO 40 (.load 4 true) [.tmp 9],oS 4 8 40])
 .ret))))
def yP (n_ref25_digestsFit:Nat):AC:=
 (.seq
 (rG 4096 [oO 2 .box [.tmp 0],mC 4 (.t (.int .i64 0))])
 (.seq
 (.seq
 (rG 8192 [mv 5 1,bN 6 .lss 5 1,mv 7 6,mF 8 1 7,oF 9 7 (.bin .gtr) [.tmp 8,.cst (.t (.int .i64 3))],oO 10 .pick [.tmp 7,.cst (.t (.bool true)),.tmp 9],mv 11 10,oF 12 11 (.faddr 0) [.tmp 2],oF 13 11 (.load 1 false) [.tmp 12],oF 14 11 (.bin .lss) [.tmp 13,.cst (.t (.int .i64 0))],oO 15 .pick [.tmp 11,.cst (.t (.bool true)),.tmp 14],mv 16 15,oF 17 16 (.faddr 0) [.tmp 2],oF 18 16 (.load 1 false) [.tmp 17],oF 19 16 (.bin .gtr) [.tmp 18,.cst (.t (.int .i64 11))],oO 20 .pick [.tmp 16,.cst (.t (.bool true)),.tmp 19],mv 21 20,oF 22 21 (.faddr 1) [.tmp 2],oF 23 21 (.load 1 false) [.tmp 22],oF 24 21 (.bin .lss) [.tmp 23,.cst (.t (.int .i64 1))],oO 25 .pick [.tmp 21,.cst (.t (.bool true)),.tmp 24],mv 26 25,oF 27 26 (.faddr 1) [.tmp 2],oF 28 26 (.load 1 false) [.tmp 27],oF 29 26 (.bin .gtr) [.tmp 28,.cst (.t (.int .i64 5))],oO 30 .pick [.tmp 26,.cst (.t (.bool true)),.tmp 29]])
 (.cond (.tmp 30)
 (.seq
 (rG 12288 [mC 4 (.t (.int .i64 1))])
 .ret)
 .skip))
 (.seq
 (.seq
 (rG 16384 [oO 31 (.faddr 3) [.tmp 2],oO 32 (.load 1 false) [.tmp 31],oO 33 .len [.tmp 32],bN 34 .gtr 33 64])
 (.cond (.tmp 34)
 (.seq
 (rG 20480 [mC 4 (.t (.int .i64 4))])
 .ret)
 .skip))
 (.seq
 (.seq
 (rG 24576 [oO 35 (.load 4 true) [.tmp 2],mv 36 1,cL 37 n_ref25_digestsFit false [.tmp 35,.tmp 36],oO 38 (.un .not) [.tmp 37]])
 (.cond (.tmp 38)
 (.seq
 (rG 28672 [mC 4 (.t (.int .i64 27))])
 .ret)
 .skip))
 (.seq
 (rG 32768 [mC 4 (.t (.int .i64 0))])
 .ret)))))
def jO (n_ref25_has n_ref1_Size:Nat):AC:=
 (.seq
 (.seq
 (rG 20480 [mv 11 5,bN 12 .lss 11 2])
 (.cond (.tmp 12)
 .skip
 (.exit 0)))
 (.seq
 (.block 1
 (.seq
 (rG 28672 [mC 6 (.t (.int .i64 0))])
 (.seq
 (.seq
 (rG 32768 [oO 15 (.faddr 1) [.tmp 2],oO 16 (.load 1 false) [.tmp 15],bN 17 .neq 16 5,mv 18 17,mG 19 1 18,mG 20 5 18,cG 21 18 n_ref25_has false [.tmp 19,.tmp 20],oO 22 .pick [.tmp 18,.tmp 21,.cst (.t (.bool false))]])
 (.cond (.tmp 22)
 (rG 36864 [mv 23 5,cL 24 n_ref1_Size false [.tmp 23],mv 6 24])
 .skip))
 (.seq
 (rG 40960 [oO 25 (.faddr 2) [.tmp 2],oO 26 (.load 1 false) [.tmp 25],mv 27 5,oO 28 (.iaddr 1) [.tmp 26,.tmp 27],oO 29 (.load 1 false) [.tmp 28],oO 30 .len [.tmp 29],mv 31 6,bT 32 .neq 30 31])
 (.cond (.tmp 32)
 (.seq
 (rG 45056 [mC 4 (.t (.bool false))])
 .ret)
 .skip)))))
 (rG 24576 [mv 13 5,bN 14 .add 13 1,mv 5 14])))
def jU (n_ref25_has n_ref1_Size:Nat):AC:=
 (.seq
 (rG 4096 [oO 2 .box [.tmp 0],mC 4 (.t (.bool false))])
 (.seq
 (.seq
 (rG 8192 [oO 7 (.faddr 2) [.tmp 2],oO 8 (.load 1 false) [.tmp 7],oO 9 .len [.tmp 8],bN 10 .neq 9 2])
 (.cond (.tmp 10)
 (.seq
 (rG 12288 [mC 4 (.t (.bool false))])
 .ret)
 .skip))
 (.seq
 (.seq
 (rG 16384 [mC 5 (.t (.int .i64 0))])
 (.block 0
 (.loop (jO n_ref25_has n_ref1_Size))))
 (.seq
 (rG 49152 [mC 4 (.t (.bool true))])
 .ret))))
def qHh:AC:=
 (.seq
 (rG 4096 [mC 4 (.t (.bool false))])
 (.seq
 (rG 8192 [mv 5 0,mv 6 1,oO 7 (.conv .u64) [.tmp 6],bT 8 .shr 5 7,bN 9 .and 8 1,bN 10 .eql 9 1,mv 4 10])
 .ret))
def yH (n_ref25_has n_ref1_Sum:Nat):AC:=
 (.seq
 (.seq
 (rG 16384 [mv 16 10,bN 17 .lss 16 2])
 (.cond (.tmp 17)
 .skip
 (.exit 0)))
 (.seq
 (.block 1
 (.seq
 (rG 24576 [mv 20 2,mv 21 10,cL 22 n_ref25_has false [.tmp 20,.tmp 21],mv 23 22,mG 24 1 23,oG 25 23 (.bin .neq) [.tmp 24,.cst (.t (.int .i64 5))],oO 26 .pick [.tmp 23,.tmp 25,.cst (.t (.bool false))]])
 (.cond (.tmp 26)
 (.reg 28672 (some [0,1,0,0,0,24,63,127]) [oO 27 (.faddr 2) [.tmp 9],oO 28 (.load 1 false) [.tmp 27],mv 29 10,mv 30 10,mv 31 3,cL 32 n_ref1_Sum false [.tmp 30,.tmp 31],oO 33 (.iaddr 1) [.tmp 28,.tmp 29],oS 1 33 32])
 .skip)))
 (rG 20480 [mv 18 10,bN 19 .add 18 1,mv 10 19])))
def qLa (n_ref25_has n_ref1_Sum:Nat):AC:=
 (.seq
 (rG 4096 [oO 8 (.new 4 [(.agg [(.t (.int .i64 0)),(.t (.int .i64 0)),.nil,.nil])]) []])
 (.seq
 (rG 8192 [mv 11 0,mv 12 1,oO 13 (.mkslice 1 24 .nil) [.cst (.t (.int .i64 2)),.cst (.t (.int .i64 2))],mv 14 3,oO 15 (.build [(.t (.int .i64 0)),(.t (.int .i64 0)),.nil,.nil] [(0,1),(1,1),(2,1),(3,1)]) [.tmp 11,.tmp 12,.tmp 13,.tmp 14],oO 9 (.new 4 [(.agg [(.t (.int .i64 0)),(.t (.int .i64 0)),.nil,.nil])]) [],oS 4 9 15])
 (.seq
 (.seq
 (rG 12288 [mC 10 (.t (.int .i64 0))])
 (.block 0
 (.loop (yH n_ref25_has n_ref1_Sum))))
 (.seq
 (rG 32768 [oO 34 (.load 4 true) [.tmp 9],oS 4 8 34])
 .ret))))
def qEc:AC:=
 (.seq
 (rG 4096 [mC 0 .nil])
 (.seq
 (rG 8192 [oO 1 (.bslice 1 4 (.t (qA 0)) [0,1,2,3]) [.cst (.t (qA 0)),.cst (.t (qA 0)),.cst (.t (qA 0)),.cst (.t (qA 0))],mv 0 1])
 .ret))
def qI5 (n_draw_Mod:Nat):AC:=
 (.seq
 (rG 4096 [mC 2 (.t (.int .i64 0))])
 (.seq
 (rG 8192 [mv 3 0,cL 4 n_draw_Mod false [.tmp 3,.cst (.t (.int .i64 3))],oO 5 (.bin .add) [.cst (.t (.int .i64 1)),.tmp 4],mv 2 5])
 .ret))
def qI6 (n_draw_Mod:Nat):AC:=
 (.seq
 (rG 4096 [mC 2 (.t (.int .i64 0))])
 (.seq
 (rG 8192 [mv 3 0,cL 4 n_draw_Mod false [.tmp 3,.cst (.t (.int .i64 2))],oO 5 (.bin .add) [.cst (.t (.int .i64 2)),.tmp 4],mv 2 5])
 .ret))
def qJ0:AC:=
 (.seq
 (rG 4096 [mC 4 .nil])
 (.seq
 (.seq
 (rG 8192 [mv 5 0,oO 6 .len [.tmp 5],mv 7 1,bT 8 .gtr 6 7])
 (.cond (.tmp 8)
 (.seq
 (rG 12288 [mv 9 0,mv 10 1,oO 11 (.slice 1 false true false) [.tmp 9,.tmp 10],mv 4 11])
 .ret)
 .skip))
 (.seq
 (rG 16384 [mv 12 0,mv 4 12])
 .ret)))
def qJ1:AC:=
 (.seq
 (rG 4096 [mC 4 (.t .pnil)])
 (.seq
 (.seq
 (rG 8192 [mv 5 0,oO 6 .len [.tmp 5],mv 7 1,bT 8 .gtr 6 7])
 (.cond (.tmp 8)
 (rG 12288 [mv 9 0,mv 10 1,oO 11 (.slice 1 false true false) [.tmp 9,.tmp 10],mv 0 11])
 .skip))
 (.seq
 (rG 16384 [mv 12 0,oO 13 (.build [.nil,(.t (.int .i64 0))] [(0,1)]) [.tmp 12],oO 14 .box [.tmp 13],mv 4 14])
 .ret)))
def qAq:AC:=
 (.seq
 (rG 4096 [mC 4 (.t (.int .i64 0))])
 (.seq
 (.seq
 (.reg 8192 (some [0,1,3,7,0,16,48,112,240,511]) [mv 5 0,oO 6 .nilchk [.tmp 5],oO 7 (.faddr 1) [.tmp 6],oO 8 (.load 1 false) [.tmp 7],mv 9 0,oO 10 .nilchk [.tmp 9],oO 11 (.faddr 0) [.tmp 10],oO 12 (.load 1 false) [.tmp 11],oO 13 .len [.tmp 12],bT 14 .geq 8 13])
 (.cond (.tmp 14)
 (.seq
 (rG 12288 [mC 4 (.t (.int .i64 0))])
 .ret)
 .skip))
 (.seq
 (rG 16384 [mv 15 0,oO 16 .nilchk [.tmp 15],oO 17 (.faddr 1) [.tmp 16],oO 18 (.load 1 false) [.tmp 17],bN 19 .add 18 1,oO 20 .nilchk [.tmp 15],oO 21 (.faddr 1) [.tmp 20],oS 1 21 19])
 (.seq
 (.reg 20480 (some [0,1,3,7,0,16,48,112,240,511,1023,2047,0,8191,16383]) [mv 22 0,oO 23 .nilchk [.tmp 22],oO 24 (.faddr 0) [.tmp 23],oO 25 (.load 1 false) [.tmp 24],mv 26 0,oO 27 .nilchk [.tmp 26],oO 28 (.faddr 1) [.tmp 27],oO 29 (.load 1 false) [.tmp 28],bN 30 .sub 29 1,oO 31 (.iaddr 1) [.tmp 25,.tmp 30],oO 32 (.load 1 false) [.tmp 31],oO 33 (.conv .i64) [.tmp 32],mv 34 1,bT 35 .rem 33 34,mv 4 35])
 .ret))))
def qD8 (n_draw_Codes_Next:Nat):AC:=
 (.seq
 (rG 4096 [mC 2 .nil])
 (.seq
 (rG 8192 [oO 4 (.build [(.t (zU [])),(.t (zU [])),(.t (zU [])),(.t (zU [])),(.t (zU [])),(.t (zU []))] [(0,1),(1,1),(2,1),(3,1),(4,1),(5,1)]) [.cst (.t (zU [97,61,49])),.cst (.t (zU [99,111,117,110,116,61,53])),.cst (.t (zU [99,111,117,110,116,61,49,55])),.cst (.t (zU [104,111,115,116,61,120])),.cst (.t (zU [109,111,100,101,32,98])),.cst (.t (zU [126]))],oO 3 (.new 1 [(.t (zU [])),(.t (zU [])),(.t (zU [])),(.t (zU [])),(.t (zU [])),(.t (zU []))]) [],oS 6 3 4])
 (.seq
 (rG 12288 [mv 5 0,cL 6 n_draw_Codes_Next true [.tmp 5,.cst (.t (.int .i64 6))],oO 7 (.aaddr 6 1) [.tmp 3,.tmp 6],oO 8 (.load 1 false) [.tmp 7],oO 9 .s2b [.tmp 8],mv 2 9])
 .ret)))
def qEw:AC:=
 (.seq
 (rG 4096 [mC 2 .nil])
 (.seq
 (.seq
 (rG 8192 [mv 3 0,oO 4 (.nileq false) [.tmp 3,.cst .nil]])
 (.condb (.tmp 4)
 (.seq
 (rG 12288 [mC 2 .nil])
 .ret)
 .skip))
 (.seq
 (rG 16384 [oO 5 (.bslice 1 0 (.t (qA 0)) []) [],mv 6 0,oO 7 (.append 1 1) [.tmp 5,.tmp 6],mv 2 7])
 .ret)))
def qOe (n_wire_Uint:Nat):AC:=
 (.seq
 (rG 4096 [mC 4 .nil])
 (.seq
 (rG 8192 [mv 5 1,mv 6 1,oO 7 .len [.tmp 6],oO 8 .min [.tmp 7,.cst (.t (.int .i64 65535))],oO 9 (.slice 1 false true false) [.tmp 5,.tmp 8],mv 1 9])
 (.seq
 (rG 12288 [mv 10 0,mv 11 1,oO 12 .len [.tmp 11],cL 13 n_wire_Uint false [.tmp 10,.cst (.t (.int .i64 2)),.tmp 12],mv 14 1,oO 15 (.append 1 1) [.tmp 13,.tmp 14],mv 4 15])
 .ret)))
def qN8 (n_ref3_Uint:Nat):AC:=
 (.seq
 (rG 4096 [mC 4 .nil])
 (.seq
 (.seq
 (rG 8192 [mv 5 1,oO 6 .len [.tmp 5],bN 7 .gtr 6 65535])
 (.cond (.tmp 7)
 (rG 12288 [mv 8 1,oO 9 (.slice 1 false true false) [.tmp 8,.cst (.t (.int .i64 65535))],mv 1 9])
 .skip))
 (.seq
 (rG 16384 [mv 10 0,mv 11 1,oO 12 .len [.tmp 11],cL 13 n_ref3_Uint false [.tmp 10,.cst (.t (.int .i64 2)),.tmp 12],mv 14 1,oO 15 (.append 1 1) [.tmp 13,.tmp 14],mv 4 15])
 .ret)))
end Go.Eng
end
section
set_option maxRecDepth 20000
set_option maxHeartbeats 64000000
namespace Go.Eng
abbrev Ev:=Int×Int×List (List UInt8)×List UInt8
def evT (e:Ev):T:= .agg [.int .i64 e.1,.int .i64 e.2.1,.sl (e.2.2.1.map bsT),.sl (e.2.2.2.map qA)]
theorem zP {a b:Int} {c:List (List UInt8)} {d:List UInt8}:evT (a,b,c,d) = .agg [.int .i64 a,.int .i64 b,.sl (c.map bsT),.sl (d.map qA)]:=Eq.trans (Eq.refl _) rfl
theorem zB0 {e f:Ev} (h:evT e=evT f):e=f:=by
 obtain⟨a,b,c,d⟩:=e
 obtain⟨a',b',c',d'⟩:=f
 simp only[zP,T.agg.injEq,List.cons.injEq,T.int.injEq,T.sl.injEq,true_and,and_true,qA6,qZ] at h
 obtain⟨rfl,rfl,rfl,rfl⟩:=h
 rfl
def evM (e:Ev):Prop:=zA6 e.2.2.1∧e.2.2.2.length<1000000000
def qE6 (kind act:Int) (a:Nat):Nat:=if kind≠5∧act/2^a%2=1 then szA a else 0
def zI3 (r k act:Int):Prop:=act<1∨3<act∨r<0∨11<r∨k<1∨5<k
instance {r k act:Int}:Decidable (zI3 r k act):=by unfold zI3;infer_instance
def zB2 (k act:Int) (ds:List (List UInt8)):Bool:=decide (ds.length=2)&&decide ((ds.getD 0 []).length=qE6 k act 0)&&decide ((ds.getD 1 []).length=qE6 k act 1)
def qD0 (e:Ev) (act:Int):Int:=if zI3 e.1 e.2.1 act then 1 else if 64<e.2.2.2.length then 4 else if zB2 e.2.1 act e.2.2.1 then 0 else 27
theorem zIi {act:Int} {a:Nat}:qE6 5 act a=0:=if_neg (by simp)
theorem jJb {α:Type} {l:List α} (h:l.length=2) : ∃ a b,l=[a,b]:=by
 match l,h with
 | [a,b],_=>exact⟨a,b,rfl⟩
theorem qPu {k act:Int} {d0 d1:List UInt8}:zB2 k act [d0,d1]=(decide (d0.length=qE6 k act 0)&&decide (d1.length=qE6 k act 1)):=by simp[zB2]
theorem zUx {r k act:Int} (hb : ¬ zI3 r k act):(¬ act<1 ∧ ¬ 3<act)∧(¬ r<0 ∧ ¬ 11<r)∧(¬ k<1 ∧ ¬ 5<k):=by
 unfold zI3 at hb;omega
def qFg:Ct where
 α:=Int×Nat
 as x:=[.t (.int .i64 x.1),.t (.int .i64 x.2)]
 ins _:=[]
 pre x:=(0≤x.1∧x.1<4)∧x.2<2
 r x:= .t (.bool (decide (x.1/2^x.2%2=1)))
 outs _:=[]
 inj:=by
  rintro⟨a,b⟩ ⟨c,d⟩ h _
  simp only[List.cons.injEq,V.t.injEq,T.int.injEq,true_and,and_true,Int.natCast_inj] at h
  obtain⟨rfl,rfl⟩:=h
  exact⟨rfl,rfl⟩
theorem zDv (tab:Tab) (gl:Gl) (x:qFg.α) (hx:qFg.pre x):qHh.wp tab gl (qE 0 (qFg.as x)) (qE 0 []) (zZ [(4,none)] 0 (fun r o=>r=qFg.r x∧o=[])):=by
 obtain⟨s,a⟩:=x
 obtain⟨⟨h1,h2⟩,h3⟩:=hx
 simp only at h1 h2 h3
 show qHh.wp tab gl (qE 0 [.t (.int .i64 s),.t (.int .i64 a)]) (qE 0 []) (zZ [(4,none)] 0 (fun r o=>r = .t (.bool (decide (s/2^a%2=1)))∧o=[]))
 rcases (show s=0∨s=1∨s=2∨s=3 by omega) with rfl | rfl | rfl | rfl<;>rcases (show a=0∨a=1 by omega) with rfl | rfl
 all_goals simp (disch:=omega) only [go_sem,seval,qHh]
 all_goals rfl
theorem zSy {s:Int} {a:Nat} (h:(0≤s∧s<4)∧a<2):qFg.fs [.t (.int .i64 s),.t (.int .i64 a)] []=some (.t (.bool (decide (s/2^a%2=1))),[]):=qFg.eq (s,a) h
theorem zCe {s:Int} (h:0≤s∧s<4):qFg.fs [.t (.int .i64 s),.t (.int .i64 0)] []=some (.t (.bool (decide (s%2=1))),[]):=by
 have:=zSy (s:=s) (a:=0) ⟨h,by omega⟩
 simpa using this
theorem zCf {s:Int} (h:0≤s∧s<4):qFg.fs [.t (.int .i64 s),.t (.int .i64 1)] []=some (.t (.bool (decide (s/2%2=1))),[]):=by
 have:=zSy (s:=s) (a:=1) ⟨h,by omega⟩
 simpa using this
theorem zTw {k s:Int}:qE6 k s 0=if k≠5∧s%2=1 then 20 else 0:=by unfold qE6;simp[szA]
theorem zTx {k s:Int}:qE6 k s 1=if k≠5∧s/2%2=1 then 32 else 0:=by unfold qE6;simp[szA]
def qLl:Ct where
 α:=List UInt8
 as x:=[.t (.sl (x.map qA))]
 ins _:=[]
 pre x:=x.length<1000000000
 r x:= .t (.sl (x.map qA))
 outs _:=[]
 inj:=by
  intro a b h _
  simp only[List.cons.injEq,V.t.injEq,T.sl.injEq,and_true,qZ] at h
  subst h;exact⟨rfl,rfl⟩
theorem zOh {x:List UInt8} (h:x.length<1000000000):qLl.fs [.t (.sl (x.map qA))] []=some (.t (.sl (x.map qA)),[]):=qLl.eq x h
theorem qW1 (tab:Tab) (gl:Gl) (x:List UInt8) (hx:x.length<1000000000):qEw.wp tab gl (qE 0 [.t (.sl (x.map qA))]) (qE 0 []) (zZ [(2,none)] 0 (fun r o=>r = .t (.sl (x.map qA))∧o=[])):=by
 match x,hx with
 | [],hx=>simp (disch:=omega) only [go_sem,seval,qEw,List.map_nil]
 | a::r,hx=>
  simp only[List.length_cons] at hx
  simp (disch:=omega) only [go_sem,seval,qEw,List.map_cons,List.take_length]
def mkD (k act:Int) (d:List UInt8) (a:Nat):List UInt8:=if k≠5∧act/2^a%2=1 then qX0 a d else []
def mkE (r k act:Int) (d:List UInt8):Ev:=(r,k,[mkD k act d 0,mkD k act d 1],d)
def qF3:Ct where
 α:=Int×Int×Int×List UInt8
 as x:=[.t (.int .i64 x.1),.t (.int .i64 x.2.1),.t (.int .i64 x.2.2.1),.t (.sl (x.2.2.2.map qA))]
 ins _:=[]
 pre x:=(0≤x.2.2.1∧x.2.2.1<4)∧x.2.2.2.length<1000000000
 r x:= .t (evT (mkE x.1 x.2.1 x.2.2.1 x.2.2.2))
 outs _:=[]
 inj:=by
  rintro⟨a,b,c,d⟩ ⟨a',b',c',d'⟩ h _
  simp only[List.cons.injEq,V.t.injEq,T.int.injEq,T.sl.injEq,true_and,and_true,qZ] at h
  obtain⟨rfl,rfl,rfl,rfl⟩:=h
  exact⟨rfl,rfl⟩
def mkA (k act:Int) (d:List UInt8) (i a:Nat):List UInt8:=if a<i then mkD k act d a else []
theorem zCm {k act:Int} {d:List UInt8} {a:Nat}:mkA k act d 0 a=[]:=if_neg (by omega)
theorem qH7 {k act:Int} {d:List UInt8}:mkA k act d 1 0=mkD k act d 0:=if_pos (by omega)
theorem qH8 {k act:Int} {d:List UInt8}:mkA k act d 1 1=[]:=if_neg (by omega)
theorem qZd {k act:Int} {d:List UInt8} {a:Nat} (h:a<2):mkA k act d 2 a=mkD k act d a:=if_pos h
theorem jJd {k act:Int} {d:List UInt8}:mkD k act d 0=if k≠5∧act%2=1 then qJy d else []:=by unfold mkD;simp[qX0]
theorem jJe {k act:Int} {d:List UInt8}:mkD k act d 1=if k≠5∧act/2%2=1 then zK d else []:=by unfold mkD;simp[qX0]
theorem qZ8 (tab:Tab) (gl:Gl) (n1 n2:Nat) (h1:tab.look n1=some qLl.fs) (h2:tab.look n2=some kA.fs) (r k act:Int) (d:List UInt8) (ha:0≤act∧act<4) (hd:d.length<1000000000) :
  (qK5 n1 n2).wp tab gl (qE 0 [.t (.int .i64 r),.t (.int .i64 k),.t (.int .i64 act),.t (.sl (d.map qA))]) (qE 0 []) (zZ [(8,some (4,true))] 0 (fun r' o=>r' = .t (evT (mkE r k act d))∧o=[])):=by
 have hc:=zOh hd
 have s0:=qT hd
 have s1:=qS hd
 have e0:=jJd (k:=k) (act:=act) (d:=d)
 have e1:=jJe (k:=k) (act:=act) (d:=d)
 have l0:(qJy d).length=20:=jV
 have l1:(zK d).length=32:=qM
 have t0:List.take 20 (qJy d)=qJy d:=wW
 have t1:List.take 32 (zK d)=zK d:=yY
 generalize qJy d=S0 at *
 generalize zK d=S1 at *
 simp (disch:=omega) only [go_sem,seval,qK5,h1,hc]
 repeat refine And.intro rfl ?_
 refine qD 2 (fun i=>[(1,.t (.int .i64 k)),(2,.t (.int .i64 act)),(3,.t (.sl (d.map qA))),(8,.ref 4096 0 0),(9,.ref 8288 0 0),(19,.t (.int .i64 2)),(20,.t (.int .i64 (i:Nat)))])
  (fun i=>[(8288,.live 4 [.agg [.t (.int .i64 r),.t (.int .i64 k),.sl 8224 0 2,.t (.sl (d.map qA))]] true true),(8224,.live 1 [.t (.sl ((mkA k act d i 0).map qA)),.t (.sl ((mkA k act d i 1).map qA))] true false),(4096,.live 4 [.agg [.t (.int .i64 0),.t (.int .i64 0),.nil,.nil]] true true)]) ?_ (fun i hi=>?_)
 ·refine qI.rd id ?_ ?_ rfl
  all_goals simp (disch:=omega) only [go_sem,seval,id,zCm,List.map_nil]
 ·rcases (show i=0∨i=1∨i=2 by omega) with rfl | rfl | rfl
  ·rcases (show k=5∨k≠5 by omega) with rfl | hk
   ·rw[if_neg (by simp)] at e0
    simp (disch:=omega) only [go_sem,seval,vV,zCm]
    refine qI.rd id ?_ ?_ rfl
    all_goals simp (disch:=omega) only [go_sem,seval,id,qH7,qH8,e0,List.map_nil]
   ·have k5:(k==5)=false:=by simpa using hk
    have b5:(k != 5)=true:=by simpa using hk
    rcases (show act=0∨act=1∨act=2∨act=3 by omega) with rfl | rfl | rfl | rfl
    all_goals simp only[hk,ne_eq,not_false_eq_true,true_and,Int.reduceMod,Int.reduceEq,if_true,if_false] at e0
    all_goals simp (disch:=omega) only [go_sem,seval,vV,zCm,k5,b5,h2,s0,Int.reduceFDiv]
    all_goals first
     | (refine⟨rfl,qI.cv (hv:=[]) [28752] id ?_ rfl⟩;simp (disch:=omega) only [go_sem,seval,id,qH7,qH8,e0,l0,t0,List.map_nil];rfl)
     | (refine qI.rd id ?_ ?_ rfl;all_goals simp (disch:=omega) only [go_sem,seval,id,qH7,qH8,e0,List.map_nil])
  ·rcases (show k=5∨k≠5 by omega) with rfl | hk
   ·rw[if_neg (by simp)] at e1
    simp (disch:=omega) only [go_sem,seval,vV,qH7,qH8]
    refine qI.rd id ?_ ?_ rfl
    all_goals simp (disch:=omega) only [go_sem,seval,id,qZd,e1,List.map_nil]
   ·have k5:(k==5)=false:=by simpa using hk
    have b5:(k != 5)=true:=by simpa using hk
    rcases (show act=0∨act=1∨act=2∨act=3 by omega) with rfl | rfl | rfl | rfl
    all_goals simp only[hk,ne_eq,not_false_eq_true,true_and,Int.reduceDiv,Int.reduceMod,Int.reduceEq,if_true,if_false] at e1
    all_goals simp (disch:=omega) only [go_sem,seval,vV,qH7,qH8,k5,b5,h2,s1,Int.reduceFDiv]
    all_goals first
     | (refine⟨rfl,qI.cv (hv:=[]) [28752] id ?_ rfl⟩;simp (disch:=omega) only [go_sem,seval,id,qZd,e1,l1,t1,List.map_nil];rfl)
     | (refine qI.rd id ?_ ?_ rfl;all_goals simp (disch:=omega) only [go_sem,seval,id,qZd,e1,List.map_nil])
  ·simp (disch:=omega) only [go_sem,seval,vV,qZd,mkE,zP,List.map_cons,List.map_nil]
theorem zAg (tab:Tab) (gl:Gl) (n1 n2:Nat) (h1:tab.look n1=some qFg.fs) (h2:tab.look n2=some kA.fs) (r k act:Int) (d:List UInt8) (ha:0≤act∧act<4) (hd:d.length<1000000000) :
  (qLa n1 n2).wp tab gl (qE 0 [.t (.int .i64 r),.t (.int .i64 k),.t (.int .i64 act),.t (.sl (d.map qA))]) (qE 0 []) (zZ [(8,some (4,true))] 0 (fun r' o=>r' = .t (evT (mkE r k act d))∧o=[])):=by
 have q0:=zCe ha
 have q1:=zCf ha
 have s0:=qT hd
 have s1:=qS hd
 have e0:=jJd (k:=k) (act:=act) (d:=d)
 have e1:=jJe (k:=k) (act:=act) (d:=d)
 have l0:(qJy d).length=20:=jV
 have l1:(zK d).length=32:=qM
 have t0:List.take 20 (qJy d)=qJy d:=wW
 have t1:List.take 32 (zK d)=zK d:=yY
 generalize qJy d=S0 at *
 generalize zK d=S1 at *
 simp (disch:=omega) only [go_sem,seval,qLa]
 repeat refine And.intro rfl ?_
 refine qD 2 (fun i=>[(1,.t (.int .i64 k)),(2,.t (.int .i64 act)),(3,.t (.sl (d.map qA))),(8,.ref 4096 0 0),(9,.ref 8272 0 0),(10,.t (.int .i64 (i:Nat)))])
  (fun i=>[(8272,.live 4 [.agg [.t (.int .i64 r),.t (.int .i64 k),.sl 8224 0 2,.t (.sl (d.map qA))]] true true),(8224,.live 1 [.t (.sl ((mkA k act d i 0).map qA)),.t (.sl ((mkA k act d i 1).map qA))] true false),(4096,.live 4 [.agg [.t (.int .i64 0),.t (.int .i64 0),.nil,.nil]] true true)]) ?_ (fun i hi=>?_)
 ·refine qI.rd id ?_ ?_ rfl
  all_goals simp (disch:=omega) only [go_sem,seval,id,zCm,List.map_nil]
 ·have k5 : ∀ h:k≠5,(k==5)=false:=fun h=>by simpa using h
  have b5 : ∀ h:k≠5,(k != 5)=true:=fun h=>by simpa using h
  rcases (show i=0∨i=1∨i=2 by omega) with rfl | rfl | rfl
  ·by_cases b0:act%2=1
   ·rcases (show k=5∨k≠5 by omega) with rfl | hk
    ·rw[if_neg (by simp)] at e0
     simp (disch:=omega) only [go_sem,seval,yH,zCm,h1,q0,b0]
     refine qI.rd id ?_ ?_ rfl
     all_goals simp (disch:=omega) only [go_sem,seval,id,qH7,qH8,e0,List.map_nil]
    ·rw[if_pos ⟨hk,b0⟩] at e0
     simp (disch:=omega) only [go_sem,seval,yH,zCm,h1,q0,b0,k5 hk,b5 hk,h2,s0]
     refine⟨rfl,qI.cv (hv:=[]) [28752] id ?_ rfl⟩
     simp (disch:=omega) only [go_sem,seval,id,qH7,qH8,e0,l0,t0,List.map_nil]
     rfl
   ·rw[if_neg (by simp[b0])] at e0
    simp (disch:=omega) only [go_sem,seval,yH,zCm,h1,q0,b0]
    refine qI.rd id ?_ ?_ rfl
    all_goals simp (disch:=omega) only [go_sem,seval,id,qH7,qH8,e0,List.map_nil]
  ·by_cases b0:act/2%2=1
   ·rcases (show k=5∨k≠5 by omega) with rfl | hk
    ·rw[if_neg (by simp)] at e1
     simp (disch:=omega) only [go_sem,seval,yH,qH7,qH8,h1,q1,b0]
     refine qI.rd id ?_ ?_ rfl
     all_goals simp (disch:=omega) only [go_sem,seval,id,qZd,e1,List.map_nil]
    ·rw[if_pos ⟨hk,b0⟩] at e1
     simp (disch:=omega) only [go_sem,seval,yH,qH7,qH8,h1,q1,b0,k5 hk,b5 hk,h2,s1]
     refine⟨rfl,qI.cv (hv:=[]) [28752] id ?_ rfl⟩
     simp (disch:=omega) only [go_sem,seval,id,qZd,e1,l1,t1,List.map_nil]
     rfl
   ·rw[if_neg (by simp[b0])] at e1
    simp (disch:=omega) only [go_sem,seval,yH,qH7,qH8,h1,q1,b0]
    refine qI.rd id ?_ ?_ rfl
    all_goals simp (disch:=omega) only [go_sem,seval,id,qZd,e1,List.map_nil]
  ·simp (disch:=omega) only [go_sem,seval,yH,qZd,mkE,zP,List.map_cons,List.map_nil]
def qNh:List UInt8:=[0,0,0,0]
def qYo:Ct where
 α:=Unit
 as _:=[]
 ins _:=[]
 pre _:=True
 r _:= .sl 0 0 4
 outs _:=[.live 1 ((qNh.map qA).map V.t) true true]
 inj:=by intro a b _ _;exact⟨rfl,rfl⟩
theorem jBa:qYo.fs [] []=some (.sl 0 0 4,[.live 1 ((qNh.map qA).map V.t) true true]):=qYo.eq () trivial
theorem qNn (tab:Tab) (gl:Gl):qEc.wp tab gl (qE 0 []) (qE 0 []) (xM [] [(0,none)] 0 (fun r o=>r = .sl 0 0 4∧o=[.live 1 ((qNh.map qA).map V.t) true true])):=by
 simp (disch:=omega) only [go_sem,seval,qEc,qNh,List.map_cons,List.map_nil]
def okC (c:UInt8):Bool := !decide (c.toNat<32) && !decide (c.toNat>126)
def blL (b x:List UInt8):List UInt8:=b++beI 2 (x.length:Int) 2++x
theorem vD {b x:List UInt8}:(blL b x).length=b.length+2+x.length:=by unfold blL;rw[List.length_append,List.length_append,zJ]
def qA1:Ct where
 α:=List UInt8×List UInt8
 as x:=[.t (.sl (x.1.map qA)),.t (.sl (x.2.map qA))]
 ins _:=[]
 pre x:=x.1.length<100000000∧x.2.length≤65535
 r x:= .sl 0 0 (x.1.length+2+x.2.length)
 outs x:=[.live 1 (((blL x.1 x.2).map qA).map V.t) true false]
 inj:=by
  rintro⟨a,b⟩ ⟨c,d⟩ h _
  simp only[List.cons.injEq,V.t.injEq,T.sl.injEq,and_true,qZ] at h
  obtain⟨rfl,rfl⟩:=h
  exact⟨rfl,rfl⟩
theorem wY {b x:List UInt8} (h:b.length<100000000∧x.length≤65535):qA1.fs [.t (.sl (b.map qA)),.t (.sl (x.map qA))] []=some (.sl 0 0 (b.length+2+x.length),[.live 1 (((blL b x).map qA).map V.t) true false]):=qA1.eq (b,x) h
theorem zD5 (tab:Tab) (gl:Gl) (n1:Nat) (h1:tab.look n1=some vT.fs) (b x:List UInt8) (hb:b.length<100000000) (hx:x.length≤65535) :
  (qOe n1).wp tab gl (qE 0 [.t (.sl (b.map qA)),.t (.sl (x.map qA))]) (qE 0 []) (xM [] [(4,none)] 0 (fun r o=>r = .sl 0 0 (b.length+2+x.length)∧o=[.live 1 (((blL b x).map qA).map V.t) true false])):=by
 have hu:=qMo (b:=b) (n:=(x.length:Int)) (by omega)
 have hl:(b++beI 2 (x.length:Int) 2).length=b.length+2:=by rw[List.length_append,zJ]
 have hbl:blL b x=b++beI 2 (x.length:Int) 2++x:=rfl
 have hno : ¬ 65535<(x.length:Int):=by omega
 rw[hbl]
 generalize b++beI 2 (x.length:Int) 2=B at *
 simp (disch:=omega) only [go_sem,seval,qOe,h1,hu,hl,hno,List.take_length]
theorem zDx (tab:Tab) (gl:Gl) (n1:Nat) (h1:tab.look n1=some vT.fs) (b x:List UInt8) (hb:b.length<100000000) (hx:x.length≤65535) :
  (qN8 n1).wp tab gl (qE 0 [.t (.sl (b.map qA)),.t (.sl (x.map qA))]) (qE 0 []) (xM [] [(4,none)] 0 (fun r o=>r = .sl 0 0 (b.length+2+x.length)∧o=[.live 1 (((blL b x).map qA).map V.t) true false])):=by
 have hu:=qMo (b:=b) (n:=(x.length:Int)) (by omega)
 have hl:(b++beI 2 (x.length:Int) 2).length=b.length+2:=by rw[List.length_append,zJ]
 have hbl:blL b x=b++beI 2 (x.length:Int) 2++x:=rfl
 have hno : ¬ 65535<(x.length:Int):=by omega
 rw[hbl]
 generalize b++beI 2 (x.length:Int) 2=B at *
 simp (disch:=omega) only [go_sem,seval,qN8,h1,hu,hl,hno,List.take_length]
def jCo (r k:Int) (n m:Nat):Prop:=r<0∨11<r∨k<1∨5<k∨n≠2∨64<m
instance {r k:Int} {n m:Nat}:Decidable (jCo r k n m):=by unfold jCo;infer_instance
theorem zRm {a:Nat} {k':IntKind} (h:a<1000000):qTb .shl .i64 (a:Int) k' 8=some (.int .i64 ((256*a:Nat):Int)):=by
 change (if (8:Int)<0 then none else some (T.int .i64 (IntKind.i64.wrap ((a:Int)*2^min (8:Int).toNat 64))))=_
 rw[if_neg (by omega),show (a:Int)*2^min (8:Int).toNat 64=((256*a:Nat):Int) by
  rw[show min (8:Int).toNat 64=8 from rfl];omega,qBr (by omega)]
theorem zVw {a:Nat} {x:UInt8} (h:a<1000000):qTb .or .i64 ((256*a:Nat):Int) .i64 (x.toNat:Int)=some (.int .i64 ((256*a+x.toNat:Nat):Int)):=by
 have hx:=x.toNat_lt
 change some (T.int .i64 (IntKind.i64.wrap ((BitVec.ofInt 64 ((256*a:Nat):Int) ||| BitVec.ofInt 64 (x.toNat:Int)).toNat:Int)))=_
 have e:(BitVec.ofInt 64 ((256*a:Nat):Int) ||| BitVec.ofInt 64 (x.toNat:Int)).toNat=256*a+x.toNat:=by
  rw[BitVec.toNat_or,BitVec.toNat_ofInt,BitVec.toNat_ofInt,Int.emod_eq_of_lt (by omega) (by omega),Int.emod_eq_of_lt (by omega) (by omega),Int.toNat_natCast,Int.toNat_natCast,or8 (by omega)]
 rw[e,qBr (by omega)]
attribute [go_sem ↓] zRm zVw
end Go.Eng
end
section
namespace Go.Eng
def qD6:AC:=
 (.seq
 (rG 4096 [mC 2 (.t (.int .i64 0))])
 (.seq
 (.seq
 (rG 8192 [mv 3 0,bN 4 .eql 3 2])
 (.cond (.tmp 4)
 (.seq
 (rG 12288 [mC 2 (.t (.int .i64 17))])
 .ret)
 .skip))
 (.seq
 (rG 16384 [mC 2 (.t (.int .i64 32))])
 .ret)))
def qK0 (n_area_uniqueSize:Nat):AC:=
 (.seq
 (rG 4096 [oO 1 .box [.tmp 0],mC 2 (.t (.int .i64 0))])
 (.seq
 (rG 8192 [oO 4 (.faddr 0) [.tmp 1],oO 5 (.load 1 false) [.tmp 4],bN 6 .eql 5 2,mv 3 6])
 (.seq
 (.block 0
 (.seq
 (rG 12288 [oO 8 (.faddr 0) [.tmp 1],oO 9 (.load 1 false) [.tmp 8],bN 10 .lss 9 1,mv 11 10,oF 12 11 (.faddr 0) [.tmp 1],oF 13 11 (.load 1 false) [.tmp 12],oF 14 11 (.bin .gtr) [.tmp 13,.cst (.t (.int .i64 3))],oO 15 .pick [.tmp 11,.cst (.t (.bool true)),.tmp 14],mv 7 15])
 (.cond (.tmp 7)
 (.seq
 (rG 16384 [mC 2 (.t (.int .i64 19))])
 .ret)
 (.seq
 (.seq
 (rG 20480 [oO 17 (.faddr 1) [.tmp 1],oO 18 (.load 1 false) [.tmp 17],bN 19 .lss 18 0,mv 20 19,oF 21 20 (.faddr 1) [.tmp 1],oF 22 20 (.load 1 false) [.tmp 21],oF 23 20 (.bin .gtr) [.tmp 22,.cst (.t (.int .i64 7))],oO 24 .pick [.tmp 20,.cst (.t (.bool true)),.tmp 23],mv 16 24])
 (.cond (.tmp 16)
 .skip
 (.seq
 (rG 24576 [oO 25 (.faddr 1) [.tmp 1],oO 26 (.load 1 false) [.tmp 25],bN 27 .and 26 4,bN 28 .neq 27 0,mv 29 28,mG 30 3 29,oG 31 29 (.un .not) [.tmp 30],oO 32 .pick [.tmp 29,.tmp 31,.cst (.t (.bool false))],mv 16 32])
 (.cond (.tmp 16)
 .skip
 (rG 28672 [oO 33 (.faddr 1) [.tmp 1],oO 34 (.load 1 false) [.tmp 33],bN 35 .and 34 1,bN 36 .eql 35 0,mv 37 36,oG 38 37 (.faddr 3) [.tmp 1],oG 39 37 (.load 1 false) [.tmp 38],oG 40 37 .len [.tmp 39],oG 41 37 (.bin .eql) [.tmp 40,.cst (.t (.int .i64 0))],oO 42 .pick [.tmp 37,.tmp 41,.cst (.t (.bool false))],mv 16 42])))))
 (.cond (.tmp 16)
 (.seq
 (rG 32768 [mC 2 (.t (.int .i64 20))])
 .ret)
 (.seq
 (.seq
 (rG 36864 [oO 44 (.faddr 2) [.tmp 1],oO 45 (.load 1 false) [.tmp 44],bN 46 .lss 45 0,mv 47 46,oF 48 47 (.faddr 2) [.tmp 1],oF 49 47 (.load 1 false) [.tmp 48],oF 50 47 (.bin .gtr) [.tmp 49,.cst (.t (.int .i64 3))],oO 51 .pick [.tmp 47,.cst (.t (.bool true)),.tmp 50],mv 43 51])
 (.cond (.tmp 43)
 .skip
 (.seq
 (rG 40960 [oO 52 (.faddr 2) [.tmp 1],oO 53 (.load 1 false) [.tmp 52],bN 54 .neq 53 0,mv 55 54,mG 56 3 55,oG 57 55 (.un .not) [.tmp 56],oO 58 .pick [.tmp 55,.tmp 57,.cst (.t (.bool false))],mv 43 58])
 (.cond (.tmp 43)
 .skip
 (.seq
 (rG 45056 [oO 59 (.faddr 3) [.tmp 1],oO 60 (.load 1 false) [.tmp 59],oO 61 .len [.tmp 60],bN 62 .neq 61 0,mv 63 62,oG 64 63 (.faddr 3) [.tmp 1],oG 65 63 (.load 1 false) [.tmp 64],oG 66 63 .len [.tmp 65],oG 67 63 (.bin .neq) [.tmp 66,.cst (.t (.int .i64 32))],oO 68 .pick [.tmp 63,.tmp 67,.cst (.t (.bool false))],mv 43 68])
 (.cond (.tmp 43)
 .skip
 (.reg 49152 (some [0,1,3,0,8,24,63,127]) [oO 69 (.faddr 4) [.tmp 1],oO 70 (.load 1 false) [.tmp 69],oO 71 .len [.tmp 70],oO 72 (.faddr 0) [.tmp 1],oO 73 (.load 1 false) [.tmp 72],cL 74 n_area_uniqueSize false [.tmp 73],bT 75 .neq 71 74,mv 43 75])))))))
 (.cond (.tmp 43)
 (.seq
 (rG 53248 [mC 2 (.t (.int .i64 1))])
 .ret)
 .skip)))))))
 (.seq
 (rG 57344 [mC 2 (.t (.int .i64 0))])
 .ret))))
def qI2 (n_wire_Blob:Nat):AC:=
 (.seq
 (rG 4096 [oO 1 .box [.tmp 0],mC 2 .nil])
 (.seq
 (.reg 8192 (some [0,1,3,0,8,24,0,64,192,511,0,1024,4095,0,8192,32767,65535]) [oO 3 (.faddr 0) [.tmp 1],oO 4 (.load 1 false) [.tmp 3],oO 5 (.conv .u8) [.tmp 4],oO 6 (.faddr 1) [.tmp 1],oO 7 (.load 1 false) [.tmp 6],oO 8 (.conv .u8) [.tmp 7],oO 9 (.faddr 2) [.tmp 1],oO 10 (.load 1 false) [.tmp 9],oO 11 (.conv .u8) [.tmp 10],oO 12 (.bslice 1 3 (.t (qA 0)) [0,1,2]) [.tmp 5,.tmp 8,.tmp 11],oO 13 (.faddr 3) [.tmp 1],oO 14 (.load 1 false) [.tmp 13],cL 15 n_wire_Blob false [.tmp 12,.tmp 14],oO 16 (.faddr 4) [.tmp 1],oO 17 (.load 1 false) [.tmp 16],cL 18 n_wire_Blob false [.tmp 15,.tmp 17],mv 2 18])
 .ret))
def qNx (n_area_Encode n_digest_Hash:Nat):AC:=
 (.seq
 (rG 4096 [oO 1 .box [.tmp 0],mC 2 .nil])
 (.seq
 (rG 8192 [oO 3 (.load 5 true) [.tmp 1],cL 4 n_area_Encode false [.tmp 3],oO 5 (.bslice 1 1 .nil [0]) [.tmp 4],cL 6 n_digest_Hash false [.cst (.t (.int .i64 6)),.tmp 5],mv 2 6])
 .ret))
def qC7:AC:=
 (.seq
 (rG 4096 [mC 2 (.t (.int .i64 0))])
 (.seq
 (.seq
 (rG 8192 [mv 3 0,bN 4 .eql 3 2])
 (.cond (.tmp 4)
 (.seq
 (rG 12288 [mC 2 (.t (.int .i64 17))])
 .ret)
 .skip))
 (.seq
 (rG 16384 [mC 2 (.t (.int .i64 32))])
 .ret)))
def qI9 (n_ref10_UniqueSize:Nat):AC:=
 (.seq
 (rG 4096 [oO 1 .box [.tmp 0],mC 2 (.t (.int .i64 0))])
 (.seq
 (.seq
 (rG 8192 [oO 3 (.faddr 0) [.tmp 1],oO 4 (.load 1 false) [.tmp 3],bN 5 .lss 4 1,mv 6 5,oF 7 6 (.faddr 0) [.tmp 1],oF 8 6 (.load 1 false) [.tmp 7],oF 9 6 (.bin .gtr) [.tmp 8,.cst (.t (.int .i64 3))],oO 10 .pick [.tmp 6,.cst (.t (.bool true)),.tmp 9]])
 (.cond (.tmp 10)
 (.seq
 (rG 12288 [mC 2 (.t (.int .i64 19))])
 .ret)
 .skip))
 (.seq
 (.seq
 (rG 16384 [oO 11 (.faddr 1) [.tmp 1],oO 12 (.load 1 false) [.tmp 11],bN 13 .lss 12 0,mv 14 13,oF 15 14 (.faddr 1) [.tmp 1],oF 16 14 (.load 1 false) [.tmp 15],oF 17 14 (.bin .gtr) [.tmp 16,.cst (.t (.int .i64 7))],oO 18 .pick [.tmp 14,.cst (.t (.bool true)),.tmp 17],mv 19 18,oF 20 19 (.faddr 1) [.tmp 1],oF 21 19 (.load 1 false) [.tmp 20],oF 22 19 (.bin .and) [.tmp 21,.cst (.t (.int .i64 4))],oF 23 19 (.bin .neq) [.tmp 22,.cst (.t (.int .i64 0))],mF 24 23 19,oG 25 24 (.faddr 0) [.tmp 1],oG 26 24 (.load 1 false) [.tmp 25],oG 27 24 (.bin .neq) [.tmp 26,.cst (.t (.int .i64 2))],oF 28 19 .pick [.tmp 24,.tmp 27,.cst (.t (.bool false))],oO 29 .pick [.tmp 19,.cst (.t (.bool true)),.tmp 28],mv 30 29,oF 31 30 (.faddr 1) [.tmp 1],oF 32 30 (.load 1 false) [.tmp 31],oF 33 30 (.bin .and) [.tmp 32,.cst (.t (.int .i64 1))],oF 34 30 (.bin .eql) [.tmp 33,.cst (.t (.int .i64 0))],mF 35 34 30,oG 36 35 (.faddr 3) [.tmp 1],oG 37 35 (.load 1 false) [.tmp 36],oG 38 35 .len [.tmp 37],oG 39 35 (.bin .eql) [.tmp 38,.cst (.t (.int .i64 0))],oF 40 30 .pick [.tmp 35,.tmp 39,.cst (.t (.bool false))],oO 41 .pick [.tmp 30,.cst (.t (.bool true)),.tmp 40]])
 (.cond (.tmp 41)
 (.seq
 (rG 20480 [mC 2 (.t (.int .i64 20))])
 .ret)
 .skip))
 (.seq
 (.seq
 (.reg 24576 (some [0,1,3,7,15,31,63,127,255,511,1023,2047,4095,8191,16383,32767,65535,131071,262143,524287,1048575,2097151,4194303,8388607,16777215,33554431,67108863,134217727,268435455,536870911,1073741823,2147483647,4294967295,8589934591,2147483647,19327352831,53687091199,137438953471,274877906943]) [oO 42 (.faddr 2) [.tmp 1],oO 43 (.load 1 false) [.tmp 42],bN 44 .lss 43 0,mv 45 44,oF 46 45 (.faddr 2) [.tmp 1],oF 47 45 (.load 1 false) [.tmp 46],oF 48 45 (.bin .gtr) [.tmp 47,.cst (.t (.int .i64 3))],oO 49 .pick [.tmp 45,.cst (.t (.bool true)),.tmp 48],mv 50 49,oF 51 50 (.faddr 2) [.tmp 1],oF 52 50 (.load 1 false) [.tmp 51],oF 53 50 (.bin .neq) [.tmp 52,.cst (.t (.int .i64 0))],mF 54 53 50,oG 55 54 (.faddr 0) [.tmp 1],oG 56 54 (.load 1 false) [.tmp 55],oG 57 54 (.bin .neq) [.tmp 56,.cst (.t (.int .i64 2))],oF 58 50 .pick [.tmp 54,.tmp 57,.cst (.t (.bool false))],oO 59 .pick [.tmp 50,.cst (.t (.bool true)),.tmp 58],mv 60 59,oF 61 60 (.faddr 3) [.tmp 1],oF 62 60 (.load 1 false) [.tmp 61],oF 63 60 .len [.tmp 62],oF 64 60 (.bin .neq) [.tmp 63,.cst (.t (.int .i64 0))],mF 65 64 60,oG 66 65 (.faddr 3) [.tmp 1],oG 67 65 (.load 1 false) [.tmp 66],oG 68 65 .len [.tmp 67],oG 69 65 (.bin .neq) [.tmp 68,.cst (.t (.int .i64 32))],oF 70 60 .pick [.tmp 65,.tmp 69,.cst (.t (.bool false))],oO 71 .pick [.tmp 60,.cst (.t (.bool true)),.tmp 70],mv 72 71,oF 73 72 (.faddr 4) [.tmp 1],oF 74 72 (.load 1 false) [.tmp 73],oF 75 72 .len [.tmp 74],oF 76 72 (.faddr 0) [.tmp 1],oF 77 72 (.load 1 false) [.tmp 76],cF 78 72 n_ref10_UniqueSize false [.tmp 77],oF 79 72 (.bin .neq) [.tmp 75,.tmp 78],oO 80 .pick [.tmp 72,.cst (.t (.bool true)),.tmp 79]])
 (.cond (.tmp 80)
 (.seq
 (rG 28672 [mC 2 (.t (.int .i64 1))])
 .ret)
 .skip))
 (.seq
 (rG 32768 [mC 2 (.t (.int .i64 0))])
 .ret)))))
def qAt (n_ref1_Same:Nat):AC:=
 (.seq
 (rG 4096 [oO 2 .box [.tmp 0],oO 3 .box [.tmp 1],mC 4 (.t (.bool false))])
 (.seq
 (rG 8192 [oO 5 (.faddr 0) [.tmp 2],oO 6 (.load 1 false) [.tmp 5],oO 7 (.faddr 0) [.tmp 3],oO 8 (.load 1 false) [.tmp 7],bT 9 .eql 6 8,mv 10 9,oG 11 10 (.faddr 1) [.tmp 2],oG 12 10 (.load 1 false) [.tmp 11],oG 13 10 (.faddr 1) [.tmp 3],oG 14 10 (.load 1 false) [.tmp 13],oG 15 10 (.bin .eql) [.tmp 12,.tmp 14],oO 16 .pick [.tmp 10,.tmp 15,.cst (.t (.bool false))],mv 17 16,oG 18 17 (.faddr 2) [.tmp 2],oG 19 17 (.load 1 false) [.tmp 18],oG 20 17 (.faddr 2) [.tmp 3],oG 21 17 (.load 1 false) [.tmp 20],oG 22 17 (.bin .eql) [.tmp 19,.tmp 21],oO 23 .pick [.tmp 17,.tmp 22,.cst (.t (.bool false))],mv 24 23,oG 25 24 (.faddr 3) [.tmp 2],oG 26 24 (.load 1 false) [.tmp 25],oG 27 24 (.faddr 3) [.tmp 3],oG 28 24 (.load 1 false) [.tmp 27],cG 29 24 n_ref1_Same false [.tmp 26,.tmp 28],oO 30 .pick [.tmp 24,.tmp 29,.cst (.t (.bool false))],mv 31 30,oG 32 31 (.faddr 4) [.tmp 2],oG 33 31 (.load 1 false) [.tmp 32],oG 34 31 (.faddr 4) [.tmp 3],oG 35 31 (.load 1 false) [.tmp 34],cG 36 31 n_ref1_Same false [.tmp 33,.tmp 35],oO 37 .pick [.tmp 31,.tmp 36,.cst (.t (.bool false))],mv 4 37])
 .ret))
def qHe (n_ref3_Blob:Nat):AC:=
 (.seq
 (rG 4096 [oO 1 .box [.tmp 0],mC 2 .nil])
 (.seq
 (.reg 8192 (some [0,1,3,0,8,24,0,64,192,511,0,1024,4095,0,8192,32767,65535]) [oO 3 (.faddr 0) [.tmp 1],oO 4 (.load 1 false) [.tmp 3],oO 5 (.conv .u8) [.tmp 4],oO 6 (.faddr 1) [.tmp 1],oO 7 (.load 1 false) [.tmp 6],oO 8 (.conv .u8) [.tmp 7],oO 9 (.faddr 2) [.tmp 1],oO 10 (.load 1 false) [.tmp 9],oO 11 (.conv .u8) [.tmp 10],oO 12 (.bslice 1 3 (.t (qA 0)) [0,1,2]) [.tmp 5,.tmp 8,.tmp 11],oO 13 (.faddr 3) [.tmp 1],oO 14 (.load 1 false) [.tmp 13],cL 15 n_ref3_Blob false [.tmp 12,.tmp 14],oO 16 (.faddr 4) [.tmp 1],oO 17 (.load 1 false) [.tmp 16],cL 18 n_ref3_Blob false [.tmp 15,.tmp 17],mv 2 18])
 .ret))
def qK7 (n_ref10_Encode n_ref1_Hash:Nat):AC:=
 (.seq
 (rG 4096 [oO 1 .box [.tmp 0],mC 2 .nil])
 (.seq
 (rG 8192 [oO 3 (.load 5 true) [.tmp 1],cL 4 n_ref10_Encode false [.tmp 3],oO 5 (.bslice 1 1 .nil [0]) [.tmp 4],cL 6 n_ref1_Hash false [.cst (.t (.int .i64 6)),.tmp 5],mv 2 6])
 .ret))
def qK1:AC:=
 (.seq
 (rG 4096 [mC 4 (.t (qA 0))])
 (.seq
 (.reg 8192 (some [0,0,3,7,0,0,48,112,255,511]) [oO 5 (.load 1 false) [.tmp 1],mv 6 0,oO 7 (.iaddr 1) [.tmp 5,.tmp 6],oO 8 (.load 1 false) [.tmp 7],oO 9 (.load 1 false) [.tmp 2],mv 10 0,oO 11 (.iaddr 1) [.tmp 9,.tmp 10],oO 12 (.load 1 false) [.tmp 11],bT 13 .xor 8 12,mv 4 13])
 .ret))
def qEv:AC:=
 (.seq
 (rG 24576 [bT 23 .lss 22 21])
 (.seq
 (.cond (.tmp 23)
 .skip
 (.exit 0))
 (.seq
 (.block 1
 (.seq
 (rG 28672 [mv 24 22,mv 10 24])
 (rG 32768 [mv 25 9,mv 26 10,mv 27 8,mv 28 10,⟨some 29,(.callv true),[.tmp 27,.tmp 28],none⟩,oO 30 (.iaddr 1) [.tmp 25,.tmp 26],oS 1 30 29])))
 (rG 36864 [bN 31 .add 22 1,mv 22 31]))))
def qQc (n_mac_Derive n_box_mask_1:Nat):AC:=
 (.seq
 (rG 4096 [oO 5 .box [.tmp 2],mC 6 .nil])
 (.seq
 (rG 8192 [mv 11 0,mv 12 1,oO 13 (.load 1 false) [.tmp 5],oO 14 .len [.tmp 13],cL 15 n_mac_Derive true [.tmp 11,.cst (.t (zU [101,110,99,114,121,112,116])),.tmp 12,.tmp 14],oO 7 (.new 1 [.nil]) [],oS 1 7 15])
 (.seq
 (rG 12288 [oO 16 (.mkfn n_box_mask_1) [.tmp 5,.tmp 7],mv 8 16])
 (.seq
 (rG 16384 [oO 17 (.load 1 false) [.tmp 5],oO 18 .len [.tmp 17],oO 19 (.mkslice 1 1 (.t (qA 0))) [.tmp 18,.tmp 18],mv 9 19])
 (.seq
 (.seq
 (rG 20480 [mv 20 9,oO 21 .len [.tmp 20],mC 22 (.t (.int .i64 0))])
 (.block 0
 (.loop qEv)))
 (.seq
 (rG 40960 [mv 32 9,mv 6 32])
 .ret))))))
def qUl (n_mac_Derive n_digest_Frame n_mac_Mac:Nat):AC:=
 (.seq
 (rG 4096 [mC 8 .nil])
 (.seq
 (rG 8192 [mv 10 0,mv 11 1,cL 12 n_mac_Derive true [.tmp 10,.cst (.t (zU [97,117,116,104,101,110,116,105,99,97,116,101])),.tmp 11,.cst (.t (.int .i64 32))],mv 9 12])
 (.seq
 (rG 12288 [mv 13 9,mv 14 2,mv 15 1,mv 16 3,oO 17 (.bslice 1 3 .nil [0,1,2]) [.tmp 14,.tmp 15,.tmp 16],cL 18 n_digest_Frame false [.cst (.t (.int .i64 0)),.tmp 17],cL 19 n_mac_Mac false [.tmp 13,.tmp 18],mv 8 19])
 .ret)))
def qQb (n_box_mask n_wire_Blob n_box_tag:Nat):AC:=
 (.seq
 (rG 4096 [mC 8 .nil])
 (.seq
 (.seq
 (rG 8192 [mv 11 1,oO 12 .len [.tmp 11],bN 13 .gtr 12 64,mv 14 13,mF 15 3 14,oF 16 14 .len [.tmp 15],oF 17 14 (.bin .gtr) [.tmp 16,.cst (.t (.int .i64 1024))],oO 18 .pick [.tmp 14,.cst (.t (.bool true)),.tmp 17]])
 (.cond (.tmp 18)
 (.seq
 (rG 12288 [mC 8 .nil])
 .ret)
 .skip))
 (.seq
 (rG 16384 [mv 19 0,mv 20 1,mv 21 3,cL 22 n_box_mask false [.tmp 19,.tmp 20,.tmp 21],mv 9 22])
 (.seq
 (rG 20480 [mv 23 1,cL 24 n_wire_Blob false [.cst .nil,.tmp 23],mv 25 9,cL 26 n_wire_Blob false [.tmp 24,.tmp 25],mv 10 26])
 (.seq
 (rG 24576 [mv 27 10,mv 28 0,mv 29 1,mv 30 2,mv 31 9,cL 32 n_box_tag false [.tmp 28,.tmp 29,.tmp 30,.tmp 31],oO 33 (.append 1 1) [.tmp 27,.tmp 32],mv 8 33])
 .ret)))))
def qBj:AC:=
 (.seq
 (.seq
 (rG 20480 [mv 18 9,mv 19 2,oO 20 .len [.tmp 19],bT 21 .lss 18 20])
 (.cond (.tmp 21)
 .skip
 (.exit 0)))
 (.seq
 (.block 1
 (.reg 28672 (some [0,0,0,0,12,28,0,0,192,448,1020,2047,4095]) [mv 24 8,mv 25 9,mv 26 2,mv 27 9,oO 28 (.iaddr 1) [.tmp 26,.tmp 27],oO 29 (.load 1 false) [.tmp 28],mv 30 7,mv 31 9,oO 32 (.iaddr 1) [.tmp 30,.tmp 31],oO 33 (.load 1 false) [.tmp 32],bT 34 .xor 29 33,oO 35 (.iaddr 1) [.tmp 24,.tmp 25],oS 1 35 34]))
 (rG 24576 [mv 22 9,bN 23 .add 22 1,mv 9 23])))
def qJe (n_ref2_Derive:Nat):AC:=
 (.seq
 (rG 4096 [mC 6 .nil])
 (.seq
 (rG 8192 [mv 10 0,mv 11 1,mv 12 2,oO 13 .len [.tmp 12],cL 14 n_ref2_Derive true [.tmp 10,.cst (.t (zU [101,110,99,114,121,112,116])),.tmp 11,.tmp 13],mv 7 14])
 (.seq
 (rG 12288 [mv 15 2,oO 16 .len [.tmp 15],oO 17 (.mkslice 1 1 (.t (qA 0))) [.tmp 16,.tmp 16],mv 8 17])
 (.seq
 (.seq
 (rG 16384 [mC 9 (.t (.int .i64 0))])
 (.block 0
 (.loop qBj)))
 (.seq
 (rG 32768 [mv 36 8,mv 6 36])
 .ret)))))
def qQg (n_ref2_Derive n_ref1_Frame n_ref2_Mac:Nat):AC:=
 (.seq
 (rG 4096 [mC 8 .nil])
 (.seq
 (rG 8192 [mv 10 0,mv 11 1,cL 12 n_ref2_Derive true [.tmp 10,.cst (.t (zU [97,117,116,104,101,110,116,105,99,97,116,101])),.tmp 11,.cst (.t (.int .i64 32))],mv 9 12])
 (.seq
 (rG 12288 [mv 13 9,mv 14 2,mv 15 1,mv 16 3,oO 17 (.bslice 1 3 .nil [0,1,2]) [.tmp 14,.tmp 15,.tmp 16],cL 18 n_ref1_Frame false [.cst (.t (.int .i64 0)),.tmp 17],cL 19 n_ref2_Mac false [.tmp 13,.tmp 18],mv 8 19])
 .ret)))
def qOa (n_ref4_stream n_ref3_Blob n_ref4_Tag:Nat):AC:=
 (.seq
 (rG 4096 [mC 8 .nil])
 (.seq
 (.seq
 (rG 8192 [mv 10 1,oO 11 .len [.tmp 10],bN 12 .gtr 11 64,mv 13 12,mF 14 3 13,oF 15 13 .len [.tmp 14],oF 16 13 (.bin .gtr) [.tmp 15,.cst (.t (.int .i64 1024))],oO 17 .pick [.tmp 13,.cst (.t (.bool true)),.tmp 16]])
 (.cond (.tmp 17)
 (.seq
 (rG 12288 [mC 8 .nil])
 .ret)
 .skip))
 (.seq
 (rG 16384 [mv 18 0,mv 19 1,mv 20 3,cL 21 n_ref4_stream false [.tmp 18,.tmp 19,.tmp 20],mv 9 21])
 (.seq
 (rG 20480 [mv 22 1,cL 23 n_ref3_Blob false [.cst .nil,.tmp 22],mv 24 9,cL 25 n_ref3_Blob false [.tmp 23,.tmp 24],mv 26 0,mv 27 1,mv 28 2,mv 29 9,cL 30 n_ref4_Tag false [.tmp 26,.tmp 27,.tmp 28,.tmp 29],oO 31 (.append 1 1) [.tmp 25,.tmp 30],mv 8 31])
 .ret))))
def qJl (n_signer_Public n_digest_Hash:Nat):AC:=
 (.seq
 (rG 4096 [oO 5 .box [.tmp 2],mC 6 .nil])
 (.seq
 (.seq
 (rG 8192 [mv 7 0,bN 8 .eql 7 2])
 (.cond (.tmp 8)
 (.seq
 (rG 12288 [oO 9 (.faddr 1) [.tmp 5],oO 10 (.load 1 false) [.tmp 9],mv 11 1,cL 12 n_signer_Public false [.tmp 10,.tmp 11],mv 6 12])
 .ret)
 .skip))
 (.seq
 (rG 16384 [oO 13 (.faddr 1) [.tmp 5],oO 14 (.load 1 false) [.tmp 13],oO 15 (.faddr 2) [.tmp 5],oO 16 (.load 1 false) [.tmp 15],oO 17 (.bslice 1 2 .nil [0,1]) [.tmp 14,.tmp 16],cL 18 n_digest_Hash false [.cst (.t (.int .i64 13)),.tmp 17],mv 6 18])
 .ret)))
def qJk:AC:=
 (.seq
 (rG 4096 [oO 2 (.new 5 [(.agg [(.t (.int .i64 0)),(.t (.int .i64 0)),(.t (.int .i64 0)),.nil,.nil])]) [],oO 3 (.new 3 [(.agg [.nil,.nil,.nil])]) [],mC 4 (.t (.int .i64 0))])
 (.seq
 (rG 8192 [oO 5 (.build [(.t (.int .i64 0)),(.t (.int .i64 0)),(.t (.int .i64 0)),.nil,.nil] []) [],oO 6 (.build [.nil,.nil,.nil] []) [],mv 7 0,oS 5 2 5,oS 3 3 6,mv 4 7])
 .ret))
def qEf (n_wrap_Make_1 n_area_Check n_mac_Derive n_wrap_unique:Nat):AC:=
 (.seq
 (rG 4096 [oO 5 .box [.tmp 1],oO 8 (.new 5 [(.agg [(.t (.int .i64 0)),(.t (.int .i64 0)),(.t (.int .i64 0)),.nil,.nil])]) [],oO 9 (.new 3 [(.agg [.nil,.nil,.nil])]) [],mC 10 (.t (.int .i64 0))])
 (.seq
 (rG 8192 [mC 11 (.fn n_wrap_Make_1 [])])
 (.seq
 (rG 12288 [oO 15 (.load 5 true) [.tmp 5],oO 12 (.new 5 [(.agg [(.t (.int .i64 0)),(.t (.int .i64 0)),(.t (.int .i64 0)),.nil,.nil])]) [],oS 5 12 15])
 (.seq
 (rG 16384 [oO 16 (.mkslice 1 1 (.t (qA 0))) [.cst (.t (.int .i64 32)),.cst (.t (.int .i64 32))],oO 17 (.faddr 4) [.tmp 12],oS 1 17 16])
 (.seq
 (.seq
 (rG 20480 [oO 18 (.faddr 0) [.tmp 12],oO 19 (.load 1 false) [.tmp 18],bN 20 .eql 19 2])
 (.cond (.tmp 20)
 (rG 24576 [oO 21 (.mkslice 1 1 (.t (qA 0))) [.cst (.t (.int .i64 17)),.cst (.t (.int .i64 17))],oO 22 (.faddr 4) [.tmp 12],oS 1 22 21])
 .skip))
 (.seq
 (.seq
 (rG 28672 [oO 23 (.load 5 true) [.tmp 12],cL 24 n_area_Check false [.tmp 23],mv 13 24])
 (.seq
 (rG 32768 [mv 25 13,bN 26 .neq 25 0])
 (.cond (.tmp 26)
 (.seq
 (rG 36864 [mv 27 11,mv 28 13,⟨some 29,(.callv true),[.tmp 27,.tmp 28],none⟩,oO 30 (.extract 0) [.tmp 29],oO 31 (.extract 1) [.tmp 29],oO 32 (.extract 2) [.tmp 29],oS 5 8 30,oS 3 9 31,mv 10 32])
 .ret)
 .skip)))
 (.seq
 (.seq
 (rG 40960 [mv 33 2,oO 34 .len [.tmp 33],bN 35 .gtr 34 32,mv 36 35,mF 37 3 36,oF 38 36 .len [.tmp 37],oF 39 36 (.bin .gtr) [.tmp 38,.cst (.t (.int .i64 128))],oO 40 .pick [.tmp 36,.cst (.t (.bool true)),.tmp 39]])
 (.cond (.tmp 40)
 (.seq
 (rG 45056 [mv 41 11,⟨some 42,(.callv true),[.tmp 41,.cst (.t (.int .i64 4))],none⟩,oO 43 (.extract 0) [.tmp 42],oO 44 (.extract 1) [.tmp 42],oO 45 (.extract 2) [.tmp 42],oS 5 8 43,oS 3 9 44,mv 10 45])
 .ret)
 .skip))
 (.seq
 (.seq
 (rG 49152 [mv 46 3,oO 47 .len [.tmp 46],bN 48 .gtr 47 0,mv 49 48,oG 50 49 (.faddr 0) [.tmp 12],oG 51 49 (.load 1 false) [.tmp 50],oG 52 49 (.bin .neq) [.tmp 51,.cst (.t (.int .i64 3))],oO 53 .pick [.tmp 49,.tmp 52,.cst (.t (.bool false))]])
 (.cond (.tmp 53)
 (.seq
 (rG 53248 [mv 54 11,⟨some 55,(.callv true),[.tmp 54,.cst (.t (.int .i64 1))],none⟩,oO 56 (.extract 0) [.tmp 55],oO 57 (.extract 1) [.tmp 55],oO 58 (.extract 2) [.tmp 55],oS 5 8 56,oS 3 9 57,mv 10 58])
 .ret)
 .skip))
 (.seq
 (rG 57344 [mv 59 2,mv 60 0,cL 61 n_mac_Derive true [.tmp 60,.cst (.t (zU [115,101,101,100])),.cst .nil,.cst (.t (.int .i64 32))],mv 62 3,oO 63 (.build [.nil,.nil,.nil] [(0,1),(1,1),(2,1)]) [.tmp 59,.tmp 61,.tmp 62],oO 14 (.new 3 [(.agg [.nil,.nil,.nil])]) [],oS 3 14 63])
 (.seq
 (rG 61440 [oO 64 (.faddr 0) [.tmp 12],oO 65 (.load 1 false) [.tmp 64],oO 66 (.faddr 2) [.tmp 12],oO 67 (.load 1 false) [.tmp 66],oO 68 (.load 3 true) [.tmp 14],cL 69 n_wrap_unique false [.tmp 65,.tmp 67,.tmp 68],oO 70 (.faddr 4) [.tmp 12],oS 1 70 69])
 (.seq
 (.reg 65536 (some [0,0,1,7,15]) [oO 71 (.load 5 true) [.tmp 12],oO 72 (.load 3 true) [.tmp 14],oS 5 8 71,oS 3 9 72,mC 10 (.t (.int .i64 0))])
 .ret)))))))))))
def qQh (n_area_Name n_mac_Derive:Nat):AC:=
 (.seq
 (rG 4096 [oO 2 .box [.tmp 0],oO 3 .box [.tmp 1],mC 4 .nil,mC 5 .nil])
 (.seq
 (rG 8192 [oO 7 (.load 5 true) [.tmp 3],cL 8 n_area_Name true [.tmp 7],mv 6 8])
 (.seq
 (.reg 12288 (some [0,1,0,7,0,16,15,127]) [oO 9 (.faddr 1) [.tmp 2],oO 10 (.load 1 false) [.tmp 9],mv 11 6,cL 12 n_mac_Derive true [.tmp 10,.cst (.t (zU [112,114,105,118,97,116,101])),.tmp 11,.cst (.t (.int .i64 32))],mv 13 6,oO 14 (.slice 1 false true true) [.tmp 13,.cst (.t (.int .i64 16)),.cst (.t (.int .i64 16))],mv 4 12,mv 5 14])
 .ret)))
def qHn (n_wrap_key n_wire_Blob n_area_Encode n_box_Seal:Nat):AC:=
 (.seq
 (rG 4096 [oO 3 .box [.tmp 0],oO 4 .box [.tmp 1],oO 5 .box [.tmp 2],mC 6 .nil])
 (.seq
 (rG 8192 [oO 11 (.load 3 true) [.tmp 3],oO 12 (.load 5 true) [.tmp 4],cL 13 n_wrap_key true [.tmp 11,.tmp 12],mv 10 13,oO 14 (.extract 0) [.tmp 10],oO 15 (.extract 1) [.tmp 10],mv 7 14,mv 8 15])
 (.seq
 (.reg 12288 (some [0,1,3,0,8,31,0,64,255,511]) [oO 16 (.faddr 0) [.tmp 5],oO 17 (.load 1 false) [.tmp 16],cL 18 n_wire_Blob false [.cst .nil,.tmp 17],oO 19 (.faddr 1) [.tmp 5],oO 20 (.load 1 false) [.tmp 19],cL 21 n_wire_Blob false [.tmp 18,.tmp 20],oO 22 (.faddr 2) [.tmp 5],oO 23 (.load 1 false) [.tmp 22],cL 24 n_wire_Blob false [.tmp 21,.tmp 23],mv 9 24])
 (.seq
 (rG 16384 [mv 25 7,mv 26 8,oO 27 (.load 5 true) [.tmp 4],cL 28 n_area_Encode false [.tmp 27],mv 29 9,cL 30 n_box_Seal true [.tmp 25,.tmp 26,.tmp 28,.tmp 29],mv 6 30])
 .ret))))
def qHf (n_ref7_Public n_ref1_Hash:Nat):AC:=
 (.seq
 (rG 4096 [oO 3 .box [.tmp 0],mC 6 .nil])
 (.seq
 (.seq
 (rG 8192 [mv 7 1,bN 8 .eql 7 2])
 (.cond (.tmp 8)
 (.seq
 (rG 12288 [oO 9 (.faddr 1) [.tmp 3],oO 10 (.load 1 false) [.tmp 9],mv 11 2,cL 12 n_ref7_Public true [.tmp 10,.tmp 11],mv 6 12])
 .ret)
 .skip))
 (.seq
 (rG 16384 [oO 13 (.faddr 1) [.tmp 3],oO 14 (.load 1 false) [.tmp 13],oO 15 (.faddr 2) [.tmp 3],oO 16 (.load 1 false) [.tmp 15],oO 17 (.bslice 1 2 .nil [0,1]) [.tmp 14,.tmp 16],cL 18 n_ref1_Hash false [.cst (.t (.int .i64 13)),.tmp 17],mv 6 18])
 .ret)))
def qCu (n_ref10_UniqueSize n_ref10_Check n_ref2_Derive n_ref11_Unique:Nat):AC:=
 (.seq
 (rG 4096 [oO 5 .box [.tmp 1],oO 8 (.new 5 [(.agg [(.t (.int .i64 0)),(.t (.int .i64 0)),(.t (.int .i64 0)),.nil,.nil])]) [],oO 9 (.new 3 [(.agg [.nil,.nil,.nil])]) [],mC 10 (.t (.int .i64 0))])
 (.seq
 (rG 8192 [oO 14 (.load 5 true) [.tmp 5],oO 11 (.new 5 [(.agg [(.t (.int .i64 0)),(.t (.int .i64 0)),(.t (.int .i64 0)),.nil,.nil])]) [],oS 5 11 14])
 (.seq
 (rG 12288 [oO 15 (.faddr 0) [.tmp 11],oO 16 (.load 1 false) [.tmp 15],cL 17 n_ref10_UniqueSize false [.tmp 16],oO 18 (.mkslice 1 1 (.t (qA 0))) [.tmp 17,.tmp 17],oO 19 (.faddr 4) [.tmp 11],oS 1 19 18])
 (.seq
 (rG 16384 [oO 20 (.load 5 true) [.tmp 11],cL 21 n_ref10_Check false [.tmp 20],mv 12 21])
 (.seq
 (.block 0
 (.seq
 (rG 20480 [mv 23 12,bN 24 .neq 23 0,mv 22 24])
 (.cond (.tmp 22)
 .skip
 (.seq
 (rG 24576 [mv 26 2,oO 27 .len [.tmp 26],bN 28 .gtr 27 32,mv 29 28,mF 30 3 29,oF 31 29 .len [.tmp 30],oF 32 29 (.bin .gtr) [.tmp 31,.cst (.t (.int .i64 128))],oO 33 .pick [.tmp 29,.cst (.t (.bool true)),.tmp 32],mv 25 33])
 (.cond (.tmp 25)
 (rG 28672 [mC 12 (.t (.int .i64 4))])
 (.seq
 (rG 32768 [mv 35 3,oO 36 .len [.tmp 35],bN 37 .gtr 36 0,mv 38 37,oG 39 38 (.faddr 0) [.tmp 11],oG 40 38 (.load 1 false) [.tmp 39],oG 41 38 (.bin .neq) [.tmp 40,.cst (.t (.int .i64 3))],oO 42 .pick [.tmp 38,.tmp 41,.cst (.t (.bool false))],mv 34 42])
 (.cond (.tmp 34)
 (rG 36864 [mC 12 (.t (.int .i64 1))])
 .skip)))))))
 (.seq
 (.seq
 (rG 40960 [mv 43 12,bN 44 .neq 43 0])
 (.cond (.tmp 44)
 (.seq
 (rG 45056 [oO 45 (.build [(.t (.int .i64 0)),(.t (.int .i64 0)),(.t (.int .i64 0)),.nil,.nil] []) [],oO 46 (.build [.nil,.nil,.nil] []) [],mv 47 12,oS 5 8 45,oS 3 9 46,mv 10 47])
 .ret)
 .skip))
 (.seq
 (rG 49152 [mv 48 2,mv 49 0,cL 50 n_ref2_Derive true [.tmp 49,.cst (.t (zU [115,101,101,100])),.cst .nil,.cst (.t (.int .i64 32))],mv 51 3,oO 52 (.build [.nil,.nil,.nil] [(0,1),(1,1),(2,1)]) [.tmp 48,.tmp 50,.tmp 51],oO 13 (.new 3 [(.agg [.nil,.nil,.nil])]) [],oS 3 13 52])
 (.seq
 (rG 53248 [oO 53 (.load 3 true) [.tmp 13],oO 54 (.faddr 0) [.tmp 11],oO 55 (.load 1 false) [.tmp 54],oO 56 (.faddr 2) [.tmp 11],oO 57 (.load 1 false) [.tmp 56],cL 58 n_ref11_Unique false [.tmp 53,.tmp 55,.tmp 57],oO 59 (.faddr 4) [.tmp 11],oS 1 59 58])
 (.seq
 (.reg 57344 (some [0,0,1,7,15]) [oO 60 (.load 5 true) [.tmp 11],oO 61 (.load 3 true) [.tmp 13],oS 5 8 60,oS 3 9 61,mC 10 (.t (.int .i64 0))])
 .ret)))))))))
def qN0 (n_ref2_Derive:Nat):AC:=
 (.seq
 (rG 4096 [oO 2 .box [.tmp 0],mC 4 .nil])
 (.seq
 (rG 8192 [oO 5 (.faddr 1) [.tmp 2],oO 6 (.load 1 false) [.tmp 5],mv 7 1,cL 8 n_ref2_Derive true [.tmp 6,.cst (.t (zU [112,114,105,118,97,116,101])),.tmp 7,.cst (.t (.int .i64 32))],mv 4 8])
 .ret))
def qGn (n_ref10_Name n_ref3_Blob n_ref11_key n_ref10_Encode n_ref4_Seal:Nat):AC:=
 (.seq
 (rG 4096 [oO 3 .box [.tmp 0],oO 4 .box [.tmp 1],oO 5 .box [.tmp 2],mC 6 .nil])
 (.seq
 (rG 8192 [oO 9 (.load 5 true) [.tmp 4],cL 10 n_ref10_Name true [.tmp 9],mv 7 10])
 (.seq
 (.reg 12288 (some [0,1,3,0,8,31,0,64,255,511]) [oO 11 (.faddr 0) [.tmp 5],oO 12 (.load 1 false) [.tmp 11],cL 13 n_ref3_Blob false [.cst .nil,.tmp 12],oO 14 (.faddr 1) [.tmp 5],oO 15 (.load 1 false) [.tmp 14],cL 16 n_ref3_Blob false [.tmp 13,.tmp 15],oO 17 (.faddr 2) [.tmp 5],oO 18 (.load 1 false) [.tmp 17],cL 19 n_ref3_Blob false [.tmp 16,.tmp 18],mv 8 19])
 (.seq
 (.reg 16384 (some [0,0,3,0,8,0,39,0,255,511]) [oO 20 (.load 3 true) [.tmp 3],mv 21 7,cL 22 n_ref11_key true [.tmp 20,.tmp 21],mv 23 7,oO 24 (.slice 1 false true false) [.tmp 23,.cst (.t (.int .i64 16))],oO 25 (.load 5 true) [.tmp 4],cL 26 n_ref10_Encode false [.tmp 25],mv 27 8,cL 28 n_ref4_Seal true [.tmp 22,.tmp 24,.tmp 26,.tmp 27],mv 6 28])
 .ret))))
end Go.Eng
end
section
set_option maxRecDepth 20000
set_option maxHeartbeats 64000000
namespace Go.Eng
def puT (p u:List UInt8):T:= .agg [.int .i64 3,.int .i64 0,.int .i64 0,.sl (p.map qA),.sl (u.map qA)]
theorem qR4 {p u q v:List UInt8} (h:puT p u=puT q v):p=q∧u=v:=by
 simp only[puT,T.agg.injEq,List.cons.injEq,T.sl.injEq,true_and,and_true,qZ] at h
 exact h
def qS7 (p u:List UInt8):List UInt8:=blL (blL [3,0,0] p) u
def qS8 (p u:List UInt8):List UInt8:=qD5 6 [qS7 p u]
abbrev L32 (p u:List UInt8):Prop:=p.length=32∧u.length=32
theorem qDn {p u:List UInt8} (h:L32 p u):(qS7 p u).length=71:=by
 simp[qS7,vD,h.1,h.2]
theorem kY {p u:List UInt8}:(qS8 p u).length=32:=qM
def qLq:Ct where
 α:=Unit
 as _:=[.t (.int .i64 3)]
 ins _:=[]
 pre _:=True
 r _:= .t (.int .i64 32)
 outs _:=[]
 inj:=fun _ _ _ _=>⟨rfl,rfl⟩
theorem qZz:qLq.fs [.t (.int .i64 3)] []=some (.t (.int .i64 32),[]):=qLq.eq () trivial
theorem qNj (tab:Tab) (gl:Gl):qD6.wp tab gl (qE 0 [.t (.int .i64 3)]) (qE 0 []) (zZ [(2,none)] 0 (fun r o=>r = .t (.int .i64 32)∧o=[])):=by
 simp (disch:=omega) only [go_sem,seval,qD6]
theorem qMt (tab:Tab) (gl:Gl):qC7.wp tab gl (qE 0 [.t (.int .i64 3)]) (qE 0 []) (zZ [(2,none)] 0 (fun r o=>r = .t (.int .i64 32)∧o=[])):=by
 simp (disch:=omega) only [go_sem,seval,qC7]
theorem jI8:qTb .and .i64 0 .i64 4=some (.int .i64 0):=rfl
theorem jI7:qTb .and .i64 0 .i64 1=some (.int .i64 0):=rfl
def qHw:Ct where
 α:=List UInt8×List UInt8
 as x:=[.t (puT x.1 x.2)]
 ins _:=[]
 pre x:=L32 x.1 x.2
 r _:= .t (.int .i64 0)
 outs _:=[]
 inj:=fun _ _ _ _=>⟨rfl,rfl⟩
theorem zLt {p u:List UInt8} (h:L32 p u):qHw.fs [.t (.agg [.int .i64 3,.int .i64 0,.int .i64 0,.sl (p.map qA),.sl (u.map qA)])] []=some (.t (.int .i64 0),[]):=qHw.eq (p,u) h
theorem qZ0 (tab:Tab) (gl:Gl) (n1:Nat) (h1:tab.look n1=some qLq.fs) (p u:List UInt8) (h:L32 p u) :
  (qK0 n1).wp tab gl (qE 0 [.t (puT p u)]) (qE 0 []) (zZ [(2,none)] 0 (fun r o=>r = .t (.int .i64 0)∧o=[])):=by
 obtain⟨hp,hu⟩:=h
 simp (disch:=omega) only [go_sem,seval,qK0,puT,h1,qZz,hp,hu,↓jI8,↓jI7]
 all_goals rfl
theorem qW9 (tab:Tab) (gl:Gl) (n1:Nat) (h1:tab.look n1=some qLq.fs) (p u:List UInt8) (h:L32 p u) :
  (qI9 n1).wp tab gl (qE 0 [.t (puT p u)]) (qE 0 []) (zZ [(2,none)] 0 (fun r o=>r = .t (.int .i64 0)∧o=[])):=by
 obtain⟨hp,hu⟩:=h
 simp (disch:=omega) only [go_sem,seval,qI9,puT,h1,qZz,hp,hu,↓jI8,↓jI7]
 all_goals rfl
def qE3:Ct where
 α:=List UInt8×List UInt8
 as x:=[.t (puT x.1 x.2)]
 ins _:=[]
 pre x:=L32 x.1 x.2
 r _:= .sl 0 0 71
 outs x:=[.live 1 (((qS7 x.1 x.2).map qA).map V.t) true false]
 inj:=by
  rintro⟨a,b⟩ ⟨c,d⟩ h _
  simp only[List.cons.injEq,V.t.injEq,and_true] at h
  obtain⟨rfl,rfl⟩:=qR4 h
  exact⟨rfl,rfl⟩
theorem qWg {p u:List UInt8} (h:L32 p u):qE3.fs [.t (.agg [.int .i64 3,.int .i64 0,.int .i64 0,.sl (p.map qA),.sl (u.map qA)])] []=some (.sl 0 0 71,[.live 1 (((qS7 p u).map qA).map V.t) true false]):=qE3.eq (p,u) h
theorem qW0 (tab:Tab) (gl:Gl) (n1:Nat) (h1:tab.look n1=some qA1.fs) (p u:List UInt8) (h:L32 p u) :
  (qI2 n1).wp tab gl (qE 0 [.t (puT p u)]) (qE 0 []) (xM [] [(2,none)] 0 (fun r o=>r = .sl 0 0 71∧o=[.live 1 (((qS7 p u).map qA).map V.t) true false])):=by
 obtain⟨hp,hu⟩:=h
 have b1:=wY (b:=[3,0,0]) (x:=p) ⟨by decide,by omega⟩
 have b2:=wY (b:=blL [3,0,0] p) (x:=u) ⟨by simp[vD];omega,by omega⟩
 simp only[List.map_cons,List.map_nil] at b1
 have l1:(blL [3,0,0] p).length=37:=by simp[vD,hp]
 have t1:List.take 37 (blL [3,0,0] p)=blL [3,0,0] p:=List.take_of_length_le (by omega)
 have k3:T.int .u8 (IntKind.u8.wrap 3)=qA 3:=rfl
 have k0:T.int .u8 (IntKind.u8.wrap 0)=qA 0:=rfl
 simp (disch:=omega) only [go_sem,seval,qI2,puT,h1,k3,k0,b1,b2,hp,hu,l1,t1,qS7]
 rfl
theorem qT2 (tab:Tab) (gl:Gl) (n1:Nat) (h1:tab.look n1=some qA1.fs) (p u:List UInt8) (h:L32 p u) :
  (qHe n1).wp tab gl (qE 0 [.t (puT p u)]) (qE 0 []) (xM [] [(2,none)] 0 (fun r o=>r = .sl 0 0 71∧o=[.live 1 (((qS7 p u).map qA).map V.t) true false])):=by
 obtain⟨hp,hu⟩:=h
 have b1:=wY (b:=[3,0,0]) (x:=p) ⟨by decide,by omega⟩
 have b2:=wY (b:=blL [3,0,0] p) (x:=u) ⟨by simp[vD];omega,by omega⟩
 simp only[List.map_cons,List.map_nil] at b1
 have l1:(blL [3,0,0] p).length=37:=by simp[vD,hp]
 have t1:List.take 37 (blL [3,0,0] p)=blL [3,0,0] p:=List.take_of_length_le (by omega)
 have k3:T.int .u8 (IntKind.u8.wrap 3)=qA 3:=rfl
 have k0:T.int .u8 (IntKind.u8.wrap 0)=qA 0:=rfl
 simp (disch:=omega) only [go_sem,seval,qHe,puT,h1,k3,k0,b1,b2,hp,hu,l1,t1,qS7]
 all_goals rfl
def qHv:Ct where
 α:=List UInt8×List UInt8
 as x:=[.t (puT x.1 x.2)]
 ins _:=[]
 pre x:=L32 x.1 x.2
 r x:= .t (.sl ((qS8 x.1 x.2).map qA))
 outs _:=[]
 inj:=by
  rintro⟨a,b⟩ ⟨c,d⟩ h _
  simp only[List.cons.injEq,V.t.injEq,and_true] at h
  obtain⟨rfl,rfl⟩:=qR4 h
  exact⟨rfl,rfl⟩
theorem zLo {p u:List UInt8} (h:L32 p u):qHv.fs [.t (.agg [.int .i64 3,.int .i64 0,.int .i64 0,.sl (p.map qA),.sl (u.map qA)])] []=some (.t (.sl ((qS8 p u).map qA)),[]):=qHv.eq (p,u) h
theorem zKo {t:Nat} {x:List UInt8} (h:x.length≤1000000):(zH t [x]).length<1000000000:=by
 simp only[zH,List.flatMap_cons,List.flatMap_nil,List.length_cons,List.length_append,List.length_nil,qIh];omega
theorem zE7 {p u:List UInt8} (h:L32 p u):yE.fs [.t (.int .i64 6),.t (.sl [.sl ((qS7 p u).map qA)])] []=some (.sl 0 0 32,[.live 1 (((qS8 p u).map qA).map V.t) true false]):=yE.eq (6,[qS7 p u]) ⟨by show 6<256;omega,zKo (by rw[qDn h];omega)⟩
theorem zDg (tab:Tab) (gl:Gl) (n1 n2:Nat) (h1:tab.look n1=some qE3.fs) (h2:tab.look n2=some yE.fs) (p u:List UInt8) (h:L32 p u) :
  (qNx n1 n2).wp tab gl (qE 0 [.t (puT p u)]) (qE 0 []) (zZ [(2,none)] 0 (fun r o=>r = .t (.sl ((qS8 p u).map qA))∧o=[])):=by
 have l:=qDn h
 have t1:List.take 71 (qS7 p u)=qS7 p u:=List.take_of_length_le (by omega)
 have t2:List.take 32 (qS8 p u)=qS8 p u:=List.take_of_length_le (by rw[kY];omega)
 simp (disch:=omega) only [go_sem,seval,qNx,puT,h1,qWg h,h2,l,t1,zE7 h,t2,kY]
theorem zAa (tab:Tab) (gl:Gl) (n1 n2:Nat) (h1:tab.look n1=some qE3.fs) (h2:tab.look n2=some yE.fs) (p u:List UInt8) (h:L32 p u) :
  (qK7 n1 n2).wp tab gl (qE 0 [.t (puT p u)]) (qE 0 []) (zZ [(2,none)] 0 (fun r o=>r = .t (.sl ((qS8 p u).map qA))∧o=[])):=by
 have l:=qDn h
 have t1:List.take 71 (qS7 p u)=qS7 p u:=List.take_of_length_le (by omega)
 have t2:List.take 32 (qS8 p u)=qS8 p u:=List.take_of_length_le (by rw[kY];omega)
 simp (disch:=omega) only [go_sem,seval,qK7,puT,h1,qWg h,h2,l,t1,zE7 h,t2,kY]
theorem zAb (tab:Tab) (gl:Gl) (n1:Nat) (h1:tab.look n1=some xR.fs) (p u:List UInt8) (h:L32 p u) :
  (qAt n1).wp tab gl (qE 0 [.t (puT p u),.t (puT p u)]) (qE 0 []) (zZ [(4,none)] 0 (fun r o=>r = .t (.bool true)∧o=[])):=by
 have e1:=qA8 (a:=p) (b:=p) ⟨by have:=h.1;omega,by have:=h.1;omega⟩
 have e2:=qA8 (a:=u) (b:=u) ⟨by have:=h.2;omega,by have:=h.2;omega⟩
 rw[decide_eq_true rfl] at e1 e2
 simp (disch:=omega) only [go_sem,seval,qAt,puT,h1,e1,e2]
def zOq:List UInt8:=[101,110,99,114,121,112,116]
def zT6:List UInt8:=[97,117,116,104,101,110,116,105,99,97,116,101]
def qXz (k no b:List UInt8):List UInt8:=List.zipWith (· ^^^ ·) b (drv k zOq no b.length)
theorem qDq {k no b:List UInt8}:(qXz k no b).length=b.length:=by simp[qXz,yU]
theorem zFj {k no b:List UInt8} {i:Nat} (h:i<b.length):(qXz k no b).getD i 0=b.getD i 0 ^^^ (drv k zOq no b.length).getD i 0:=by
 have h2:i<(drv k zOq no b.length).length:=by rw[yU];exact h
 rw[qXz]
 simp only[List.getD_eq_getElem?_getD,List.getElem?_zipWith,List.getElem?_eq_getElem h,List.getElem?_eq_getElem h2]
 rfl
def zF8 (k no ad c:List UInt8):List UInt8:=zCg (drv k zT6 no 32) (zH 0 [ad,no,c])
theorem qKn {k no ad c:List UInt8}:(zF8 k no ad c).length=32:=qF7
def upN (n:Nat) (p:List UInt8) (k:Nat):List UInt8:=p.take k++List.replicate (n-k) 0
theorem jBm {n:Nat} {p:List UInt8}:upN n p 0=List.replicate n 0:=by simp[upN]
theorem jBn {n:Nat} {p:List UInt8} (h:p.length=n):upN n p n=p:=by
 simp[upN];exact List.take_of_length_le (by omega)
theorem qU7 {n:Nat} {p:List UInt8} {k:Nat} (h:p.length=n) (hk:k≤n):(upN n p k).length=n:=by simp[upN];omega
theorem zM2 {n:Nat} {p:List UInt8} {k:Nat} {x:UInt8} (h:p.length=n) (hk:k<n) (hx:p.getD k 0=x):(upN n p k).set k x=upN n p (k+1):=by
 rw[upN,zF6 (by simp;omega) hk,upN,qDy (d:=0) (by omega),hx]
def qQ5:Ct where
 α:=Nat×List UInt8×List UInt8
 as x:=[.t (.int .i64 x.1),.ref 0 0 0,.ref 1 0 0]
 ins x:=[.live 1 [.t (.sl (x.2.1.map qA))] true true,.live 1 [.t (.sl (x.2.2.map qA))] true true]
 pre x:=x.1<x.2.1.length∧x.1<x.2.2.length
 r x:= .t (qA (x.2.1.getD x.1 0 ^^^ x.2.2.getD x.1 0))
 outs x:=[.live 1 [.t (.sl (x.2.1.map qA))] true true,.live 1 [.t (.sl (x.2.2.map qA))] true true]
 inj:=by
  rintro⟨a,b,c⟩ ⟨d,e,f⟩ h h2
  simp only[List.cons.injEq,V.t.injEq,T.int.injEq,T.sl.injEq,Ob.live.injEq,true_and,and_true,qZ,Int.natCast_inj] at h h2
  obtain⟨rfl,rfl⟩:=h2
  subst h
  exact⟨rfl,rfl⟩
theorem zVj {i:Nat} {b s:List UInt8} (h:i<b.length) (h2:i<s.length):qQ5.fs [.t (.int .i64 i),.ref 0 0 0,.ref 1 0 0] [.live 1 [.t (.sl (b.map qA))] true true,.live 1 [.t (.sl (s.map qA))] true true]=some (.t (qA (b.getD i 0 ^^^ s.getD i 0)),[.live 1 [.t (.sl (b.map qA))] true true,.live 1 [.t (.sl (s.map qA))] true true]):=qQ5.eq (i,b,s) ⟨h,h2⟩
theorem qZ2 (tab:Tab) (gl:Gl) (i:Nat) (b s:List UInt8) (h:i<b.length) (h2:i<s.length) :
  qK1.wp tab gl (qE 0 [.t (.int .i64 i),.ref 0 0 0,.ref 1 0 0]) (qE 0 [.live 1 [.t (.sl (b.map qA))] true true,.live 1 [.t (.sl (s.map qA))] true true]) (xM [] [(4,none)] 2 (fun r o=>r = .t (qA (b.getD i 0 ^^^ s.getD i 0))∧o=[.live 1 [.t (.sl (b.map qA))] true true,.live 1 [.t (.sl (s.map qA))] true true])):=by
 simp (disch:=omega) only [go_sem,seval,qK1,h,h2]
 all_goals rfl
def qOn:Ct where
 α:=List UInt8×List UInt8×List UInt8
 as x:=[.t (.sl (x.1.map qA)),.t (.sl (x.2.1.map qA)),.t (.sl (x.2.2.map qA))]
 ins _:=[]
 pre x:=x.1.length≤64∧x.2.1.length≤64∧1≤x.2.2.length∧x.2.2.length≤1024
 r x:= .sl 0 0 x.2.2.length
 outs x:=[.live 1 (((qXz x.1 x.2.1 x.2.2).map qA).map V.t) true false]
 inj:=by
  rintro⟨a,b,c⟩ ⟨d,e,f⟩ h _
  simp only[List.cons.injEq,V.t.injEq,T.sl.injEq,true_and,and_true,qZ] at h
  obtain⟨rfl,rfl,rfl⟩:=h
  exact⟨rfl,rfl⟩
abbrev jCy (k no b:List UInt8):Prop:=k.length≤64∧no.length≤64∧1≤b.length∧b.length≤1024
theorem zTa {k no b:List UInt8} (h:jCy k no b):qOn.fs [.t (.sl (k.map qA)),.t (.sl (no.map qA)),.t (.sl (b.map qA))] []=some (.sl 0 0 b.length,[.live 1 (((qXz k no b).map qA).map V.t) true false]):=qOn.eq (k,no,b) h
theorem zJy {k no:List UInt8} {n:Nat} (h:k.length≤64∧no.length≤64∧1≤n∧n≤1024):xK.fs [.t (.sl (k.map qA)),.t (zU [101,110,99,114,121,112,116]),.t (.sl (no.map qA)),.t (.int .i64 n)] []=some (.t (.sl ((drv k zOq no n).map qA)),[]):=qUv (l:=zOq) ⟨h.1,by decide,by omega,h.2.2⟩
theorem zJx {k no:List UInt8} (h:k.length≤64∧no.length≤64):xK.fs [.t (.sl (k.map qA)),.t (zU [97,117,116,104,101,110,116,105,99,97,116,101]),.t (.sl (no.map qA)),.t (.int .i64 32)] []=some (.t (.sl ((drv k zT6 no 32).map qA)),[]):=qUv (l:=zT6) (n:=32) ⟨h.1,by decide,by omega,by omega,by omega⟩
theorem zH7 (tab:Tab) (gl:Gl) (n1 n2:Nat) (h1:tab.look n1=some xK.fs) (h2:tab.look n2=some qQ5.fs) (k no b:List UInt8) (h:jCy k no b) :
  (qQc n1 n2).wp tab gl (qE 0 [.t (.sl (k.map qA)),.t (.sl (no.map qA)),.t (.sl (b.map qA))]) (qE 0 []) (xM [] [(6,none)] 0 (fun r o=>r = .sl 0 0 b.length∧o=[.live 1 (((qXz k no b).map qA).map V.t) true false])):=by
 obtain⟨hk,hn,hb,hb'⟩:=h
 have hD:=zJy (k:=k) (no:=no) (n:=b.length) ⟨hk,hn,hb,hb'⟩
 have lD:=yU (key:=k) (label:=zOq) (ctx:=no) (n:=b.length)
 have lM:=qDq (k:=k) (no:=no) (b:=b)
 have gM:=fun i=>zFj (k:=k) (no:=no) (b:=b) (i:=i)
 generalize drv k zOq no b.length=s at *
 generalize qXz k no b=z at *
 simp (disch:=omega) only [go_sem,seval,qQc,h1,hD]
 refine qD b.length (fun i=>[(8,.fn n2 [.ref 4096 0 0,.ref 8272 0 0]),(9,.sl 16416 0 b.length),(21,.t (.int .i64 b.length)),(22,.t (.int .i64 i))]) (fun i=>[(16416,.live 1 (((upN b.length z i).map qA).map V.t) true false),(8272,.live 1 [.t (.sl (s.map qA))] true true),(4096,.live 1 [.t (.sl (b.map qA))] true true)]) ?_ (fun i hi=>?_)
 ·refine qI.rd id ?_ ?_ rfl
  all_goals simp (disch:=omega) only [go_sem,seval,id,jBm]
 ·have u1:=qU7 lM hi
  by_cases hlt:i<b.length
  ·have s1:=zM2 lM hlt (gM i hlt)
   have hc:=zVj (b:=b) (s:=s) hlt (by omega)
   simp (disch:=omega) only [go_sem,seval,qEv,hlt,h2,hc,u1,s1]
   refine qI.rd id ?_ ?_ rfl
   all_goals simp (disch:=omega) only [go_sem,seval,id]
  ·have e:i=b.length:=by omega
   subst e
   simp (disch:=omega) only [go_sem,seval,qEv,jBn lM]
theorem qXh (tab:Tab) (gl:Gl) (n1:Nat) (h1:tab.look n1=some xK.fs) (k no b:List UInt8) (h:jCy k no b) :
  (qJe n1).wp tab gl (qE 0 [.t (.sl (k.map qA)),.t (.sl (no.map qA)),.t (.sl (b.map qA))]) (qE 0 []) (xM [] [(6,none)] 0 (fun r o=>r = .sl 0 0 b.length∧o=[.live 1 (((qXz k no b).map qA).map V.t) true false])):=by
 obtain⟨hk,hn,hb,hb'⟩:=h
 have hD:=zJy (k:=k) (no:=no) (n:=b.length) ⟨hk,hn,hb,hb'⟩
 have lD:=yU (key:=k) (label:=zOq) (ctx:=no) (n:=b.length)
 have lM:=qDq (k:=k) (no:=no) (b:=b)
 have gM:=fun i=>zFj (k:=k) (no:=no) (b:=b) (i:=i)
 generalize drv k zOq no b.length=s at *
 generalize qXz k no b=z at *
 simp (disch:=omega) only [go_sem,seval,qJe,h1,hD]
 refine qD b.length (fun i=>[(2,.t (.sl (b.map qA))),(7,.t (.sl (s.map qA))),(8,.sl 12320 0 b.length),(9,.t (.int .i64 i))]) (fun i=>[(12320,.live 1 (((upN b.length z i).map qA).map V.t) true false)]) ?_ (fun i hi=>?_)
 ·refine qI.rd id ?_ ?_ rfl
  all_goals simp (disch:=omega) only [go_sem,seval,id,jBm]
 ·have u1:=qU7 lM hi
  by_cases hlt:i<b.length
  ·have s1:=zM2 lM hlt (gM i hlt)
   have hs:i<s.length:=by omega
   simp (disch:=omega) only [go_sem,seval,qBj,hlt,hs,u1,s1]
   refine⟨rfl,qI.rd id ?_ ?_ rfl⟩
   all_goals simp (disch:=omega) only [go_sem,seval,id]
  ·have e:i=b.length:=by omega
   subst e
   simp (disch:=omega) only [go_sem,seval,qBj,jBn lM]
abbrev Cd:=List UInt8×Nat
def qTd (c:Cd):Ob:= .live 2 [.t (.agg [.sl (c.1.map qA),.int .i64 (c.2:Int)])] true true
abbrev cdO (c:Cd):Ob:= .live 2 [.t (.agg [.sl (c.1.map qA),.int .i64 (c.2:Int)])] true true
theorem qA0 {b:List UInt8} {a:Nat}:qTd (b,a) = .live 2 [.t (.agg [.sl (b.map qA),.int .i64 (a:Int)])] true true:=rfl
theorem qPr {s t:Cd} (h:qTd s=qTd t):s=t:=by
 obtain⟨b,a⟩:=s
 obtain⟨b',a'⟩:=t
 simp only[qA0,Ob.live.injEq,List.cons.injEq,V.t.injEq,T.agg.injEq,T.sl.injEq,T.int.injEq,qZ,Int.natCast_inj] at h
 simp only[Prod.mk.injEq]
 exact⟨h.2.1.1.1,h.2.1.1.2.1.2⟩
def qEi (c:Cd):Prop:=c.2≤c.1.length∧c.1.length<1000000000
def nx (c:Cd) (n:Nat):Nat×Cd:=if c.1.length≤c.2 then (0,c) else ((c.1.getD c.2 0).toNat%n,(c.1,c.2+1))
theorem qG2 {c:Cd} {n:Nat} (h:qEi c):qEi (nx c n).2:=by
 unfold nx qEi at *
 split
 ·exact h
 ·exact⟨by simp only;omega,h.2⟩
theorem qV8 {c:Cd} {n:Nat} (h:1≤n):(nx c n).1<n:=by
 unfold nx
 split
 ·exact h
 ·exact Nat.mod_lt _ (by omega)
def qE2:Ct where
 α:=Cd×Nat
 as x:=[.ref 0 0 0,.t (.int .i64 x.2)]
 ins x:=[qTd x.1]
 pre x:=qEi x.1∧1≤x.2∧x.2≤1000000000
 r x:= .t (.int .i64 (nx x.1 x.2).1)
 outs x:=[qTd (nx x.1 x.2).2]
 inj:=by
  rintro⟨s,a⟩ ⟨t,c⟩ h1 h2
  simp only[List.cons.injEq,V.t.injEq,T.int.injEq,true_and,and_true,Int.natCast_inj] at h1
  simp only[List.cons.injEq,and_true] at h2
  subst h1
  cases qPr h2
  exact⟨rfl,rfl⟩
theorem zCp {c:Cd} {n:Nat} (h:qEi c∧1≤n∧n≤1000000000):qE2.fs [.ref 0 0 0,.t (.int .i64 n)] [cdO c]=some (.t (.int .i64 (nx c n).1),[cdO (nx c n).2]):=qE2.eq (c,n) h
theorem zDi (tab:Tab) (gl:Gl) (c:Cd) (n:Nat) (hc:qEi c) (h1:1≤n) (h2:n≤1000000000) :
  qAq.wp tab gl (qE 0 [.ref 0 0 0,.t (.int .i64 n)]) (qE 0 [qTd c]) (zZ [(4,none)] 1 (fun r o=>r = .t (.int .i64 (nx c n).1)∧o=[qTd (nx c n).2])):=by
 obtain⟨b,a⟩:=c
 obtain⟨q1,q2⟩:=hc
 simp only at q1 q2
 by_cases h:b.length≤a
 ·have e:nx (b,a) n=(0,(b,a)):=if_pos h
  rw[e]
  simp (disch:=omega) only [go_sem,seval,qAq,qA0,h]
  rfl
 ·have e:nx (b,a) n=((b.getD a 0).toNat%n,(b,a+1)):=if_neg h
  rw[e]
  simp (disch:=omega) only [go_sem,seval,qAq,qA0,h]
  exact⟨rfl,rfl,by rw[Int.tmod_eq_emod_of_nonneg (Int.natCast_nonneg _)];norm_cast⟩
def qJ6:Ct where
 α:=List UInt8×Nat
 as x:=[.t (.sl (x.1.map qA)),.t (.int .i64 x.2)]
 ins _:=[]
 pre x:=x.1.length≤9223372036854775807∧x.2≤1000000
 r _:= .ref 0 0 0
 outs x:=[qTd (x.1.take x.2,0)]
 inj:=by
  rintro⟨a,b⟩ ⟨c,d⟩ h _
  simp only[List.cons.injEq,V.t.injEq,T.sl.injEq,T.int.injEq,true_and,and_true,qZ,Int.natCast_inj] at h
  obtain⟨rfl,rfl⟩:=h
  exact⟨rfl,rfl⟩
theorem zJv {b:List UInt8} {n:Nat} (h:b.length≤9223372036854775807∧n≤1000000):qJ6.fs [.t (.sl (b.map qA)),.t (.int .i64 n)] []=some (.ref 0 0 0,[cdO (b.take n,0)]):=qJ6.eq (b,n) h
theorem zIa (tab:Tab) (gl:Gl) (b:List UInt8) (n:Nat) (h1:b.length≤9223372036854775807) (h2:n≤1000000) :
  qJ1.wp tab gl (qE 0 [.t (.sl (b.map qA)),.t (.int .i64 n)]) (qE 0 []) (xM [] [(4,none)] 0 (fun r o=>r = .ref 0 0 0∧o=[qTd (b.take n,0)])):=by
 by_cases h:n<b.length
 ·simp (disch:=omega) only [go_sem,seval,qJ1,qA0,h]
 ·have e:b.take n=b:=List.take_of_length_le (by omega)
  simp (disch:=omega) only [go_sem,seval,qJ1,qA0,h,e]
def qLn:Ct where
 α:=List UInt8×Nat
 as x:=[.t (.sl (x.1.map qA)),.t (.int .i64 x.2)]
 ins _:=[]
 pre x:=x.1.length≤9223372036854775807∧x.2≤1000000
 r x:= .t (.sl ((x.1.take x.2).map qA))
 outs _:=[]
 inj:=by
  rintro⟨a,b⟩ ⟨c,d⟩ h _
  simp only[List.cons.injEq,V.t.injEq,T.sl.injEq,T.int.injEq,true_and,and_true,qZ,Int.natCast_inj] at h
  obtain⟨rfl,rfl⟩:=h
  exact⟨rfl,rfl⟩
theorem zSo {b:List UInt8} {n:Nat} (h:b.length≤9223372036854775807∧n≤1000000):qLn.fs [.t (.sl (b.map qA)),.t (.int .i64 n)] []=some (.t (.sl ((b.take n).map qA)),[]):=qLn.eq (b,n) h
theorem zH8 (tab:Tab) (gl:Gl) (b:List UInt8) (n:Nat) (h1:b.length≤9223372036854775807) (h2:n≤1000000) :
  qJ0.wp tab gl (qE 0 [.t (.sl (b.map qA)),.t (.int .i64 n)]) (qE 0 []) (zZ [(4,none)] 0 (fun r o=>r = .t (.sl ((b.take n).map qA))∧o=[])):=by
 by_cases h:n<b.length
 ·simp (disch:=omega) only [go_sem,seval,qJ0,h]
 ·have e:b.take n=b:=List.take_of_length_le (by omega)
  simp (disch:=omega) only [go_sem,seval,qJ0,h,e]
def qHp:Ct where
 α:=List UInt8×List UInt8×List UInt8×List UInt8
 as x:=[.t (.sl (x.1.map qA)),.t (.sl (x.2.1.map qA)),.t (.sl (x.2.2.1.map qA)),.t (.sl (x.2.2.2.map qA))]
 ins _:=[]
 pre x:=x.1.length≤64∧x.2.1.length≤64∧x.2.2.1.length≤1000000∧x.2.2.2.length≤1000000
 r _:= .sl 0 0 32
 outs x:=[.live 1 (((zF8 x.1 x.2.1 x.2.2.1 x.2.2.2).map qA).map V.t) true false]
 inj:=by
  rintro⟨a,b,c,d⟩ ⟨e,f,g,i⟩ h _
  simp only[List.cons.injEq,V.t.injEq,T.sl.injEq,true_and,and_true,qZ] at h
  obtain⟨rfl,rfl,rfl,rfl⟩:=h
  exact⟨rfl,rfl⟩
theorem zJa {k no ad c:List UInt8} (h:k.length≤64∧no.length≤64∧ad.length≤1000000∧c.length≤1000000):qHp.fs [.t (.sl (k.map qA)),.t (.sl (no.map qA)),.t (.sl (ad.map qA)),.t (.sl (c.map qA))] []=some (.sl 0 0 32,[.live 1 (((zF8 k no ad c).map qA).map V.t) true false]):=qHp.eq (k,no,ad,c) h
theorem qY0 {t:Nat} {x y z:List UInt8} (hx:x.length≤1000000) (hy:y.length≤1000000) (hz:z.length≤1000000):(zH t [x,y,z]).length<100000000:=by
 simp only[zH,List.flatMap_cons,List.flatMap_nil,List.length_cons,List.length_append,List.length_nil,qIh];omega
theorem zNc (tab:Tab) (gl:Gl) (n1 n2 n3:Nat) (h1:tab.look n1=some xK.fs) (h2:tab.look n2=some qA2.fs) (h3:tab.look n3=some qJo.fs) (k no ad c:List UInt8) (h:k.length≤64∧no.length≤64∧ad.length≤1000000∧c.length≤1000000) :
  (qUl n1 n2 n3).wp tab gl (qE 0 [.t (.sl (k.map qA)),.t (.sl (no.map qA)),.t (.sl (ad.map qA)),.t (.sl (c.map qA))]) (qE 0 []) (xM [] [(8,none)] 0 (fun r o=>r = .sl 0 0 32∧o=[.live 1 (((zF8 k no ad c).map qA).map V.t) true false])):=by
 obtain⟨hk,hn,ha,hc⟩:=h
 have hD:=zJx (k:=k) (no:=no) ⟨hk,hn⟩
 have hl:=qY0 (t:=0) (x:=ad) (y:=no) (z:=c) ha (by omega) hc
 have hF:=qLv (t:=0) (fs:=[ad,no,c]) ⟨by omega,by omega⟩
 have hM:=zFh (k:=drv k zT6 no 32) (b:=zH 0 [ad,no,c]) ⟨by rw[yU];omega,by omega⟩
 have hT:zCg (drv k zT6 no 32) (zH 0 [ad,no,c])=zF8 k no ad c:=rfl
 rw[hT] at hM
 generalize zH 0 [ad,no,c]=f at *
 have tf:List.take f.length f=f:=List.take_length
 simp only[List.map_cons,List.map_nil,qCj] at hF
 rw[show ((0:Nat):Int)=0 from rfl] at hF
 generalize zF8 k no ad c=t at *
 simp (disch:=omega) only [go_sem,seval,qUl,h1,h2,h3,hD,hF,hM,tf]
 all_goals rfl
theorem zIf (tab:Tab) (gl:Gl) (n1 n2 n3:Nat) (h1:tab.look n1=some xK.fs) (h2:tab.look n2=some qA2.fs) (h3:tab.look n3=some qJo.fs) (k no ad c:List UInt8) (h:k.length≤64∧no.length≤64∧ad.length≤1000000∧c.length≤1000000) :
  (qQg n1 n2 n3).wp tab gl (qE 0 [.t (.sl (k.map qA)),.t (.sl (no.map qA)),.t (.sl (ad.map qA)),.t (.sl (c.map qA))]) (qE 0 []) (xM [] [(8,none)] 0 (fun r o=>r = .sl 0 0 32∧o=[.live 1 (((zF8 k no ad c).map qA).map V.t) true false])):=by
 obtain⟨hk,hn,ha,hc⟩:=h
 have hD:=zJx (k:=k) (no:=no) ⟨hk,hn⟩
 have hl:=qY0 (t:=0) (x:=ad) (y:=no) (z:=c) ha (by omega) hc
 have hF:=qLv (t:=0) (fs:=[ad,no,c]) ⟨by omega,by omega⟩
 have hM:=zFh (k:=drv k zT6 no 32) (b:=zH 0 [ad,no,c]) ⟨by rw[yU];omega,by omega⟩
 have hT:zCg (drv k zT6 no 32) (zH 0 [ad,no,c])=zF8 k no ad c:=rfl
 rw[hT] at hM
 generalize zH 0 [ad,no,c]=f at *
 have tf:List.take f.length f=f:=List.take_length
 simp only[List.map_cons,List.map_nil,qCj] at hF
 rw[show ((0:Nat):Int)=0 from rfl] at hF
 generalize zF8 k no ad c=t at *
 simp (disch:=omega) only [go_sem,seval,qQg,h1,h2,h3,hD,hF,hM,tf]
 all_goals rfl
def zL9 (k no ad p:List UInt8):List UInt8:=blL (blL [] no) (qXz k no p)++zF8 k no ad (qXz k no p)
theorem qSf {k no ad p:List UInt8}:(zL9 k no ad p).length=4+no.length+p.length+32:=by
 simp[zL9,vD,qDq,qKn];omega
abbrev jC1 (k no ad p:List UInt8):Prop:=jCy k no p∧ad.length≤1000000
def qHy:Ct where
 α:=List UInt8×List UInt8×List UInt8×List UInt8
 as x:=[.t (.sl (x.1.map qA)),.t (.sl (x.2.1.map qA)),.t (.sl (x.2.2.1.map qA)),.t (.sl (x.2.2.2.map qA))]
 ins _:=[]
 pre x:=jC1 x.1 x.2.1 x.2.2.1 x.2.2.2
 r x:= .t (.sl ((zL9 x.1 x.2.1 x.2.2.1 x.2.2.2).map qA))
 outs _:=[]
 inj:=by
  rintro⟨a,b,c,d⟩ ⟨e,f,g,i⟩ h _
  simp only[List.cons.injEq,V.t.injEq,T.sl.injEq,true_and,and_true,qZ] at h
  obtain⟨rfl,rfl,rfl,rfl⟩:=h
  exact⟨rfl,rfl⟩
theorem zMa {k no ad p:List UInt8} (h:jC1 k no ad p):qHy.fs [.t (.sl (k.map qA)),.t (.sl (no.map qA)),.t (.sl (ad.map qA)),.t (.sl (p.map qA))] []=some (.t (.sl ((zL9 k no ad p).map qA)),[]):=qHy.eq (k,no,ad,p) h
theorem zH6 (tab:Tab) (gl:Gl) (n1 n2 n3:Nat) (h1:tab.look n1=some qOn.fs) (h2:tab.look n2=some qA1.fs) (h3:tab.look n3=some qHp.fs) (k no ad p:List UInt8) (h:jC1 k no ad p) :
  (qQb n1 n2 n3).wp tab gl (qE 0 [.t (.sl (k.map qA)),.t (.sl (no.map qA)),.t (.sl (ad.map qA)),.t (.sl (p.map qA))]) (qE 0 []) (zZ [(8,none)] 0 (fun r o=>r = .t (.sl ((zL9 k no ad p).map qA))∧o=[])):=by
 obtain⟨hm,ha⟩:=h
 have hM:=zTa hm
 obtain⟨hk,hn,hp,hp'⟩:=hm
 have lM:=qDq (k:=k) (no:=no) (b:=p)
 have hX:zL9 k no ad p=blL (blL [] no) (qXz k no p)++zF8 k no ad (qXz k no p):=rfl
 rw[hX]
 generalize qXz k no p=c at *
 have hT:=zJa (k:=k) (no:=no) (ad:=ad) (c:=c) ⟨hk,hn,ha,by omega⟩
 have lT:=qKn (k:=k) (no:=no) (ad:=ad) (c:=c)
 generalize zF8 k no ad c=t at *
 have b1:=wY (b:=[]) (x:=no) ⟨by decide,by omega⟩
 have l1:(blL [] no).length=2+no.length:=by simp[vD]
 simp only[List.map_nil,List.length_nil] at b1
 generalize blL [] no=q at *
 have b2:=wY (b:=q) (x:=c) ⟨by omega,by omega⟩
 have l2:(blL q c).length=q.length+2+c.length:=vD
 generalize blL q c=q2 at *
 have tc:List.take p.length c=c:=List.take_of_length_le (by omega)
 have tq : ∀ n,q.length≤n→List.take n q=q:=fun n h=>List.take_of_length_le h
 have tt:List.take 32 t=t:=List.take_of_length_le (by omega)
 have ty : ∀ n,q2.length+32≤n→List.take n (q2++t)=q2++t:=fun n h=>List.take_of_length_le (by rw[List.length_append];omega)
 simp (disch:=omega) only [go_sem,seval,qQb,h1,h2,h3,hn,hp',hM,b1,tc,tq,b2,hT,lM,lT,l1,l2,tt,ty]
theorem zDz (tab:Tab) (gl:Gl) (n1 n2 n3:Nat) (h1:tab.look n1=some qOn.fs) (h2:tab.look n2=some qA1.fs) (h3:tab.look n3=some qHp.fs) (k no ad p:List UInt8) (h:jC1 k no ad p) :
  (qOa n1 n2 n3).wp tab gl (qE 0 [.t (.sl (k.map qA)),.t (.sl (no.map qA)),.t (.sl (ad.map qA)),.t (.sl (p.map qA))]) (qE 0 []) (zZ [(8,none)] 0 (fun r o=>r = .t (.sl ((zL9 k no ad p).map qA))∧o=[])):=by
 obtain⟨hm,ha⟩:=h
 have hM:=zTa hm
 obtain⟨hk,hn,hp,hp'⟩:=hm
 have lM:=qDq (k:=k) (no:=no) (b:=p)
 have hX:zL9 k no ad p=blL (blL [] no) (qXz k no p)++zF8 k no ad (qXz k no p):=rfl
 rw[hX]
 generalize qXz k no p=c at *
 have hT:=zJa (k:=k) (no:=no) (ad:=ad) (c:=c) ⟨hk,hn,ha,by omega⟩
 have lT:=qKn (k:=k) (no:=no) (ad:=ad) (c:=c)
 generalize zF8 k no ad c=t at *
 have b1:=wY (b:=[]) (x:=no) ⟨by decide,by omega⟩
 have l1:(blL [] no).length=2+no.length:=by simp[vD]
 simp only[List.map_nil,List.length_nil] at b1
 generalize blL [] no=q at *
 have b2:=wY (b:=q) (x:=c) ⟨by omega,by omega⟩
 have l2:(blL q c).length=q.length+2+c.length:=vD
 generalize blL q c=q2 at *
 have tc:List.take p.length c=c:=List.take_of_length_le (by omega)
 have tq : ∀ n,q.length≤n→List.take n q=q:=fun n h=>List.take_of_length_le h
 have tt:List.take 32 t=t:=List.take_of_length_le (by omega)
 have ty : ∀ n,q2.length+32≤n→List.take n (q2++t)=q2++t:=fun n h=>List.take_of_length_le (by rw[List.length_append];omega)
 simp (disch:=omega) only [go_sem,seval,qOa,h1,h2,h3,hn,hp',hM,b1,tc,tq,b2,hT,lM,lT,l1,l2,tt,ty]
def snT (a s d:List UInt8):T:= .agg [.sl (a.map qA),.sl (s.map qA),.sl (d.map qA)]
theorem qNi {a s d b t e:List UInt8} (h:snT a s d=snT b t e):a=b∧s=t∧d=e:=by
 simp only[snT,T.agg.injEq,List.cons.injEq,T.sl.injEq,true_and,and_true,qZ] at h
 exact h
def jJg:List UInt8:=[112,114,105,118,97,116,101]
def jJi:List UInt8:=[115,101,101,100]
def qO9 (s d:List UInt8):List UInt8:=qD5 13 [s,d]
theorem qDz {s d:List UInt8}:(qO9 s d).length=32:=qM
theorem zKp {t:Nat} {x y:List UInt8} (hx:x.length≤1000000) (hy:y.length≤1000000):(zH t [x,y]).length<1000000000:=by
 simp only[zH,List.flatMap_cons,List.flatMap_nil,List.length_cons,List.length_append,List.length_nil,qIh];omega
theorem zFb {s d:List UInt8} (hs:s.length≤1000000) (hd:d.length≤1000000):yE.fs [.t (.int .i64 13),.t (.sl [.sl (s.map qA),.sl (d.map qA)])] []=some (.sl 0 0 32,[.live 1 (((qO9 s d).map qA).map V.t) true false]):=yE.eq (13,[s,d]) ⟨by show 13<256;omega,zKp hs hd⟩
def qYr:Ct where
 α:=List UInt8×List UInt8×List UInt8
 as x:=[.t (.int .i64 3),.t (.int .i64 0),.t (snT x.1 x.2.1 x.2.2)]
 ins _:=[]
 pre x:=x.2.1.length≤1000000∧x.2.2.length≤1000000
 r _:= .sl 0 0 32
 outs x:=[.live 1 (((qO9 x.2.1 x.2.2).map qA).map V.t) true false]
 inj:=by
  rintro⟨a,b,c⟩ ⟨d,e,f⟩ h _
  simp only[List.cons.injEq,V.t.injEq,true_and,and_true] at h
  obtain⟨rfl,rfl,rfl⟩:=qNi h
  exact⟨rfl,rfl⟩
theorem jBl {a s d:List UInt8} (h:s.length≤1000000∧d.length≤1000000):qYr.fs [.t (.int .i64 3),.t (.int .i64 0),.t (.agg [.sl (a.map qA),.sl (s.map qA),.sl (d.map qA)])] []=some (.sl 0 0 32,[.live 1 (((qO9 s d).map qA).map V.t) true false]):=qYr.eq (a,s,d) h
theorem qXr (tab:Tab) (gl:Gl) (n1 n2:Nat) (h2:tab.look n2=some yE.fs) (a s d:List UInt8) (h:s.length≤1000000∧d.length≤1000000) :
  (qJl n1 n2).wp tab gl (qE 0 [.t (.int .i64 3),.t (.int .i64 0),.t (snT a s d)]) (qE 0 []) (xM [] [(6,none)] 0 (fun r o=>r = .sl 0 0 32∧o=[.live 1 (((qO9 s d).map qA).map V.t) true false])):=by
 simp (disch:=omega) only [go_sem,seval,qJl,snT,h2,zFb h.1 h.2]
def qRg:Ct where
 α:=List UInt8×List UInt8×List UInt8
 as x:=[.t (snT x.1 x.2.1 x.2.2),.t (.int .i64 3),.t (.int .i64 0)]
 ins _:=[]
 pre x:=x.2.1.length≤1000000∧x.2.2.length≤1000000
 r _:= .sl 0 0 32
 outs x:=[.live 1 (((qO9 x.2.1 x.2.2).map qA).map V.t) true false]
 inj:=by
  rintro⟨a,b,c⟩ ⟨d,e,f⟩ h _
  simp only[List.cons.injEq,V.t.injEq,true_and,and_true] at h
  obtain⟨rfl,rfl,rfl⟩:=qNi h
  exact⟨rfl,rfl⟩
theorem zXs {a s d:List UInt8} (h:s.length≤1000000∧d.length≤1000000):qRg.fs [.t (.agg [.sl (a.map qA),.sl (s.map qA),.sl (d.map qA)]),.t (.int .i64 3),.t (.int .i64 0)] []=some (.sl 0 0 32,[.live 1 (((qO9 s d).map qA).map V.t) true false]):=qRg.eq (a,s,d) h
theorem qT3 (tab:Tab) (gl:Gl) (n1 n2:Nat) (h2:tab.look n2=some yE.fs) (a s d:List UInt8) (h:s.length≤1000000∧d.length≤1000000) :
  (qHf n1 n2).wp tab gl (qE 0 [.t (snT a s d),.t (.int .i64 3),.t (.int .i64 0)]) (qE 0 []) (xM [] [(6,none)] 0 (fun r o=>r = .sl 0 0 32∧o=[.live 1 (((qO9 s d).map qA).map V.t) true false])):=by
 simp (disch:=omega) only [go_sem,seval,qHf,snT,h2,zFb h.1 h.2]
def qYh:Ct where
 α:=Int
 as x:=[.t (.int .i64 x)]
 ins _:=[]
 pre _:=True
 r x:= .tup [.t (.agg [.int .i64 0,.int .i64 0,.int .i64 0,.sl [],.sl []]),.t (.agg [.sl [],.sl [],.sl []]),.t (.int .i64 x)]
 outs _:=[]
 inj:=by
  intro a b h _
  simp only[List.cons.injEq,V.t.injEq,T.int.injEq,true_and,and_true] at h
  subst h
  exact⟨rfl,rfl⟩
theorem zZ3 {e:Int}:qYh.fs [.t (.int .i64 e)] []=some (.tup [.t (.agg [.int .i64 0,.int .i64 0,.int .i64 0,.sl [],.sl []]),.t (.agg [.sl [],.sl [],.sl []]),.t (.int .i64 e)],[]):=qYh.eq e trivial
theorem qXq (tab:Tab) (gl:Gl) (e:Int):qJk.wp tab gl (qE 0 [.t (.int .i64 e)]) (qE 0 []) (zZ [(2,some (5,true)),(3,some (3,true)),(4,none)] 0 (fun r o=>r = .tup [.t (.agg [.int .i64 0,.int .i64 0,.int .i64 0,.sl [],.sl []]),.t (.agg [.sl [],.sl [],.sl []]),.t (.int .i64 e)]∧o=[])):=by
 simp (disch:=omega) only [go_sem,seval,qJk]
def qFm (sec:List UInt8):List UInt8:=drv sec jJi [] 32
def zNr (sec p d:List UInt8):V:=if d.length≤128 then .tup [.t (puT p (qO9 (qFm sec) d)),.t (snT [] (qFm sec) d),.t (.int .i64 0)]
 else .tup [.t (.agg [.int .i64 0,.int .i64 0,.int .i64 0,.sl [],.sl []]),.t (.agg [.sl [],.sl [],.sl []]),.t (.int .i64 4)]
abbrev jCx (sec p d:List UInt8):Prop:=sec.length≤64∧p.length=32∧d.length≤1000
def qOm:Ct where
 α:=List UInt8×List UInt8×List UInt8
 as x:=[.t (.sl (x.1.map qA)),.t (puT x.2.1 []),.t (.sl []),.t (.sl (x.2.2.map qA))]
 ins _:=[]
 pre x:=jCx x.1 x.2.1 x.2.2
 r x:=zNr x.1 x.2.1 x.2.2
 outs _:=[]
 inj:=by
  rintro⟨a,b,c⟩ ⟨d,e,f⟩ h _
  simp only[List.cons.injEq,V.t.injEq,T.sl.injEq,true_and,and_true,qZ] at h
  obtain⟨rfl,h,rfl⟩:=h
  obtain⟨rfl,_⟩:=qR4 h
  exact⟨rfl,rfl⟩
theorem zS9 {sec p d:List UInt8} (h:jCx sec p d):qOm.fs [.t (.sl (sec.map qA)),.t (puT p []),.t (.sl []),.t (.sl (d.map qA))] []=some (zNr sec p d,[]):=qOm.eq (sec,p,d) h
theorem zJ0 {k:List UInt8} (h:k.length≤64):xK.fs [.t (.sl (k.map qA)),.t (zU [115,101,101,100]),.t (.sl []),.t (.int .i64 32)] []=some (.t (.sl ((qFm k).map qA)),[]):=qUv (l:=jJi) (c:=[]) (n:=32) ⟨h,by decide,by decide,by omega,by omega⟩
theorem zD7 (tab:Tab) (gl:Gl) (n1 n2 n3 n4:Nat) (h1:tab.look n1=some qYh.fs) (h2:tab.look n2=some qHw.fs) (h3:tab.look n3=some xK.fs) (h4:tab.look n4=some qYr.fs) (sec p d:List UInt8) (h:jCx sec p d) :
  (qEf n1 n2 n3 n4).wp tab gl (qE 0 [.t (.sl (sec.map qA)),.t (puT p []),.t (.sl []),.t (.sl (d.map qA))]) (qE 0 []) (zZ [(8,some (5,true)),(9,some (3,true)),(10,none)] 0 (fun r o=>r=zNr sec p d∧o=[])):=by
 obtain⟨hs,hp,hd⟩:=h
 have hC:=zLt (p:=p) (u:=List.replicate 32 0) ⟨hp,by simp⟩
 have t32:List.take 32 (List.replicate 32 (0:UInt8))=List.replicate 32 0:=rfl
 by_cases h1d:128<d.length
 ·rw[zNr,if_neg (by omega)]
  simp (config := { maxSteps:=2000000 }) (disch:=(first | omega | (simp only[wL,wK];omega))) only [go_sem,↓reduceIte,Nat.reduceAdd,Nat.reduceEqDiff,Nat.reduceSub,Nat.reduceMul,Nat.reduceLT,Nat.reduceLeDiff,Nat.reduceBEq,Int.reduceEq,Int.reduceLT,Int.reduceLE,Int.reduceToNat,Int.reduceNeg,Int.reduceAdd,Int.reduceSub,Int.reduceMul,Int.reduceMod,Int.reduceDiv,reduceCtorEq,Nat.reducePow,Int.reducePow,qEf,puT,h1,h2,hC,t32,h1d,zZ3,List.map_nil]
 ·rw[zNr,if_pos (by omega)]
  have hD:=zJ0 hs
  have lS:(qFm sec).length=32:=yU
  have hU:=jBl (a:=[]) (s:=qFm sec) (d:=d) ⟨by omega,by omega⟩
  have lU:=qDz (s:=qFm sec) (d:=d)
  have tU:List.take 32 (qO9 (qFm sec) d)=qO9 (qFm sec) d:=List.take_of_length_le (by omega)
  generalize qO9 (qFm sec) d=u at *
  generalize qFm sec=s at *
  simp only[List.map_nil] at hU
  by_cases h0:0<d.length
  ·simp (config := { maxSteps:=2000000 }) (disch:=(first | omega | (simp only[wL,wK];omega))) only [go_sem,↓reduceIte,Nat.reduceAdd,Nat.reduceEqDiff,Nat.reduceSub,Nat.reduceMul,Nat.reduceLT,Nat.reduceLeDiff,Nat.reduceBEq,Int.reduceEq,Int.reduceLT,Int.reduceLE,Int.reduceToNat,Int.reduceNeg,Int.reduceAdd,Int.reduceSub,Int.reduceMul,Int.reduceMod,Int.reduceDiv,reduceCtorEq,Nat.reducePow,Int.reducePow,qEf,puT,snT,h1,h2,hC,t32,h1d,h0,h3,hD,h4,hU,tU,lU,List.map_nil]
   all_goals rfl
  ·simp (config := { maxSteps:=2000000 }) (disch:=(first | omega | (simp only[wL,wK];omega))) only [go_sem,↓reduceIte,Nat.reduceAdd,Nat.reduceEqDiff,Nat.reduceSub,Nat.reduceMul,Nat.reduceLT,Nat.reduceLeDiff,Nat.reduceBEq,Int.reduceEq,Int.reduceLT,Int.reduceLE,Int.reduceToNat,Int.reduceNeg,Int.reduceAdd,Int.reduceSub,Int.reduceMul,Int.reduceMod,Int.reduceDiv,reduceCtorEq,Nat.reducePow,Int.reducePow,qEf,puT,snT,h1,h2,hC,t32,h1d,h0,h3,hD,h4,hU,tU,lU,List.map_nil]
   all_goals rfl
theorem zAc (tab:Tab) (gl:Gl) (n1 n2 n3 n4:Nat) (h1:tab.look n1=some qLq.fs) (h2:tab.look n2=some qHw.fs) (h3:tab.look n3=some xK.fs) (h4:tab.look n4=some qRg.fs) (sec p d:List UInt8) (h:jCx sec p d) :
  (qCu n1 n2 n3 n4).wp tab gl (qE 0 [.t (.sl (sec.map qA)),.t (puT p []),.t (.sl []),.t (.sl (d.map qA))]) (qE 0 []) (zZ [(8,some (5,true)),(9,some (3,true)),(10,none)] 0 (fun r o=>r=zNr sec p d∧o=[])):=by
 obtain⟨hs,hp,hd⟩:=h
 have hC:=zLt (p:=p) (u:=List.replicate 32 0) ⟨hp,by simp⟩
 have t32:List.take 32 (List.replicate 32 (0:UInt8))=List.replicate 32 0:=rfl
 by_cases h1d:128<d.length
 ·rw[zNr,if_neg (by omega)]
  simp (config := { maxSteps:=2000000 }) (disch:=(first | omega | (simp only[wL,wK];omega))) only [go_sem,↓reduceIte,Nat.reduceAdd,Nat.reduceEqDiff,Nat.reduceSub,Nat.reduceMul,Nat.reduceLT,Nat.reduceLeDiff,Nat.reduceBEq,Int.reduceEq,Int.reduceLT,Int.reduceLE,Int.reduceToNat,Int.reduceNeg,Int.reduceAdd,Int.reduceSub,Int.reduceMul,Int.reduceMod,Int.reduceDiv,reduceCtorEq,Nat.reducePow,Int.reducePow,qCu,puT,h1,qZz,h2,hC,t32,h1d,List.map_nil]
  all_goals rfl
 ·rw[zNr,if_pos (by omega)]
  have hD:=zJ0 hs
  have lS:(qFm sec).length=32:=yU
  have hU:=zXs (a:=[]) (s:=qFm sec) (d:=d) ⟨by omega,by omega⟩
  have lU:=qDz (s:=qFm sec) (d:=d)
  have tU:List.take 32 (qO9 (qFm sec) d)=qO9 (qFm sec) d:=List.take_of_length_le (by omega)
  generalize qO9 (qFm sec) d=u at *
  generalize qFm sec=s at *
  simp only[List.map_nil] at hU
  by_cases h0:0<d.length
  ·simp (config := { maxSteps:=2000000 }) (disch:=(first | omega | (simp only[wL,wK];omega))) only [go_sem,↓reduceIte,Nat.reduceAdd,Nat.reduceEqDiff,Nat.reduceSub,Nat.reduceMul,Nat.reduceLT,Nat.reduceLeDiff,Nat.reduceBEq,Int.reduceEq,Int.reduceLT,Int.reduceLE,Int.reduceToNat,Int.reduceNeg,Int.reduceAdd,Int.reduceSub,Int.reduceMul,Int.reduceMod,Int.reduceDiv,reduceCtorEq,Nat.reducePow,Int.reducePow,qCu,puT,snT,h1,qZz,h2,hC,t32,h1d,h0,h3,hD,h4,hU,tU,lU,List.map_nil]
   all_goals rfl
  ·simp (config := { maxSteps:=2000000 }) (disch:=(first | omega | (simp only[wL,wK];omega))) only [go_sem,↓reduceIte,Nat.reduceAdd,Nat.reduceEqDiff,Nat.reduceSub,Nat.reduceMul,Nat.reduceLT,Nat.reduceLeDiff,Nat.reduceBEq,Int.reduceEq,Int.reduceLT,Int.reduceLE,Int.reduceToNat,Int.reduceNeg,Int.reduceAdd,Int.reduceSub,Int.reduceMul,Int.reduceMod,Int.reduceDiv,reduceCtorEq,Nat.reducePow,Int.reducePow,qCu,puT,snT,h1,qZz,h2,hC,t32,h1d,h0,h3,hD,h4,hU,tU,lU,List.map_nil]
   all_goals rfl
def qXy (ps p u:List UInt8):List UInt8:=drv ps jJg (qS8 p u) 32
theorem qRu {ps p u:List UInt8}:(qXy ps p u).length=32:=yU
def zCq (p u:List UInt8):List UInt8:=(qS8 p u).take 16
theorem qKg {p u:List UInt8}:(zCq p u).length=16:=by simp[zCq,kY]
theorem zJz {ps p u:List UInt8} (h:ps.length≤64):xK.fs [.t (.sl (ps.map qA)),.t (zU [112,114,105,118,97,116,101]),.t (.sl ((qS8 p u).map qA)),.t (.int .i64 32)] []=some (.t (.sl ((qXy ps p u).map qA)),[]):=qUv (l:=jJg) (c:=qS8 p u) (n:=32) ⟨h,by decide,by rw[kY];omega,by omega,by omega⟩
def qRi:Ct where
 α:=(List UInt8×List UInt8×List UInt8)×List UInt8×List UInt8
 as x:=[.t (snT x.1.1 x.1.2.1 x.1.2.2),.t (puT x.2.1 x.2.2)]
 ins _:=[]
 pre x:=x.1.2.1.length≤64∧L32 x.2.1 x.2.2
 r x:= .tup [.t (.sl ((qXy x.1.2.1 x.2.1 x.2.2).map qA)),.t (.sl ((zCq x.2.1 x.2.2).map qA))]
 outs _:=[]
 inj:=by
  rintro⟨⟨a,b,c⟩,d,e⟩ ⟨⟨f,g,i⟩,j,k⟩ h _
  simp only[List.cons.injEq,V.t.injEq,and_true] at h
  obtain⟨h1,h2⟩:=h
  obtain⟨rfl,rfl,rfl⟩:=qNi h1
  obtain⟨rfl,rfl⟩:=qR4 h2
  exact⟨rfl,rfl⟩
theorem zYb {a s d p u:List UInt8} (h:s.length≤64∧L32 p u):qRi.fs [.t (.agg [.sl (a.map qA),.sl (s.map qA),.sl (d.map qA)]),.t (.agg [.int .i64 3,.int .i64 0,.int .i64 0,.sl (p.map qA),.sl (u.map qA)])] []=some (.tup [.t (.sl ((qXy s p u).map qA)),.t (.sl ((zCq p u).map qA))],[]):=qRi.eq ((a,s,d),p,u) h
theorem zIh (tab:Tab) (gl:Gl) (n1 n2:Nat) (h1:tab.look n1=some qHv.fs) (h2:tab.look n2=some xK.fs) (a s d p u:List UInt8) (h:s.length≤64∧L32 p u) :
  (qQh n1 n2).wp tab gl (qE 0 [.t (snT a s d),.t (puT p u)]) (qE 0 []) (zZ [(4,none),(5,none)] 0 (fun r o=>r = .tup [.t (.sl ((qXy s p u).map qA)),.t (.sl ((zCq p u).map qA))]∧o=[])):=by
 have hN:=zLo h.2
 have hD:=zJz (p:=p) (u:=u) h.1
 have lN:=kY (p:=p) (u:=u)
 have hM:List.take 16 (qS8 p u)=zCq p u:=rfl
 generalize qXy s p u=k at *
 generalize zCq p u=no at *
 generalize qS8 p u=n at *
 simp (disch:=omega) only [go_sem,seval,qQh,snT,puT,h1,h2,hN,hD,lN,hM]
 all_goals rfl
def qRc:Ct where
 α:=(List UInt8×List UInt8×List UInt8)×List UInt8×List UInt8
 as x:=[.t (snT x.1.1 x.1.2.1 x.1.2.2),.t (.sl ((qS8 x.2.1 x.2.2).map qA))]
 ins _:=[]
 pre x:=x.1.2.1.length≤64
 r x:= .t (.sl ((qXy x.1.2.1 x.2.1 x.2.2).map qA))
 outs _:=[]
 inj:=by
  rintro⟨⟨a,b,c⟩,d,e⟩ ⟨⟨f,g,i⟩,j,k⟩ h _
  simp only[List.cons.injEq,V.t.injEq,T.sl.injEq,and_true,qZ] at h
  obtain⟨h1,h2⟩:=h
  obtain⟨rfl,rfl,rfl⟩:=qNi h1
  simp only[qXy,h2,and_self]
theorem zWu {a s d p u:List UInt8} (h:s.length≤64):qRc.fs [.t (.agg [.sl (a.map qA),.sl (s.map qA),.sl (d.map qA)]),.t (.sl ((qS8 p u).map qA))] []=some (.t (.sl ((qXy s p u).map qA)),[]):=qRc.eq ((a,s,d),p,u) h
theorem zDm (tab:Tab) (gl:Gl) (n1:Nat) (h1:tab.look n1=some xK.fs) (a s d p u:List UInt8) (h:s.length≤64) :
  (qN0 n1).wp tab gl (qE 0 [.t (snT a s d),.t (.sl ((qS8 p u).map qA))]) (qE 0 []) (zZ [(4,none)] 0 (fun r o=>r = .t (.sl ((qXy s p u).map qA))∧o=[])):=by
 have hD:=zJz (p:=p) (u:=u) h
 generalize qXy s p u=k at *
 generalize qS8 p u=n at *
 simp (disch:=omega) only [go_sem,seval,qN0,snT,h1,hD]
def zG9 (a s d:List UInt8):List UInt8:=blL (blL (blL [] a) s) d
theorem qBo {a s d:List UInt8}:(zG9 a s d).length=6+a.length+s.length+d.length:=by
 simp[zG9,vD];omega
def zA8 (ps p u a s d:List UInt8):List UInt8:=zL9 (qXy ps p u) (zCq p u) (qS7 p u) (zG9 a s d)
abbrev jCz (ps p u a s d:List UInt8):Prop:=ps.length≤64∧L32 p u∧a.length≤32∧s.length≤64∧d.length≤500
def qHz:Ct where
 α:=(List UInt8×List UInt8×List UInt8)×(List UInt8×List UInt8)×List UInt8×List UInt8×List UInt8
 as x:=[.t (snT x.1.1 x.1.2.1 x.1.2.2),.t (puT x.2.1.1 x.2.1.2),.t (snT x.2.2.1 x.2.2.2.1 x.2.2.2.2)]
 ins _:=[]
 pre x:=jCz x.1.2.1 x.2.1.1 x.2.1.2 x.2.2.1 x.2.2.2.1 x.2.2.2.2
 r x:= .t (.sl ((zA8 x.1.2.1 x.2.1.1 x.2.1.2 x.2.2.1 x.2.2.2.1 x.2.2.2.2).map qA))
 outs _:=[]
 inj:=by
  rintro⟨⟨a,b,c⟩,⟨d,e⟩,l,m,n⟩ ⟨⟨f,g,i⟩,⟨j,k⟩,o,p,q⟩ h _
  simp only[List.cons.injEq,V.t.injEq,and_true] at h
  obtain⟨h1,h2,h3⟩:=h
  obtain⟨rfl,rfl,rfl⟩:=qNi h1
  obtain⟨rfl,rfl⟩:=qR4 h2
  obtain⟨rfl,rfl,rfl⟩:=qNi h3
  exact⟨rfl,rfl⟩
theorem zNj {pa ps pd p u a s d:List UInt8} (h:jCz ps p u a s d):qHz.fs [.t (snT pa ps pd),.t (puT p u),.t (snT a s d)] []=some (.t (.sl ((zA8 ps p u a s d).map qA)),[]):=qHz.eq ((pa,ps,pd),(p,u),a,s,d) h
theorem qUg (tab:Tab) (gl:Gl) (n1 n2 n3 n4:Nat) (h1:tab.look n1=some qRi.fs) (h2:tab.look n2=some qA1.fs) (h3:tab.look n3=some qE3.fs) (h4:tab.look n4=some qHy.fs) (pa ps pd p u a s d:List UInt8) (h:jCz ps p u a s d) :
  (qHn n1 n2 n3 n4).wp tab gl (qE 0 [.t (snT pa ps pd),.t (puT p u),.t (snT a s d)]) (qE 0 []) (zZ [(6,none)] 0 (fun r o=>r = .t (.sl ((zA8 ps p u a s d).map qA))∧o=[])):=by
 obtain⟨hps,hL,ha,hs,hd⟩:=h
 have hK:=zYb (a:=pa) (d:=pd) ⟨hps,hL⟩
 have hE:=qWg hL
 have lE:=qDn hL
 have hZ:=zMa (k:=qXy ps p u) (no:=zCq p u) (ad:=qS7 p u) (p:=zG9 a s d) ⟨⟨by rw[qRu];omega,by rw[qKg];omega,by rw[qBo];omega,by rw[qBo];omega⟩,by omega⟩
 have b1:=wY (b:=[]) (x:=a) ⟨by decide,by omega⟩
 simp only[List.map_nil,List.length_nil] at b1
 have l1:(blL [] a).length=2+a.length:=by simp[vD]
 have b2:=wY (b:=blL [] a) (x:=s) ⟨by omega,by omega⟩
 have l2:(blL (blL [] a) s).length=(blL [] a).length+2+s.length:=vD
 have b3:=wY (b:=blL (blL [] a) s) (x:=d) ⟨by omega,by omega⟩
 have l3:(zG9 a s d).length=(blL (blL [] a) s).length+2+d.length:=vD
 have hP:blL (blL (blL [] a) s) d=zG9 a s d:=rfl
 rw[hP] at b3
 have hX:zL9 (qXy ps p u) (zCq p u) (qS7 p u) (zG9 a s d)=zA8 ps p u a s d:=rfl
 rw[hX] at hZ
 generalize zA8 ps p u a s d=z at *
 generalize qXy ps p u=k at *
 generalize zCq p u=no at *
 generalize qS7 p u=en at *
 generalize zG9 a s d=q3 at *
 generalize blL (blL [] a) s=q2 at *
 generalize blL [] a=q1 at *
 have t1 : ∀ n,q1.length≤n→List.take n q1=q1:=fun n h=>List.take_of_length_le h
 have t2 : ∀ n,q2.length≤n→List.take n q2=q2:=fun n h=>List.take_of_length_le h
 have t3 : ∀ n,q3.length≤n→List.take n q3=q3:=fun n h=>List.take_of_length_le h
 have te:List.take 71 en=en:=List.take_of_length_le (by omega)
 simp (disch:=omega) only [go_sem,seval,qHn,snT,puT,h1,hK,h2,b1,b2,b3,h3,hE,h4,hZ,t1,t2,t3,te,l1,l2,l3,lE]
 all_goals rfl
theorem qSx (tab:Tab) (gl:Gl) (n1 n2 n3 n4 n5:Nat) (h0:tab.look n1=some qHv.fs) (h2:tab.look n2=some qA1.fs) (h1:tab.look n3=some qRc.fs) (h3:tab.look n4=some qE3.fs) (h4:tab.look n5=some qHy.fs) (pa ps pd p u a s d:List UInt8) (h:jCz ps p u a s d) :
  (qGn n1 n2 n3 n4 n5).wp tab gl (qE 0 [.t (snT pa ps pd),.t (puT p u),.t (snT a s d)]) (qE 0 []) (zZ [(6,none)] 0 (fun r o=>r = .t (.sl ((zA8 ps p u a s d).map qA))∧o=[])):=by
 obtain⟨hps,hL,ha,hs,hd⟩:=h
 have hN:=zLo hL
 have lN:=kY (p:=p) (u:=u)
 have hK:=zWu (a:=pa) (s:=ps) (d:=pd) (p:=p) (u:=u) hps
 have hE:=qWg hL
 have lE:=qDn hL
 have hZ:=zMa (k:=qXy ps p u) (no:=zCq p u) (ad:=qS7 p u) (p:=zG9 a s d) ⟨⟨by rw[qRu];omega,by rw[qKg];omega,by rw[qBo];omega,by rw[qBo];omega⟩,by omega⟩
 have b1:=wY (b:=[]) (x:=a) ⟨by decide,by omega⟩
 simp only[List.map_nil,List.length_nil] at b1
 have l1:(blL [] a).length=2+a.length:=by simp[vD]
 have b2:=wY (b:=blL [] a) (x:=s) ⟨by omega,by omega⟩
 have l2:(blL (blL [] a) s).length=(blL [] a).length+2+s.length:=vD
 have b3:=wY (b:=blL (blL [] a) s) (x:=d) ⟨by omega,by omega⟩
 have l3:(zG9 a s d).length=(blL (blL [] a) s).length+2+d.length:=vD
 have hP:blL (blL (blL [] a) s) d=zG9 a s d:=rfl
 rw[hP] at b3
 have hX:zL9 (qXy ps p u) (zCq p u) (qS7 p u) (zG9 a s d)=zA8 ps p u a s d:=rfl
 rw[hX] at hZ
 have hM:List.take 16 (qS8 p u)=zCq p u:=rfl
 generalize zA8 ps p u a s d=z at *
 generalize qXy ps p u=k at *
 generalize zCq p u=no at *
 generalize qS8 p u=n at *
 generalize qS7 p u=en at *
 generalize zG9 a s d=q3 at *
 generalize blL (blL [] a) s=q2 at *
 generalize blL [] a=q1 at *
 have t1 : ∀ n,q1.length≤n→List.take n q1=q1:=fun n h=>List.take_of_length_le h
 have t2 : ∀ n,q2.length≤n→List.take n q2=q2:=fun n h=>List.take_of_length_le h
 have t3 : ∀ n,q3.length≤n→List.take n q3=q3:=fun n h=>List.take_of_length_le h
 have te:List.take 71 en=en:=List.take_of_length_le (by omega)
 simp (disch:=omega) only [go_sem,seval,qGn,snT,puT,h0,hN,lN,hM,h1,hK,h2,b1,b2,b3,h3,hE,h4,hZ,t1,t2,t3,te,l1,l2,l3,lE]
 all_goals exact⟨rfl,rfl⟩
end Go.Eng
end
