/- A part of an abstract machine, its walks, their tie. -/
import Derived.Test.YtkffggdjdmimgaaGreatDoorA18
import Derived.Test.YtkffggdjdmimgaaGreatDoorA9
set_option linter.all false
section
set_option maxHeartbeats 64000000
set_option maxRecDepth 20000
namespace Go.Eng
open List
variable (tab:Tab) (gl:Gl)
def zZq (i:Nat):UInt8:=if 12≤i then 255 else 0
theorem zHa {i:Nat}(h:i<12):zZq i=0:=if_neg oM
theorem zHb {i:Nat}(h : ¬ i<12):zZq i=255:=if_pos oM
def qCf (a:Nat):zB:=(List.range 16).map fun i=>List.replicate (szA a) (zZq i)
theorem kU {a i:Nat}(h:i<16):(qCf a).take (i+1)=(qCf a).take i++[List.replicate (szA a) (zZq i)]:=by
 rw[qEe (d:=[]) (by simp[qCf];omega)];congr 2;simp[qCf,List.getD,h]
theorem qGe {a:Nat}:(qCf a).take 16=qCf a:=take_of_length_le (by simp[qCf])
theorem qO {a:Nat}:List.length (qCf a)=16:=by simp[qCf]
def yV (s:Int):List zB:=if s%4=0 then [] else [if s%2=1 then qCf 0 else [],if s/2%2=1 then qCf 1 else []]
theorem qEn {s:Int}(h : ¬ s%4=0):yV s=[if s%2=1 then qCf 0 else [],if s/2%2=1 then qCf 1 else []]:=if_neg h
def xB:Ct where
 α:=Int
 aS x:=[.t (.int .i64 x)]
 ins _:=[]
 pre _:=True
 r x:= .t (.int .i64 (if x=0 then 20 else if x=1 then 32 else 0))
 outs _:=[]
 inj:=by
  intro a b h _;simp at h;subst h;exact⟨rfl,rfl⟩
theorem qM:xB.fs [.t (.int .i64 0)] []=some (.t (.int .i64 20),[]):=xB.eq (0:Int) trivial
theorem qN:xB.fs [.t (.int .i64 1)] []=some (.t (.int .i64 32),[]):=xB.eq (1:Int) trivial
def kE:Ct where
 α:=Nat×UInt8
 aS x:=[.t (.int .i64 x.1),.t (qA x.2)]
 ins _:=[]
 pre x:=x.1=20∨x.1=32
 r x:= .sl 0 0 x.1
 outs x:=[.live 1 (((List.replicate x.1 x.2).map qA).map V.t) true false]
 inj:=by
  rintro⟨a,b⟩ ⟨c,d⟩ h _;simp[qRi,Int.natCast_inj] at h;obtain⟨rfl,rfl⟩:=h;exact⟨rfl,rfl⟩
theorem zH {x:UInt8}:kE.fs [.t (.int .i64 20),.t (qA x)] []=some (.sl 0 0 20,[.live 1 (((List.replicate 20 x).map qA).map V.t) true false]):=kE.eq (20,x) (.inl rfl)
theorem zI {x:UInt8}:kE.fs [.t (.int .i64 32),.t (qA x)] []=some (.sl 0 0 32,[.live 1 (((List.replicate 32 x).map qA).map V.t) true false]):=kE.eq (32,x) (.inr rfl)
theorem zBi (h1:LkC tab 81 xB)(h2:LkC tab 80 kE)(a:Nat)(ha:a<2)(i:Nat):qFd.1.wp tab gl (qE 0 [.t (.int .i64 a),.t (.int .i64 i)]) (qE 0 []) (kG [] [(4,none)] 0 (fun r o=>r = .sl 0 0 (szA a)∧o=[.live 1 (((List.replicate (szA a) (zZq i)).map qA).map V.t) true false])):=by
 rcases (show a=0∨a=1 by omega) with rfl | rfl<;>by_cases hi:i<12;all_goals simp(disch:=omega)only[go_sem,qFd,h1,h2,qM,qN,zH,zI,szA]
 all_goals first | rw[zHa hi] | rw[zHb hi]
def qI4:Ct where
 α:=Nat×Nat
 aS x:=[.t (.int .i64 x.1),.t (.int .i64 x.2)]
 ins _:=[]
 pre x:=x.1<2
 r x:= .sl 0 0 (szA x.1)
 outs x:=[.live 1 (((List.replicate (szA x.1) (zZq x.2)).map qA).map V.t) true false]
 inj:=by
  rintro⟨a,b⟩ ⟨c,d⟩ h _;simp[Int.natCast_inj] at h;obtain⟨rfl,rfl⟩:=h;exact⟨rfl,rfl⟩
theorem vH {i:Nat}:qI4.fs [.t (.int .i64 0),.t (.int .i64 i)] []=some (.sl 0 0 20,[.live 1 (((List.replicate 20 (zZq i)).map qA).map V.t) true false]):=qI4.eq (0,i) (by simp[qI4])
theorem vI {i:Nat}:qI4.fs [.t (.int .i64 1),.t (.int .i64 i)] []=some (.sl 0 0 32,[.live 1 (((List.replicate 32 (zZq i)).map qA).map V.t) true false]):=qI4.eq (1,i) (by simp[qI4])
theorem qWe (s:Int)(h3:s%4=0):jR.1.wp tab gl (qE 0 [.t (.int .i64 s)]) (qE 0 []) (kG [] [(2,some (2,true))] 0 (fun r o=>r = .agg [.nil,.t (.int .i64 0)]∧o=[])):=by
 simp(disch:=omega)only[go_sem,jR,h3]
theorem zLx (s:Int)(h3:s%4=0):kM.1.wp tab gl (qE 0 [.t (.int .i64 s)]) (qE 0 []) (kG [] [(2,some (2,true))] 0 (fun r o=>r = .agg [.nil,.t (.int .i64 0)]∧o=[])):=by
 simp(disch:=omega)only[go_sem,kM,h3]
theorem qZw (h1:LkC tab 198 xB)(h2:LkC tab 262 kE)(s:Int)(h3 : ¬ s%4=0):jR.1.wp tab gl (qE 0 [.t (.int .i64 s)]) (qE 0 []) (kG [] [(2,some (2,true))] 0 (fun r o=>r=twR (yV s) 0∧o=twO (yV s))):=by
 have h4:(s%4==0)=false:=by simpa using h3
 have hf1:s.fdiv 1=s:=Int.fdiv_one s;have hf2:s.fdiv 2=s/2:=Int.fdiv_eq_ediv_of_nonneg s oM;have hc0:s%2=0∨s%2=1:=oM;have hc1:s/2%2=0∨s/2%2=1:=oM;rcases hc0 with c0 | c0<;>rcases hc1 with c1 | c1
 ·exact absurd oM h3
 ·rw[qEn h3,if_neg oM,if_pos oM];simp(disch:=omega)only[go_sem,jR,h4,hf1,hf2];refine qB 2 (fun k=>match k with | 0=>[(0,.t (.int .i64 s)),(2,.ref 4096 0 0),(3,.ref 16384 0 0),(12,.t (.int .i64 0))] | 1=>[(0,.t (.int .i64 s)),(2,.ref 4096 0 0),(3,.ref 16384 0 0),(12,.t (.int .i64 1))] | _=>[(0,.t (.int .i64 s)),(2,.ref 4096 0 0),(3,.ref 16384 0 0),(12,.t (.int .i64 2))]) (fun k=>match k with | 0=>[(16384,.live 2 [.agg [.nil,.t (.int .i64 0)]] true true),(4096,.live 2 [.agg [.nil,.t (.int .i64 0)]] true true)] | 1=>[(16384,.live 2 [.agg [.sl 9000 0 1,.t (.int .i64 0)]] true true),(9000,.live 1 [.sl 9001 0 0] true false),(9001,.live 1 ((([]:zB).map bsT).map V.t) true false),(4096,.live 2 [.agg [.nil,.t (.int .i64 0)]] true true)] | _=>[(16384,.live 2 [.agg [.sl 9000 0 2,.t (.int .i64 0)]] true true),(9000,.live 1 [.sl 9001 0 0,.sl 9002 0 16] true false),(9001,.live 1 ((([]:zB).map bsT).map V.t) true false),(9002,.live 1 (((qCf 1:zB).map bsT).map V.t) true false),(4096,.live 2 [.agg [.nil,.t (.int .i64 0)]] true true)]) ?_ (fun k hk=>?_)
  ·refine qJ.rd id ?_ ?_ rfl;all_goals simp(disch:=omega)only[go_sem,id]
  ·rcases (show k=0∨k=1∨k=2 by omega) with rfl | rfl | rfl
   ·simp(disch:=omega)only[go_sem,c0,c1,qO,h1,h2,qM,qN,zH,zI,hf1,hf2];refine qG 1 ?_;simp(disch:=omega)only[go_sem,qD,c0,c1,qO,h1,h2,qM,qN,zH,zI,hf1,hf2];refine qJ.trans (fs':=[(0,.t (.int .i64 s)),(2,.ref 4096 0 0),(3,.ref 16384 0 0),(12,.t (.int .i64 1))]) (qJ.cv0 (hv:=[(9001,.live 1 [] true false)]) (ho:=[(16384,.live 2 [.agg [.sl 9000 0 1,.t (.int .i64 0)]] true true),(9000,.live 1 [.sl 9001 0 0] true false),(4096,.live 2 [.agg [.nil,.t (.int .i64 0)]] true true)]) (fun j=>if j=9000 then 65600 else j) ?_ ?_ rfl rfl) (qJ.rd id ?_ ?_ rfl);all_goals simp(disch:=omega)only[go_sem,mcn,id]
   ·simp(disch:=omega)only[go_sem,c0,c1,qO,h1,h2,qM,qN,zH,zI,hf1,hf2];refine qB 16 (fun i=>[(0,.t (.int .i64 s)),(2,.ref 4096 0 0),(3,.ref 16384 0 0),(12,.t (.int .i64 1)),(4,.t (.int .i64 1)),(5,.sl 9100 0 i),(6,.t (.int .i64 (i:Nat)))]) (fun i=>[(9100,.live 1 ((((qCf 1).take i).map bsT).map V.t) true false),(16384,.live 2 [.agg [.sl 9000 0 1,.t (.int .i64 0)]] true true),(9000,.live 1 [.sl 9001 0 0] true false),(9001,.live 1 ((([]:zB).map bsT).map V.t) true false),(4096,.live 2 [.agg [.nil,.t (.int .i64 0)]] true true)]) ?_ (fun i hi=>?_)
    ·refine qJ.cv0 (hv:=[(9100,.live 1 [] true false)]) (ho:=[(16384,.live 2 [.agg [.sl 9000 0 1,.t (.int .i64 0)]] true true),(9000,.live 1 [.sl 9001 0 0] true false),(9001,.live 1 ((([]:zB).map bsT).map V.t) true false),(4096,.live 2 [.agg [.nil,.t (.int .i64 0)]] true true)]) id ?_ ?_ rfl rfl;all_goals simp(disch:=omega)only[go_sem,mcn,id]
    ·by_cases hlt:i<16
     ·by_cases h12:i<12
      ·simp(disch:=omega)only[go_sem,c0,c1,qO,h1,h2,qM,qN,zH,zI,hf1,hf2];refine⟨hlt,qJ.cv (hv:=[]) [61504] (fun j=>if j=9100 then 61536 else j) ?_ rfl⟩;simp(disch:=omega)only[go_sem,kU hlt,szA,take_replicate,Nat.min_self,zHa h12];rfl
      ·simp(disch:=omega)only[go_sem,c0,c1,qO,h1,h2,qM,qN,zH,zI,hf1,hf2];refine⟨hlt,qJ.cv (hv:=[]) [61504] (fun j=>if j=9100 then 61536 else j) ?_ rfl⟩;simp(disch:=omega)only[go_sem,kU hlt,szA,take_replicate,Nat.min_self,zHb h12];rfl
     ·have e:i=16:=oM;subst e;simp(disch:=omega)only[go_sem,c0,c1,qO,h1,h2,qM,qN,zH,zI,hf1,hf2];refine qJ.rd (fun j=>if j=9000 then 65600 else if j=9002 then 9100 else j) ?_ ?_ rfl;all_goals simp(disch:=omega)only[go_sem,qGe]
   ·simp(disch:=omega)only[go_sem,c0,c1,qO,h1,h2,qM,qN,zH,zI,hf1,hf2];exact⟨rfl,rfl⟩
 ·rw[qEn h3,if_pos oM,if_neg oM];simp(disch:=omega)only[go_sem,jR,h4,hf1,hf2];refine qB 2 (fun k=>match k with | 0=>[(0,.t (.int .i64 s)),(2,.ref 4096 0 0),(3,.ref 16384 0 0),(12,.t (.int .i64 0))] | 1=>[(0,.t (.int .i64 s)),(2,.ref 4096 0 0),(3,.ref 16384 0 0),(12,.t (.int .i64 1))] | _=>[(0,.t (.int .i64 s)),(2,.ref 4096 0 0),(3,.ref 16384 0 0),(12,.t (.int .i64 2))]) (fun k=>match k with | 0=>[(16384,.live 2 [.agg [.nil,.t (.int .i64 0)]] true true),(4096,.live 2 [.agg [.nil,.t (.int .i64 0)]] true true)] | 1=>[(16384,.live 2 [.agg [.sl 9000 0 1,.t (.int .i64 0)]] true true),(9000,.live 1 [.sl 9001 0 16] true false),(9001,.live 1 (((qCf 0:zB).map bsT).map V.t) true false),(4096,.live 2 [.agg [.nil,.t (.int .i64 0)]] true true)] | _=>[(16384,.live 2 [.agg [.sl 9000 0 2,.t (.int .i64 0)]] true true),(9000,.live 1 [.sl 9001 0 16,.sl 9002 0 0] true false),(9001,.live 1 (((qCf 0:zB).map bsT).map V.t) true false),(9002,.live 1 ((([]:zB).map bsT).map V.t) true false),(4096,.live 2 [.agg [.nil,.t (.int .i64 0)]] true true)]) ?_ (fun k hk=>?_)
  ·refine qJ.rd id ?_ ?_ rfl;all_goals simp(disch:=omega)only[go_sem,id]
  ·rcases (show k=0∨k=1∨k=2 by omega) with rfl | rfl | rfl
   ·simp(disch:=omega)only[go_sem,c0,c1,qO,h1,h2,qM,qN,zH,zI,hf1,hf2];refine qB 16 (fun i=>[(0,.t (.int .i64 s)),(2,.ref 4096 0 0),(3,.ref 16384 0 0),(12,.t (.int .i64 0)),(4,.t (.int .i64 0)),(5,.sl 9100 0 i),(6,.t (.int .i64 (i:Nat)))]) (fun i=>[(9100,.live 1 ((((qCf 0).take i).map bsT).map V.t) true false),(16384,.live 2 [.agg [.nil,.t (.int .i64 0)]] true true),(4096,.live 2 [.agg [.nil,.t (.int .i64 0)]] true true)]) ?_ (fun i hi=>?_)
    ·refine qJ.cv0 (hv:=[(9100,.live 1 [] true false)]) (ho:=[(16384,.live 2 [.agg [.nil,.t (.int .i64 0)]] true true),(4096,.live 2 [.agg [.nil,.t (.int .i64 0)]] true true)]) id ?_ ?_ rfl rfl;all_goals simp(disch:=omega)only[go_sem,mcn,id]
    ·by_cases hlt:i<16
     ·by_cases h12:i<12
      ·simp(disch:=omega)only[go_sem,c0,c1,qO,h1,h2,qM,qN,zH,zI,hf1,hf2];refine⟨hlt,qJ.cv (hv:=[]) [61504] (fun j=>if j=9100 then 61536 else j) ?_ rfl⟩;simp(disch:=omega)only[go_sem,kU hlt,szA,take_replicate,Nat.min_self,zHa h12];rfl
      ·simp(disch:=omega)only[go_sem,c0,c1,qO,h1,h2,qM,qN,zH,zI,hf1,hf2];refine⟨hlt,qJ.cv (hv:=[]) [61504] (fun j=>if j=9100 then 61536 else j) ?_ rfl⟩;simp(disch:=omega)only[go_sem,kU hlt,szA,take_replicate,Nat.min_self,zHb h12];rfl
     ·have e:i=16:=oM;subst e;simp(disch:=omega)only[go_sem,c0,c1,qO,h1,h2,qM,qN,zH,zI,hf1,hf2];refine qJ.rd (fun j=>if j=9000 then 65600 else if j=9001 then 9100 else j) ?_ ?_ rfl;all_goals simp(disch:=omega)only[go_sem,qGe]
   ·simp(disch:=omega)only[go_sem,c0,c1,qO,h1,h2,qM,qN,zH,zI,hf1,hf2];refine qG 1 ?_;simp(disch:=omega)only[go_sem,qD,c0,c1,qO,h1,h2,qM,qN,zH,zI,hf1,hf2];refine qJ.trans (fs':=[(0,.t (.int .i64 s)),(2,.ref 4096 0 0),(3,.ref 16384 0 0),(12,.t (.int .i64 2))]) (qJ.cv0 (hv:=[(9002,.live 1 [] true false)]) (ho:=[(16384,.live 2 [.agg [.sl 9000 0 2,.t (.int .i64 0)]] true true),(9000,.live 1 [.sl 9001 0 16,.sl 9002 0 0] true false),(9001,.live 1 (((qCf 0:zB).map bsT).map V.t) true false),(4096,.live 2 [.agg [.nil,.t (.int .i64 0)]] true true)]) (fun j=>if j=9000 then 65600 else j) ?_ ?_ rfl rfl) (qJ.rd id ?_ ?_ rfl);all_goals simp(disch:=omega)only[go_sem,mcn,id]
   ·simp(disch:=omega)only[go_sem,c0,c1,qO,h1,h2,qM,qN,zH,zI,hf1,hf2];exact⟨rfl,rfl⟩
 ·rw[qEn h3,if_pos oM,if_pos oM];simp(disch:=omega)only[go_sem,jR,h4,hf1,hf2];refine qB 2 (fun k=>match k with | 0=>[(0,.t (.int .i64 s)),(2,.ref 4096 0 0),(3,.ref 16384 0 0),(12,.t (.int .i64 0))] | 1=>[(0,.t (.int .i64 s)),(2,.ref 4096 0 0),(3,.ref 16384 0 0),(12,.t (.int .i64 1))] | _=>[(0,.t (.int .i64 s)),(2,.ref 4096 0 0),(3,.ref 16384 0 0),(12,.t (.int .i64 2))]) (fun k=>match k with | 0=>[(16384,.live 2 [.agg [.nil,.t (.int .i64 0)]] true true),(4096,.live 2 [.agg [.nil,.t (.int .i64 0)]] true true)] | 1=>[(16384,.live 2 [.agg [.sl 9000 0 1,.t (.int .i64 0)]] true true),(9000,.live 1 [.sl 9001 0 16] true false),(9001,.live 1 (((qCf 0:zB).map bsT).map V.t) true false),(4096,.live 2 [.agg [.nil,.t (.int .i64 0)]] true true)] | _=>[(16384,.live 2 [.agg [.sl 9000 0 2,.t (.int .i64 0)]] true true),(9000,.live 1 [.sl 9001 0 16,.sl 9002 0 16] true false),(9001,.live 1 (((qCf 0:zB).map bsT).map V.t) true false),(9002,.live 1 (((qCf 1:zB).map bsT).map V.t) true false),(4096,.live 2 [.agg [.nil,.t (.int .i64 0)]] true true)]) ?_ (fun k hk=>?_)
  ·refine qJ.rd id ?_ ?_ rfl;all_goals simp(disch:=omega)only[go_sem,id]
  ·rcases (show k=0∨k=1∨k=2 by omega) with rfl | rfl | rfl
   ·simp(disch:=omega)only[go_sem,c0,c1,qO,h1,h2,qM,qN,zH,zI,hf1,hf2];refine qB 16 (fun i=>[(0,.t (.int .i64 s)),(2,.ref 4096 0 0),(3,.ref 16384 0 0),(12,.t (.int .i64 0)),(4,.t (.int .i64 0)),(5,.sl 9100 0 i),(6,.t (.int .i64 (i:Nat)))]) (fun i=>[(9100,.live 1 ((((qCf 0).take i).map bsT).map V.t) true false),(16384,.live 2 [.agg [.nil,.t (.int .i64 0)]] true true),(4096,.live 2 [.agg [.nil,.t (.int .i64 0)]] true true)]) ?_ (fun i hi=>?_)
    ·refine qJ.cv0 (hv:=[(9100,.live 1 [] true false)]) (ho:=[(16384,.live 2 [.agg [.nil,.t (.int .i64 0)]] true true),(4096,.live 2 [.agg [.nil,.t (.int .i64 0)]] true true)]) id ?_ ?_ rfl rfl;all_goals simp(disch:=omega)only[go_sem,mcn,id]
    ·by_cases hlt:i<16
     ·by_cases h12:i<12
      ·simp(disch:=omega)only[go_sem,c0,c1,qO,h1,h2,qM,qN,zH,zI,hf1,hf2];refine⟨hlt,qJ.cv (hv:=[]) [61504] (fun j=>if j=9100 then 61536 else j) ?_ rfl⟩;simp(disch:=omega)only[go_sem,kU hlt,szA,take_replicate,Nat.min_self,zHa h12];rfl
      ·simp(disch:=omega)only[go_sem,c0,c1,qO,h1,h2,qM,qN,zH,zI,hf1,hf2];refine⟨hlt,qJ.cv (hv:=[]) [61504] (fun j=>if j=9100 then 61536 else j) ?_ rfl⟩;simp(disch:=omega)only[go_sem,kU hlt,szA,take_replicate,Nat.min_self,zHb h12];rfl
     ·have e:i=16:=oM;subst e;simp(disch:=omega)only[go_sem,c0,c1,qO,h1,h2,qM,qN,zH,zI,hf1,hf2];refine qJ.rd (fun j=>if j=9000 then 65600 else if j=9001 then 9100 else j) ?_ ?_ rfl;all_goals simp(disch:=omega)only[go_sem,qGe]
   ·simp(disch:=omega)only[go_sem,c0,c1,qO,h1,h2,qM,qN,zH,zI,hf1,hf2];refine qB 16 (fun i=>[(0,.t (.int .i64 s)),(2,.ref 4096 0 0),(3,.ref 16384 0 0),(12,.t (.int .i64 1)),(4,.t (.int .i64 1)),(5,.sl 9100 0 i),(6,.t (.int .i64 (i:Nat)))]) (fun i=>[(9100,.live 1 ((((qCf 1).take i).map bsT).map V.t) true false),(16384,.live 2 [.agg [.sl 9000 0 1,.t (.int .i64 0)]] true true),(9000,.live 1 [.sl 9001 0 16] true false),(9001,.live 1 (((qCf 0:zB).map bsT).map V.t) true false),(4096,.live 2 [.agg [.nil,.t (.int .i64 0)]] true true)]) ?_ (fun i hi=>?_)
    ·refine qJ.cv0 (hv:=[(9100,.live 1 [] true false)]) (ho:=[(16384,.live 2 [.agg [.sl 9000 0 1,.t (.int .i64 0)]] true true),(9000,.live 1 [.sl 9001 0 16] true false),(9001,.live 1 (((qCf 0:zB).map bsT).map V.t) true false),(4096,.live 2 [.agg [.nil,.t (.int .i64 0)]] true true)]) id ?_ ?_ rfl rfl;all_goals simp(disch:=omega)only[go_sem,mcn,id]
    ·by_cases hlt:i<16
     ·by_cases h12:i<12
      ·simp(disch:=omega)only[go_sem,c0,c1,qO,h1,h2,qM,qN,zH,zI,hf1,hf2];refine⟨hlt,qJ.cv (hv:=[]) [61504] (fun j=>if j=9100 then 61536 else j) ?_ rfl⟩;simp(disch:=omega)only[go_sem,kU hlt,szA,take_replicate,Nat.min_self,zHa h12];rfl
      ·simp(disch:=omega)only[go_sem,c0,c1,qO,h1,h2,qM,qN,zH,zI,hf1,hf2];refine⟨hlt,qJ.cv (hv:=[]) [61504] (fun j=>if j=9100 then 61536 else j) ?_ rfl⟩;simp(disch:=omega)only[go_sem,kU hlt,szA,take_replicate,Nat.min_self,zHb h12];rfl
     ·have e:i=16:=oM;subst e;simp(disch:=omega)only[go_sem,c0,c1,qO,h1,h2,qM,qN,zH,zI,hf1,hf2];refine qJ.rd (fun j=>if j=9000 then 65600 else if j=9002 then 9100 else j) ?_ ?_ rfl;all_goals simp(disch:=omega)only[go_sem,qGe]
   ·simp(disch:=omega)only[go_sem,c0,c1,qO,h1,h2,qM,qN,zH,zI,hf1,hf2];exact⟨rfl,rfl⟩
theorem zQ5 (h1:LkC tab 46 qI4)(s:Int)(h3 : ¬ s%4=0):kM.1.wp tab gl (qE 0 [.t (.int .i64 s)]) (qE 0 []) (kG [] [(2,some (2,true))] 0 (fun r o=>r=twR (yV s) 0∧o=twO (yV s))):=by
 have h4:(s%4==0)=false:=by simpa using h3
 have hf1:s.fdiv 1=s:=Int.fdiv_one s;have hf2:s.fdiv 2=s/2:=Int.fdiv_eq_ediv_of_nonneg s oM;have hc0:s%2=0∨s%2=1:=oM;have hc1:s/2%2=0∨s/2%2=1:=oM;rcases hc0 with c0 | c0<;>rcases hc1 with c1 | c1
 ·exact absurd oM h3
 ·rw[qEn h3,if_neg oM,if_pos oM];simp(disch:=omega)only[go_sem,kM,h4,hf1,hf2];refine qB 2 (fun k=>match k with | 0=>[(0,.t (.int .i64 s)),(2,.ref 4096 0 0),(3,.ref 8208 0 0),(4,.t (.int .i64 0))] | 1=>[(0,.t (.int .i64 s)),(2,.ref 4096 0 0),(3,.ref 8208 0 0),(4,.t (.int .i64 1))] | _=>[(0,.t (.int .i64 s)),(2,.ref 4096 0 0),(3,.ref 8208 0 0),(4,.t (.int .i64 2))]) (fun k=>match k with | 0=>[(8208,.live 2 [.agg [.nil,.t (.int .i64 0)]] true true),(4096,.live 2 [.agg [.nil,.t (.int .i64 0)]] true true)] | 1=>[(8208,.live 2 [.agg [.sl 9000 0 1,.t (.int .i64 0)]] true true),(9000,.live 1 [.sl 9001 0 0] true false),(9001,.live 1 ((([]:zB).map bsT).map V.t) true false),(4096,.live 2 [.agg [.nil,.t (.int .i64 0)]] true true)] | _=>[(8208,.live 2 [.agg [.sl 9000 0 2,.t (.int .i64 0)]] true true),(9000,.live 1 [.sl 9001 0 0,.sl 9002 0 16] true false),(9001,.live 1 ((([]:zB).map bsT).map V.t) true false),(9002,.live 1 (((qCf 1:zB).map bsT).map V.t) true false),(4096,.live 2 [.agg [.nil,.t (.int .i64 0)]] true true)]) ?_ (fun k hk=>?_)
  ·refine qJ.rd id ?_ ?_ rfl;all_goals simp(disch:=omega)only[go_sem,id]
  ·rcases (show k=0∨k=1∨k=2 by omega) with rfl | rfl | rfl
   ·simp(disch:=omega)only[go_sem,c0,c1,qO,h1,vH,vI,hf1,hf2];refine qG 1 ?_;simp(disch:=omega)only[go_sem,qD,c0,c1,qO,h1,vH,vI,hf1,hf2];refine qJ.trans (fs':=[(0,.t (.int .i64 s)),(2,.ref 4096 0 0),(3,.ref 8208 0 0),(4,.t (.int .i64 1))]) (qJ.cv0 (hv:=[(9001,.live 1 [] true false)]) (ho:=[(8208,.live 2 [.agg [.sl 9000 0 1,.t (.int .i64 0)]] true true),(9000,.live 1 [.sl 9001 0 0] true false),(4096,.live 2 [.agg [.nil,.t (.int .i64 0)]] true true)]) (fun j=>if j=9000 then 53312 else j) ?_ ?_ rfl rfl) (qJ.rd id ?_ ?_ rfl);all_goals simp(disch:=omega)only[go_sem,mcn,id]
   ·simp(disch:=omega)only[go_sem,c0,c1,qO,h1,vH,vI,hf1,hf2];refine qB 16 (fun i=>[(0,.t (.int .i64 s)),(2,.ref 4096 0 0),(3,.ref 8208 0 0),(4,.t (.int .i64 1)),(5,.sl 9100 0 i),(6,.t (.int .i64 (i:Nat)))]) (fun i=>[(9100,.live 1 ((((qCf 1).take i).map bsT).map V.t) true false),(8208,.live 2 [.agg [.sl 9000 0 1,.t (.int .i64 0)]] true true),(9000,.live 1 [.sl 9001 0 0] true false),(9001,.live 1 ((([]:zB).map bsT).map V.t) true false),(4096,.live 2 [.agg [.nil,.t (.int .i64 0)]] true true)]) ?_ (fun i hi=>?_)
    ·refine qJ.cv0 (hv:=[(9100,.live 1 [] true false)]) (ho:=[(8208,.live 2 [.agg [.sl 9000 0 1,.t (.int .i64 0)]] true true),(9000,.live 1 [.sl 9001 0 0] true false),(9001,.live 1 ((([]:zB).map bsT).map V.t) true false),(4096,.live 2 [.agg [.nil,.t (.int .i64 0)]] true true)]) id ?_ ?_ rfl rfl;all_goals simp(disch:=omega)only[go_sem,mcn,id]
    ·by_cases hlt:i<16
     ·simp(disch:=omega)only[go_sem,c0,c1,qO,h1,vH,vI,hf1,hf2];refine⟨hlt,qJ.cv (hv:=[]) [49200] (fun j=>if j=9100 then 49232 else j) ?_ rfl⟩;simp(disch:=omega)only[go_sem,kU hlt,szA,take_replicate,Nat.min_self];rfl
     ·have e:i=16:=oM;subst e;simp(disch:=omega)only[go_sem,c0,c1,qO,h1,vH,vI,hf1,hf2];refine qJ.rd (fun j=>if j=9000 then 53312 else if j=9002 then 9100 else j) ?_ ?_ rfl;all_goals simp(disch:=omega)only[go_sem,qGe]
   ·simp(disch:=omega)only[go_sem,c0,c1,qO,h1,vH,vI,hf1,hf2];exact⟨rfl,rfl⟩
 ·rw[qEn h3,if_pos oM,if_neg oM];simp(disch:=omega)only[go_sem,kM,h4,hf1,hf2];refine qB 2 (fun k=>match k with | 0=>[(0,.t (.int .i64 s)),(2,.ref 4096 0 0),(3,.ref 8208 0 0),(4,.t (.int .i64 0))] | 1=>[(0,.t (.int .i64 s)),(2,.ref 4096 0 0),(3,.ref 8208 0 0),(4,.t (.int .i64 1))] | _=>[(0,.t (.int .i64 s)),(2,.ref 4096 0 0),(3,.ref 8208 0 0),(4,.t (.int .i64 2))]) (fun k=>match k with | 0=>[(8208,.live 2 [.agg [.nil,.t (.int .i64 0)]] true true),(4096,.live 2 [.agg [.nil,.t (.int .i64 0)]] true true)] | 1=>[(8208,.live 2 [.agg [.sl 9000 0 1,.t (.int .i64 0)]] true true),(9000,.live 1 [.sl 9001 0 16] true false),(9001,.live 1 (((qCf 0:zB).map bsT).map V.t) true false),(4096,.live 2 [.agg [.nil,.t (.int .i64 0)]] true true)] | _=>[(8208,.live 2 [.agg [.sl 9000 0 2,.t (.int .i64 0)]] true true),(9000,.live 1 [.sl 9001 0 16,.sl 9002 0 0] true false),(9001,.live 1 (((qCf 0:zB).map bsT).map V.t) true false),(9002,.live 1 ((([]:zB).map bsT).map V.t) true false),(4096,.live 2 [.agg [.nil,.t (.int .i64 0)]] true true)]) ?_ (fun k hk=>?_)
  ·refine qJ.rd id ?_ ?_ rfl;all_goals simp(disch:=omega)only[go_sem,id]
  ·rcases (show k=0∨k=1∨k=2 by omega) with rfl | rfl | rfl
   ·simp(disch:=omega)only[go_sem,c0,c1,qO,h1,vH,vI,hf1,hf2];refine qB 16 (fun i=>[(0,.t (.int .i64 s)),(2,.ref 4096 0 0),(3,.ref 8208 0 0),(4,.t (.int .i64 0)),(5,.sl 9100 0 i),(6,.t (.int .i64 (i:Nat)))]) (fun i=>[(9100,.live 1 ((((qCf 0).take i).map bsT).map V.t) true false),(8208,.live 2 [.agg [.nil,.t (.int .i64 0)]] true true),(4096,.live 2 [.agg [.nil,.t (.int .i64 0)]] true true)]) ?_ (fun i hi=>?_)
    ·refine qJ.cv0 (hv:=[(9100,.live 1 [] true false)]) (ho:=[(8208,.live 2 [.agg [.nil,.t (.int .i64 0)]] true true),(4096,.live 2 [.agg [.nil,.t (.int .i64 0)]] true true)]) id ?_ ?_ rfl rfl;all_goals simp(disch:=omega)only[go_sem,mcn,id]
    ·by_cases hlt:i<16
     ·simp(disch:=omega)only[go_sem,c0,c1,qO,h1,vH,vI,hf1,hf2];refine⟨hlt,qJ.cv (hv:=[]) [49200] (fun j=>if j=9100 then 49232 else j) ?_ rfl⟩;simp(disch:=omega)only[go_sem,kU hlt,szA,take_replicate,Nat.min_self];rfl
     ·have e:i=16:=oM;subst e;simp(disch:=omega)only[go_sem,c0,c1,qO,h1,vH,vI,hf1,hf2];refine qJ.rd (fun j=>if j=9000 then 53312 else if j=9001 then 9100 else j) ?_ ?_ rfl;all_goals simp(disch:=omega)only[go_sem,qGe]
   ·simp(disch:=omega)only[go_sem,c0,c1,qO,h1,vH,vI,hf1,hf2];refine qG 1 ?_;simp(disch:=omega)only[go_sem,qD,c0,c1,qO,h1,vH,vI,hf1,hf2];refine qJ.trans (fs':=[(0,.t (.int .i64 s)),(2,.ref 4096 0 0),(3,.ref 8208 0 0),(4,.t (.int .i64 2))]) (qJ.cv0 (hv:=[(9002,.live 1 [] true false)]) (ho:=[(8208,.live 2 [.agg [.sl 9000 0 2,.t (.int .i64 0)]] true true),(9000,.live 1 [.sl 9001 0 16,.sl 9002 0 0] true false),(9001,.live 1 (((qCf 0:zB).map bsT).map V.t) true false),(4096,.live 2 [.agg [.nil,.t (.int .i64 0)]] true true)]) (fun j=>if j=9000 then 53312 else j) ?_ ?_ rfl rfl) (qJ.rd id ?_ ?_ rfl);all_goals simp(disch:=omega)only[go_sem,mcn,id]
   ·simp(disch:=omega)only[go_sem,c0,c1,qO,h1,vH,vI,hf1,hf2];exact⟨rfl,rfl⟩
 ·rw[qEn h3,if_pos oM,if_pos oM];simp(disch:=omega)only[go_sem,kM,h4,hf1,hf2];refine qB 2 (fun k=>match k with | 0=>[(0,.t (.int .i64 s)),(2,.ref 4096 0 0),(3,.ref 8208 0 0),(4,.t (.int .i64 0))] | 1=>[(0,.t (.int .i64 s)),(2,.ref 4096 0 0),(3,.ref 8208 0 0),(4,.t (.int .i64 1))] | _=>[(0,.t (.int .i64 s)),(2,.ref 4096 0 0),(3,.ref 8208 0 0),(4,.t (.int .i64 2))]) (fun k=>match k with | 0=>[(8208,.live 2 [.agg [.nil,.t (.int .i64 0)]] true true),(4096,.live 2 [.agg [.nil,.t (.int .i64 0)]] true true)] | 1=>[(8208,.live 2 [.agg [.sl 9000 0 1,.t (.int .i64 0)]] true true),(9000,.live 1 [.sl 9001 0 16] true false),(9001,.live 1 (((qCf 0:zB).map bsT).map V.t) true false),(4096,.live 2 [.agg [.nil,.t (.int .i64 0)]] true true)] | _=>[(8208,.live 2 [.agg [.sl 9000 0 2,.t (.int .i64 0)]] true true),(9000,.live 1 [.sl 9001 0 16,.sl 9002 0 16] true false),(9001,.live 1 (((qCf 0:zB).map bsT).map V.t) true false),(9002,.live 1 (((qCf 1:zB).map bsT).map V.t) true false),(4096,.live 2 [.agg [.nil,.t (.int .i64 0)]] true true)]) ?_ (fun k hk=>?_)
  ·refine qJ.rd id ?_ ?_ rfl;all_goals simp(disch:=omega)only[go_sem,id]
  ·rcases (show k=0∨k=1∨k=2 by omega) with rfl | rfl | rfl
   ·simp(disch:=omega)only[go_sem,c0,c1,qO,h1,vH,vI,hf1,hf2];refine qB 16 (fun i=>[(0,.t (.int .i64 s)),(2,.ref 4096 0 0),(3,.ref 8208 0 0),(4,.t (.int .i64 0)),(5,.sl 9100 0 i),(6,.t (.int .i64 (i:Nat)))]) (fun i=>[(9100,.live 1 ((((qCf 0).take i).map bsT).map V.t) true false),(8208,.live 2 [.agg [.nil,.t (.int .i64 0)]] true true),(4096,.live 2 [.agg [.nil,.t (.int .i64 0)]] true true)]) ?_ (fun i hi=>?_)
    ·refine qJ.cv0 (hv:=[(9100,.live 1 [] true false)]) (ho:=[(8208,.live 2 [.agg [.nil,.t (.int .i64 0)]] true true),(4096,.live 2 [.agg [.nil,.t (.int .i64 0)]] true true)]) id ?_ ?_ rfl rfl;all_goals simp(disch:=omega)only[go_sem,mcn,id]
    ·by_cases hlt:i<16
     ·simp(disch:=omega)only[go_sem,c0,c1,qO,h1,vH,vI,hf1,hf2];refine⟨hlt,qJ.cv (hv:=[]) [49200] (fun j=>if j=9100 then 49232 else j) ?_ rfl⟩;simp(disch:=omega)only[go_sem,kU hlt,szA,take_replicate,Nat.min_self];rfl
     ·have e:i=16:=oM;subst e;simp(disch:=omega)only[go_sem,c0,c1,qO,h1,vH,vI,hf1,hf2];refine qJ.rd (fun j=>if j=9000 then 53312 else if j=9001 then 9100 else j) ?_ ?_ rfl;all_goals simp(disch:=omega)only[go_sem,qGe]
   ·simp(disch:=omega)only[go_sem,c0,c1,qO,h1,vH,vI,hf1,hf2];refine qB 16 (fun i=>[(0,.t (.int .i64 s)),(2,.ref 4096 0 0),(3,.ref 8208 0 0),(4,.t (.int .i64 1)),(5,.sl 9100 0 i),(6,.t (.int .i64 (i:Nat)))]) (fun i=>[(9100,.live 1 ((((qCf 1).take i).map bsT).map V.t) true false),(8208,.live 2 [.agg [.sl 9000 0 1,.t (.int .i64 0)]] true true),(9000,.live 1 [.sl 9001 0 16] true false),(9001,.live 1 (((qCf 0:zB).map bsT).map V.t) true false),(4096,.live 2 [.agg [.nil,.t (.int .i64 0)]] true true)]) ?_ (fun i hi=>?_)
    ·refine qJ.cv0 (hv:=[(9100,.live 1 [] true false)]) (ho:=[(8208,.live 2 [.agg [.sl 9000 0 1,.t (.int .i64 0)]] true true),(9000,.live 1 [.sl 9001 0 16] true false),(9001,.live 1 (((qCf 0:zB).map bsT).map V.t) true false),(4096,.live 2 [.agg [.nil,.t (.int .i64 0)]] true true)]) id ?_ ?_ rfl rfl;all_goals simp(disch:=omega)only[go_sem,mcn,id]
    ·by_cases hlt:i<16
     ·simp(disch:=omega)only[go_sem,c0,c1,qO,h1,vH,vI,hf1,hf2];refine⟨hlt,qJ.cv (hv:=[]) [49200] (fun j=>if j=9100 then 49232 else j) ?_ rfl⟩;simp(disch:=omega)only[go_sem,kU hlt,szA,take_replicate,Nat.min_self];rfl
     ·have e:i=16:=oM;subst e;simp(disch:=omega)only[go_sem,c0,c1,qO,h1,vH,vI,hf1,hf2];refine qJ.rd (fun j=>if j=9000 then 53312 else if j=9002 then 9100 else j) ?_ ?_ rfl;all_goals simp(disch:=omega)only[go_sem,qGe]
   ·simp(disch:=omega)only[go_sem,c0,c1,qO,h1,vH,vI,hf1,hf2];exact⟨rfl,rfl⟩
def kB:Ct where
 α:=Int
 aS x:=[.t (.int .i64 x)]
 ins _:=[]
 pre _:=True
 r x:= .t (.bool (decide ((0:Int)≤x∧x<(16:Int))))
 outs _:=[]
 inj:=by
  intro a b h _;simp at h;subst h;exact⟨rfl,rfl⟩
theorem qJr {i:Int}(h:0≤i∧i<16):kB.fs [.t (.int .i64 i)] []=some (.t (.bool true),[]):=by
 refine (kB.eq i trivial).trans ?_;simp[kB,h]
theorem qX5 {i:Int}(h : ¬ (0≤i∧i<16)):kB.fs [.t (.int .i64 i)] []=some (.t (.bool false),[]):=by
 refine (kB.eq i trivial).trans ?_;simp only[kB,decide_eq_false h]
def qKc:Ct where
 α:=List zB×Int×Nat
 aS x:=[.t (zY x.1 x.2.1),.t (.int .i64 x.2.2)]
 ins _:=[]
 pre x:=RK x.1∧x.2.2<2
 r x:= .t (.bool (onB x.1 x.2.2))
 outs _:=[]
 inj:=by
  rintro⟨a,u,i⟩ ⟨b,v,j⟩ h _;simp only[List.cons.injEq,V.t.injEq,T.int.injEq,true_and,and_true,Int.natCast_inj] at h;obtain⟨h1,rfl⟩:=h;obtain⟨rfl,rfl⟩:=qA0 h1;exact⟨rfl,rfl⟩
theorem zUd {bk:List zB}{u:Int}{a:Nat}(hk:RK bk)(h:a<2):qKc.fs [.t (.agg [.sl (bk.map vS),.int .i64 u]),.t (.int .i64 a)] []=some (.t (.bool (onB bk a)),[]):=qKc.eq (bk,u,a) ⟨hk,h⟩
theorem wY {b0 b1:zB}{u:Int}(hk:RK [b0,b1]):qKc.fs [.t (.agg [.sl [.sl (b0.map bsT),.sl (b1.map bsT)],.int .i64 u]),.t (.int .i64 0)] []=some (.t (.bool (decide (b0.length=16))),[]):=qKc.eq ([b0,b1],u,0) ⟨hk,by show 0<2;omega⟩
theorem wZ {b0 b1:zB}{u:Int}(hk:RK [b0,b1]):qKc.fs [.t (.agg [.sl [.sl (b0.map bsT),.sl (b1.map bsT)],.int .i64 u]),.t (.int .i64 1)] []=some (.t (.bool (decide (b1.length=16))),[]):=qKc.eq ([b0,b1],u,1) ⟨hk,by show 1<2;omega⟩
theorem jEb {u:Int}{a:Nat}(h:a<2):qKc.fs [.t (.agg [.sl [],.int .i64 u]),.t (.int .i64 a)] []=some (.t (.bool false),[]):=by
 refine (qKc.eq ([],u,a) ⟨.nil,h⟩).trans ?_;simp[qKc,onB]
def vU:Ct where
 α:=List zB×Int×Nat
 aS x:=[.t (zY x.1 x.2.1),.t (.int .i64 x.2.2)]
 ins _:=[]
 pre x:=RK x.1∧x.2.2<1000000000
 r x:= .t (.bool (zWz x.1 x.2.2))
 outs _:=[]
 inj:=by
  rintro⟨a,u,i⟩ ⟨b,v,j⟩ h _;simp only[List.cons.injEq,V.t.injEq,T.int.injEq,true_and,and_true,Int.natCast_inj] at h;obtain⟨h1,rfl⟩:=h;obtain⟨rfl,rfl⟩:=qA0 h1;exact⟨rfl,rfl⟩
theorem RK.on {bk:List zB}(h:RK bk)(a:Nat):zWz bk a=onB bk a:=by
 cases h with
 | nil=>simp[zWz,onB]
 | two b0 b1 h0 h1=>
  have key : ∀ b:zB,qWn b→decide (0<List.length b)=decide (List.length b=16):=by
   intro b hb;rcases hb with h | h<;>simp[h]
  match a with
  | 0=>simpa [zWz,onB] using key b0 h0
  | 1=>simpa [zWz,onB] using key b1 h1
  | a+2=>simp[zWz,onB]
theorem qXc {bk:List zB}{u:Int}{a:Nat}(hk:RK bk)(h:a<1000000000):vU.fs [.t (.agg [.sl (bk.map vS),.int .i64 u]),.t (.int .i64 a)] []=some (.t (.bool (onB bk a)),[]):=by
 refine (vU.eq (bk,u,a) ⟨hk,h⟩).trans ?_;simp only[vU,hk.on]
theorem jY {b0 b1:zB}{u:Int}(hk:RK [b0,b1]):vU.fs [.t (.agg [.sl [.sl (b0.map bsT),.sl (b1.map bsT)],.int .i64 u]),.t (.int .i64 0)] []=some (.t (.bool (decide (b0.length=16))),[]):=by
 refine (vU.eq ([b0,b1],u,0) ⟨hk,by show 0<1000000000;omega⟩).trans ?_;simp only[vU,hk.on];rfl
theorem jZ {b0 b1:zB}{u:Int}(hk:RK [b0,b1]):vU.fs [.t (.agg [.sl [.sl (b0.map bsT),.sl (b1.map bsT)],.int .i64 u]),.t (.int .i64 1)] []=some (.t (.bool (decide (b1.length=16))),[]):=by
 refine (vU.eq ([b0,b1],u,1) ⟨hk,by show 1<1000000000;omega⟩).trans ?_;simp only[vU,hk.on];rfl
def zJa (bk:List zB)(a i:Nat):List UInt8:=(bk.getD a []).getD i []
def zXk (bank i:Int):Prop:=bank<0∨2≤bank∨i<0∨16≤i
instance (bank i:Int):Decidable (zXk bank i):=by unfold zXk;infer_instance
def jJq (bk:List zB)(bank i:Int):V:=if zXk bank i then .tup [.nil,.t (.int .i64 1)] else if onB bk bank.toNat then .tup [.sl 0 0 (zJa bk bank.toNat i.toNat).length,.t (.int .i64 0)] else .tup [.nil,.t (.int .i64 27)]
def jJp (bk:List zB)(bank i:Int):List Ob:=if zXk bank i then [] else if onB bk bank.toNat then [.live 1 (((zJa bk bank.toNat i.toNat).map qA).map V.t) true false] else []
theorem RM.val {bk:List zB}(h:RM bk)(a i:Nat):(zJa bk a i).length<1000000000:=by
 by_cases ha:a<bk.length
 ·have e:bk.getD a []=bk[a]:=by simp[List.getD,ha]
  unfold zJa;rw[e];exact qR3 (h.2 _ (getElem_mem ha)) i
 ·have e:bk.getD a []=[]:=by simp[List.getD,getElem?_eq_none (Nat.le_of_not_lt ha)]
  unfold zJa;rw[e];simp
theorem RK.len {bk:List zB}(h:RK bk){a:Nat}(ho:onB bk a=true):a<bk.length:=by
 simp only[onB,decide_eq_true_eq] at ho;rcases Nat.lt_or_ge a bk.length with h1 | h1
 ·exact h1
 ·rw[List.getD,getElem?_eq_none h1] at ho;simp at ho
theorem qUr (h1:LkC tab 265 kB)(h2:LkC tab 266 qKc)(bk:List zB)(u bank i:Int)(hk:RM bk) :
  yG.1.wp tab gl (qE 0 [.t (zY bk u),.t (.int .i64 bank),.t (.int .i64 i)]) (qE 0 []) (kG [] [(6,none),(7,none)] 0 (fun r o=>r=jJq bk bank i∧o=jJp bk bank i)):=by
 by_cases hb:zXk bank i
 ·rw[jJq,jJp,if_pos hb,if_pos hb];by_cases b1:bank<0
  ·simp(disch:=omega)only[go_sem,yG,b1]
  ·by_cases b2:2≤bank
   ·simp(disch:=omega)only[go_sem,yG,b1]
   ·have hi : ¬ (0≤i∧i<16):=by unfold zXk at hb;omega
    simp(disch:=omega)only[go_sem,yG,b1,h1,qX5]
 ·rw[jJq,jJp,if_neg hb,if_neg hb];unfold zXk at hb;obtain⟨a,rfl⟩:=Int.eq_ofNat_of_zero_le (show 0≤bank by omega);obtain⟨k,rfl⟩:=Int.eq_ofNat_of_zero_le (show 0≤i by omega);have hon:=zUd (u:=u) (a:=a) hk.1 oM;by_cases ho:onB bk a=true
  ·have hl:=hk.1.len ho;have hv:=hk.val a k;have hl2:(bk.getD a []).length=16:=by simpa [onB] using ho
   rw[ho] at hon;unfold zJa at hv;simp(disch:=omega)only[go_sem,yG,h1,h2,qJr,hon,ho,zJa]
  ·have ho':onB bk a=false:=by simpa using ho
   rw[ho'] at hon;simp(disch:=omega)only[go_sem,yG,h1,h2,qJr,hon,ho']
def qB2:Ct where
 α:=Int×Bool
 aS x:=[.t (.int .i64 x.1),.t (.bool x.2)]
 ins _:=[]
 pre _:=True
 r x:= .t (.int .i64 (yR x.1 x.2))
 outs _:=[]
 inj:=by
  rintro⟨a,b⟩ ⟨c,d⟩ h _;simp at h;obtain⟨rfl,rfl⟩:=h;exact⟨rfl,rfl⟩
theorem qNa {i:Int}{rs:Bool}:qB2.fs [.t (.int .i64 i),.t (.bool rs)] []=some (.t (.int .i64 (yR i rs)),[]):=qB2.eq (i,rs) trivial
def qFq:Ct where
 α:=Int×Bool
 aS x:=[.t (.int .i64 x.1),.t (.bool x.2)]
 ins _:=[]
 pre _:=True
 r x:= .t (.int .i64 (if yR x.1 x.2=5 then -1 else yR x.1 x.2))
 outs _:=[]
 inj:=by
  rintro⟨a,b⟩ ⟨c,d⟩ h _;simp at h;obtain⟨rfl,rfl⟩:=h;exact⟨rfl,rfl⟩
theorem qYk {i:Int}{rs:Bool}:qFq.fs [.t (.int .i64 i),.t (.bool rs)] []=some (.t (.int .i64 (if yR i rs=5 then -1 else yR i rs)),[]):=qFq.eq (i,rs) trivial
def zVb (loc i:Int):Int:=if loc<0∨4<loc∨i<0∨16≤i then 1 else if loc<yR i true then 13 else 0
def qYl (a:Nat)(b:zB)(i:Nat):zB:=if List.length b=16 then b.set i (List.replicate (szA a) 0) else b
def zKs (bk:List zB)(i:Nat):List zB:=match bk with
 | [b0,b1]=>[qYl 0 b0 i,qYl 1 b1 i]
 | bk=>bk
theorem jV {a:Nat}{b:zB}{i:Nat}:List.length (qYl a b i)=List.length b:=by
 unfold qYl;split<;>simp
def qBc (l0 l1:Nat)(loc i:Int)(nd k0 k1:Nat):Int:=
 if loc<0∨4<loc∨i<0∨16≤i∨nd≠2 then 1 else if loc<yR i false then 13
 else if (l0≠16∧0<k0)∨(l1≠16∧0<k1) then 27 else if (l0=16∧k0≠20)∨(l1=16∧k1≠32) then 24 else 0
def vX (a:Nat)(b:zB)(i:Nat)(d:List UInt8):zB:=if List.length b=16 then b.set i (zW5 a (b.getD i []++d)) else b
theorem qK {a:Nat}{b:zB}{i:Nat}{d:List UInt8}:List.length (vX a b i d)=List.length b:=by
 unfold vX;split<;>simp
def qKd (bk:List zB)(i:Nat)(ds:List (List UInt8)):List zB:=match bk with
 | [b0,b1]=>[vX 0 b0 i (ds.getD 0 []),vX 1 b1 i (ds.getD 1 [])]
 | bk=>bk
def qBd (bk:List zB)(loc i:Int)(ds:List (List UInt8)):Int:=qBc (bk.getD 0 []).length (bk.getD 1 []).length loc i ds.length (ds.getD 0 []).length (ds.getD 1 []).length
def qHy (bk:List zB)(u loc i:Int)(ds:List (List UInt8)):V:=
 if qBc (bk.getD 0 []).length (bk.getD 1 []).length loc i ds.length (ds.getD 0 []).length (ds.getD 1 []).length=0 then .tup [.t (zY (qKd bk i.toNat ds) (u+1)),.t (.int .i64 0)]
 else .tup [.t (zY [] 0),.t (.int .i64 (qBc (bk.getD 0 []).length (bk.getD 1 []).length loc i ds.length (ds.getD 0 []).length (ds.getD 1 []).length))]
theorem zEb {x:List UInt8}:zW5 0 x=qVh x:=rfl
theorem zEc {x:List UInt8}:zW5 1 x=zT x:=rfl
theorem vC {x:List UInt8}:List.take 20 (qVh x)=qVh x:=take_of_length_le (by rw[zP];exact Nat.le_refl _)
theorem jH {x:List UInt8}:List.take 32 (zT x)=zT x:=take_of_length_le (by rw[qH];exact Nat.le_refl _)
theorem qQ7 (h1:LkC tab 265 kB)(h2:LkC tab 267 qB2)(h3:LkC tab 266 qKc)(h4:LkC tab 198 xB)(h5:LkC tab 264 jP)(h6:LkC tab 153 qBa)
  (b0 b1:zB) (u loc:Int) (n:Nat) (d0 d1:List UInt8) (hu:0≤u∧u<1000000000) (hk:RM [b0,b1]) (hv0:(b0.getD n []).length≤64) (hv1:(b1.getD n []).length≤64) (hd:d0.length<9223372036854775808∧d1.length<9223372036854775808) (e1 : ¬(loc<0∨4<loc∨16≤n)) (e2 : ¬ loc<yR n false) :
  zD.1.wp tab gl (qE 0 [.t (zY [b0,b1] u),.t (.int .i64 loc),.t (.int .i64 n),.t (.sl [bsT d0,bsT d1])]) (qE 0 []) (qV [(8,some (2,true)),(9,none)] 0 (fun r o=>r=qHy [b0,b1] u loc n [d0,d1]∧o=[])):=by
 have gg:qWn b0∧qWn b1:=by
  obtain⟨hrk,_⟩:=hk;cases hrk with
  | two _ _ h0 h1=>exact⟨h0,h1⟩
 obtain⟨g0,g1⟩:=gg;simp(disch:=omega)only[go_sem,zD,h1,qJr,h2,qNa,mcn];refine wI (fs':=[(2,.t (.int .i64 (n:Nat))),(3,.t (.sl [bsT d0,bsT d1])),(4,.ref 4096 0 0),(8,.ref 4112 0 0),(38,.t (.sl [bsT d0,bsT d1])),(39,.t (.int .i64 2)),(40,.t (.int .i64 0))]) (hs':=[(4112,.live 2 [.agg [.nil,.t (.int .i64 0)]] true true),(4096,.live 2 [.t (zY [b0,b1] u)] true true)]) (qJ.rd id ?_ ?_ rfl) ?_
 ·simp(disch:=omega)only[go_sem,id]
 ·simp(disch:=omega)only[go_sem,id]
 rcases g0 with z0 | z0<;>rcases g1 with z1 | z1
 ·have zz:True:=trivial;by_cases p2:0<d0.length
  ·have zz:True:=trivial;have hE:qBc 0 0 loc n 2 d0.length d1.length=27:=by unfold qBc;rw[if_neg oM,if_neg oM,if_pos oM]
   refine qG 3 ?_;simp(disch:=omega)only[go_sem,qD,h3,wY hk.1,wZ hk.1,h4,qM,qN,h5,qY hk,h6,qR,qP,z0,z1,hE,map_nil,qHy,qBd,getD_cons_zero,getD_cons_succ,length_cons,length_nil];all_goals repeat refine And.intro rfl ?_
   all_goals rfl
  ·have zz:True:=trivial;by_cases p1:0<d1.length
   ·have zz:True:=trivial;have hE:qBc 0 0 loc n 2 d0.length d1.length=27:=by unfold qBc;rw[if_neg oM,if_neg oM,if_pos oM]
    refine qG 3 ?_;simp(disch:=omega)only[go_sem,qD,h3,wY hk.1,wZ hk.1,h4,qM,qN,h5,qY hk,h6,qR,qP,z0,z1,hE,map_nil,qHy,qBd,getD_cons_zero,getD_cons_succ,length_cons,length_nil];all_goals repeat refine And.intro rfl ?_
    all_goals rfl
   ·have zz:True:=trivial;refine qG 3 ?_;simp(disch:=omega)only[go_sem,qD,h3,wY hk.1,wZ hk.1,h4,qM,qN,h5,qY hk,h6,qR,qP,z0,z1];all_goals repeat refine And.intro rfl ?_
    refine wI (fs':=[(2,.t (.int .i64 (n:Nat))),(3,.t (.sl [bsT d0,bsT d1])),(4,.ref 4096 0 0),(8,.ref 4112 0 0),(56,.t (.sl [bsT d0,bsT d1])),(57,.t (.int .i64 2)),(58,.t (.int .i64 0))]) (hs':=[(4112,.live 2 [.agg [.nil,.t (.int .i64 0)]] true true),(4096,.live 2 [.t (zY [b0,b1] u)] true true)]) (qJ.rd id ?_ ?_ rfl) ?_
    ·simp(disch:=omega)only[go_sem,id]
    ·simp(disch:=omega)only[go_sem,id]
    have hE:qBc 0 0 loc n 2 d0.length d1.length=0:=by unfold qBc;rw[if_neg oM,if_neg oM,if_neg oM,if_neg oM]
    refine qG 3 ?_;simp(disch:=omega)only[go_sem,qD,h3,wY hk.1,wZ hk.1,h4,qM,qN,h5,qY hk,h6,qR,qP,z0,z1];all_goals repeat refine And.intro rfl ?_
    refine qB 2 (fun k=>match k with | 0=>[(2,.t (.int .i64 (n:Nat))),(3,.t (.sl [bsT d0,bsT d1])),(4,.ref 4096 0 0),(8,.ref 4112 0 0),(14,.ref 73760 0 0),(79,.t (.int .i64 2)),(80,.t (.int .i64 0))] | 1=>[(2,.t (.int .i64 (n:Nat))),(3,.t (.sl [bsT d0,bsT d1])),(4,.ref 4096 0 0),(8,.ref 4112 0 0),(14,.ref 73760 0 0),(79,.t (.int .i64 2)),(80,.t (.int .i64 1))] | _=>[(2,.t (.int .i64 (n:Nat))),(3,.t (.sl [bsT d0,bsT d1])),(4,.ref 4096 0 0),(8,.ref 4112 0 0),(14,.ref 73760 0 0),(79,.t (.int .i64 2)),(80,.t (.int .i64 2))]) (fun k=>match k with | 0=>[(73760,.live 2 [.agg [.sl 73744 0 2,.t (.int .i64 u)]] true true),(73746,.live 1 (((b1).map bsT).map V.t) true false),(73745,.live 1 (((b0).map bsT).map V.t) true false),(73744,.live 1 [.sl 73745 0 0,.sl 73746 0 0] true false),(4112,.live 2 [.agg [.nil,.t (.int .i64 0)]] true true),(4096,.live 2 [.t (zY [b0,b1] u)] true true)] | 1=>[(73760,.live 2 [.agg [.sl 73744 0 2,.t (.int .i64 u)]] true true),(73746,.live 1 (((b1).map bsT).map V.t) true false),(73745,.live 1 (((vX 0 b0 n d0).map bsT).map V.t) true false),(73744,.live 1 [.sl 73745 0 0,.sl 73746 0 0] true false),(4112,.live 2 [.agg [.nil,.t (.int .i64 0)]] true true),(4096,.live 2 [.t (zY [b0,b1] u)] true true)] | _=>[(73760,.live 2 [.agg [.sl 73744 0 2,.t (.int .i64 u)]] true true),(73746,.live 1 (((vX 1 b1 n d1).map bsT).map V.t) true false),(73745,.live 1 (((vX 0 b0 n d0).map bsT).map V.t) true false),(73744,.live 1 [.sl 73745 0 0,.sl 73746 0 0] true false),(4112,.live 2 [.agg [.nil,.t (.int .i64 0)]] true true),(4096,.live 2 [.t (zY [b0,b1] u)] true true)]) ?_ (fun k hk2=>?_)
    ·refine qJ.rd id ?_ ?_ rfl;all_goals simp(disch:=omega)only[go_sem,id,z0,z1]
    ·rcases (show k=0∨k=1∨k=2 by omega) with rfl | rfl | rfl
     ·have q:=take_of_length_le (show (b0.getD n []++d0).length≤(List.getD b0 n []).length+d0.length by rw[length_append];exact Nat.le_refl _);simp(disch:=omega)only[go_sem,h3,wY hk.1,wZ hk.1,h4,qM,qN,h5,qY hk,h6,qR,qP,z0,z1,qK,q];refine qJ.rd id ?_ ?_ rfl;all_goals simp(disch:=omega)only[go_sem,id,vX,z0,z1]
     ·have q:=take_of_length_le (show (b1.getD n []++d1).length≤(List.getD b1 n []).length+d1.length by rw[length_append];exact Nat.le_refl _);simp(disch:=omega)only[go_sem,h3,wY hk.1,wZ hk.1,h4,qM,qN,h5,qY hk,h6,qR,qP,z0,z1,qK,q];refine qJ.rd id ?_ ?_ rfl;all_goals simp(disch:=omega)only[go_sem,id,vX,z0,z1]
     ·have t0:List.take 0 (vX 0 b0 n d0)=vX 0 b0 n d0:=take_of_length_le (by rw[qK,z0];exact Nat.le_refl _);have t1:List.take 0 (vX 1 b1 n d1)=vX 1 b1 n d1:=take_of_length_le (by rw[qK,z1];exact Nat.le_refl _);have y0:vX 0 b0 n d0=[]:=eq_nil_of_length_eq_zero (by rw[qK,z0]);have y1:vX 1 b1 n d1=[]:=eq_nil_of_length_eq_zero (by rw[qK,z1]);simp(disch:=omega)only[go_sem,qK,t0,t1,z0,z1,hE,qKd,Int.toNat_natCast,mcn,y0,y1,qHy,qBd,getD_cons_zero,getD_cons_succ,length_cons,length_nil]
 ·have zz:True:=trivial;by_cases p1:0<d0.length
  ·have zz:True:=trivial;have hE:qBc 0 16 loc n 2 d0.length d1.length=27:=by unfold qBc;rw[if_neg oM,if_neg oM,if_pos oM]
   refine qG 3 ?_;simp(disch:=omega)only[go_sem,qD,h3,wY hk.1,wZ hk.1,h4,qM,qN,h5,qY hk,h6,qR,qP,z0,z1,hE,map_nil,qHy,qBd,getD_cons_zero,getD_cons_succ,length_cons,length_nil];all_goals repeat refine And.intro rfl ?_
   all_goals rfl
  ·have zz:True:=trivial;refine qG 3 ?_;simp(disch:=omega)only[go_sem,qD,h3,wY hk.1,wZ hk.1,h4,qM,qN,h5,qY hk,h6,qR,qP,z0,z1];all_goals repeat refine And.intro rfl ?_
   refine wI (fs':=[(2,.t (.int .i64 (n:Nat))),(3,.t (.sl [bsT d0,bsT d1])),(4,.ref 4096 0 0),(8,.ref 4112 0 0),(56,.t (.sl [bsT d0,bsT d1])),(57,.t (.int .i64 2)),(58,.t (.int .i64 0))]) (hs':=[(4112,.live 2 [.agg [.nil,.t (.int .i64 0)]] true true),(4096,.live 2 [.t (zY [b0,b1] u)] true true)]) (qJ.rd id ?_ ?_ rfl) ?_
   ·simp(disch:=omega)only[go_sem,id]
   ·simp(disch:=omega)only[go_sem,id]
   by_cases q1:d1.length≠32
   ·have zz:True:=trivial;have hE:qBc 0 16 loc n 2 d0.length d1.length=24:=by unfold qBc;rw[if_neg oM,if_neg oM,if_neg oM,if_pos oM]
    refine qG 3 ?_;simp(disch:=omega)only[go_sem,qD,h3,wY hk.1,wZ hk.1,h4,qM,qN,h5,qY hk,h6,qR,qP,z0,z1,hE,map_nil,qHy,qBd,getD_cons_zero,getD_cons_succ,length_cons,length_nil];all_goals repeat refine And.intro rfl ?_
    all_goals rfl
   ·have zz:True:=trivial;have hE:qBc 0 16 loc n 2 d0.length d1.length=0:=by unfold qBc;rw[if_neg oM,if_neg oM,if_neg oM,if_neg oM]
    refine qG 3 ?_;simp(disch:=omega)only[go_sem,qD,h3,wY hk.1,wZ hk.1,h4,qM,qN,h5,qY hk,h6,qR,qP,z0,z1];all_goals repeat refine And.intro rfl ?_
    refine qB 2 (fun k=>match k with | 0=>[(2,.t (.int .i64 (n:Nat))),(3,.t (.sl [bsT d0,bsT d1])),(4,.ref 4096 0 0),(8,.ref 4112 0 0),(14,.ref 73760 0 0),(79,.t (.int .i64 2)),(80,.t (.int .i64 0))] | 1=>[(2,.t (.int .i64 (n:Nat))),(3,.t (.sl [bsT d0,bsT d1])),(4,.ref 4096 0 0),(8,.ref 4112 0 0),(14,.ref 73760 0 0),(79,.t (.int .i64 2)),(80,.t (.int .i64 1))] | _=>[(2,.t (.int .i64 (n:Nat))),(3,.t (.sl [bsT d0,bsT d1])),(4,.ref 4096 0 0),(8,.ref 4112 0 0),(14,.ref 73760 0 0),(79,.t (.int .i64 2)),(80,.t (.int .i64 2))]) (fun k=>match k with | 0=>[(73760,.live 2 [.agg [.sl 73744 0 2,.t (.int .i64 u)]] true true),(73746,.live 1 (((b1).map bsT).map V.t) true false),(73745,.live 1 (((b0).map bsT).map V.t) true false),(73744,.live 1 [.sl 73745 0 0,.sl 73746 0 16] true false),(4112,.live 2 [.agg [.nil,.t (.int .i64 0)]] true true),(4096,.live 2 [.t (zY [b0,b1] u)] true true)] | 1=>[(73760,.live 2 [.agg [.sl 73744 0 2,.t (.int .i64 u)]] true true),(73746,.live 1 (((b1).map bsT).map V.t) true false),(73745,.live 1 (((vX 0 b0 n d0).map bsT).map V.t) true false),(73744,.live 1 [.sl 73745 0 0,.sl 73746 0 16] true false),(4112,.live 2 [.agg [.nil,.t (.int .i64 0)]] true true),(4096,.live 2 [.t (zY [b0,b1] u)] true true)] | _=>[(73760,.live 2 [.agg [.sl 73744 0 2,.t (.int .i64 u)]] true true),(73746,.live 1 (((vX 1 b1 n d1).map bsT).map V.t) true false),(73745,.live 1 (((vX 0 b0 n d0).map bsT).map V.t) true false),(73744,.live 1 [.sl 73745 0 0,.sl 73746 0 16] true false),(4112,.live 2 [.agg [.nil,.t (.int .i64 0)]] true true),(4096,.live 2 [.t (zY [b0,b1] u)] true true)]) ?_ (fun k hk2=>?_)
    ·refine qJ.rd id ?_ ?_ rfl;all_goals simp(disch:=omega)only[go_sem,id,z0,z1]
    ·rcases (show k=0∨k=1∨k=2 by omega) with rfl | rfl | rfl
     ·have q:=take_of_length_le (show (b0.getD n []++d0).length≤(List.getD b0 n []).length+d0.length by rw[length_append];exact Nat.le_refl _);simp(disch:=omega)only[go_sem,h3,wY hk.1,wZ hk.1,h4,qM,qN,h5,qY hk,h6,qR,qP,z0,z1,qK,q];refine qJ.rd id ?_ ?_ rfl;all_goals simp(disch:=omega)only[go_sem,id,vX,z0,z1]
     ·have q:=take_of_length_le (show (b1.getD n []++d1).length≤(List.getD b1 n []).length+d1.length by rw[length_append];exact Nat.le_refl _);simp(maxSteps:=9^9)(disch:=try exact dS)only[go_sem,h3,wY hk.1,wZ hk.1,h4,qM,qN,h5,qY hk,h6,qR,qP,z0,z1,qK,q];repeat refine And.intro rfl ?_
      refine qJ.cv (hv:=[]) [94544] id ?_ rfl;simp(maxSteps:=9^9)(disch:=try exact dS)only[go_sem,id,vX,z0,z1,vC,jH,zEb,zEc,zP,qH];all_goals rfl
     ·have t0:List.take 0 (vX 0 b0 n d0)=vX 0 b0 n d0:=take_of_length_le (by rw[qK,z0];exact Nat.le_refl _);have t1:List.take 16 (vX 1 b1 n d1)=vX 1 b1 n d1:=take_of_length_le (by rw[qK,z1];exact Nat.le_refl _);have y0:vX 0 b0 n d0=[]:=eq_nil_of_length_eq_zero (by rw[qK,z0]);simp(disch:=omega)only[go_sem,qK,t0,t1,z0,z1,hE,qKd,Int.toNat_natCast,mcn,y0,qHy,qBd,getD_cons_zero,getD_cons_succ,length_cons,length_nil]
 ·have zz:True:=trivial;by_cases p1:0<d1.length
  ·have zz:True:=trivial;have hE:qBc 16 0 loc n 2 d0.length d1.length=27:=by unfold qBc;rw[if_neg oM,if_neg oM,if_pos oM]
   refine qG 3 ?_;simp(disch:=omega)only[go_sem,qD,h3,wY hk.1,wZ hk.1,h4,qM,qN,h5,qY hk,h6,qR,qP,z0,z1,hE,map_nil,qHy,qBd,getD_cons_zero,getD_cons_succ,length_cons,length_nil];all_goals repeat refine And.intro rfl ?_
   all_goals rfl
  ·have zz:True:=trivial;refine qG 3 ?_;simp(disch:=omega)only[go_sem,qD,h3,wY hk.1,wZ hk.1,h4,qM,qN,h5,qY hk,h6,qR,qP,z0,z1];all_goals repeat refine And.intro rfl ?_
   refine wI (fs':=[(2,.t (.int .i64 (n:Nat))),(3,.t (.sl [bsT d0,bsT d1])),(4,.ref 4096 0 0),(8,.ref 4112 0 0),(56,.t (.sl [bsT d0,bsT d1])),(57,.t (.int .i64 2)),(58,.t (.int .i64 0))]) (hs':=[(4112,.live 2 [.agg [.nil,.t (.int .i64 0)]] true true),(4096,.live 2 [.t (zY [b0,b1] u)] true true)]) (qJ.rd id ?_ ?_ rfl) ?_
   ·simp(disch:=omega)only[go_sem,id]
   ·simp(disch:=omega)only[go_sem,id]
   by_cases q1:d0.length≠20
   ·have zz:True:=trivial;have hE:qBc 16 0 loc n 2 d0.length d1.length=24:=by unfold qBc;rw[if_neg oM,if_neg oM,if_neg oM,if_pos oM]
    refine qG 3 ?_;simp(disch:=omega)only[go_sem,qD,h3,wY hk.1,wZ hk.1,h4,qM,qN,h5,qY hk,h6,qR,qP,z0,z1,hE,map_nil,qHy,qBd,getD_cons_zero,getD_cons_succ,length_cons,length_nil];all_goals repeat refine And.intro rfl ?_
    all_goals rfl
   ·have zz:True:=trivial;have hE:qBc 16 0 loc n 2 d0.length d1.length=0:=by unfold qBc;rw[if_neg oM,if_neg oM,if_neg oM,if_neg oM]
    refine qG 3 ?_;simp(disch:=omega)only[go_sem,qD,h3,wY hk.1,wZ hk.1,h4,qM,qN,h5,qY hk,h6,qR,qP,z0,z1];all_goals repeat refine And.intro rfl ?_
    refine qB 2 (fun k=>match k with | 0=>[(2,.t (.int .i64 (n:Nat))),(3,.t (.sl [bsT d0,bsT d1])),(4,.ref 4096 0 0),(8,.ref 4112 0 0),(14,.ref 73760 0 0),(79,.t (.int .i64 2)),(80,.t (.int .i64 0))] | 1=>[(2,.t (.int .i64 (n:Nat))),(3,.t (.sl [bsT d0,bsT d1])),(4,.ref 4096 0 0),(8,.ref 4112 0 0),(14,.ref 73760 0 0),(79,.t (.int .i64 2)),(80,.t (.int .i64 1))] | _=>[(2,.t (.int .i64 (n:Nat))),(3,.t (.sl [bsT d0,bsT d1])),(4,.ref 4096 0 0),(8,.ref 4112 0 0),(14,.ref 73760 0 0),(79,.t (.int .i64 2)),(80,.t (.int .i64 2))]) (fun k=>match k with | 0=>[(73760,.live 2 [.agg [.sl 73744 0 2,.t (.int .i64 u)]] true true),(73746,.live 1 (((b1).map bsT).map V.t) true false),(73745,.live 1 (((b0).map bsT).map V.t) true false),(73744,.live 1 [.sl 73745 0 16,.sl 73746 0 0] true false),(4112,.live 2 [.agg [.nil,.t (.int .i64 0)]] true true),(4096,.live 2 [.t (zY [b0,b1] u)] true true)] | 1=>[(73760,.live 2 [.agg [.sl 73744 0 2,.t (.int .i64 u)]] true true),(73746,.live 1 (((b1).map bsT).map V.t) true false),(73745,.live 1 (((vX 0 b0 n d0).map bsT).map V.t) true false),(73744,.live 1 [.sl 73745 0 16,.sl 73746 0 0] true false),(4112,.live 2 [.agg [.nil,.t (.int .i64 0)]] true true),(4096,.live 2 [.t (zY [b0,b1] u)] true true)] | _=>[(73760,.live 2 [.agg [.sl 73744 0 2,.t (.int .i64 u)]] true true),(73746,.live 1 (((vX 1 b1 n d1).map bsT).map V.t) true false),(73745,.live 1 (((vX 0 b0 n d0).map bsT).map V.t) true false),(73744,.live 1 [.sl 73745 0 16,.sl 73746 0 0] true false),(4112,.live 2 [.agg [.nil,.t (.int .i64 0)]] true true),(4096,.live 2 [.t (zY [b0,b1] u)] true true)]) ?_ (fun k hk2=>?_)
    ·refine qJ.rd id ?_ ?_ rfl;all_goals simp(disch:=omega)only[go_sem,id,z0,z1]
    ·rcases (show k=0∨k=1∨k=2 by omega) with rfl | rfl | rfl
     ·have q:=take_of_length_le (show (b0.getD n []++d0).length≤(List.getD b0 n []).length+d0.length by rw[length_append];exact Nat.le_refl _);simp(maxSteps:=9^9)(disch:=try exact dS)only[go_sem,h3,wY hk.1,wZ hk.1,h4,qM,qN,h5,qY hk,h6,qR,qP,z0,z1,qK,q];repeat refine And.intro rfl ?_
      refine qJ.cv (hv:=[]) [94544] id ?_ rfl;simp(maxSteps:=9^9)(disch:=try exact dS)only[go_sem,id,vX,z0,z1,vC,jH,zEb,zEc,zP,qH];all_goals rfl
     ·have q:=take_of_length_le (show (b1.getD n []++d1).length≤(List.getD b1 n []).length+d1.length by rw[length_append];exact Nat.le_refl _);simp(disch:=omega)only[go_sem,h3,wY hk.1,wZ hk.1,h4,qM,qN,h5,qY hk,h6,qR,qP,z0,z1,qK,q];refine qJ.rd id ?_ ?_ rfl;all_goals simp(disch:=omega)only[go_sem,id,vX,z0,z1]
     ·have t0:List.take 16 (vX 0 b0 n d0)=vX 0 b0 n d0:=take_of_length_le (by rw[qK,z0];exact Nat.le_refl _);have t1:List.take 0 (vX 1 b1 n d1)=vX 1 b1 n d1:=take_of_length_le (by rw[qK,z1];exact Nat.le_refl _);have y1:vX 1 b1 n d1=[]:=eq_nil_of_length_eq_zero (by rw[qK,z1]);simp(disch:=omega)only[go_sem,qK,t0,t1,z0,z1,hE,qKd,Int.toNat_natCast,mcn,y1,qHy,qBd,getD_cons_zero,getD_cons_succ,length_cons,length_nil]
 ·have zz:True:=trivial;refine qG 3 ?_;simp(disch:=omega)only[go_sem,qD,h3,wY hk.1,wZ hk.1,h4,qM,qN,h5,qY hk,h6,qR,qP,z0,z1];all_goals repeat refine And.intro rfl ?_
  refine wI (fs':=[(2,.t (.int .i64 (n:Nat))),(3,.t (.sl [bsT d0,bsT d1])),(4,.ref 4096 0 0),(8,.ref 4112 0 0),(56,.t (.sl [bsT d0,bsT d1])),(57,.t (.int .i64 2)),(58,.t (.int .i64 0))]) (hs':=[(4112,.live 2 [.agg [.nil,.t (.int .i64 0)]] true true),(4096,.live 2 [.t (zY [b0,b1] u)] true true)]) (qJ.rd id ?_ ?_ rfl) ?_
  ·simp(disch:=omega)only[go_sem,id]
  ·simp(disch:=omega)only[go_sem,id]
  by_cases q2:d0.length≠20
  ·have zz:True:=trivial;have hE:qBc 16 16 loc n 2 d0.length d1.length=24:=by unfold qBc;rw[if_neg oM,if_neg oM,if_neg oM,if_pos oM]
   refine qG 3 ?_;simp(disch:=omega)only[go_sem,qD,h3,wY hk.1,wZ hk.1,h4,qM,qN,h5,qY hk,h6,qR,qP,z0,z1,hE,map_nil,qHy,qBd,getD_cons_zero,getD_cons_succ,length_cons,length_nil];all_goals repeat refine And.intro rfl ?_
   all_goals rfl
  ·have zz:True:=trivial;by_cases q1:d1.length≠32
   ·have zz:True:=trivial;have hE:qBc 16 16 loc n 2 d0.length d1.length=24:=by unfold qBc;rw[if_neg oM,if_neg oM,if_neg oM,if_pos oM]
    refine qG 3 ?_;simp(disch:=omega)only[go_sem,qD,h3,wY hk.1,wZ hk.1,h4,qM,qN,h5,qY hk,h6,qR,qP,z0,z1,hE,map_nil,qHy,qBd,getD_cons_zero,getD_cons_succ,length_cons,length_nil];all_goals repeat refine And.intro rfl ?_
    all_goals rfl
   ·have zz:True:=trivial;have hE:qBc 16 16 loc n 2 d0.length d1.length=0:=by unfold qBc;rw[if_neg oM,if_neg oM,if_neg oM,if_neg oM]
    refine qG 3 ?_;simp(disch:=omega)only[go_sem,qD,h3,wY hk.1,wZ hk.1,h4,qM,qN,h5,qY hk,h6,qR,qP,z0,z1];all_goals repeat refine And.intro rfl ?_
    refine qB 2 (fun k=>match k with | 0=>[(2,.t (.int .i64 (n:Nat))),(3,.t (.sl [bsT d0,bsT d1])),(4,.ref 4096 0 0),(8,.ref 4112 0 0),(14,.ref 73760 0 0),(79,.t (.int .i64 2)),(80,.t (.int .i64 0))] | 1=>[(2,.t (.int .i64 (n:Nat))),(3,.t (.sl [bsT d0,bsT d1])),(4,.ref 4096 0 0),(8,.ref 4112 0 0),(14,.ref 73760 0 0),(79,.t (.int .i64 2)),(80,.t (.int .i64 1))] | _=>[(2,.t (.int .i64 (n:Nat))),(3,.t (.sl [bsT d0,bsT d1])),(4,.ref 4096 0 0),(8,.ref 4112 0 0),(14,.ref 73760 0 0),(79,.t (.int .i64 2)),(80,.t (.int .i64 2))]) (fun k=>match k with | 0=>[(73760,.live 2 [.agg [.sl 73744 0 2,.t (.int .i64 u)]] true true),(73746,.live 1 (((b1).map bsT).map V.t) true false),(73745,.live 1 (((b0).map bsT).map V.t) true false),(73744,.live 1 [.sl 73745 0 16,.sl 73746 0 16] true false),(4112,.live 2 [.agg [.nil,.t (.int .i64 0)]] true true),(4096,.live 2 [.t (zY [b0,b1] u)] true true)] | 1=>[(73760,.live 2 [.agg [.sl 73744 0 2,.t (.int .i64 u)]] true true),(73746,.live 1 (((b1).map bsT).map V.t) true false),(73745,.live 1 (((vX 0 b0 n d0).map bsT).map V.t) true false),(73744,.live 1 [.sl 73745 0 16,.sl 73746 0 16] true false),(4112,.live 2 [.agg [.nil,.t (.int .i64 0)]] true true),(4096,.live 2 [.t (zY [b0,b1] u)] true true)] | _=>[(73760,.live 2 [.agg [.sl 73744 0 2,.t (.int .i64 u)]] true true),(73746,.live 1 (((vX 1 b1 n d1).map bsT).map V.t) true false),(73745,.live 1 (((vX 0 b0 n d0).map bsT).map V.t) true false),(73744,.live 1 [.sl 73745 0 16,.sl 73746 0 16] true false),(4112,.live 2 [.agg [.nil,.t (.int .i64 0)]] true true),(4096,.live 2 [.t (zY [b0,b1] u)] true true)]) ?_ (fun k hk2=>?_)
    ·refine qJ.rd id ?_ ?_ rfl;all_goals simp(disch:=omega)only[go_sem,id,z0,z1]
    ·rcases (show k=0∨k=1∨k=2 by omega) with rfl | rfl | rfl
     ·have q:=take_of_length_le (show (b0.getD n []++d0).length≤(List.getD b0 n []).length+d0.length by rw[length_append];exact Nat.le_refl _);simp(maxSteps:=9^9)(disch:=try exact dS)only[go_sem,h3,wY hk.1,wZ hk.1,h4,qM,qN,h5,qY hk,h6,qR,qP,z0,z1,qK,q];repeat refine And.intro rfl ?_
      refine qJ.cv (hv:=[]) [94544] id ?_ rfl;simp(maxSteps:=9^9)(disch:=try exact dS)only[go_sem,id,vX,z0,z1,vC,jH,zEb,zEc,zP,qH];all_goals rfl
     ·have q:=take_of_length_le (show (b1.getD n []++d1).length≤(List.getD b1 n []).length+d1.length by rw[length_append];exact Nat.le_refl _);simp(maxSteps:=9^9)(disch:=try exact dS)only[go_sem,h3,wY hk.1,wZ hk.1,h4,qM,qN,h5,qY hk,h6,qR,qP,z0,z1,qK,q];repeat refine And.intro rfl ?_
      refine qJ.cv (hv:=[]) [94544] id ?_ rfl;simp(maxSteps:=9^9)(disch:=try exact dS)only[go_sem,id,vX,z0,z1,vC,jH,zEb,zEc,zP,qH];all_goals rfl
     ·have t0:List.take 16 (vX 0 b0 n d0)=vX 0 b0 n d0:=take_of_length_le (by rw[qK,z0];exact Nat.le_refl _);have t1:List.take 16 (vX 1 b1 n d1)=vX 1 b1 n d1:=take_of_length_le (by rw[qK,z1];exact Nat.le_refl _);simp(disch:=omega)only[go_sem,qK,t0,t1,z0,z1,hE,qKd,Int.toNat_natCast,mcn,qHy,qBd,getD_cons_zero,getD_cons_succ,length_cons,length_nil]
end Go.Eng
end
