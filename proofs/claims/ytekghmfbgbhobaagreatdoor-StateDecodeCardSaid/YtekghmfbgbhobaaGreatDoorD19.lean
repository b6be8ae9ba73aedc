/- A part of an abstract machine, its walks, their tie. -/
import Derived.Test.YtekghmfbgbhobaaGreatDoorD18
import Derived.Test.YtekghmfbgbhobaaGreatDoorD9
set_option linter.all false
section
set_option maxHeartbeats 64000000
set_option maxRecDepth 20000
namespace Go.Eng
variable (tab:Tab) (gl:Gl)
def zV1 (i:Nat):UInt8:=if 12≤i then 255 else 0
theorem zEm {i:Nat}(h:i<12):zV1 i=0:=if_neg oM
theorem zEn {i:Nat}(h : ¬ i<12):zV1 i=255:=if_pos oM
def qCf (a:Nat):zB:=(List.range 16).map fun i=>List.replicate (szA a) (zV1 i)
theorem kI {a i:Nat}(h:i<16):(qCf a).take (i+1)=(qCf a).take i++[List.replicate (szA a) (zV1 i)]:=by
 rw[qCh (d:=[]) (by simp[qCf];omega)];congr 2;simp[qCf,List.getD,h]
theorem qF3 {a:Nat}:(qCf a).take 16=qCf a:=List.take_of_length_le (by simp[qCf])
theorem qK {a:Nat}:List.length (qCf a)=16:=by simp[qCf]
def kF (s:Int):List zB:=if s%4=0 then [] else [if s%2=1 then qCf 0 else [],if s/2%2=1 then qCf 1 else []]
theorem qD9 {s:Int}(h : ¬ s%4=0):kF s=[if s%2=1 then qCf 0 else [],if s/2%2=1 then qCf 1 else []]:=if_neg h
def xP:Ct where
 α:=Int
 aS x:=[.t (.int .i64 x)]
 ins _:=[]
 pre _:=True
 r x:= .t (.int .i64 (if x=0 then 20 else if x=1 then 32 else 0))
 outs _:=[]
 inj:=by
  intro a b h _;simp at h;subst h;exact⟨rfl,rfl⟩
theorem qQ:xP.fs [.t (.int .i64 0)] []=some (.t (.int .i64 20),[]):=xP.eq (0:Int) trivial
theorem qR:xP.fs [.t (.int .i64 1)] []=some (.t (.int .i64 32),[]):=xP.eq (1:Int) trivial
def wR:Ct where
 α:=Nat×UInt8
 aS x:=[.t (.int .i64 x.1),.t (qA x.2)]
 ins _:=[]
 pre x:=x.1=20∨x.1=32
 r x:= .sl 0 0 x.1
 outs x:=[.live 1 (((List.replicate x.1 x.2).map qA).map V.t) true false]
 inj:=by
  rintro⟨a,b⟩ ⟨c,d⟩ h _;simp[qP6,Int.natCast_inj] at h;obtain⟨rfl,rfl⟩:=h;exact⟨rfl,rfl⟩
theorem zL {x:UInt8}:wR.fs [.t (.int .i64 20),.t (qA x)] []=some (.sl 0 0 20,[.live 1 (((List.replicate 20 x).map qA).map V.t) true false]):=wR.eq (20,x) (.inl rfl)
theorem zM {x:UInt8}:wR.fs [.t (.int .i64 32),.t (qA x)] []=some (.sl 0 0 32,[.live 1 (((List.replicate 32 x).map qA).map V.t) true false]):=wR.eq (32,x) (.inr rfl)
theorem qZe (h1:LkC tab 98 xP)(h2:LkC tab 97 wR)(a:Nat)(ha:a<2)(i:Nat):qEx.1.wp tab gl (qE 0 [.t (.int .i64 a),.t (.int .i64 i)]) (qE 0 []) (xU [] [(4,none)] 0 (fun r o=>r = .sl 0 0 (szA a)∧o=[.live 1 (((List.replicate (szA a) (zV1 i)).map qA).map V.t) true false])):=by
 rcases (show a=0∨a=1 by omega) with rfl | rfl<;>by_cases hi:i<12;all_goals simp(disch:=omega)only[go_sem,qEx,h1,h2,qQ,qR,zL,zM,szA]
 all_goals first | rw[zEm hi] | rw[zEn hi]
def qE7:Ct where
 α:=Nat×Nat
 aS x:=[.t (.int .i64 x.1),.t (.int .i64 x.2)]
 ins _:=[]
 pre x:=x.1<2
 r x:= .sl 0 0 (szA x.1)
 outs x:=[.live 1 (((List.replicate (szA x.1) (zV1 x.2)).map qA).map V.t) true false]
 inj:=by
  rintro⟨a,b⟩ ⟨c,d⟩ h _;simp[Int.natCast_inj] at h;obtain⟨rfl,rfl⟩:=h;exact⟨rfl,rfl⟩
theorem yM {i:Nat}:qE7.fs [.t (.int .i64 0),.t (.int .i64 i)] []=some (.sl 0 0 20,[.live 1 (((List.replicate 20 (zV1 i)).map qA).map V.t) true false]):=qE7.eq (0,i) (by simp[qE7])
theorem yN {i:Nat}:qE7.fs [.t (.int .i64 1),.t (.int .i64 i)] []=some (.sl 0 0 32,[.live 1 (((List.replicate 32 (zV1 i)).map qA).map V.t) true false]):=qE7.eq (1,i) (by simp[qE7])
theorem qUh (s:Int)(h3:s%4=0):jT.1.wp tab gl (qE 0 [.t (.int .i64 s)]) (qE 0 []) (xU [] [(2,some (2,true))] 0 (fun r o=>r = .agg [.nil,.t (.int .i64 0)]∧o=[])):=by
 simp(disch:=omega)only[go_sem,jT,h3]
theorem zJs (s:Int)(h3:s%4=0):wZ.1.wp tab gl (qE 0 [.t (.int .i64 s)]) (qE 0 []) (xU [] [(2,some (2,true))] 0 (fun r o=>r = .agg [.nil,.t (.int .i64 0)]∧o=[])):=by
 simp(disch:=omega)only[go_sem,wZ,h3]
theorem qXn (h1:LkC tab 76 xP)(h2:LkC tab 75 wR)(s:Int)(h3 : ¬ s%4=0):jT.1.wp tab gl (qE 0 [.t (.int .i64 s)]) (qE 0 []) (xU [] [(2,some (2,true))] 0 (fun r o=>r=twR (kF s) 0∧o=twO (kF s))):=by
 have h4:(s%4==0)=false:=by simpa using h3
 have hf1:s.fdiv 1=s:=Int.fdiv_one s;have hf2:s.fdiv 2=s/2:=Int.fdiv_eq_ediv_of_nonneg s oM;have hc0:s%2=0∨s%2=1:=oM;have hc1:s/2%2=0∨s/2%2=1:=oM;rcases hc0 with c0 | c0<;>rcases hc1 with c1 | c1
 ·exact absurd oM h3
 ·rw[qD9 h3,if_neg oM,if_pos oM];simp(disch:=omega)only[go_sem,jT,h4,hf1,hf2];refine qD 2 (fun k=>match k with | 0=>[(0,.t (.int .i64 s)),(2,.ref 4096 0 0),(3,.ref 16384 0 0),(12,.t (.int .i64 0))] | 1=>[(0,.t (.int .i64 s)),(2,.ref 4096 0 0),(3,.ref 16384 0 0),(12,.t (.int .i64 1))] | _=>[(0,.t (.int .i64 s)),(2,.ref 4096 0 0),(3,.ref 16384 0 0),(12,.t (.int .i64 2))]) (fun k=>match k with | 0=>[(16384,.live 2 [.agg [.nil,.t (.int .i64 0)]] true true),(4096,.live 2 [.agg [.nil,.t (.int .i64 0)]] true true)] | 1=>[(16384,.live 2 [.agg [.sl 9000 0 1,.t (.int .i64 0)]] true true),(9000,.live 1 [.sl 9001 0 0] true false),(9001,.live 1 ((([]:zB).map bsT).map V.t) true false),(4096,.live 2 [.agg [.nil,.t (.int .i64 0)]] true true)] | _=>[(16384,.live 2 [.agg [.sl 9000 0 2,.t (.int .i64 0)]] true true),(9000,.live 1 [.sl 9001 0 0,.sl 9002 0 16] true false),(9001,.live 1 ((([]:zB).map bsT).map V.t) true false),(9002,.live 1 (((qCf 1:zB).map bsT).map V.t) true false),(4096,.live 2 [.agg [.nil,.t (.int .i64 0)]] true true)]) ?_ (fun k hk=>?_)
  ·refine qI.rd id ?_ ?_ rfl;all_goals simp(disch:=omega)only[go_sem,id]
  ·rcases (show k=0∨k=1∨k=2 by omega) with rfl | rfl | rfl
   ·simp(disch:=omega)only[go_sem,c0,c1,qK,h1,h2,qQ,qR,zL,zM,hf1,hf2];refine qM 1 ?_;simp(disch:=omega)only[go_sem,qG,c0,c1,qK,h1,h2,qQ,qR,zL,zM,hf1,hf2];refine qI.trans (fs':=[(0,.t (.int .i64 s)),(2,.ref 4096 0 0),(3,.ref 16384 0 0),(12,.t (.int .i64 1))]) (qI.cv0 (hv:=[(9001,.live 1 [] true false)]) (ho:=[(16384,.live 2 [.agg [.sl 9000 0 1,.t (.int .i64 0)]] true true),(9000,.live 1 [.sl 9001 0 0] true false),(4096,.live 2 [.agg [.nil,.t (.int .i64 0)]] true true)]) (fun j=>if j=9000 then 65600 else j) ?_ ?_ rfl rfl) (qI.rd id ?_ ?_ rfl);all_goals simp(disch:=omega)only[go_sem,mcn,id]
   ·simp(disch:=omega)only[go_sem,c0,c1,qK,h1,h2,qQ,qR,zL,zM,hf1,hf2];refine qD 16 (fun i=>[(0,.t (.int .i64 s)),(2,.ref 4096 0 0),(3,.ref 16384 0 0),(12,.t (.int .i64 1)),(4,.t (.int .i64 1)),(5,.sl 9100 0 i),(6,.t (.int .i64 (i:Nat)))]) (fun i=>[(9100,.live 1 ((((qCf 1).take i).map bsT).map V.t) true false),(16384,.live 2 [.agg [.sl 9000 0 1,.t (.int .i64 0)]] true true),(9000,.live 1 [.sl 9001 0 0] true false),(9001,.live 1 ((([]:zB).map bsT).map V.t) true false),(4096,.live 2 [.agg [.nil,.t (.int .i64 0)]] true true)]) ?_ (fun i hi=>?_)
    ·refine qI.cv0 (hv:=[(9100,.live 1 [] true false)]) (ho:=[(16384,.live 2 [.agg [.sl 9000 0 1,.t (.int .i64 0)]] true true),(9000,.live 1 [.sl 9001 0 0] true false),(9001,.live 1 ((([]:zB).map bsT).map V.t) true false),(4096,.live 2 [.agg [.nil,.t (.int .i64 0)]] true true)]) id ?_ ?_ rfl rfl;all_goals simp(disch:=omega)only[go_sem,mcn,id]
    ·by_cases hlt:i<16
     ·by_cases h12:i<12
      ·simp(disch:=omega)only[go_sem,c0,c1,qK,h1,h2,qQ,qR,zL,zM,hf1,hf2];refine⟨hlt,qI.cv (hv:=[]) [61504] (fun j=>if j=9100 then 61536 else j) ?_ rfl⟩;simp(disch:=omega)only[go_sem,kI hlt,szA,List.take_replicate,Nat.min_self,zEm h12];rfl
      ·simp(disch:=omega)only[go_sem,c0,c1,qK,h1,h2,qQ,qR,zL,zM,hf1,hf2];refine⟨hlt,qI.cv (hv:=[]) [61504] (fun j=>if j=9100 then 61536 else j) ?_ rfl⟩;simp(disch:=omega)only[go_sem,kI hlt,szA,List.take_replicate,Nat.min_self,zEn h12];rfl
     ·have e:i=16:=oM;subst e;simp(disch:=omega)only[go_sem,c0,c1,qK,h1,h2,qQ,qR,zL,zM,hf1,hf2];refine qI.rd (fun j=>if j=9000 then 65600 else if j=9002 then 9100 else j) ?_ ?_ rfl;all_goals simp(disch:=omega)only[go_sem,qF3]
   ·simp(disch:=omega)only[go_sem,c0,c1,qK,h1,h2,qQ,qR,zL,zM,hf1,hf2];exact⟨rfl,rfl⟩
 ·rw[qD9 h3,if_pos oM,if_neg oM];simp(disch:=omega)only[go_sem,jT,h4,hf1,hf2];refine qD 2 (fun k=>match k with | 0=>[(0,.t (.int .i64 s)),(2,.ref 4096 0 0),(3,.ref 16384 0 0),(12,.t (.int .i64 0))] | 1=>[(0,.t (.int .i64 s)),(2,.ref 4096 0 0),(3,.ref 16384 0 0),(12,.t (.int .i64 1))] | _=>[(0,.t (.int .i64 s)),(2,.ref 4096 0 0),(3,.ref 16384 0 0),(12,.t (.int .i64 2))]) (fun k=>match k with | 0=>[(16384,.live 2 [.agg [.nil,.t (.int .i64 0)]] true true),(4096,.live 2 [.agg [.nil,.t (.int .i64 0)]] true true)] | 1=>[(16384,.live 2 [.agg [.sl 9000 0 1,.t (.int .i64 0)]] true true),(9000,.live 1 [.sl 9001 0 16] true false),(9001,.live 1 (((qCf 0:zB).map bsT).map V.t) true false),(4096,.live 2 [.agg [.nil,.t (.int .i64 0)]] true true)] | _=>[(16384,.live 2 [.agg [.sl 9000 0 2,.t (.int .i64 0)]] true true),(9000,.live 1 [.sl 9001 0 16,.sl 9002 0 0] true false),(9001,.live 1 (((qCf 0:zB).map bsT).map V.t) true false),(9002,.live 1 ((([]:zB).map bsT).map V.t) true false),(4096,.live 2 [.agg [.nil,.t (.int .i64 0)]] true true)]) ?_ (fun k hk=>?_)
  ·refine qI.rd id ?_ ?_ rfl;all_goals simp(disch:=omega)only[go_sem,id]
  ·rcases (show k=0∨k=1∨k=2 by omega) with rfl | rfl | rfl
   ·simp(disch:=omega)only[go_sem,c0,c1,qK,h1,h2,qQ,qR,zL,zM,hf1,hf2];refine qD 16 (fun i=>[(0,.t (.int .i64 s)),(2,.ref 4096 0 0),(3,.ref 16384 0 0),(12,.t (.int .i64 0)),(4,.t (.int .i64 0)),(5,.sl 9100 0 i),(6,.t (.int .i64 (i:Nat)))]) (fun i=>[(9100,.live 1 ((((qCf 0).take i).map bsT).map V.t) true false),(16384,.live 2 [.agg [.nil,.t (.int .i64 0)]] true true),(4096,.live 2 [.agg [.nil,.t (.int .i64 0)]] true true)]) ?_ (fun i hi=>?_)
    ·refine qI.cv0 (hv:=[(9100,.live 1 [] true false)]) (ho:=[(16384,.live 2 [.agg [.nil,.t (.int .i64 0)]] true true),(4096,.live 2 [.agg [.nil,.t (.int .i64 0)]] true true)]) id ?_ ?_ rfl rfl;all_goals simp(disch:=omega)only[go_sem,mcn,id]
    ·by_cases hlt:i<16
     ·by_cases h12:i<12
      ·simp(disch:=omega)only[go_sem,c0,c1,qK,h1,h2,qQ,qR,zL,zM,hf1,hf2];refine⟨hlt,qI.cv (hv:=[]) [61504] (fun j=>if j=9100 then 61536 else j) ?_ rfl⟩;simp(disch:=omega)only[go_sem,kI hlt,szA,List.take_replicate,Nat.min_self,zEm h12];rfl
      ·simp(disch:=omega)only[go_sem,c0,c1,qK,h1,h2,qQ,qR,zL,zM,hf1,hf2];refine⟨hlt,qI.cv (hv:=[]) [61504] (fun j=>if j=9100 then 61536 else j) ?_ rfl⟩;simp(disch:=omega)only[go_sem,kI hlt,szA,List.take_replicate,Nat.min_self,zEn h12];rfl
     ·have e:i=16:=oM;subst e;simp(disch:=omega)only[go_sem,c0,c1,qK,h1,h2,qQ,qR,zL,zM,hf1,hf2];refine qI.rd (fun j=>if j=9000 then 65600 else if j=9001 then 9100 else j) ?_ ?_ rfl;all_goals simp(disch:=omega)only[go_sem,qF3]
   ·simp(disch:=omega)only[go_sem,c0,c1,qK,h1,h2,qQ,qR,zL,zM,hf1,hf2];refine qM 1 ?_;simp(disch:=omega)only[go_sem,qG,c0,c1,qK,h1,h2,qQ,qR,zL,zM,hf1,hf2];refine qI.trans (fs':=[(0,.t (.int .i64 s)),(2,.ref 4096 0 0),(3,.ref 16384 0 0),(12,.t (.int .i64 2))]) (qI.cv0 (hv:=[(9002,.live 1 [] true false)]) (ho:=[(16384,.live 2 [.agg [.sl 9000 0 2,.t (.int .i64 0)]] true true),(9000,.live 1 [.sl 9001 0 16,.sl 9002 0 0] true false),(9001,.live 1 (((qCf 0:zB).map bsT).map V.t) true false),(4096,.live 2 [.agg [.nil,.t (.int .i64 0)]] true true)]) (fun j=>if j=9000 then 65600 else j) ?_ ?_ rfl rfl) (qI.rd id ?_ ?_ rfl);all_goals simp(disch:=omega)only[go_sem,mcn,id]
   ·simp(disch:=omega)only[go_sem,c0,c1,qK,h1,h2,qQ,qR,zL,zM,hf1,hf2];exact⟨rfl,rfl⟩
 ·rw[qD9 h3,if_pos oM,if_pos oM];simp(disch:=omega)only[go_sem,jT,h4,hf1,hf2];refine qD 2 (fun k=>match k with | 0=>[(0,.t (.int .i64 s)),(2,.ref 4096 0 0),(3,.ref 16384 0 0),(12,.t (.int .i64 0))] | 1=>[(0,.t (.int .i64 s)),(2,.ref 4096 0 0),(3,.ref 16384 0 0),(12,.t (.int .i64 1))] | _=>[(0,.t (.int .i64 s)),(2,.ref 4096 0 0),(3,.ref 16384 0 0),(12,.t (.int .i64 2))]) (fun k=>match k with | 0=>[(16384,.live 2 [.agg [.nil,.t (.int .i64 0)]] true true),(4096,.live 2 [.agg [.nil,.t (.int .i64 0)]] true true)] | 1=>[(16384,.live 2 [.agg [.sl 9000 0 1,.t (.int .i64 0)]] true true),(9000,.live 1 [.sl 9001 0 16] true false),(9001,.live 1 (((qCf 0:zB).map bsT).map V.t) true false),(4096,.live 2 [.agg [.nil,.t (.int .i64 0)]] true true)] | _=>[(16384,.live 2 [.agg [.sl 9000 0 2,.t (.int .i64 0)]] true true),(9000,.live 1 [.sl 9001 0 16,.sl 9002 0 16] true false),(9001,.live 1 (((qCf 0:zB).map bsT).map V.t) true false),(9002,.live 1 (((qCf 1:zB).map bsT).map V.t) true false),(4096,.live 2 [.agg [.nil,.t (.int .i64 0)]] true true)]) ?_ (fun k hk=>?_)
  ·refine qI.rd id ?_ ?_ rfl;all_goals simp(disch:=omega)only[go_sem,id]
  ·rcases (show k=0∨k=1∨k=2 by omega) with rfl | rfl | rfl
   ·simp(disch:=omega)only[go_sem,c0,c1,qK,h1,h2,qQ,qR,zL,zM,hf1,hf2];refine qD 16 (fun i=>[(0,.t (.int .i64 s)),(2,.ref 4096 0 0),(3,.ref 16384 0 0),(12,.t (.int .i64 0)),(4,.t (.int .i64 0)),(5,.sl 9100 0 i),(6,.t (.int .i64 (i:Nat)))]) (fun i=>[(9100,.live 1 ((((qCf 0).take i).map bsT).map V.t) true false),(16384,.live 2 [.agg [.nil,.t (.int .i64 0)]] true true),(4096,.live 2 [.agg [.nil,.t (.int .i64 0)]] true true)]) ?_ (fun i hi=>?_)
    ·refine qI.cv0 (hv:=[(9100,.live 1 [] true false)]) (ho:=[(16384,.live 2 [.agg [.nil,.t (.int .i64 0)]] true true),(4096,.live 2 [.agg [.nil,.t (.int .i64 0)]] true true)]) id ?_ ?_ rfl rfl;all_goals simp(disch:=omega)only[go_sem,mcn,id]
    ·by_cases hlt:i<16
     ·by_cases h12:i<12
      ·simp(disch:=omega)only[go_sem,c0,c1,qK,h1,h2,qQ,qR,zL,zM,hf1,hf2];refine⟨hlt,qI.cv (hv:=[]) [61504] (fun j=>if j=9100 then 61536 else j) ?_ rfl⟩;simp(disch:=omega)only[go_sem,kI hlt,szA,List.take_replicate,Nat.min_self,zEm h12];rfl
      ·simp(disch:=omega)only[go_sem,c0,c1,qK,h1,h2,qQ,qR,zL,zM,hf1,hf2];refine⟨hlt,qI.cv (hv:=[]) [61504] (fun j=>if j=9100 then 61536 else j) ?_ rfl⟩;simp(disch:=omega)only[go_sem,kI hlt,szA,List.take_replicate,Nat.min_self,zEn h12];rfl
     ·have e:i=16:=oM;subst e;simp(disch:=omega)only[go_sem,c0,c1,qK,h1,h2,qQ,qR,zL,zM,hf1,hf2];refine qI.rd (fun j=>if j=9000 then 65600 else if j=9001 then 9100 else j) ?_ ?_ rfl;all_goals simp(disch:=omega)only[go_sem,qF3]
   ·simp(disch:=omega)only[go_sem,c0,c1,qK,h1,h2,qQ,qR,zL,zM,hf1,hf2];refine qD 16 (fun i=>[(0,.t (.int .i64 s)),(2,.ref 4096 0 0),(3,.ref 16384 0 0),(12,.t (.int .i64 1)),(4,.t (.int .i64 1)),(5,.sl 9100 0 i),(6,.t (.int .i64 (i:Nat)))]) (fun i=>[(9100,.live 1 ((((qCf 1).take i).map bsT).map V.t) true false),(16384,.live 2 [.agg [.sl 9000 0 1,.t (.int .i64 0)]] true true),(9000,.live 1 [.sl 9001 0 16] true false),(9001,.live 1 (((qCf 0:zB).map bsT).map V.t) true false),(4096,.live 2 [.agg [.nil,.t (.int .i64 0)]] true true)]) ?_ (fun i hi=>?_)
    ·refine qI.cv0 (hv:=[(9100,.live 1 [] true false)]) (ho:=[(16384,.live 2 [.agg [.sl 9000 0 1,.t (.int .i64 0)]] true true),(9000,.live 1 [.sl 9001 0 16] true false),(9001,.live 1 (((qCf 0:zB).map bsT).map V.t) true false),(4096,.live 2 [.agg [.nil,.t (.int .i64 0)]] true true)]) id ?_ ?_ rfl rfl;all_goals simp(disch:=omega)only[go_sem,mcn,id]
    ·by_cases hlt:i<16
     ·by_cases h12:i<12
      ·simp(disch:=omega)only[go_sem,c0,c1,qK,h1,h2,qQ,qR,zL,zM,hf1,hf2];refine⟨hlt,qI.cv (hv:=[]) [61504] (fun j=>if j=9100 then 61536 else j) ?_ rfl⟩;simp(disch:=omega)only[go_sem,kI hlt,szA,List.take_replicate,Nat.min_self,zEm h12];rfl
      ·simp(disch:=omega)only[go_sem,c0,c1,qK,h1,h2,qQ,qR,zL,zM,hf1,hf2];refine⟨hlt,qI.cv (hv:=[]) [61504] (fun j=>if j=9100 then 61536 else j) ?_ rfl⟩;simp(disch:=omega)only[go_sem,kI hlt,szA,List.take_replicate,Nat.min_self,zEn h12];rfl
     ·have e:i=16:=oM;subst e;simp(disch:=omega)only[go_sem,c0,c1,qK,h1,h2,qQ,qR,zL,zM,hf1,hf2];refine qI.rd (fun j=>if j=9000 then 65600 else if j=9002 then 9100 else j) ?_ ?_ rfl;all_goals simp(disch:=omega)only[go_sem,qF3]
   ·simp(disch:=omega)only[go_sem,c0,c1,qK,h1,h2,qQ,qR,zL,zM,hf1,hf2];exact⟨rfl,rfl⟩
theorem zOa (h1:LkC tab 78 qE7)(s:Int)(h3 : ¬ s%4=0):wZ.1.wp tab gl (qE 0 [.t (.int .i64 s)]) (qE 0 []) (xU [] [(2,some (2,true))] 0 (fun r o=>r=twR (kF s) 0∧o=twO (kF s))):=by
 have h4:(s%4==0)=false:=by simpa using h3
 have hf1:s.fdiv 1=s:=Int.fdiv_one s;have hf2:s.fdiv 2=s/2:=Int.fdiv_eq_ediv_of_nonneg s oM;have hc0:s%2=0∨s%2=1:=oM;have hc1:s/2%2=0∨s/2%2=1:=oM;rcases hc0 with c0 | c0<;>rcases hc1 with c1 | c1
 ·exact absurd oM h3
 ·rw[qD9 h3,if_neg oM,if_pos oM];simp(disch:=omega)only[go_sem,wZ,h4,hf1,hf2];refine qD 2 (fun k=>match k with | 0=>[(0,.t (.int .i64 s)),(2,.ref 4096 0 0),(3,.ref 8208 0 0),(4,.t (.int .i64 0))] | 1=>[(0,.t (.int .i64 s)),(2,.ref 4096 0 0),(3,.ref 8208 0 0),(4,.t (.int .i64 1))] | _=>[(0,.t (.int .i64 s)),(2,.ref 4096 0 0),(3,.ref 8208 0 0),(4,.t (.int .i64 2))]) (fun k=>match k with | 0=>[(8208,.live 2 [.agg [.nil,.t (.int .i64 0)]] true true),(4096,.live 2 [.agg [.nil,.t (.int .i64 0)]] true true)] | 1=>[(8208,.live 2 [.agg [.sl 9000 0 1,.t (.int .i64 0)]] true true),(9000,.live 1 [.sl 9001 0 0] true false),(9001,.live 1 ((([]:zB).map bsT).map V.t) true false),(4096,.live 2 [.agg [.nil,.t (.int .i64 0)]] true true)] | _=>[(8208,.live 2 [.agg [.sl 9000 0 2,.t (.int .i64 0)]] true true),(9000,.live 1 [.sl 9001 0 0,.sl 9002 0 16] true false),(9001,.live 1 ((([]:zB).map bsT).map V.t) true false),(9002,.live 1 (((qCf 1:zB).map bsT).map V.t) true false),(4096,.live 2 [.agg [.nil,.t (.int .i64 0)]] true true)]) ?_ (fun k hk=>?_)
  ·refine qI.rd id ?_ ?_ rfl;all_goals simp(disch:=omega)only[go_sem,id]
  ·rcases (show k=0∨k=1∨k=2 by omega) with rfl | rfl | rfl
   ·simp(disch:=omega)only[go_sem,c0,c1,qK,h1,yM,yN,hf1,hf2];refine qM 1 ?_;simp(disch:=omega)only[go_sem,qG,c0,c1,qK,h1,yM,yN,hf1,hf2];refine qI.trans (fs':=[(0,.t (.int .i64 s)),(2,.ref 4096 0 0),(3,.ref 8208 0 0),(4,.t (.int .i64 1))]) (qI.cv0 (hv:=[(9001,.live 1 [] true false)]) (ho:=[(8208,.live 2 [.agg [.sl 9000 0 1,.t (.int .i64 0)]] true true),(9000,.live 1 [.sl 9001 0 0] true false),(4096,.live 2 [.agg [.nil,.t (.int .i64 0)]] true true)]) (fun j=>if j=9000 then 53312 else j) ?_ ?_ rfl rfl) (qI.rd id ?_ ?_ rfl);all_goals simp(disch:=omega)only[go_sem,mcn,id]
   ·simp(disch:=omega)only[go_sem,c0,c1,qK,h1,yM,yN,hf1,hf2];refine qD 16 (fun i=>[(0,.t (.int .i64 s)),(2,.ref 4096 0 0),(3,.ref 8208 0 0),(4,.t (.int .i64 1)),(5,.sl 9100 0 i),(6,.t (.int .i64 (i:Nat)))]) (fun i=>[(9100,.live 1 ((((qCf 1).take i).map bsT).map V.t) true false),(8208,.live 2 [.agg [.sl 9000 0 1,.t (.int .i64 0)]] true true),(9000,.live 1 [.sl 9001 0 0] true false),(9001,.live 1 ((([]:zB).map bsT).map V.t) true false),(4096,.live 2 [.agg [.nil,.t (.int .i64 0)]] true true)]) ?_ (fun i hi=>?_)
    ·refine qI.cv0 (hv:=[(9100,.live 1 [] true false)]) (ho:=[(8208,.live 2 [.agg [.sl 9000 0 1,.t (.int .i64 0)]] true true),(9000,.live 1 [.sl 9001 0 0] true false),(9001,.live 1 ((([]:zB).map bsT).map V.t) true false),(4096,.live 2 [.agg [.nil,.t (.int .i64 0)]] true true)]) id ?_ ?_ rfl rfl;all_goals simp(disch:=omega)only[go_sem,mcn,id]
    ·by_cases hlt:i<16
     ·simp(disch:=omega)only[go_sem,c0,c1,qK,h1,yM,yN,hf1,hf2];refine⟨hlt,qI.cv (hv:=[]) [49200] (fun j=>if j=9100 then 49232 else j) ?_ rfl⟩;simp(disch:=omega)only[go_sem,kI hlt,szA,List.take_replicate,Nat.min_self];rfl
     ·have e:i=16:=oM;subst e;simp(disch:=omega)only[go_sem,c0,c1,qK,h1,yM,yN,hf1,hf2];refine qI.rd (fun j=>if j=9000 then 53312 else if j=9002 then 9100 else j) ?_ ?_ rfl;all_goals simp(disch:=omega)only[go_sem,qF3]
   ·simp(disch:=omega)only[go_sem,c0,c1,qK,h1,yM,yN,hf1,hf2];exact⟨rfl,rfl⟩
 ·rw[qD9 h3,if_pos oM,if_neg oM];simp(disch:=omega)only[go_sem,wZ,h4,hf1,hf2];refine qD 2 (fun k=>match k with | 0=>[(0,.t (.int .i64 s)),(2,.ref 4096 0 0),(3,.ref 8208 0 0),(4,.t (.int .i64 0))] | 1=>[(0,.t (.int .i64 s)),(2,.ref 4096 0 0),(3,.ref 8208 0 0),(4,.t (.int .i64 1))] | _=>[(0,.t (.int .i64 s)),(2,.ref 4096 0 0),(3,.ref 8208 0 0),(4,.t (.int .i64 2))]) (fun k=>match k with | 0=>[(8208,.live 2 [.agg [.nil,.t (.int .i64 0)]] true true),(4096,.live 2 [.agg [.nil,.t (.int .i64 0)]] true true)] | 1=>[(8208,.live 2 [.agg [.sl 9000 0 1,.t (.int .i64 0)]] true true),(9000,.live 1 [.sl 9001 0 16] true false),(9001,.live 1 (((qCf 0:zB).map bsT).map V.t) true false),(4096,.live 2 [.agg [.nil,.t (.int .i64 0)]] true true)] | _=>[(8208,.live 2 [.agg [.sl 9000 0 2,.t (.int .i64 0)]] true true),(9000,.live 1 [.sl 9001 0 16,.sl 9002 0 0] true false),(9001,.live 1 (((qCf 0:zB).map bsT).map V.t) true false),(9002,.live 1 ((([]:zB).map bsT).map V.t) true false),(4096,.live 2 [.agg [.nil,.t (.int .i64 0)]] true true)]) ?_ (fun k hk=>?_)
  ·refine qI.rd id ?_ ?_ rfl;all_goals simp(disch:=omega)only[go_sem,id]
  ·rcases (show k=0∨k=1∨k=2 by omega) with rfl | rfl | rfl
   ·simp(disch:=omega)only[go_sem,c0,c1,qK,h1,yM,yN,hf1,hf2];refine qD 16 (fun i=>[(0,.t (.int .i64 s)),(2,.ref 4096 0 0),(3,.ref 8208 0 0),(4,.t (.int .i64 0)),(5,.sl 9100 0 i),(6,.t (.int .i64 (i:Nat)))]) (fun i=>[(9100,.live 1 ((((qCf 0).take i).map bsT).map V.t) true false),(8208,.live 2 [.agg [.nil,.t (.int .i64 0)]] true true),(4096,.live 2 [.agg [.nil,.t (.int .i64 0)]] true true)]) ?_ (fun i hi=>?_)
    ·refine qI.cv0 (hv:=[(9100,.live 1 [] true false)]) (ho:=[(8208,.live 2 [.agg [.nil,.t (.int .i64 0)]] true true),(4096,.live 2 [.agg [.nil,.t (.int .i64 0)]] true true)]) id ?_ ?_ rfl rfl;all_goals simp(disch:=omega)only[go_sem,mcn,id]
    ·by_cases hlt:i<16
     ·simp(disch:=omega)only[go_sem,c0,c1,qK,h1,yM,yN,hf1,hf2];refine⟨hlt,qI.cv (hv:=[]) [49200] (fun j=>if j=9100 then 49232 else j) ?_ rfl⟩;simp(disch:=omega)only[go_sem,kI hlt,szA,List.take_replicate,Nat.min_self];rfl
     ·have e:i=16:=oM;subst e;simp(disch:=omega)only[go_sem,c0,c1,qK,h1,yM,yN,hf1,hf2];refine qI.rd (fun j=>if j=9000 then 53312 else if j=9001 then 9100 else j) ?_ ?_ rfl;all_goals simp(disch:=omega)only[go_sem,qF3]
   ·simp(disch:=omega)only[go_sem,c0,c1,qK,h1,yM,yN,hf1,hf2];refine qM 1 ?_;simp(disch:=omega)only[go_sem,qG,c0,c1,qK,h1,yM,yN,hf1,hf2];refine qI.trans (fs':=[(0,.t (.int .i64 s)),(2,.ref 4096 0 0),(3,.ref 8208 0 0),(4,.t (.int .i64 2))]) (qI.cv0 (hv:=[(9002,.live 1 [] true false)]) (ho:=[(8208,.live 2 [.agg [.sl 9000 0 2,.t (.int .i64 0)]] true true),(9000,.live 1 [.sl 9001 0 16,.sl 9002 0 0] true false),(9001,.live 1 (((qCf 0:zB).map bsT).map V.t) true false),(4096,.live 2 [.agg [.nil,.t (.int .i64 0)]] true true)]) (fun j=>if j=9000 then 53312 else j) ?_ ?_ rfl rfl) (qI.rd id ?_ ?_ rfl);all_goals simp(disch:=omega)only[go_sem,mcn,id]
   ·simp(disch:=omega)only[go_sem,c0,c1,qK,h1,yM,yN,hf1,hf2];exact⟨rfl,rfl⟩
 ·rw[qD9 h3,if_pos oM,if_pos oM];simp(disch:=omega)only[go_sem,wZ,h4,hf1,hf2];refine qD 2 (fun k=>match k with | 0=>[(0,.t (.int .i64 s)),(2,.ref 4096 0 0),(3,.ref 8208 0 0),(4,.t (.int .i64 0))] | 1=>[(0,.t (.int .i64 s)),(2,.ref 4096 0 0),(3,.ref 8208 0 0),(4,.t (.int .i64 1))] | _=>[(0,.t (.int .i64 s)),(2,.ref 4096 0 0),(3,.ref 8208 0 0),(4,.t (.int .i64 2))]) (fun k=>match k with | 0=>[(8208,.live 2 [.agg [.nil,.t (.int .i64 0)]] true true),(4096,.live 2 [.agg [.nil,.t (.int .i64 0)]] true true)] | 1=>[(8208,.live 2 [.agg [.sl 9000 0 1,.t (.int .i64 0)]] true true),(9000,.live 1 [.sl 9001 0 16] true false),(9001,.live 1 (((qCf 0:zB).map bsT).map V.t) true false),(4096,.live 2 [.agg [.nil,.t (.int .i64 0)]] true true)] | _=>[(8208,.live 2 [.agg [.sl 9000 0 2,.t (.int .i64 0)]] true true),(9000,.live 1 [.sl 9001 0 16,.sl 9002 0 16] true false),(9001,.live 1 (((qCf 0:zB).map bsT).map V.t) true false),(9002,.live 1 (((qCf 1:zB).map bsT).map V.t) true false),(4096,.live 2 [.agg [.nil,.t (.int .i64 0)]] true true)]) ?_ (fun k hk=>?_)
  ·refine qI.rd id ?_ ?_ rfl;all_goals simp(disch:=omega)only[go_sem,id]
  ·rcases (show k=0∨k=1∨k=2 by omega) with rfl | rfl | rfl
   ·simp(disch:=omega)only[go_sem,c0,c1,qK,h1,yM,yN,hf1,hf2];refine qD 16 (fun i=>[(0,.t (.int .i64 s)),(2,.ref 4096 0 0),(3,.ref 8208 0 0),(4,.t (.int .i64 0)),(5,.sl 9100 0 i),(6,.t (.int .i64 (i:Nat)))]) (fun i=>[(9100,.live 1 ((((qCf 0).take i).map bsT).map V.t) true false),(8208,.live 2 [.agg [.nil,.t (.int .i64 0)]] true true),(4096,.live 2 [.agg [.nil,.t (.int .i64 0)]] true true)]) ?_ (fun i hi=>?_)
    ·refine qI.cv0 (hv:=[(9100,.live 1 [] true false)]) (ho:=[(8208,.live 2 [.agg [.nil,.t (.int .i64 0)]] true true),(4096,.live 2 [.agg [.nil,.t (.int .i64 0)]] true true)]) id ?_ ?_ rfl rfl;all_goals simp(disch:=omega)only[go_sem,mcn,id]
    ·by_cases hlt:i<16
     ·simp(disch:=omega)only[go_sem,c0,c1,qK,h1,yM,yN,hf1,hf2];refine⟨hlt,qI.cv (hv:=[]) [49200] (fun j=>if j=9100 then 49232 else j) ?_ rfl⟩;simp(disch:=omega)only[go_sem,kI hlt,szA,List.take_replicate,Nat.min_self];rfl
     ·have e:i=16:=oM;subst e;simp(disch:=omega)only[go_sem,c0,c1,qK,h1,yM,yN,hf1,hf2];refine qI.rd (fun j=>if j=9000 then 53312 else if j=9001 then 9100 else j) ?_ ?_ rfl;all_goals simp(disch:=omega)only[go_sem,qF3]
   ·simp(disch:=omega)only[go_sem,c0,c1,qK,h1,yM,yN,hf1,hf2];refine qD 16 (fun i=>[(0,.t (.int .i64 s)),(2,.ref 4096 0 0),(3,.ref 8208 0 0),(4,.t (.int .i64 1)),(5,.sl 9100 0 i),(6,.t (.int .i64 (i:Nat)))]) (fun i=>[(9100,.live 1 ((((qCf 1).take i).map bsT).map V.t) true false),(8208,.live 2 [.agg [.sl 9000 0 1,.t (.int .i64 0)]] true true),(9000,.live 1 [.sl 9001 0 16] true false),(9001,.live 1 (((qCf 0:zB).map bsT).map V.t) true false),(4096,.live 2 [.agg [.nil,.t (.int .i64 0)]] true true)]) ?_ (fun i hi=>?_)
    ·refine qI.cv0 (hv:=[(9100,.live 1 [] true false)]) (ho:=[(8208,.live 2 [.agg [.sl 9000 0 1,.t (.int .i64 0)]] true true),(9000,.live 1 [.sl 9001 0 16] true false),(9001,.live 1 (((qCf 0:zB).map bsT).map V.t) true false),(4096,.live 2 [.agg [.nil,.t (.int .i64 0)]] true true)]) id ?_ ?_ rfl rfl;all_goals simp(disch:=omega)only[go_sem,mcn,id]
    ·by_cases hlt:i<16
     ·simp(disch:=omega)only[go_sem,c0,c1,qK,h1,yM,yN,hf1,hf2];refine⟨hlt,qI.cv (hv:=[]) [49200] (fun j=>if j=9100 then 49232 else j) ?_ rfl⟩;simp(disch:=omega)only[go_sem,kI hlt,szA,List.take_replicate,Nat.min_self];rfl
     ·have e:i=16:=oM;subst e;simp(disch:=omega)only[go_sem,c0,c1,qK,h1,yM,yN,hf1,hf2];refine qI.rd (fun j=>if j=9000 then 53312 else if j=9002 then 9100 else j) ?_ ?_ rfl;all_goals simp(disch:=omega)only[go_sem,qF3]
   ·simp(disch:=omega)only[go_sem,c0,c1,qK,h1,yM,yN,hf1,hf2];exact⟨rfl,rfl⟩
def yE:Ct where
 α:=List zB×Int×Nat
 aS x:=[.t (jN x.1 x.2.1),.t (.int .i64 x.2.2)]
 ins _:=[]
 pre x:=RK x.1∧x.2.2<1000000000
 r x:= .t (.bool (zTx x.1 x.2.2))
 outs _:=[]
 inj:=by
  rintro⟨a,u,i⟩ ⟨b,v,j⟩ h _;simp only[List.cons.injEq,V.t.injEq,T.int.injEq,true_and,and_true,Int.natCast_inj] at h;obtain⟨h1,rfl⟩:=h;obtain⟨rfl,rfl⟩:=qCb h1;exact⟨rfl,rfl⟩
theorem RK.on {bk:List zB}(h:RK bk)(a:Nat):zTx bk a=onB bk a:=by
 cases h with
 | nil=>simp[zTx,onB]
 | two b0 b1 h0 h1=>
  have key : ∀ b:zB,qTt b→decide (0<List.length b)=decide (List.length b=16):=by
   intro b hb;rcases hb with h | h<;>simp[h]
  match a with
  | 0=>simpa [zTx,onB] using key b0 h0
  | 1=>simpa [zTx,onB] using key b1 h1
  | a+2=>simp[zTx,onB]
theorem qE1 {bk:List zB}{u:Int}{a:Nat}(hk:RK bk)(h:a<1000000000):yE.fs [.t (.agg [.sl (bk.map yS),.int .i64 u]),.t (.int .i64 a)] []=some (.t (.bool (onB bk a)),[]):=by
 refine (yE.eq (bk,u,a) ⟨hk,h⟩).trans ?_;simp only[yE,hk.on]
theorem jH {b0 b1:zB}{u:Int}(hk:RK [b0,b1]):yE.fs [.t (.agg [.sl [.sl (b0.map bsT),.sl (b1.map bsT)],.int .i64 u]),.t (.int .i64 0)] []=some (.t (.bool (decide (b0.length=16))),[]):=by
 refine (yE.eq ([b0,b1],u,0) ⟨hk,by show 0<1000000000;omega⟩).trans ?_;simp only[yE,hk.on];rfl
theorem jI {b0 b1:zB}{u:Int}(hk:RK [b0,b1]):yE.fs [.t (.agg [.sl [.sl (b0.map bsT),.sl (b1.map bsT)],.int .i64 u]),.t (.int .i64 1)] []=some (.t (.bool (decide (b1.length=16))),[]):=by
 refine (yE.eq ([b0,b1],u,1) ⟨hk,by show 1<1000000000;omega⟩).trans ?_;simp only[yE,hk.on];rfl
def zNx (bk:List zB)(a i:Nat):List UInt8:=(bk.getD a []).getD i []
def jBh (bank i:Int):Prop:=bank<0∨2≤bank∨i<0∨16≤i
instance (bank i:Int):Decidable (jBh bank i):=by unfold jBh;infer_instance
def jGf (bk:List zB)(bank i:Int):V:=if jBh bank i then .tup [.nil,.t (.int .i64 1)] else if onB bk bank.toNat then .tup [.sl 0 0 (zNx bk bank.toNat i.toNat).length,.t (.int .i64 0)] else .tup [.nil,.t (.int .i64 27)]
def jGe (bk:List zB)(bank i:Int):List Ob:=if jBh bank i then [] else if onB bk bank.toNat then [.live 1 (((zNx bk bank.toNat i.toNat).map qA).map V.t) true false] else []
theorem RM.val {bk:List zB}(h:RM bk)(a i:Nat):(zNx bk a i).length<1000000000:=by
 by_cases ha:a<bk.length
 ·have e:bk.getD a []=bk[a]:=by simp[List.getD,ha]
  unfold zNx;rw[e];exact qI9 (h.2 _ (List.getElem_mem ha)) i
 ·have e:bk.getD a []=[]:=by simp[List.getD,List.getElem?_eq_none (Nat.le_of_not_lt ha)]
  unfold zNx;rw[e];simp
theorem RK.len {bk:List zB}(h:RK bk){a:Nat}(ho:onB bk a=true):a<bk.length:=by
 simp only[onB,decide_eq_true_eq] at ho;rcases Nat.lt_or_ge a bk.length with h1 | h1
 ·exact h1
 ·rw[List.getD,List.getElem?_eq_none h1] at ho;simp at ho
theorem zGn (h1:LkC tab 74 yE)(h2:LkC tab 99 qAg)(bk:List zB)(u bank i:Int)(hk:RM bk) :
  wD.1.wp tab gl (qE 0 [.t (jN bk u),.t (.int .i64 bank),.t (.int .i64 i)]) (qE 0 []) (xU [] [(6,none),(7,none)] 0 (fun r o=>r=jGf bk bank i∧o=jGe bk bank i)):=by
 by_cases hb:jBh bank i
 ·rw[jGf,jGe,if_pos hb,if_pos hb];by_cases b1:bank<0
  ·simp(disch:=omega)only[go_sem,wD,b1]
  ·by_cases b2:2≤bank
   ·simp(disch:=omega)only[go_sem,wD,b1]
   ·by_cases b3:i<0
    ·simp(disch:=omega)only[go_sem,wD,b1]
    ·have hi:16≤i:=by unfold jBh at hb;omega
     simp(disch:=omega)only[go_sem,wD,b1]
 ·rw[jGf,jGe,if_neg hb,if_neg hb];unfold jBh at hb;obtain⟨a,rfl⟩:=Int.eq_ofNat_of_zero_le (show 0≤bank by omega);obtain⟨k,rfl⟩:=Int.eq_ofNat_of_zero_le (show 0≤i by omega);have hon:=qE1 (u:=u) (a:=a) hk.1 oM;by_cases ho:onB bk a=true
  ·have hl:=hk.1.len ho;have hv:=hk.val a k;have hl2:(bk.getD a []).length=16:=by simpa [onB] using ho
   rw[ho] at hon;unfold zNx at hv;simp(disch:=omega)only[go_sem,wD,h1,h2,hon,ho,zNx,zY]
  ·have ho':onB bk a=false:=by simpa using ho
   rw[ho'] at hon;simp(disch:=omega)only[go_sem,wD,h1,h2,hon,ho']
def xN:Ct where
 α:=Int×Bool
 aS x:=[.t (.int .i64 x.1),.t (.bool x.2)]
 ins _:=[]
 pre _:=True
 r x:= .t (.int .i64 (if vA x.1 x.2=5 then -1 else vA x.1 x.2))
 outs _:=[]
 inj:=by
  rintro⟨a,b⟩ ⟨c,d⟩ h _;simp at h;obtain⟨rfl,rfl⟩:=h;exact⟨rfl,rfl⟩
theorem qFr {i:Int}{rs:Bool}:xN.fs [.t (.int .i64 i),.t (.bool rs)] []=some (.t (.int .i64 (if vA i rs=5 then -1 else vA i rs)),[]):=xN.eq (i,rs) trivial
def zR5 (loc i:Int):Int:=if loc<0∨4<loc∨i<0∨16≤i then 1 else if loc<vA i true then 13 else 0
def qWo (a:Nat)(b:zB)(i:Nat):zB:=if List.length b=16 then b.set i (List.replicate (szA a) 0) else b
def zIa (bk:List zB)(i:Nat):List zB:=match bk with
 | [b0,b1]=>[qWo 0 b0 i,qWo 1 b1 i]
 | bk=>bk
def jEq (bk:List zB)(u loc i:Int):V:=if zR5 loc i=0 then .tup [.t (jN (zIa bk i.toNat) (u+1)),.t (.int .i64 0)] else .tup [.t (jN [] 0),.t (.int .i64 (zR5 loc i))]
theorem jY {a:Nat}{b:zB}{i:Nat}:List.length (qWo a b i)=List.length b:=by
 unfold qWo;split<;>simp
theorem qUg (h1:LkC tab 235 xN)(bk:List zB)(u loc i:Int)(he:zR5 loc i≠0):jG.1.wp tab gl (qE 0 [.t (jN bk u),.t (.int .i64 loc),.t (.int .i64 i)]) (qE 0 []) (qX [(6,some (2,true)),(7,none)] 0 (fun r o=>r = .tup [.t (jN [] 0),.t (.int .i64 (zR5 loc i))]∧o=[])):=by
 unfold zR5 at he ⊢;by_cases a1:loc<0
 ·simp(disch:=omega)only[go_sem,jG,a1,List.map_nil]
 ·by_cases a2:4<loc
  ·simp(disch:=omega)only[go_sem,jG,a1,a2,List.map_nil]
  ·by_cases a3:i<0
   ·simp(disch:=omega)only[go_sem,jG,a1,a2,a3,List.map_nil]
   ·by_cases a4:16≤i
    ·simp(disch:=omega)only[go_sem,jG,a1,a2,a3,a4,List.map_nil]
    ·by_cases a5:loc<vA i true
     ·by_cases a6:vA i true=5
      ·have a8:loc<5:=oM;simp(disch:=omega)only[go_sem,jG,a1,a2,a3,a4,a6,a8,h1,qFr,List.map_nil]
      ·have a7:0≤vA i true:=by unfold vA;split<;>(try split)<;>(try split)<;>(try split)<;>omega
       simp(disch:=omega)only[go_sem,jG,a1,a2,a3,a4,a5,a6,h1,qFr,List.map_nil]
     ·simp[a1,a2,a3,a4,a5] at he
theorem zDa (h1:LkC tab 235 xN)(h3:LkC tab 79 jP)(h4:LkC tab 74 yE)(u loc i:Int)(hu:0≤u∧u<1000000000)(he:zR5 loc i=0):jG.1.wp tab gl (qE 0 [.t (jN [] u),.t (.int .i64 loc),.t (.int .i64 i)]) (qE 0 []) (qX [(6,some (2,true)),(7,none)] 0 (fun r o=>r = .tup [.t (jN [] (u+1)),.t (.int .i64 0)]∧o=[])):=by
 have c0 : ∀ a:Nat,a<2→yE.fs [.t (.agg [.sl [],.int .i64 u]),.t (.int .i64 a)] []=some (.t (.bool false),[]):=fun a ha=>(qE1 (bk:=[]) .nil oM).trans (by simp[onB])
 have c1:=c0 0 oM;have c2:=c0 1 oM;rw[show ((0:Nat):Int)=0 from rfl] at c1;rw[show ((1:Nat):Int)=1 from rfl] at c2;unfold zR5 at he;split at he
 ·omega
 ·split at he
  ·omega
  ·rename_i e1 e2;have a7:0≤vA i true:=by unfold vA;split<;>(try split)<;>(try split)<;>(try split)<;>omega
   have a6 : ¬ vA i true=5:=oM;simp(disch:=omega)only[go_sem,jG,h1,qFr,h3,qU7,List.map_nil,a6];refine qM 3 ?_;simp(disch:=omega)only[go_sem,qG,h4,c1,c2]
theorem zDb (h1:LkC tab 235 xN)(h3:LkC tab 79 jP)(h4:LkC tab 74 yE)(h5:LkC tab 98 xP)(h6:LkC tab 97 wR)(b0 b1:zB)(u loc i:Int)(hu:0≤u∧u<1000000000)(hk:RM [b0,b1])(he:zR5 loc i=0) :
  jG.1.wp tab gl (qE 0 [.t (jN [b0,b1] u),.t (.int .i64 loc),.t (.int .i64 i)]) (qE 0 []) (qX [(6,some (2,true)),(7,none)] 0 (fun r o=>r = .tup [.t (jN (zIa [b0,b1] i.toNat) (u+1)),.t (.int .i64 0)]∧o=[])):=by
 have gg:qTt b0∧qTt b1:=by
  obtain⟨hrk,_⟩:=hk;cases hrk with
  | two _ _ h0 h1=>exact⟨h0,h1⟩
 obtain⟨g0,g1⟩:=gg;unfold zR5 at he;split at he
 ·omega
 ·split at he
  ·omega
  ·rename_i e1 e2;obtain⟨n,rfl⟩:=Int.eq_ofNat_of_zero_le (show 0≤i by omega);have a7:0≤vA (n:Int) true:=by unfold vA;split<;>(try split)<;>(try split)<;>(try split)<;>omega
   have a6 : ¬ vA (n:Int) true=5:=oM;simp(disch:=omega)only[go_sem,jG,h1,qFr,h3,jK hk,mcn,a6];refine qD 2 (fun k=>match k with | 0=>[(2,.t (.int .i64 (n:Nat))),(3,.ref 4096 0 0),(6,.ref 4112 0 0),(9,.ref 28704 0 0),(10,.t (.int .i64 0))] | 1=>[(2,.t (.int .i64 (n:Nat))),(3,.ref 4096 0 0),(6,.ref 4112 0 0),(9,.ref 28704 0 0),(10,.t (.int .i64 1))] | _=>[(2,.t (.int .i64 (n:Nat))),(3,.ref 4096 0 0),(6,.ref 4112 0 0),(9,.ref 28704 0 0),(10,.t (.int .i64 2))]) (fun k=>match k with | 0=>[(28704,.live 2 [.agg [.sl 28688 0 2,.t (.int .i64 u)]] true true),(28690,.live 1 (((b1).map bsT).map V.t) true false),(28689,.live 1 (((b0).map bsT).map V.t) true false),(28688,.live 1 [.sl 28689 0 (List.length b0),.sl 28690 0 (List.length b1)] true false),(4112,.live 2 [.agg [.nil,.t (.int .i64 0)]] true true),(4096,.live 2 [.t (jN [b0,b1] u)] true true)] | 1=>[(28704,.live 2 [.agg [.sl 28688 0 2,.t (.int .i64 u)]] true true),(28690,.live 1 (((b1).map bsT).map V.t) true false),(28689,.live 1 (((qWo 0 b0 n).map bsT).map V.t) true false),(28688,.live 1 [.sl 28689 0 (List.length b0),.sl 28690 0 (List.length b1)] true false),(4112,.live 2 [.agg [.nil,.t (.int .i64 0)]] true true),(4096,.live 2 [.t (jN [b0,b1] u)] true true)] | _=>[(28704,.live 2 [.agg [.sl 28688 0 2,.t (.int .i64 u)]] true true),(28690,.live 1 (((qWo 1 b1 n).map bsT).map V.t) true false),(28689,.live 1 (((qWo 0 b0 n).map bsT).map V.t) true false),(28688,.live 1 [.sl 28689 0 (List.length b0),.sl 28690 0 (List.length b1)] true false),(4112,.live 2 [.agg [.nil,.t (.int .i64 0)]] true true),(4096,.live 2 [.t (jN [b0,b1] u)] true true)]) ?_ (fun k hk2=>?_)
   ·refine qI.rd id ?_ ?_ rfl;all_goals simp(disch:=omega)only[go_sem,id]
   ·rcases (show k=0∨k=1∨k=2 by omega) with rfl | rfl | rfl
    ·rcases g0 with z0 | z0
     ·simp(disch:=omega)only[go_sem,z0,h5,h6,qQ,qR,zL,zM,h4,jH hk.1,jI hk.1,jY];refine qI.rd id ?_ ?_ rfl;all_goals simp(disch:=omega)only[go_sem,id,qWo,z0,jY]
     ·simp(disch:=omega)only[go_sem,z0,h5,h6,qQ,qR,zL,zM,h4,jH hk.1,jI hk.1,jY];repeat refine And.intro rfl ?_
      refine qI.cv (hv:=[]) [49280] id ?_ rfl;simp(maxSteps:=9^9)(disch:=try exact dS)only[go_sem,id,qWo,z0,List.take_replicate,Nat.min_self,jY,szA];all_goals rfl
    ·rcases g1 with z1 | z1
     ·simp(disch:=omega)only[go_sem,z1,h5,h6,qQ,qR,zL,zM,h4,jH hk.1,jI hk.1,jY];refine qI.rd id ?_ ?_ rfl;all_goals simp(disch:=omega)only[go_sem,id,qWo,z1,jY]
     ·simp(disch:=omega)only[go_sem,z1,h5,h6,qQ,qR,zL,zM,h4,jH hk.1,jI hk.1,jY];repeat refine And.intro rfl ?_
      refine qI.cv (hv:=[]) [49280] id ?_ rfl;simp(maxSteps:=9^9)(disch:=try exact dS)only[go_sem,id,qWo,z1,List.take_replicate,Nat.min_self,jY,szA];all_goals rfl
    ·have t0:List.take (List.length b0) (qWo 0 b0 n)=qWo 0 b0 n:=List.take_of_length_le (by rw[jY];exact Nat.le_refl _);have t1:List.take (List.length b1) (qWo 1 b1 n)=qWo 1 b1 n:=List.take_of_length_le (by rw[jY];exact Nat.le_refl _);simp(disch:=omega)only[go_sem,jY,t0,t1];rfl
def qMd (l0 l1:Nat)(loc i:Int)(nd k0 k1:Nat):Int:=
 if loc<0∨4<loc∨i<0∨16≤i∨nd≠2 then 1 else if loc<vA i false then 13
 else if (l0≠16∧0<k0)∨(l1≠16∧0<k1) then 27 else if (l0=16∧k0≠20)∨(l1=16∧k1≠32) then 24 else 0
def qDc (a:Nat)(b:zB)(i:Nat)(d:List UInt8):zB:=if List.length b=16 then b.set i (zT1 a (b.getD i []++d)) else b
theorem zC {a:Nat}{b:zB}{i:Nat}{d:List UInt8}:List.length (qDc a b i d)=List.length b:=by
 unfold qDc;split<;>simp
def qSf (bk:List zB)(i:Nat)(ds:List (List UInt8)):List zB:=match bk with
 | [b0,b1]=>[qDc 0 b0 i (ds.getD 0 []),qDc 1 b1 i (ds.getD 1 [])]
 | bk=>bk
def qMe (bk:List zB)(loc i:Int)(ds:List (List UInt8)):Int:=qMd (bk.getD 0 []).length (bk.getD 1 []).length loc i ds.length (ds.getD 0 []).length (ds.getD 1 []).length
def qTf (bk:List zB)(u loc i:Int)(ds:List (List UInt8)):V:=
 if qMd (bk.getD 0 []).length (bk.getD 1 []).length loc i ds.length (ds.getD 0 []).length (ds.getD 1 []).length=0 then .tup [.t (jN (qSf bk i.toNat ds) (u+1)),.t (.int .i64 0)]
 else .tup [.t (jN [] 0),.t (.int .i64 (qMd (bk.getD 0 []).length (bk.getD 1 []).length loc i ds.length (ds.getD 0 []).length (ds.getD 1 []).length))]
theorem zS9 {x:List UInt8}:zT1 0 x=zBq x:=rfl
theorem zTa {x:List UInt8}:zT1 1 x=yK x:=rfl
theorem qDa {x:List UInt8}:List.take 20 (zBq x)=zBq x:=List.take_of_length_le (by rw[yY];exact Nat.le_refl _)
theorem xV {x:List UInt8}:List.take 32 (yK x)=yK x:=List.take_of_length_le (by rw[qS];exact Nat.le_refl _)
theorem qZb (h2:LkC tab 235 xN)(h3:LkC tab 74 yE)(h4:LkC tab 98 xP)(h5:LkC tab 79 jP)(h7:LkC tab 99 qAg)(h6:LkC tab 236 qGz)
  (b0 b1:zB) (u loc:Int) (n:Nat) (d0 d1:List UInt8) (hu:0≤u∧u<1000000000) (hk:RM [b0,b1]) (hv0:(b0.getD n []).length≤64) (hv1:(b1.getD n []).length≤64) (hd:d0.length<9223372036854775808∧d1.length<9223372036854775808) (e1 : ¬(loc<0∨4<loc∨16≤n)) (e2 : ¬ loc<vA n false) :
  jD.1.wp tab gl (qE 0 [.t (jN [b0,b1] u),.t (.int .i64 loc),.t (.int .i64 n),.t (.sl [bsT d0,bsT d1])]) (qE 0 []) (qX [(8,some (2,true)),(9,none)] 0 (fun r o=>r=qTf [b0,b1] u loc n [d0,d1]∧o=[])):=by
 have gg:qTt b0∧qTt b1:=by
  obtain⟨hrk,_⟩:=hk;cases hrk with
  | two _ _ h0 h1=>exact⟨h0,h1⟩
 obtain⟨g0,g1⟩:=gg;have a6 : ¬ vA (n:Int) false=5:=by unfold vA;split<;>(try split)<;>(try split)<;>simp_all
 simp(disch:=omega)only[go_sem,jD,h2,qFr,a6,mcn];refine qBl (fs':=[(2,.t (.int .i64 (n:Nat))),(3,.t (.sl [bsT d0,bsT d1])),(4,.ref 4096 0 0),(8,.ref 4112 0 0),(10,.t (.int .i64 0))]) (hs':=[(4112,.live 2 [.agg [.nil,.t (.int .i64 0)]] true true),(4096,.live 2 [.t (jN [b0,b1] u)] true true)]) (qI.rd id ?_ ?_ rfl) ?_
 ·simp(disch:=omega)only[go_sem,id]
 ·simp(disch:=omega)only[go_sem,id]
 rcases g0 with z0 | z0<;>rcases g1 with z1 | z1
 ·have zz:True:=trivial;by_cases p2:0<d0.length
  ·have zz:True:=trivial;have hE:qMd 0 0 loc n 2 d0.length d1.length=27:=by unfold qMd;rw[if_neg oM,if_neg oM,if_pos oM]
   refine qM 3 ?_;simp(disch:=omega)only[go_sem,qG,h3,jH hk.1,jI hk.1,h4,qQ,qR,h5,jK hk,h7,zY,h6,zO,zN,z0,z1,hE,List.map_nil,qTf,qMe,List.getD_cons_zero,List.getD_cons_succ,List.length_cons,List.length_nil];all_goals repeat refine And.intro rfl ?_
   all_goals rfl
  ·have zz:True:=trivial;by_cases p1:0<d1.length
   ·have zz:True:=trivial;have hE:qMd 0 0 loc n 2 d0.length d1.length=27:=by unfold qMd;rw[if_neg oM,if_neg oM,if_pos oM]
    refine qM 3 ?_;simp(disch:=omega)only[go_sem,qG,h3,jH hk.1,jI hk.1,h4,qQ,qR,h5,jK hk,h7,zY,h6,zO,zN,z0,z1,hE,List.map_nil,qTf,qMe,List.getD_cons_zero,List.getD_cons_succ,List.length_cons,List.length_nil];all_goals repeat refine And.intro rfl ?_
    all_goals rfl
   ·have zz:True:=trivial;refine qM 3 ?_;simp(disch:=omega)only[go_sem,qG,h3,jH hk.1,jI hk.1,h4,qQ,qR,h5,jK hk,h7,zY,h6,zO,zN,z0,z1];all_goals repeat refine And.intro rfl ?_
    refine qBl (fs':=[(2,.t (.int .i64 (n:Nat))),(3,.t (.sl [bsT d0,bsT d1])),(4,.ref 4096 0 0),(8,.ref 4112 0 0),(11,.t (.int .i64 0))]) (hs':=[(4112,.live 2 [.agg [.nil,.t (.int .i64 0)]] true true),(4096,.live 2 [.t (jN [b0,b1] u)] true true)]) (qI.rd id ?_ ?_ rfl) ?_
    ·simp(disch:=omega)only[go_sem,id]
    ·simp(disch:=omega)only[go_sem,id]
    have hE:qMd 0 0 loc n 2 d0.length d1.length=0:=by unfold qMd;rw[if_neg oM,if_neg oM,if_neg oM,if_neg oM]
    refine qM 3 ?_;simp(disch:=omega)only[go_sem,qG,h3,jH hk.1,jI hk.1,h4,qQ,qR,h5,jK hk,h7,zY,h6,zO,zN,z0,z1];all_goals repeat refine And.intro rfl ?_
    refine qD 2 (fun k=>match k with | 0=>[(2,.t (.int .i64 (n:Nat))),(3,.t (.sl [bsT d0,bsT d1])),(4,.ref 4096 0 0),(8,.ref 4112 0 0),(12,.ref 65568 0 0),(13,.t (.int .i64 0))] | 1=>[(2,.t (.int .i64 (n:Nat))),(3,.t (.sl [bsT d0,bsT d1])),(4,.ref 4096 0 0),(8,.ref 4112 0 0),(12,.ref 65568 0 0),(13,.t (.int .i64 1))] | _=>[(2,.t (.int .i64 (n:Nat))),(3,.t (.sl [bsT d0,bsT d1])),(4,.ref 4096 0 0),(8,.ref 4112 0 0),(12,.ref 65568 0 0),(13,.t (.int .i64 2))]) (fun k=>match k with | 0=>[(65568,.live 2 [.agg [.sl 65552 0 2,.t (.int .i64 u)]] true true),(65554,.live 1 (((b1).map bsT).map V.t) true false),(65553,.live 1 (((b0).map bsT).map V.t) true false),(65552,.live 1 [.sl 65553 0 0,.sl 65554 0 0] true false),(4112,.live 2 [.agg [.nil,.t (.int .i64 0)]] true true),(4096,.live 2 [.t (jN [b0,b1] u)] true true)] | 1=>[(65568,.live 2 [.agg [.sl 65552 0 2,.t (.int .i64 u)]] true true),(65554,.live 1 (((b1).map bsT).map V.t) true false),(65553,.live 1 (((qDc 0 b0 n d0).map bsT).map V.t) true false),(65552,.live 1 [.sl 65553 0 0,.sl 65554 0 0] true false),(4112,.live 2 [.agg [.nil,.t (.int .i64 0)]] true true),(4096,.live 2 [.t (jN [b0,b1] u)] true true)] | _=>[(65568,.live 2 [.agg [.sl 65552 0 2,.t (.int .i64 u)]] true true),(65554,.live 1 (((qDc 1 b1 n d1).map bsT).map V.t) true false),(65553,.live 1 (((qDc 0 b0 n d0).map bsT).map V.t) true false),(65552,.live 1 [.sl 65553 0 0,.sl 65554 0 0] true false),(4112,.live 2 [.agg [.nil,.t (.int .i64 0)]] true true),(4096,.live 2 [.t (jN [b0,b1] u)] true true)]) ?_ (fun k hk2=>?_)
    ·refine qI.rd id ?_ ?_ rfl;all_goals simp(disch:=omega)only[go_sem,id,z0,z1]
    ·rcases (show k=0∨k=1∨k=2 by omega) with rfl | rfl | rfl
     ·have q:=List.take_of_length_le (show (b0.getD n []++d0).length≤(List.getD b0 n []).length+d0.length by rw[List.length_append];exact Nat.le_refl _);simp(disch:=omega)only[go_sem,h3,jH hk.1,jI hk.1,h4,qQ,qR,h5,jK hk,h7,zY,h6,zO,zN,z0,z1,zC,q];refine qI.rd id ?_ ?_ rfl;all_goals simp(disch:=omega)only[go_sem,id,qDc,z0,z1]
     ·have q:=List.take_of_length_le (show (b1.getD n []++d1).length≤(List.getD b1 n []).length+d1.length by rw[List.length_append];exact Nat.le_refl _);simp(disch:=omega)only[go_sem,h3,jH hk.1,jI hk.1,h4,qQ,qR,h5,jK hk,h7,zY,h6,zO,zN,z0,z1,zC,q];refine qI.rd id ?_ ?_ rfl;all_goals simp(disch:=omega)only[go_sem,id,qDc,z0,z1]
     ·have t0:List.take 0 (qDc 0 b0 n d0)=qDc 0 b0 n d0:=List.take_of_length_le (by rw[zC,z0];exact Nat.le_refl _);have t1:List.take 0 (qDc 1 b1 n d1)=qDc 1 b1 n d1:=List.take_of_length_le (by rw[zC,z1];exact Nat.le_refl _);have y0:qDc 0 b0 n d0=[]:=List.eq_nil_of_length_eq_zero (by rw[zC,z0]);have y1:qDc 1 b1 n d1=[]:=List.eq_nil_of_length_eq_zero (by rw[zC,z1]);simp(disch:=omega)only[go_sem,zC,t0,t1,z0,z1,hE,qSf,Int.toNat_natCast,mcn,y0,y1,qTf,qMe,List.getD_cons_zero,List.getD_cons_succ,List.length_cons,List.length_nil]
 ·have zz:True:=trivial;by_cases p1:0<d0.length
  ·have zz:True:=trivial;have hE:qMd 0 16 loc n 2 d0.length d1.length=27:=by unfold qMd;rw[if_neg oM,if_neg oM,if_pos oM]
   refine qM 3 ?_;simp(disch:=omega)only[go_sem,qG,h3,jH hk.1,jI hk.1,h4,qQ,qR,h5,jK hk,h7,zY,h6,zO,zN,z0,z1,hE,List.map_nil,qTf,qMe,List.getD_cons_zero,List.getD_cons_succ,List.length_cons,List.length_nil];all_goals repeat refine And.intro rfl ?_
   all_goals rfl
  ·have zz:True:=trivial;refine qM 3 ?_;simp(disch:=omega)only[go_sem,qG,h3,jH hk.1,jI hk.1,h4,qQ,qR,h5,jK hk,h7,zY,h6,zO,zN,z0,z1];all_goals repeat refine And.intro rfl ?_
   refine qBl (fs':=[(2,.t (.int .i64 (n:Nat))),(3,.t (.sl [bsT d0,bsT d1])),(4,.ref 4096 0 0),(8,.ref 4112 0 0),(11,.t (.int .i64 0))]) (hs':=[(4112,.live 2 [.agg [.nil,.t (.int .i64 0)]] true true),(4096,.live 2 [.t (jN [b0,b1] u)] true true)]) (qI.rd id ?_ ?_ rfl) ?_
   ·simp(disch:=omega)only[go_sem,id]
   ·simp(disch:=omega)only[go_sem,id]
   by_cases q1:d1.length≠32
   ·have zz:True:=trivial;have hE:qMd 0 16 loc n 2 d0.length d1.length=24:=by unfold qMd;rw[if_neg oM,if_neg oM,if_neg oM,if_pos oM]
    refine qM 3 ?_;simp(disch:=omega)only[go_sem,qG,h3,jH hk.1,jI hk.1,h4,qQ,qR,h5,jK hk,h7,zY,h6,zO,zN,z0,z1,hE,List.map_nil,qTf,qMe,List.getD_cons_zero,List.getD_cons_succ,List.length_cons,List.length_nil];all_goals repeat refine And.intro rfl ?_
    all_goals rfl
   ·have zz:True:=trivial;have hE:qMd 0 16 loc n 2 d0.length d1.length=0:=by unfold qMd;rw[if_neg oM,if_neg oM,if_neg oM,if_neg oM]
    refine qM 3 ?_;simp(disch:=omega)only[go_sem,qG,h3,jH hk.1,jI hk.1,h4,qQ,qR,h5,jK hk,h7,zY,h6,zO,zN,z0,z1];all_goals repeat refine And.intro rfl ?_
    refine qD 2 (fun k=>match k with | 0=>[(2,.t (.int .i64 (n:Nat))),(3,.t (.sl [bsT d0,bsT d1])),(4,.ref 4096 0 0),(8,.ref 4112 0 0),(12,.ref 65568 0 0),(13,.t (.int .i64 0))] | 1=>[(2,.t (.int .i64 (n:Nat))),(3,.t (.sl [bsT d0,bsT d1])),(4,.ref 4096 0 0),(8,.ref 4112 0 0),(12,.ref 65568 0 0),(13,.t (.int .i64 1))] | _=>[(2,.t (.int .i64 (n:Nat))),(3,.t (.sl [bsT d0,bsT d1])),(4,.ref 4096 0 0),(8,.ref 4112 0 0),(12,.ref 65568 0 0),(13,.t (.int .i64 2))]) (fun k=>match k with | 0=>[(65568,.live 2 [.agg [.sl 65552 0 2,.t (.int .i64 u)]] true true),(65554,.live 1 (((b1).map bsT).map V.t) true false),(65553,.live 1 (((b0).map bsT).map V.t) true false),(65552,.live 1 [.sl 65553 0 0,.sl 65554 0 16] true false),(4112,.live 2 [.agg [.nil,.t (.int .i64 0)]] true true),(4096,.live 2 [.t (jN [b0,b1] u)] true true)] | 1=>[(65568,.live 2 [.agg [.sl 65552 0 2,.t (.int .i64 u)]] true true),(65554,.live 1 (((b1).map bsT).map V.t) true false),(65553,.live 1 (((qDc 0 b0 n d0).map bsT).map V.t) true false),(65552,.live 1 [.sl 65553 0 0,.sl 65554 0 16] true false),(4112,.live 2 [.agg [.nil,.t (.int .i64 0)]] true true),(4096,.live 2 [.t (jN [b0,b1] u)] true true)] | _=>[(65568,.live 2 [.agg [.sl 65552 0 2,.t (.int .i64 u)]] true true),(65554,.live 1 (((qDc 1 b1 n d1).map bsT).map V.t) true false),(65553,.live 1 (((qDc 0 b0 n d0).map bsT).map V.t) true false),(65552,.live 1 [.sl 65553 0 0,.sl 65554 0 16] true false),(4112,.live 2 [.agg [.nil,.t (.int .i64 0)]] true true),(4096,.live 2 [.t (jN [b0,b1] u)] true true)]) ?_ (fun k hk2=>?_)
    ·refine qI.rd id ?_ ?_ rfl;all_goals simp(disch:=omega)only[go_sem,id,z0,z1]
    ·rcases (show k=0∨k=1∨k=2 by omega) with rfl | rfl | rfl
     ·have q:=List.take_of_length_le (show (b0.getD n []++d0).length≤(List.getD b0 n []).length+d0.length by rw[List.length_append];exact Nat.le_refl _);simp(disch:=omega)only[go_sem,h3,jH hk.1,jI hk.1,h4,qQ,qR,h5,jK hk,h7,zY,h6,zO,zN,z0,z1,zC,q];refine qI.rd id ?_ ?_ rfl;all_goals simp(disch:=omega)only[go_sem,id,qDc,z0,z1]
     ·have q:=List.take_of_length_le (show (b1.getD n []++d1).length≤(List.getD b1 n []).length+d1.length by rw[List.length_append];exact Nat.le_refl _);simp(maxSteps:=9^9)(disch:=try exact dS)only[go_sem,h3,jH hk.1,jI hk.1,h4,qQ,qR,h5,jK hk,h7,zY,h6,zO,zN,z0,z1,zC,q];repeat refine And.intro rfl ?_
      refine qI.cv (hv:=[]) [86352] id ?_ rfl;simp(maxSteps:=9^9)(disch:=try exact dS)only[go_sem,id,qDc,z0,z1,qDa,xV,zS9,zTa,yY,qS];all_goals rfl
     ·have t0:List.take 0 (qDc 0 b0 n d0)=qDc 0 b0 n d0:=List.take_of_length_le (by rw[zC,z0];exact Nat.le_refl _);have t1:List.take 16 (qDc 1 b1 n d1)=qDc 1 b1 n d1:=List.take_of_length_le (by rw[zC,z1];exact Nat.le_refl _);have y0:qDc 0 b0 n d0=[]:=List.eq_nil_of_length_eq_zero (by rw[zC,z0]);simp(disch:=omega)only[go_sem,zC,t0,t1,z0,z1,hE,qSf,Int.toNat_natCast,mcn,y0,qTf,qMe,List.getD_cons_zero,List.getD_cons_succ,List.length_cons,List.length_nil]
 ·have zz:True:=trivial;by_cases p1:0<d1.length
  ·have zz:True:=trivial;have hE:qMd 16 0 loc n 2 d0.length d1.length=27:=by unfold qMd;rw[if_neg oM,if_neg oM,if_pos oM]
   refine qM 3 ?_;simp(disch:=omega)only[go_sem,qG,h3,jH hk.1,jI hk.1,h4,qQ,qR,h5,jK hk,h7,zY,h6,zO,zN,z0,z1,hE,List.map_nil,qTf,qMe,List.getD_cons_zero,List.getD_cons_succ,List.length_cons,List.length_nil];all_goals repeat refine And.intro rfl ?_
   all_goals rfl
  ·have zz:True:=trivial;refine qM 3 ?_;simp(disch:=omega)only[go_sem,qG,h3,jH hk.1,jI hk.1,h4,qQ,qR,h5,jK hk,h7,zY,h6,zO,zN,z0,z1];all_goals repeat refine And.intro rfl ?_
   refine qBl (fs':=[(2,.t (.int .i64 (n:Nat))),(3,.t (.sl [bsT d0,bsT d1])),(4,.ref 4096 0 0),(8,.ref 4112 0 0),(11,.t (.int .i64 0))]) (hs':=[(4112,.live 2 [.agg [.nil,.t (.int .i64 0)]] true true),(4096,.live 2 [.t (jN [b0,b1] u)] true true)]) (qI.rd id ?_ ?_ rfl) ?_
   ·simp(disch:=omega)only[go_sem,id]
   ·simp(disch:=omega)only[go_sem,id]
   by_cases q1:d0.length≠20
   ·have zz:True:=trivial;have hE:qMd 16 0 loc n 2 d0.length d1.length=24:=by unfold qMd;rw[if_neg oM,if_neg oM,if_neg oM,if_pos oM]
    refine qM 3 ?_;simp(disch:=omega)only[go_sem,qG,h3,jH hk.1,jI hk.1,h4,qQ,qR,h5,jK hk,h7,zY,h6,zO,zN,z0,z1,hE,List.map_nil,qTf,qMe,List.getD_cons_zero,List.getD_cons_succ,List.length_cons,List.length_nil];all_goals repeat refine And.intro rfl ?_
    all_goals rfl
   ·have zz:True:=trivial;have hE:qMd 16 0 loc n 2 d0.length d1.length=0:=by unfold qMd;rw[if_neg oM,if_neg oM,if_neg oM,if_neg oM]
    refine qM 3 ?_;simp(disch:=omega)only[go_sem,qG,h3,jH hk.1,jI hk.1,h4,qQ,qR,h5,jK hk,h7,zY,h6,zO,zN,z0,z1];all_goals repeat refine And.intro rfl ?_
    refine qD 2 (fun k=>match k with | 0=>[(2,.t (.int .i64 (n:Nat))),(3,.t (.sl [bsT d0,bsT d1])),(4,.ref 4096 0 0),(8,.ref 4112 0 0),(12,.ref 65568 0 0),(13,.t (.int .i64 0))] | 1=>[(2,.t (.int .i64 (n:Nat))),(3,.t (.sl [bsT d0,bsT d1])),(4,.ref 4096 0 0),(8,.ref 4112 0 0),(12,.ref 65568 0 0),(13,.t (.int .i64 1))] | _=>[(2,.t (.int .i64 (n:Nat))),(3,.t (.sl [bsT d0,bsT d1])),(4,.ref 4096 0 0),(8,.ref 4112 0 0),(12,.ref 65568 0 0),(13,.t (.int .i64 2))]) (fun k=>match k with | 0=>[(65568,.live 2 [.agg [.sl 65552 0 2,.t (.int .i64 u)]] true true),(65554,.live 1 (((b1).map bsT).map V.t) true false),(65553,.live 1 (((b0).map bsT).map V.t) true false),(65552,.live 1 [.sl 65553 0 16,.sl 65554 0 0] true false),(4112,.live 2 [.agg [.nil,.t (.int .i64 0)]] true true),(4096,.live 2 [.t (jN [b0,b1] u)] true true)] | 1=>[(65568,.live 2 [.agg [.sl 65552 0 2,.t (.int .i64 u)]] true true),(65554,.live 1 (((b1).map bsT).map V.t) true false),(65553,.live 1 (((qDc 0 b0 n d0).map bsT).map V.t) true false),(65552,.live 1 [.sl 65553 0 16,.sl 65554 0 0] true false),(4112,.live 2 [.agg [.nil,.t (.int .i64 0)]] true true),(4096,.live 2 [.t (jN [b0,b1] u)] true true)] | _=>[(65568,.live 2 [.agg [.sl 65552 0 2,.t (.int .i64 u)]] true true),(65554,.live 1 (((qDc 1 b1 n d1).map bsT).map V.t) true false),(65553,.live 1 (((qDc 0 b0 n d0).map bsT).map V.t) true false),(65552,.live 1 [.sl 65553 0 16,.sl 65554 0 0] true false),(4112,.live 2 [.agg [.nil,.t (.int .i64 0)]] true true),(4096,.live 2 [.t (jN [b0,b1] u)] true true)]) ?_ (fun k hk2=>?_)
    ·refine qI.rd id ?_ ?_ rfl;all_goals simp(disch:=omega)only[go_sem,id,z0,z1]
    ·rcases (show k=0∨k=1∨k=2 by omega) with rfl | rfl | rfl
     ·have q:=List.take_of_length_le (show (b0.getD n []++d0).length≤(List.getD b0 n []).length+d0.length by rw[List.length_append];exact Nat.le_refl _);simp(maxSteps:=9^9)(disch:=try exact dS)only[go_sem,h3,jH hk.1,jI hk.1,h4,qQ,qR,h5,jK hk,h7,zY,h6,zO,zN,z0,z1,zC,q];repeat refine And.intro rfl ?_
      refine qI.cv (hv:=[]) [86352] id ?_ rfl;simp(maxSteps:=9^9)(disch:=try exact dS)only[go_sem,id,qDc,z0,z1,qDa,xV,zS9,zTa,yY,qS];all_goals rfl
     ·have q:=List.take_of_length_le (show (b1.getD n []++d1).length≤(List.getD b1 n []).length+d1.length by rw[List.length_append];exact Nat.le_refl _);simp(disch:=omega)only[go_sem,h3,jH hk.1,jI hk.1,h4,qQ,qR,h5,jK hk,h7,zY,h6,zO,zN,z0,z1,zC,q];refine qI.rd id ?_ ?_ rfl;all_goals simp(disch:=omega)only[go_sem,id,qDc,z0,z1]
     ·have t0:List.take 16 (qDc 0 b0 n d0)=qDc 0 b0 n d0:=List.take_of_length_le (by rw[zC,z0];exact Nat.le_refl _);have t1:List.take 0 (qDc 1 b1 n d1)=qDc 1 b1 n d1:=List.take_of_length_le (by rw[zC,z1];exact Nat.le_refl _);have y1:qDc 1 b1 n d1=[]:=List.eq_nil_of_length_eq_zero (by rw[zC,z1]);simp(disch:=omega)only[go_sem,zC,t0,t1,z0,z1,hE,qSf,Int.toNat_natCast,mcn,y1,qTf,qMe,List.getD_cons_zero,List.getD_cons_succ,List.length_cons,List.length_nil]
 ·have zz:True:=trivial;refine qM 3 ?_;simp(disch:=omega)only[go_sem,qG,h3,jH hk.1,jI hk.1,h4,qQ,qR,h5,jK hk,h7,zY,h6,zO,zN,z0,z1];all_goals repeat refine And.intro rfl ?_
  refine qBl (fs':=[(2,.t (.int .i64 (n:Nat))),(3,.t (.sl [bsT d0,bsT d1])),(4,.ref 4096 0 0),(8,.ref 4112 0 0),(11,.t (.int .i64 0))]) (hs':=[(4112,.live 2 [.agg [.nil,.t (.int .i64 0)]] true true),(4096,.live 2 [.t (jN [b0,b1] u)] true true)]) (qI.rd id ?_ ?_ rfl) ?_
  ·simp(disch:=omega)only[go_sem,id]
  ·simp(disch:=omega)only[go_sem,id]
  by_cases q2:d0.length≠20
  ·have zz:True:=trivial;have hE:qMd 16 16 loc n 2 d0.length d1.length=24:=by unfold qMd;rw[if_neg oM,if_neg oM,if_neg oM,if_pos oM]
   refine qM 3 ?_;simp(disch:=omega)only[go_sem,qG,h3,jH hk.1,jI hk.1,h4,qQ,qR,h5,jK hk,h7,zY,h6,zO,zN,z0,z1,hE,List.map_nil,qTf,qMe,List.getD_cons_zero,List.getD_cons_succ,List.length_cons,List.length_nil];all_goals repeat refine And.intro rfl ?_
   all_goals rfl
  ·have zz:True:=trivial;by_cases q1:d1.length≠32
   ·have zz:True:=trivial;have hE:qMd 16 16 loc n 2 d0.length d1.length=24:=by unfold qMd;rw[if_neg oM,if_neg oM,if_neg oM,if_pos oM]
    refine qM 3 ?_;simp(disch:=omega)only[go_sem,qG,h3,jH hk.1,jI hk.1,h4,qQ,qR,h5,jK hk,h7,zY,h6,zO,zN,z0,z1,hE,List.map_nil,qTf,qMe,List.getD_cons_zero,List.getD_cons_succ,List.length_cons,List.length_nil];all_goals repeat refine And.intro rfl ?_
    all_goals rfl
   ·have zz:True:=trivial;have hE:qMd 16 16 loc n 2 d0.length d1.length=0:=by unfold qMd;rw[if_neg oM,if_neg oM,if_neg oM,if_neg oM]
    refine qM 3 ?_;simp(disch:=omega)only[go_sem,qG,h3,jH hk.1,jI hk.1,h4,qQ,qR,h5,jK hk,h7,zY,h6,zO,zN,z0,z1];all_goals repeat refine And.intro rfl ?_
    refine qD 2 (fun k=>match k with | 0=>[(2,.t (.int .i64 (n:Nat))),(3,.t (.sl [bsT d0,bsT d1])),(4,.ref 4096 0 0),(8,.ref 4112 0 0),(12,.ref 65568 0 0),(13,.t (.int .i64 0))] | 1=>[(2,.t (.int .i64 (n:Nat))),(3,.t (.sl [bsT d0,bsT d1])),(4,.ref 4096 0 0),(8,.ref 4112 0 0),(12,.ref 65568 0 0),(13,.t (.int .i64 1))] | _=>[(2,.t (.int .i64 (n:Nat))),(3,.t (.sl [bsT d0,bsT d1])),(4,.ref 4096 0 0),(8,.ref 4112 0 0),(12,.ref 65568 0 0),(13,.t (.int .i64 2))]) (fun k=>match k with | 0=>[(65568,.live 2 [.agg [.sl 65552 0 2,.t (.int .i64 u)]] true true),(65554,.live 1 (((b1).map bsT).map V.t) true false),(65553,.live 1 (((b0).map bsT).map V.t) true false),(65552,.live 1 [.sl 65553 0 16,.sl 65554 0 16] true false),(4112,.live 2 [.agg [.nil,.t (.int .i64 0)]] true true),(4096,.live 2 [.t (jN [b0,b1] u)] true true)] | 1=>[(65568,.live 2 [.agg [.sl 65552 0 2,.t (.int .i64 u)]] true true),(65554,.live 1 (((b1).map bsT).map V.t) true false),(65553,.live 1 (((qDc 0 b0 n d0).map bsT).map V.t) true false),(65552,.live 1 [.sl 65553 0 16,.sl 65554 0 16] true false),(4112,.live 2 [.agg [.nil,.t (.int .i64 0)]] true true),(4096,.live 2 [.t (jN [b0,b1] u)] true true)] | _=>[(65568,.live 2 [.agg [.sl 65552 0 2,.t (.int .i64 u)]] true true),(65554,.live 1 (((qDc 1 b1 n d1).map bsT).map V.t) true false),(65553,.live 1 (((qDc 0 b0 n d0).map bsT).map V.t) true false),(65552,.live 1 [.sl 65553 0 16,.sl 65554 0 16] true false),(4112,.live 2 [.agg [.nil,.t (.int .i64 0)]] true true),(4096,.live 2 [.t (jN [b0,b1] u)] true true)]) ?_ (fun k hk2=>?_)
    ·refine qI.rd id ?_ ?_ rfl;all_goals simp(disch:=omega)only[go_sem,id,z0,z1]
    ·rcases (show k=0∨k=1∨k=2 by omega) with rfl | rfl | rfl
     ·have q:=List.take_of_length_le (show (b0.getD n []++d0).length≤(List.getD b0 n []).length+d0.length by rw[List.length_append];exact Nat.le_refl _);simp(maxSteps:=9^9)(disch:=try exact dS)only[go_sem,h3,jH hk.1,jI hk.1,h4,qQ,qR,h5,jK hk,h7,zY,h6,zO,zN,z0,z1,zC,q];repeat refine And.intro rfl ?_
      refine qI.cv (hv:=[]) [86352] id ?_ rfl;simp(maxSteps:=9^9)(disch:=try exact dS)only[go_sem,id,qDc,z0,z1,qDa,xV,zS9,zTa,yY,qS];all_goals rfl
     ·have q:=List.take_of_length_le (show (b1.getD n []++d1).length≤(List.getD b1 n []).length+d1.length by rw[List.length_append];exact Nat.le_refl _);simp(maxSteps:=9^9)(disch:=try exact dS)only[go_sem,h3,jH hk.1,jI hk.1,h4,qQ,qR,h5,jK hk,h7,zY,h6,zO,zN,z0,z1,zC,q];repeat refine And.intro rfl ?_
      refine qI.cv (hv:=[]) [86352] id ?_ rfl;simp(maxSteps:=9^9)(disch:=try exact dS)only[go_sem,id,qDc,z0,z1,qDa,xV,zS9,zTa,yY,qS];all_goals rfl
     ·have t0:List.take 16 (qDc 0 b0 n d0)=qDc 0 b0 n d0:=List.take_of_length_le (by rw[zC,z0];exact Nat.le_refl _);have t1:List.take 16 (qDc 1 b1 n d1)=qDc 1 b1 n d1:=List.take_of_length_le (by rw[zC,z1];exact Nat.le_refl _);simp(disch:=omega)only[go_sem,zC,t0,t1,z0,z1,hE,qSf,Int.toNat_natCast,mcn,qTf,qMe,List.getD_cons_zero,List.getD_cons_succ,List.length_cons,List.length_nil]
end Go.Eng
end
