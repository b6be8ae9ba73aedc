/- A part of an abstract machine, its walks, their tie. -/
import Derived.Test.YtekghmfbgbhobaaGreatDoorS24
import Derived.Test.YtekghmfbgbhobaaGreatDoorS12
set_option linter.all false
section
set_option maxHeartbeats 64000000
set_option maxRecDepth 20000
namespace Go.Eng
variable (tab:Tab) (gl:Gl)
def zRg (i:Nat):UInt8:=if 12≤i then 255 else 0
theorem zA7 {i:Nat}(h:i<12):zRg i=0:=if_neg oM
theorem zA8 {i:Nat}(h : ¬ i<12):zRg i=255:=if_pos oM
def qFe (a:Nat):zE:=(List.range 16).map fun i=>List.replicate (szA a) (zRg i)
theorem wF {a i:Nat}(h:i<16):(qFe a).take (i+1)=(qFe a).take i++[List.replicate (szA a) (zRg i)]:=by
 rw[qEj (d:=[]) (by simp[qFe];omega)];congr 2;simp[qFe,List.getD,h]
theorem qEe {a:Nat}:(qFe a).take 16=qFe a:=List.take_of_length_le (by simp[qFe])
theorem qK {a:Nat}:List.length (qFe a)=16:=by simp[qFe]
def qCr (s:Int):List zE:=if s%4=0 then [] else [if s%2=1 then qFe 0 else [],if s/2%2=1 then qFe 1 else []]
theorem qHm {s:Int}(h : ¬ s%4=0):qCr s=[if s%2=1 then qFe 0 else [],if s/2%2=1 then qFe 1 else []]:=if_neg h
def xQ:Ct where
 α:=Int
 aS x:=[.t (.int .i64 x)]
 ins _:=[]
 pre _:=True
 r x:= .t (.int .i64 (if x=0 then 20 else if x=1 then 32 else 0))
 outs _:=[]
 inj:=by
  intro a b h _;simp at h;subst h;exact⟨rfl,rfl⟩
theorem qR:xQ.fs [.t (.int .i64 0)] []=some (.t (.int .i64 20),[]):=xQ.eq (0:Int) trivial
theorem qS:xQ.fs [.t (.int .i64 1)] []=some (.t (.int .i64 32),[]):=xQ.eq (1:Int) trivial
def vS:Ct where
 α:=Nat×UInt8
 aS x:=[.t (.int .i64 x.1),.t (qA x.2)]
 ins _:=[]
 pre x:=x.1=20∨x.1=32
 r x:= .sl 0 0 x.1
 outs x:=[.live 1 (((List.replicate x.1 x.2).map qA).map V.t) true false]
 inj:=by
  rintro⟨a,b⟩ ⟨c,d⟩ h _;simp[qOf,Int.natCast_inj] at h;obtain⟨rfl,rfl⟩:=h;exact⟨rfl,rfl⟩
theorem zH {x:UInt8}:vS.fs [.t (.int .i64 20),.t (qA x)] []=some (.sl 0 0 20,[.live 1 (((List.replicate 20 x).map qA).map V.t) true false]):=vS.eq (20,x) (.inl rfl)
theorem zI {x:UInt8}:vS.fs [.t (.int .i64 32),.t (qA x)] []=some (.sl 0 0 32,[.live 1 (((List.replicate 32 x).map qA).map V.t) true false]):=vS.eq (32,x) (.inr rfl)
theorem qWk (h1:LkC tab 98 xQ)(h2:LkC tab 97 vS)(a:Nat)(ha:a<2)(i:Nat):qDe.1.wp tab gl (qD 0 [.t (.int .i64 a),.t (.int .i64 i)]) (qD 0 []) (xU [] [(4,none)] 0 (fun r o=>r = .sl 0 0 (szA a)∧o=[.live 1 (((List.replicate (szA a) (zRg i)).map qA).map V.t) true false])):=by
 rcases (show a=0∨a=1 by omega) with rfl | rfl<;>by_cases hi:i<12;all_goals simp(disch:=omega)only[go_sem,qDe,h1,h2,qR,qS,zH,zI,szA]
 all_goals first | rw[zA7 hi] | rw[zA8 hi]
def qDn:Ct where
 α:=Nat×Nat
 aS x:=[.t (.int .i64 x.1),.t (.int .i64 x.2)]
 ins _:=[]
 pre x:=x.1<2
 r x:= .sl 0 0 (szA x.1)
 outs x:=[.live 1 (((List.replicate (szA x.1) (zRg x.2)).map qA).map V.t) true false]
 inj:=by
  rintro⟨a,b⟩ ⟨c,d⟩ h _;simp[Int.natCast_inj] at h;obtain⟨rfl,rfl⟩:=h;exact⟨rfl,rfl⟩
theorem yA {i:Nat}:qDn.fs [.t (.int .i64 0),.t (.int .i64 i)] []=some (.sl 0 0 20,[.live 1 (((List.replicate 20 (zRg i)).map qA).map V.t) true false]):=qDn.eq (0,i) (by simp[qDn])
theorem yB {i:Nat}:qDn.fs [.t (.int .i64 1),.t (.int .i64 i)] []=some (.sl 0 0 32,[.live 1 (((List.replicate 32 (zRg i)).map qA).map V.t) true false]):=qDn.eq (1,i) (by simp[qDn])
theorem qRv (s:Int)(h3:s%4=0):jM.1.wp tab gl (qD 0 [.t (.int .i64 s)]) (qD 0 []) (xU [] [(2,some (2,true))] 0 (fun r o=>r = .agg [.nil,.t (.int .i64 0)]∧o=[])):=by
 simp(disch:=omega)only[go_sem,jM,h3]
theorem zF7 (s:Int)(h3:s%4=0):vZ.1.wp tab gl (qD 0 [.t (.int .i64 s)]) (qD 0 []) (xU [] [(2,some (2,true))] 0 (fun r o=>r = .agg [.nil,.t (.int .i64 0)]∧o=[])):=by
 simp(disch:=omega)only[go_sem,vZ,h3]
theorem qUu (h1:LkC tab 76 xQ)(h2:LkC tab 75 vS)(s:Int)(h3 : ¬ s%4=0):jM.1.wp tab gl (qD 0 [.t (.int .i64 s)]) (qD 0 []) (xU [] [(2,some (2,true))] 0 (fun r o=>r=twR (qCr s) 0∧o=twO (qCr s))):=by
 have h4:(s%4==0)=false:=by simpa using h3
 have hf1:s.fdiv 1=s:=Int.fdiv_one s;have hf2:s.fdiv 2=s/2:=Int.fdiv_eq_ediv_of_nonneg s oM;have hc0:s%2=0∨s%2=1:=oM;have hc1:s/2%2=0∨s/2%2=1:=oM;rcases hc0 with c0 | c0<;>rcases hc1 with c1 | c1
 ·exact absurd oM h3
 ·rw[qHm h3,if_neg oM,if_pos oM];simp(disch:=omega)only[go_sem,jM,h4,hf1,hf2];refine qF 2 (fun k=>match k with | 0=>[(0,.t (.int .i64 s)),(2,.ref 4096 0 0),(3,.ref 16384 0 0),(12,.t (.int .i64 0))] | 1=>[(0,.t (.int .i64 s)),(2,.ref 4096 0 0),(3,.ref 16384 0 0),(12,.t (.int .i64 1))] | _=>[(0,.t (.int .i64 s)),(2,.ref 4096 0 0),(3,.ref 16384 0 0),(12,.t (.int .i64 2))]) (fun k=>match k with | 0=>[(16384,.live 2 [.agg [.nil,.t (.int .i64 0)]] true true),(4096,.live 2 [.agg [.nil,.t (.int .i64 0)]] true true)] | 1=>[(16384,.live 2 [.agg [.sl 9000 0 1,.t (.int .i64 0)]] true true),(9000,.live 1 [.sl 9001 0 0] true false),(9001,.live 1 ((([]:zE).map bsT).map V.t) true false),(4096,.live 2 [.agg [.nil,.t (.int .i64 0)]] true true)] | _=>[(16384,.live 2 [.agg [.sl 9000 0 2,.t (.int .i64 0)]] true true),(9000,.live 1 [.sl 9001 0 0,.sl 9002 0 16] true false),(9001,.live 1 ((([]:zE).map bsT).map V.t) true false),(9002,.live 1 (((qFe 1:zE).map bsT).map V.t) true false),(4096,.live 2 [.agg [.nil,.t (.int .i64 0)]] true true)]) ?_ (fun k hk=>?_)
  ·refine qI.rd id ?_ ?_ rfl;all_goals simp(disch:=omega)only[go_sem,id]
  ·rcases (show k=0∨k=1∨k=2 by omega) with rfl | rfl | rfl
   ·simp(disch:=omega)only[go_sem,c0,c1,qK,h1,h2,qR,qS,zH,zI,hf1,hf2];refine qT 1 ?_;simp(disch:=omega)only[go_sem,qJ,c0,c1,qK,h1,h2,qR,qS,zH,zI,hf1,hf2];refine qI.trans (fs':=[(0,.t (.int .i64 s)),(2,.ref 4096 0 0),(3,.ref 16384 0 0),(12,.t (.int .i64 1))]) (qI.cv0 (hv:=[(9001,.live 1 [] true false)]) (ho:=[(16384,.live 2 [.agg [.sl 9000 0 1,.t (.int .i64 0)]] true true),(9000,.live 1 [.sl 9001 0 0] true false),(4096,.live 2 [.agg [.nil,.t (.int .i64 0)]] true true)]) (fun j=>if j=9000 then 65600 else j) ?_ ?_ rfl rfl) (qI.rd id ?_ ?_ rfl);all_goals simp(disch:=omega)only[go_sem,mcn,id]
   ·simp(disch:=omega)only[go_sem,c0,c1,qK,h1,h2,qR,qS,zH,zI,hf1,hf2];refine qF 16 (fun i=>[(0,.t (.int .i64 s)),(2,.ref 4096 0 0),(3,.ref 16384 0 0),(12,.t (.int .i64 1)),(4,.t (.int .i64 1)),(5,.sl 9100 0 i),(6,.t (.int .i64 (i:Nat)))]) (fun i=>[(9100,.live 1 ((((qFe 1).take i).map bsT).map V.t) true false),(16384,.live 2 [.agg [.sl 9000 0 1,.t (.int .i64 0)]] true true),(9000,.live 1 [.sl 9001 0 0] true false),(9001,.live 1 ((([]:zE).map bsT).map V.t) true false),(4096,.live 2 [.agg [.nil,.t (.int .i64 0)]] true true)]) ?_ (fun i hi=>?_)
    ·refine qI.cv0 (hv:=[(9100,.live 1 [] true false)]) (ho:=[(16384,.live 2 [.agg [.sl 9000 0 1,.t (.int .i64 0)]] true true),(9000,.live 1 [.sl 9001 0 0] true false),(9001,.live 1 ((([]:zE).map bsT).map V.t) true false),(4096,.live 2 [.agg [.nil,.t (.int .i64 0)]] true true)]) id ?_ ?_ rfl rfl;all_goals simp(disch:=omega)only[go_sem,mcn,id]
    ·by_cases hlt:i<16
     ·by_cases h12:i<12
      ·simp(disch:=omega)only[go_sem,c0,c1,qK,h1,h2,qR,qS,zH,zI,hf1,hf2];refine⟨hlt,qI.cv (hv:=[]) [61504] (fun j=>if j=9100 then 61536 else j) ?_ rfl⟩;simp(disch:=omega)only[go_sem,wF hlt,szA,List.take_replicate,Nat.min_self,zA7 h12];rfl
      ·simp(disch:=omega)only[go_sem,c0,c1,qK,h1,h2,qR,qS,zH,zI,hf1,hf2];refine⟨hlt,qI.cv (hv:=[]) [61504] (fun j=>if j=9100 then 61536 else j) ?_ rfl⟩;simp(disch:=omega)only[go_sem,wF hlt,szA,List.take_replicate,Nat.min_self,zA8 h12];rfl
     ·have e:i=16:=oM;subst e;simp(disch:=omega)only[go_sem,c0,c1,qK,h1,h2,qR,qS,zH,zI,hf1,hf2];refine qI.rd (fun j=>if j=9000 then 65600 else if j=9002 then 9100 else j) ?_ ?_ rfl;all_goals simp(disch:=omega)only[go_sem,qEe]
   ·simp(disch:=omega)only[go_sem,c0,c1,qK,h1,h2,qR,qS,zH,zI,hf1,hf2];exact⟨rfl,rfl⟩
 ·rw[qHm h3,if_pos oM,if_neg oM];simp(disch:=omega)only[go_sem,jM,h4,hf1,hf2];refine qF 2 (fun k=>match k with | 0=>[(0,.t (.int .i64 s)),(2,.ref 4096 0 0),(3,.ref 16384 0 0),(12,.t (.int .i64 0))] | 1=>[(0,.t (.int .i64 s)),(2,.ref 4096 0 0),(3,.ref 16384 0 0),(12,.t (.int .i64 1))] | _=>[(0,.t (.int .i64 s)),(2,.ref 4096 0 0),(3,.ref 16384 0 0),(12,.t (.int .i64 2))]) (fun k=>match k with | 0=>[(16384,.live 2 [.agg [.nil,.t (.int .i64 0)]] true true),(4096,.live 2 [.agg [.nil,.t (.int .i64 0)]] true true)] | 1=>[(16384,.live 2 [.agg [.sl 9000 0 1,.t (.int .i64 0)]] true true),(9000,.live 1 [.sl 9001 0 16] true false),(9001,.live 1 (((qFe 0:zE).map bsT).map V.t) true false),(4096,.live 2 [.agg [.nil,.t (.int .i64 0)]] true true)] | _=>[(16384,.live 2 [.agg [.sl 9000 0 2,.t (.int .i64 0)]] true true),(9000,.live 1 [.sl 9001 0 16,.sl 9002 0 0] true false),(9001,.live 1 (((qFe 0:zE).map bsT).map V.t) true false),(9002,.live 1 ((([]:zE).map bsT).map V.t) true false),(4096,.live 2 [.agg [.nil,.t (.int .i64 0)]] true true)]) ?_ (fun k hk=>?_)
  ·refine qI.rd id ?_ ?_ rfl;all_goals simp(disch:=omega)only[go_sem,id]
  ·rcases (show k=0∨k=1∨k=2 by omega) with rfl | rfl | rfl
   ·simp(disch:=omega)only[go_sem,c0,c1,qK,h1,h2,qR,qS,zH,zI,hf1,hf2];refine qF 16 (fun i=>[(0,.t (.int .i64 s)),(2,.ref 4096 0 0),(3,.ref 16384 0 0),(12,.t (.int .i64 0)),(4,.t (.int .i64 0)),(5,.sl 9100 0 i),(6,.t (.int .i64 (i:Nat)))]) (fun i=>[(9100,.live 1 ((((qFe 0).take i).map bsT).map V.t) true false),(16384,.live 2 [.agg [.nil,.t (.int .i64 0)]] true true),(4096,.live 2 [.agg [.nil,.t (.int .i64 0)]] true true)]) ?_ (fun i hi=>?_)
    ·refine qI.cv0 (hv:=[(9100,.live 1 [] true false)]) (ho:=[(16384,.live 2 [.agg [.nil,.t (.int .i64 0)]] true true),(4096,.live 2 [.agg [.nil,.t (.int .i64 0)]] true true)]) id ?_ ?_ rfl rfl;all_goals simp(disch:=omega)only[go_sem,mcn,id]
    ·by_cases hlt:i<16
     ·by_cases h12:i<12
      ·simp(disch:=omega)only[go_sem,c0,c1,qK,h1,h2,qR,qS,zH,zI,hf1,hf2];refine⟨hlt,qI.cv (hv:=[]) [61504] (fun j=>if j=9100 then 61536 else j) ?_ rfl⟩;simp(disch:=omega)only[go_sem,wF hlt,szA,List.take_replicate,Nat.min_self,zA7 h12];rfl
      ·simp(disch:=omega)only[go_sem,c0,c1,qK,h1,h2,qR,qS,zH,zI,hf1,hf2];refine⟨hlt,qI.cv (hv:=[]) [61504] (fun j=>if j=9100 then 61536 else j) ?_ rfl⟩;simp(disch:=omega)only[go_sem,wF hlt,szA,List.take_replicate,Nat.min_self,zA8 h12];rfl
     ·have e:i=16:=oM;subst e;simp(disch:=omega)only[go_sem,c0,c1,qK,h1,h2,qR,qS,zH,zI,hf1,hf2];refine qI.rd (fun j=>if j=9000 then 65600 else if j=9001 then 9100 else j) ?_ ?_ rfl;all_goals simp(disch:=omega)only[go_sem,qEe]
   ·simp(disch:=omega)only[go_sem,c0,c1,qK,h1,h2,qR,qS,zH,zI,hf1,hf2];refine qT 1 ?_;simp(disch:=omega)only[go_sem,qJ,c0,c1,qK,h1,h2,qR,qS,zH,zI,hf1,hf2];refine qI.trans (fs':=[(0,.t (.int .i64 s)),(2,.ref 4096 0 0),(3,.ref 16384 0 0),(12,.t (.int .i64 2))]) (qI.cv0 (hv:=[(9002,.live 1 [] true false)]) (ho:=[(16384,.live 2 [.agg [.sl 9000 0 2,.t (.int .i64 0)]] true true),(9000,.live 1 [.sl 9001 0 16,.sl 9002 0 0] true false),(9001,.live 1 (((qFe 0:zE).map bsT).map V.t) true false),(4096,.live 2 [.agg [.nil,.t (.int .i64 0)]] true true)]) (fun j=>if j=9000 then 65600 else j) ?_ ?_ rfl rfl) (qI.rd id ?_ ?_ rfl);all_goals simp(disch:=omega)only[go_sem,mcn,id]
   ·simp(disch:=omega)only[go_sem,c0,c1,qK,h1,h2,qR,qS,zH,zI,hf1,hf2];exact⟨rfl,rfl⟩
 ·rw[qHm h3,if_pos oM,if_pos oM];simp(disch:=omega)only[go_sem,jM,h4,hf1,hf2];refine qF 2 (fun k=>match k with | 0=>[(0,.t (.int .i64 s)),(2,.ref 4096 0 0),(3,.ref 16384 0 0),(12,.t (.int .i64 0))] | 1=>[(0,.t (.int .i64 s)),(2,.ref 4096 0 0),(3,.ref 16384 0 0),(12,.t (.int .i64 1))] | _=>[(0,.t (.int .i64 s)),(2,.ref 4096 0 0),(3,.ref 16384 0 0),(12,.t (.int .i64 2))]) (fun k=>match k with | 0=>[(16384,.live 2 [.agg [.nil,.t (.int .i64 0)]] true true),(4096,.live 2 [.agg [.nil,.t (.int .i64 0)]] true true)] | 1=>[(16384,.live 2 [.agg [.sl 9000 0 1,.t (.int .i64 0)]] true true),(9000,.live 1 [.sl 9001 0 16] true false),(9001,.live 1 (((qFe 0:zE).map bsT).map V.t) true false),(4096,.live 2 [.agg [.nil,.t (.int .i64 0)]] true true)] | _=>[(16384,.live 2 [.agg [.sl 9000 0 2,.t (.int .i64 0)]] true true),(9000,.live 1 [.sl 9001 0 16,.sl 9002 0 16] true false),(9001,.live 1 (((qFe 0:zE).map bsT).map V.t) true false),(9002,.live 1 (((qFe 1:zE).map bsT).map V.t) true false),(4096,.live 2 [.agg [.nil,.t (.int .i64 0)]] true true)]) ?_ (fun k hk=>?_)
  ·refine qI.rd id ?_ ?_ rfl;all_goals simp(disch:=omega)only[go_sem,id]
  ·rcases (show k=0∨k=1∨k=2 by omega) with rfl | rfl | rfl
   ·simp(disch:=omega)only[go_sem,c0,c1,qK,h1,h2,qR,qS,zH,zI,hf1,hf2];refine qF 16 (fun i=>[(0,.t (.int .i64 s)),(2,.ref 4096 0 0),(3,.ref 16384 0 0),(12,.t (.int .i64 0)),(4,.t (.int .i64 0)),(5,.sl 9100 0 i),(6,.t (.int .i64 (i:Nat)))]) (fun i=>[(9100,.live 1 ((((qFe 0).take i).map bsT).map V.t) true false),(16384,.live 2 [.agg [.nil,.t (.int .i64 0)]] true true),(4096,.live 2 [.agg [.nil,.t (.int .i64 0)]] true true)]) ?_ (fun i hi=>?_)
    ·refine qI.cv0 (hv:=[(9100,.live 1 [] true false)]) (ho:=[(16384,.live 2 [.agg [.nil,.t (.int .i64 0)]] true true),(4096,.live 2 [.agg [.nil,.t (.int .i64 0)]] true true)]) id ?_ ?_ rfl rfl;all_goals simp(disch:=omega)only[go_sem,mcn,id]
    ·by_cases hlt:i<16
     ·by_cases h12:i<12
      ·simp(disch:=omega)only[go_sem,c0,c1,qK,h1,h2,qR,qS,zH,zI,hf1,hf2];refine⟨hlt,qI.cv (hv:=[]) [61504] (fun j=>if j=9100 then 61536 else j) ?_ rfl⟩;simp(disch:=omega)only[go_sem,wF hlt,szA,List.take_replicate,Nat.min_self,zA7 h12];rfl
      ·simp(disch:=omega)only[go_sem,c0,c1,qK,h1,h2,qR,qS,zH,zI,hf1,hf2];refine⟨hlt,qI.cv (hv:=[]) [61504] (fun j=>if j=9100 then 61536 else j) ?_ rfl⟩;simp(disch:=omega)only[go_sem,wF hlt,szA,List.take_replicate,Nat.min_self,zA8 h12];rfl
     ·have e:i=16:=oM;subst e;simp(disch:=omega)only[go_sem,c0,c1,qK,h1,h2,qR,qS,zH,zI,hf1,hf2];refine qI.rd (fun j=>if j=9000 then 65600 else if j=9001 then 9100 else j) ?_ ?_ rfl;all_goals simp(disch:=omega)only[go_sem,qEe]
   ·simp(disch:=omega)only[go_sem,c0,c1,qK,h1,h2,qR,qS,zH,zI,hf1,hf2];refine qF 16 (fun i=>[(0,.t (.int .i64 s)),(2,.ref 4096 0 0),(3,.ref 16384 0 0),(12,.t (.int .i64 1)),(4,.t (.int .i64 1)),(5,.sl 9100 0 i),(6,.t (.int .i64 (i:Nat)))]) (fun i=>[(9100,.live 1 ((((qFe 1).take i).map bsT).map V.t) true false),(16384,.live 2 [.agg [.sl 9000 0 1,.t (.int .i64 0)]] true true),(9000,.live 1 [.sl 9001 0 16] true false),(9001,.live 1 (((qFe 0:zE).map bsT).map V.t) true false),(4096,.live 2 [.agg [.nil,.t (.int .i64 0)]] true true)]) ?_ (fun i hi=>?_)
    ·refine qI.cv0 (hv:=[(9100,.live 1 [] true false)]) (ho:=[(16384,.live 2 [.agg [.sl 9000 0 1,.t (.int .i64 0)]] true true),(9000,.live 1 [.sl 9001 0 16] true false),(9001,.live 1 (((qFe 0:zE).map bsT).map V.t) true false),(4096,.live 2 [.agg [.nil,.t (.int .i64 0)]] true true)]) id ?_ ?_ rfl rfl;all_goals simp(disch:=omega)only[go_sem,mcn,id]
    ·by_cases hlt:i<16
     ·by_cases h12:i<12
      ·simp(disch:=omega)only[go_sem,c0,c1,qK,h1,h2,qR,qS,zH,zI,hf1,hf2];refine⟨hlt,qI.cv (hv:=[]) [61504] (fun j=>if j=9100 then 61536 else j) ?_ rfl⟩;simp(disch:=omega)only[go_sem,wF hlt,szA,List.take_replicate,Nat.min_self,zA7 h12];rfl
      ·simp(disch:=omega)only[go_sem,c0,c1,qK,h1,h2,qR,qS,zH,zI,hf1,hf2];refine⟨hlt,qI.cv (hv:=[]) [61504] (fun j=>if j=9100 then 61536 else j) ?_ rfl⟩;simp(disch:=omega)only[go_sem,wF hlt,szA,List.take_replicate,Nat.min_self,zA8 h12];rfl
     ·have e:i=16:=oM;subst e;simp(disch:=omega)only[go_sem,c0,c1,qK,h1,h2,qR,qS,zH,zI,hf1,hf2];refine qI.rd (fun j=>if j=9000 then 65600 else if j=9002 then 9100 else j) ?_ ?_ rfl;all_goals simp(disch:=omega)only[go_sem,qEe]
   ·simp(disch:=omega)only[go_sem,c0,c1,qK,h1,h2,qR,qS,zH,zI,hf1,hf2];exact⟨rfl,rfl⟩
theorem zJ1 (h1:LkC tab 78 qDn)(s:Int)(h3 : ¬ s%4=0):vZ.1.wp tab gl (qD 0 [.t (.int .i64 s)]) (qD 0 []) (xU [] [(2,some (2,true))] 0 (fun r o=>r=twR (qCr s) 0∧o=twO (qCr s))):=by
 have h4:(s%4==0)=false:=by simpa using h3
 have hf1:s.fdiv 1=s:=Int.fdiv_one s;have hf2:s.fdiv 2=s/2:=Int.fdiv_eq_ediv_of_nonneg s oM;have hc0:s%2=0∨s%2=1:=oM;have hc1:s/2%2=0∨s/2%2=1:=oM;rcases hc0 with c0 | c0<;>rcases hc1 with c1 | c1
 ·exact absurd oM h3
 ·rw[qHm h3,if_neg oM,if_pos oM];simp(disch:=omega)only[go_sem,vZ,h4,hf1,hf2];refine qF 2 (fun k=>match k with | 0=>[(0,.t (.int .i64 s)),(2,.ref 4096 0 0),(3,.ref 8208 0 0),(4,.t (.int .i64 0))] | 1=>[(0,.t (.int .i64 s)),(2,.ref 4096 0 0),(3,.ref 8208 0 0),(4,.t (.int .i64 1))] | _=>[(0,.t (.int .i64 s)),(2,.ref 4096 0 0),(3,.ref 8208 0 0),(4,.t (.int .i64 2))]) (fun k=>match k with | 0=>[(8208,.live 2 [.agg [.nil,.t (.int .i64 0)]] true true),(4096,.live 2 [.agg [.nil,.t (.int .i64 0)]] true true)] | 1=>[(8208,.live 2 [.agg [.sl 9000 0 1,.t (.int .i64 0)]] true true),(9000,.live 1 [.sl 9001 0 0] true false),(9001,.live 1 ((([]:zE).map bsT).map V.t) true false),(4096,.live 2 [.agg [.nil,.t (.int .i64 0)]] true true)] | _=>[(8208,.live 2 [.agg [.sl 9000 0 2,.t (.int .i64 0)]] true true),(9000,.live 1 [.sl 9001 0 0,.sl 9002 0 16] true false),(9001,.live 1 ((([]:zE).map bsT).map V.t) true false),(9002,.live 1 (((qFe 1:zE).map bsT).map V.t) true false),(4096,.live 2 [.agg [.nil,.t (.int .i64 0)]] true true)]) ?_ (fun k hk=>?_)
  ·refine qI.rd id ?_ ?_ rfl;all_goals simp(disch:=omega)only[go_sem,id]
  ·rcases (show k=0∨k=1∨k=2 by omega) with rfl | rfl | rfl
   ·simp(disch:=omega)only[go_sem,c0,c1,qK,h1,yA,yB,hf1,hf2];refine qT 1 ?_;simp(disch:=omega)only[go_sem,qJ,c0,c1,qK,h1,yA,yB,hf1,hf2];refine qI.trans (fs':=[(0,.t (.int .i64 s)),(2,.ref 4096 0 0),(3,.ref 8208 0 0),(4,.t (.int .i64 1))]) (qI.cv0 (hv:=[(9001,.live 1 [] true false)]) (ho:=[(8208,.live 2 [.agg [.sl 9000 0 1,.t (.int .i64 0)]] true true),(9000,.live 1 [.sl 9001 0 0] true false),(4096,.live 2 [.agg [.nil,.t (.int .i64 0)]] true true)]) (fun j=>if j=9000 then 53312 else j) ?_ ?_ rfl rfl) (qI.rd id ?_ ?_ rfl);all_goals simp(disch:=omega)only[go_sem,mcn,id]
   ·simp(disch:=omega)only[go_sem,c0,c1,qK,h1,yA,yB,hf1,hf2];refine qF 16 (fun i=>[(0,.t (.int .i64 s)),(2,.ref 4096 0 0),(3,.ref 8208 0 0),(4,.t (.int .i64 1)),(5,.sl 9100 0 i),(6,.t (.int .i64 (i:Nat)))]) (fun i=>[(9100,.live 1 ((((qFe 1).take i).map bsT).map V.t) true false),(8208,.live 2 [.agg [.sl 9000 0 1,.t (.int .i64 0)]] true true),(9000,.live 1 [.sl 9001 0 0] true false),(9001,.live 1 ((([]:zE).map bsT).map V.t) true false),(4096,.live 2 [.agg [.nil,.t (.int .i64 0)]] true true)]) ?_ (fun i hi=>?_)
    ·refine qI.cv0 (hv:=[(9100,.live 1 [] true false)]) (ho:=[(8208,.live 2 [.agg [.sl 9000 0 1,.t (.int .i64 0)]] true true),(9000,.live 1 [.sl 9001 0 0] true false),(9001,.live 1 ((([]:zE).map bsT).map V.t) true false),(4096,.live 2 [.agg [.nil,.t (.int .i64 0)]] true true)]) id ?_ ?_ rfl rfl;all_goals simp(disch:=omega)only[go_sem,mcn,id]
    ·by_cases hlt:i<16
     ·simp(disch:=omega)only[go_sem,c0,c1,qK,h1,yA,yB,hf1,hf2];refine⟨hlt,qI.cv (hv:=[]) [49200] (fun j=>if j=9100 then 49232 else j) ?_ rfl⟩;simp(disch:=omega)only[go_sem,wF hlt,szA,List.take_replicate,Nat.min_self];rfl
     ·have e:i=16:=oM;subst e;simp(disch:=omega)only[go_sem,c0,c1,qK,h1,yA,yB,hf1,hf2];refine qI.rd (fun j=>if j=9000 then 53312 else if j=9002 then 9100 else j) ?_ ?_ rfl;all_goals simp(disch:=omega)only[go_sem,qEe]
   ·simp(disch:=omega)only[go_sem,c0,c1,qK,h1,yA,yB,hf1,hf2];exact⟨rfl,rfl⟩
 ·rw[qHm h3,if_pos oM,if_neg oM];simp(disch:=omega)only[go_sem,vZ,h4,hf1,hf2];refine qF 2 (fun k=>match k with | 0=>[(0,.t (.int .i64 s)),(2,.ref 4096 0 0),(3,.ref 8208 0 0),(4,.t (.int .i64 0))] | 1=>[(0,.t (.int .i64 s)),(2,.ref 4096 0 0),(3,.ref 8208 0 0),(4,.t (.int .i64 1))] | _=>[(0,.t (.int .i64 s)),(2,.ref 4096 0 0),(3,.ref 8208 0 0),(4,.t (.int .i64 2))]) (fun k=>match k with | 0=>[(8208,.live 2 [.agg [.nil,.t (.int .i64 0)]] true true),(4096,.live 2 [.agg [.nil,.t (.int .i64 0)]] true true)] | 1=>[(8208,.live 2 [.agg [.sl 9000 0 1,.t (.int .i64 0)]] true true),(9000,.live 1 [.sl 9001 0 16] true false),(9001,.live 1 (((qFe 0:zE).map bsT).map V.t) true false),(4096,.live 2 [.agg [.nil,.t (.int .i64 0)]] true true)] | _=>[(8208,.live 2 [.agg [.sl 9000 0 2,.t (.int .i64 0)]] true true),(9000,.live 1 [.sl 9001 0 16,.sl 9002 0 0] true false),(9001,.live 1 (((qFe 0:zE).map bsT).map V.t) true false),(9002,.live 1 ((([]:zE).map bsT).map V.t) true false),(4096,.live 2 [.agg [.nil,.t (.int .i64 0)]] true true)]) ?_ (fun k hk=>?_)
  ·refine qI.rd id ?_ ?_ rfl;all_goals simp(disch:=omega)only[go_sem,id]
  ·rcases (show k=0∨k=1∨k=2 by omega) with rfl | rfl | rfl
   ·simp(disch:=omega)only[go_sem,c0,c1,qK,h1,yA,yB,hf1,hf2];refine qF 16 (fun i=>[(0,.t (.int .i64 s)),(2,.ref 4096 0 0),(3,.ref 8208 0 0),(4,.t (.int .i64 0)),(5,.sl 9100 0 i),(6,.t (.int .i64 (i:Nat)))]) (fun i=>[(9100,.live 1 ((((qFe 0).take i).map bsT).map V.t) true false),(8208,.live 2 [.agg [.nil,.t (.int .i64 0)]] true true),(4096,.live 2 [.agg [.nil,.t (.int .i64 0)]] true true)]) ?_ (fun i hi=>?_)
    ·refine qI.cv0 (hv:=[(9100,.live 1 [] true false)]) (ho:=[(8208,.live 2 [.agg [.nil,.t (.int .i64 0)]] true true),(4096,.live 2 [.agg [.nil,.t (.int .i64 0)]] true true)]) id ?_ ?_ rfl rfl;all_goals simp(disch:=omega)only[go_sem,mcn,id]
    ·by_cases hlt:i<16
     ·simp(disch:=omega)only[go_sem,c0,c1,qK,h1,yA,yB,hf1,hf2];refine⟨hlt,qI.cv (hv:=[]) [49200] (fun j=>if j=9100 then 49232 else j) ?_ rfl⟩;simp(disch:=omega)only[go_sem,wF hlt,szA,List.take_replicate,Nat.min_self];rfl
     ·have e:i=16:=oM;subst e;simp(disch:=omega)only[go_sem,c0,c1,qK,h1,yA,yB,hf1,hf2];refine qI.rd (fun j=>if j=9000 then 53312 else if j=9001 then 9100 else j) ?_ ?_ rfl;all_goals simp(disch:=omega)only[go_sem,qEe]
   ·simp(disch:=omega)only[go_sem,c0,c1,qK,h1,yA,yB,hf1,hf2];refine qT 1 ?_;simp(disch:=omega)only[go_sem,qJ,c0,c1,qK,h1,yA,yB,hf1,hf2];refine qI.trans (fs':=[(0,.t (.int .i64 s)),(2,.ref 4096 0 0),(3,.ref 8208 0 0),(4,.t (.int .i64 2))]) (qI.cv0 (hv:=[(9002,.live 1 [] true false)]) (ho:=[(8208,.live 2 [.agg [.sl 9000 0 2,.t (.int .i64 0)]] true true),(9000,.live 1 [.sl 9001 0 16,.sl 9002 0 0] true false),(9001,.live 1 (((qFe 0:zE).map bsT).map V.t) true false),(4096,.live 2 [.agg [.nil,.t (.int .i64 0)]] true true)]) (fun j=>if j=9000 then 53312 else j) ?_ ?_ rfl rfl) (qI.rd id ?_ ?_ rfl);all_goals simp(disch:=omega)only[go_sem,mcn,id]
   ·simp(disch:=omega)only[go_sem,c0,c1,qK,h1,yA,yB,hf1,hf2];exact⟨rfl,rfl⟩
 ·rw[qHm h3,if_pos oM,if_pos oM];simp(disch:=omega)only[go_sem,vZ,h4,hf1,hf2];refine qF 2 (fun k=>match k with | 0=>[(0,.t (.int .i64 s)),(2,.ref 4096 0 0),(3,.ref 8208 0 0),(4,.t (.int .i64 0))] | 1=>[(0,.t (.int .i64 s)),(2,.ref 4096 0 0),(3,.ref 8208 0 0),(4,.t (.int .i64 1))] | _=>[(0,.t (.int .i64 s)),(2,.ref 4096 0 0),(3,.ref 8208 0 0),(4,.t (.int .i64 2))]) (fun k=>match k with | 0=>[(8208,.live 2 [.agg [.nil,.t (.int .i64 0)]] true true),(4096,.live 2 [.agg [.nil,.t (.int .i64 0)]] true true)] | 1=>[(8208,.live 2 [.agg [.sl 9000 0 1,.t (.int .i64 0)]] true true),(9000,.live 1 [.sl 9001 0 16] true false),(9001,.live 1 (((qFe 0:zE).map bsT).map V.t) true false),(4096,.live 2 [.agg [.nil,.t (.int .i64 0)]] true true)] | _=>[(8208,.live 2 [.agg [.sl 9000 0 2,.t (.int .i64 0)]] true true),(9000,.live 1 [.sl 9001 0 16,.sl 9002 0 16] true false),(9001,.live 1 (((qFe 0:zE).map bsT).map V.t) true false),(9002,.live 1 (((qFe 1:zE).map bsT).map V.t) true false),(4096,.live 2 [.agg [.nil,.t (.int .i64 0)]] true true)]) ?_ (fun k hk=>?_)
  ·refine qI.rd id ?_ ?_ rfl;all_goals simp(disch:=omega)only[go_sem,id]
  ·rcases (show k=0∨k=1∨k=2 by omega) with rfl | rfl | rfl
   ·simp(disch:=omega)only[go_sem,c0,c1,qK,h1,yA,yB,hf1,hf2];refine qF 16 (fun i=>[(0,.t (.int .i64 s)),(2,.ref 4096 0 0),(3,.ref 8208 0 0),(4,.t (.int .i64 0)),(5,.sl 9100 0 i),(6,.t (.int .i64 (i:Nat)))]) (fun i=>[(9100,.live 1 ((((qFe 0).take i).map bsT).map V.t) true false),(8208,.live 2 [.agg [.nil,.t (.int .i64 0)]] true true),(4096,.live 2 [.agg [.nil,.t (.int .i64 0)]] true true)]) ?_ (fun i hi=>?_)
    ·refine qI.cv0 (hv:=[(9100,.live 1 [] true false)]) (ho:=[(8208,.live 2 [.agg [.nil,.t (.int .i64 0)]] true true),(4096,.live 2 [.agg [.nil,.t (.int .i64 0)]] true true)]) id ?_ ?_ rfl rfl;all_goals simp(disch:=omega)only[go_sem,mcn,id]
    ·by_cases hlt:i<16
     ·simp(disch:=omega)only[go_sem,c0,c1,qK,h1,yA,yB,hf1,hf2];refine⟨hlt,qI.cv (hv:=[]) [49200] (fun j=>if j=9100 then 49232 else j) ?_ rfl⟩;simp(disch:=omega)only[go_sem,wF hlt,szA,List.take_replicate,Nat.min_self];rfl
     ·have e:i=16:=oM;subst e;simp(disch:=omega)only[go_sem,c0,c1,qK,h1,yA,yB,hf1,hf2];refine qI.rd (fun j=>if j=9000 then 53312 else if j=9001 then 9100 else j) ?_ ?_ rfl;all_goals simp(disch:=omega)only[go_sem,qEe]
   ·simp(disch:=omega)only[go_sem,c0,c1,qK,h1,yA,yB,hf1,hf2];refine qF 16 (fun i=>[(0,.t (.int .i64 s)),(2,.ref 4096 0 0),(3,.ref 8208 0 0),(4,.t (.int .i64 1)),(5,.sl 9100 0 i),(6,.t (.int .i64 (i:Nat)))]) (fun i=>[(9100,.live 1 ((((qFe 1).take i).map bsT).map V.t) true false),(8208,.live 2 [.agg [.sl 9000 0 1,.t (.int .i64 0)]] true true),(9000,.live 1 [.sl 9001 0 16] true false),(9001,.live 1 (((qFe 0:zE).map bsT).map V.t) true false),(4096,.live 2 [.agg [.nil,.t (.int .i64 0)]] true true)]) ?_ (fun i hi=>?_)
    ·refine qI.cv0 (hv:=[(9100,.live 1 [] true false)]) (ho:=[(8208,.live 2 [.agg [.sl 9000 0 1,.t (.int .i64 0)]] true true),(9000,.live 1 [.sl 9001 0 16] true false),(9001,.live 1 (((qFe 0:zE).map bsT).map V.t) true false),(4096,.live 2 [.agg [.nil,.t (.int .i64 0)]] true true)]) id ?_ ?_ rfl rfl;all_goals simp(disch:=omega)only[go_sem,mcn,id]
    ·by_cases hlt:i<16
     ·simp(disch:=omega)only[go_sem,c0,c1,qK,h1,yA,yB,hf1,hf2];refine⟨hlt,qI.cv (hv:=[]) [49200] (fun j=>if j=9100 then 49232 else j) ?_ rfl⟩;simp(disch:=omega)only[go_sem,wF hlt,szA,List.take_replicate,Nat.min_self];rfl
     ·have e:i=16:=oM;subst e;simp(disch:=omega)only[go_sem,c0,c1,qK,h1,yA,yB,hf1,hf2];refine qI.rd (fun j=>if j=9000 then 53312 else if j=9002 then 9100 else j) ?_ ?_ rfl;all_goals simp(disch:=omega)only[go_sem,qEe]
   ·simp(disch:=omega)only[go_sem,c0,c1,qK,h1,yA,yB,hf1,hf2];exact⟨rfl,rfl⟩
def jX:Ct where
 α:=List zE×Int×Nat
 aS x:=[.t (yL x.1 x.2.1),.t (.int .i64 x.2.2)]
 ins _:=[]
 pre x:=RK x.1∧x.2.2<1000000000
 r x:= .t (.bool (zPe x.1 x.2.2))
 outs _:=[]
 inj:=by
  rintro⟨a,u,i⟩ ⟨b,v,j⟩ h _;simp only[List.cons.injEq,V.t.injEq,T.int.injEq,true_and,and_true,Int.natCast_inj] at h;obtain⟨h1,rfl⟩:=h;obtain⟨rfl,rfl⟩:=qCt h1;exact⟨rfl,rfl⟩
theorem RK.on {bk:List zE}(h:RK bk)(a:Nat):zPe bk a=onB bk a:=by
 cases h with
 | nil=>simp[zPe,onB]
 | two b0 b1 h0 h1=>
  have key : ∀ b:zE,qUx b→decide (0<List.length b)=decide (List.length b=16):=by
   intro b hb;rcases hb with h | h<;>simp[h]
  match a with
  | 0=>simpa [zPe,onB] using key b0 h0
  | 1=>simpa [zPe,onB] using key b1 h1
  | a+2=>simp[zPe,onB]
theorem qG0 {bk:List zE}{u:Int}{a:Nat}(hk:RK bk)(h:a<1000000000):jX.fs [.t (.agg [.sl (bk.map vM),.int .i64 u]),.t (.int .i64 a)] []=some (.t (.bool (onB bk a)),[]):=by
 refine (jX.eq (bk,u,a) ⟨hk,h⟩).trans ?_;simp only[jX,hk.on]
theorem jA {b0 b1:zE}{u:Int}(hk:RK [b0,b1]):jX.fs [.t (.agg [.sl [.sl (b0.map bsT),.sl (b1.map bsT)],.int .i64 u]),.t (.int .i64 0)] []=some (.t (.bool (decide (b0.length=16))),[]):=by
 refine (jX.eq ([b0,b1],u,0) ⟨hk,by show 0<1000000000;omega⟩).trans ?_;simp only[jX,hk.on];rfl
theorem jB {b0 b1:zE}{u:Int}(hk:RK [b0,b1]):jX.fs [.t (.agg [.sl [.sl (b0.map bsT),.sl (b1.map bsT)],.int .i64 u]),.t (.int .i64 1)] []=some (.t (.bool (decide (b1.length=16))),[]):=by
 refine (jX.eq ([b0,b1],u,1) ⟨hk,by show 1<1000000000;omega⟩).trans ?_;simp only[jX,hk.on];rfl
def zJo (bk:List zE)(a i:Nat):List UInt8:=(bk.getD a []).getD i []
def zWi (bank i:Int):Prop:=bank<0∨2≤bank∨i<0∨16≤i
instance (bank i:Int):Decidable (zWi bank i):=by unfold zWi;infer_instance
def jA8 (bk:List zE)(bank i:Int):V:=if zWi bank i then .tup [.nil,.t (.int .i64 1)] else if onB bk bank.toNat then .tup [.sl 0 0 (zJo bk bank.toNat i.toNat).length,.t (.int .i64 0)] else .tup [.nil,.t (.int .i64 27)]
def jA7 (bk:List zE)(bank i:Int):List Ob:=if zWi bank i then [] else if onB bk bank.toNat then [.live 1 (((zJo bk bank.toNat i.toNat).map qA).map V.t) true false] else []
theorem RM.val {bk:List zE}(h:RM bk)(a i:Nat):(zJo bk a i).length<1000000000:=by
 by_cases ha:a<bk.length
 ·have e:bk.getD a []=bk[a]:=by simp[List.getD,ha]
  unfold zJo;rw[e];exact qHl (h.2 _ (List.getElem_mem ha)) i
 ·have e:bk.getD a []=[]:=by simp[List.getD,List.getElem?_eq_none (Nat.le_of_not_lt ha)]
  unfold zJo;rw[e];simp
theorem RK.len {bk:List zE}(h:RK bk){a:Nat}(ho:onB bk a=true):a<bk.length:=by
 simp only[onB,decide_eq_true_eq] at ho;rcases Nat.lt_or_ge a bk.length with h1 | h1
 ·exact h1
 ·rw[List.getD,List.getElem?_eq_none h1] at ho;simp at ho
theorem zDd (h1:LkC tab 74 jX)(h2:LkC tab 99 kR)(bk:List zE)(u bank i:Int)(hk:RM bk) :
  vK.1.wp tab gl (qD 0 [.t (yL bk u),.t (.int .i64 bank),.t (.int .i64 i)]) (qD 0 []) (xU [] [(6,none),(7,none)] 0 (fun r o=>r=jA8 bk bank i∧o=jA7 bk bank i)):=by
 by_cases hb:zWi bank i
 ·rw[jA8,jA7,if_pos hb,if_pos hb];by_cases b1:bank<0
  ·simp(disch:=omega)only[go_sem,vK,b1]
  ·by_cases b2:2≤bank
   ·simp(disch:=omega)only[go_sem,vK,b1]
   ·by_cases b3:i<0
    ·simp(disch:=omega)only[go_sem,vK,b1]
    ·have hi:16≤i:=by unfold zWi at hb;omega
     simp(disch:=omega)only[go_sem,vK,b1]
 ·rw[jA8,jA7,if_neg hb,if_neg hb];unfold zWi at hb;obtain⟨a,rfl⟩:=Int.eq_ofNat_of_zero_le (show 0≤bank by omega);obtain⟨k,rfl⟩:=Int.eq_ofNat_of_zero_le (show 0≤i by omega);have hon:=qG0 (u:=u) (a:=a) hk.1 oM;by_cases ho:onB bk a=true
  ·have hl:=hk.1.len ho;have hv:=hk.val a k;have hl2:(bk.getD a []).length=16:=by simpa [onB] using ho
   rw[ho] at hon;unfold zJo at hv;simp(disch:=omega)only[go_sem,vK,h1,h2,hon,ho,zJo,zR]
  ·have ho':onB bk a=false:=by simpa using ho
   rw[ho'] at hon;simp(disch:=omega)only[go_sem,vK,h1,h2,hon,ho']
def kC:Ct where
 α:=Int×Bool
 aS x:=[.t (.int .i64 x.1),.t (.bool x.2)]
 ins _:=[]
 pre _:=True
 r x:= .t (.int .i64 (if yK x.1 x.2=5 then -1 else yK x.1 x.2))
 outs _:=[]
 inj:=by
  rintro⟨a,b⟩ ⟨c,d⟩ h _;simp at h;obtain⟨rfl,rfl⟩:=h;exact⟨rfl,rfl⟩
theorem qD4 {i:Int}{rs:Bool}:kC.fs [.t (.int .i64 i),.t (.bool rs)] []=some (.t (.int .i64 (if yK i rs=5 then -1 else yK i rs)),[]):=kC.eq (i,rs) trivial
def zNl (loc i:Int):Int:=if loc<0∨4<loc∨i<0∨16≤i then 1 else if loc<yK i true then 13 else 0
def qTu (a:Nat)(b:zE)(i:Nat):zE:=if List.length b=16 then b.set i (List.replicate (szA a) 0) else b
def zEr (bk:List zE)(i:Nat):List zE:=match bk with
 | [b0,b1]=>[qTu 0 b0 i,qTu 1 b1 i]
 | bk=>bk
def zZj (bk:List zE)(u loc i:Int):V:=if zNl loc i=0 then .tup [.t (yL (zEr bk i.toNat) (u+1)),.t (.int .i64 0)] else .tup [.t (yL [] 0),.t (.int .i64 (zNl loc i))]
theorem jQ {a:Nat}{b:zE}{i:Nat}:List.length (qTu a b i)=List.length b:=by
 unfold qTu;split<;>simp
theorem qRu (h1:LkC tab 235 kC)(bk:List zE)(u loc i:Int)(he:zNl loc i≠0):zY.1.wp tab gl (qD 0 [.t (yL bk u),.t (.int .i64 loc),.t (.int .i64 i)]) (qD 0 []) (qY [(6,some (2,true)),(7,none)] 0 (fun r o=>r = .tup [.t (yL [] 0),.t (.int .i64 (zNl loc i))]∧o=[])):=by
 unfold zNl at he ⊢;by_cases a1:loc<0
 ·simp(disch:=omega)only[go_sem,zY,a1,List.map_nil]
 ·by_cases a2:4<loc
  ·simp(disch:=omega)only[go_sem,zY,a1,a2,List.map_nil]
  ·by_cases a3:i<0
   ·simp(disch:=omega)only[go_sem,zY,a1,a2,a3,List.map_nil]
   ·by_cases a4:16≤i
    ·simp(disch:=omega)only[go_sem,zY,a1,a2,a3,a4,List.map_nil]
    ·by_cases a5:loc<yK i true
     ·by_cases a6:yK i true=5
      ·have a8:loc<5:=oM;simp(disch:=omega)only[go_sem,zY,a1,a2,a3,a4,a6,a8,h1,qD4,List.map_nil]
      ·have a7:0≤yK i true:=by unfold yK;split<;>(try split)<;>(try split)<;>(try split)<;>omega
       simp(disch:=omega)only[go_sem,zY,a1,a2,a3,a4,a5,a6,h1,qD4,List.map_nil]
     ·simp[a1,a2,a3,a4,a5] at he
theorem qZ0 (h1:LkC tab 235 kC)(h3:LkC tab 79 jI)(h4:LkC tab 74 jX)(u loc i:Int)(hu:0≤u∧u<1000000000)(he:zNl loc i=0):zY.1.wp tab gl (qD 0 [.t (yL [] u),.t (.int .i64 loc),.t (.int .i64 i)]) (qD 0 []) (qY [(6,some (2,true)),(7,none)] 0 (fun r o=>r = .tup [.t (yL [] (u+1)),.t (.int .i64 0)]∧o=[])):=by
 have c0 : ∀ a:Nat,a<2→jX.fs [.t (.agg [.sl [],.int .i64 u]),.t (.int .i64 a)] []=some (.t (.bool false),[]):=fun a ha=>(qG0 (bk:=[]) .nil oM).trans (by simp[onB])
 have c1:=c0 0 oM;have c2:=c0 1 oM;rw[show ((0:Nat):Int)=0 from rfl] at c1;rw[show ((1:Nat):Int)=1 from rfl] at c2;unfold zNl at he;split at he
 ·omega
 ·split at he
  ·omega
  ·rename_i e1 e2;have a7:0≤yK i true:=by unfold yK;split<;>(try split)<;>(try split)<;>(try split)<;>omega
   have a6 : ¬ yK i true=5:=oM;simp(disch:=omega)only[go_sem,zY,h1,qD4,h3,qSk,List.map_nil,a6];refine qT 3 ?_;simp(disch:=omega)only[go_sem,qJ,h4,c1,c2]
theorem qZ1 (h1:LkC tab 235 kC)(h3:LkC tab 79 jI)(h4:LkC tab 74 jX)(h5:LkC tab 98 xQ)(h6:LkC tab 97 vS)(b0 b1:zE)(u loc i:Int)(hu:0≤u∧u<1000000000)(hk:RM [b0,b1])(he:zNl loc i=0) :
  zY.1.wp tab gl (qD 0 [.t (yL [b0,b1] u),.t (.int .i64 loc),.t (.int .i64 i)]) (qD 0 []) (qY [(6,some (2,true)),(7,none)] 0 (fun r o=>r = .tup [.t (yL (zEr [b0,b1] i.toNat) (u+1)),.t (.int .i64 0)]∧o=[])):=by
 have gg:qUx b0∧qUx b1:=by
  obtain⟨hrk,_⟩:=hk;cases hrk with
  | two _ _ h0 h1=>exact⟨h0,h1⟩
 obtain⟨g0,g1⟩:=gg;unfold zNl at he;split at he
 ·omega
 ·split at he
  ·omega
  ·rename_i e1 e2;obtain⟨n,rfl⟩:=Int.eq_ofNat_of_zero_le (show 0≤i by omega);have a7:0≤yK (n:Int) true:=by unfold yK;split<;>(try split)<;>(try split)<;>(try split)<;>omega
   have a6 : ¬ yK (n:Int) true=5:=oM;simp(disch:=omega)only[go_sem,zY,h1,qD4,h3,jE hk,mcn,a6];refine qF 2 (fun k=>match k with | 0=>[(2,.t (.int .i64 (n:Nat))),(3,.ref 4096 0 0),(6,.ref 4112 0 0),(9,.ref 28704 0 0),(10,.t (.int .i64 0))] | 1=>[(2,.t (.int .i64 (n:Nat))),(3,.ref 4096 0 0),(6,.ref 4112 0 0),(9,.ref 28704 0 0),(10,.t (.int .i64 1))] | _=>[(2,.t (.int .i64 (n:Nat))),(3,.ref 4096 0 0),(6,.ref 4112 0 0),(9,.ref 28704 0 0),(10,.t (.int .i64 2))]) (fun k=>match k with | 0=>[(28704,.live 2 [.agg [.sl 28688 0 2,.t (.int .i64 u)]] true true),(28690,.live 1 (((b1).map bsT).map V.t) true false),(28689,.live 1 (((b0).map bsT).map V.t) true false),(28688,.live 1 [.sl 28689 0 (List.length b0),.sl 28690 0 (List.length b1)] true false),(4112,.live 2 [.agg [.nil,.t (.int .i64 0)]] true true),(4096,.live 2 [.t (yL [b0,b1] u)] true true)] | 1=>[(28704,.live 2 [.agg [.sl 28688 0 2,.t (.int .i64 u)]] true true),(28690,.live 1 (((b1).map bsT).map V.t) true false),(28689,.live 1 (((qTu 0 b0 n).map bsT).map V.t) true false),(28688,.live 1 [.sl 28689 0 (List.length b0),.sl 28690 0 (List.length b1)] true false),(4112,.live 2 [.agg [.nil,.t (.int .i64 0)]] true true),(4096,.live 2 [.t (yL [b0,b1] u)] true true)] | _=>[(28704,.live 2 [.agg [.sl 28688 0 2,.t (.int .i64 u)]] true true),(28690,.live 1 (((qTu 1 b1 n).map bsT).map V.t) true false),(28689,.live 1 (((qTu 0 b0 n).map bsT).map V.t) true false),(28688,.live 1 [.sl 28689 0 (List.length b0),.sl 28690 0 (List.length b1)] true false),(4112,.live 2 [.agg [.nil,.t (.int .i64 0)]] true true),(4096,.live 2 [.t (yL [b0,b1] u)] true true)]) ?_ (fun k hk2=>?_)
   ·refine qI.rd id ?_ ?_ rfl;all_goals simp(disch:=omega)only[go_sem,id]
   ·rcases (show k=0∨k=1∨k=2 by omega) with rfl | rfl | rfl
    ·rcases g0 with z0 | z0
     ·simp(disch:=omega)only[go_sem,z0,h5,h6,qR,qS,zH,zI,h4,jA hk.1,jB hk.1,jQ];refine qI.rd id ?_ ?_ rfl;all_goals simp(disch:=omega)only[go_sem,id,qTu,z0,jQ]
     ·simp(disch:=omega)only[go_sem,z0,h5,h6,qR,qS,zH,zI,h4,jA hk.1,jB hk.1,jQ];repeat refine And.intro rfl ?_
      refine qI.cv (hv:=[]) [49280] id ?_ rfl;simp(maxSteps:=9^9)(disch:=try exact dS)only[go_sem,id,qTu,z0,List.take_replicate,Nat.min_self,jQ,szA];all_goals rfl
    ·rcases g1 with z1 | z1
     ·simp(disch:=omega)only[go_sem,z1,h5,h6,qR,qS,zH,zI,h4,jA hk.1,jB hk.1,jQ];refine qI.rd id ?_ ?_ rfl;all_goals simp(disch:=omega)only[go_sem,id,qTu,z1,jQ]
     ·simp(disch:=omega)only[go_sem,z1,h5,h6,qR,qS,zH,zI,h4,jA hk.1,jB hk.1,jQ];repeat refine And.intro rfl ?_
      refine qI.cv (hv:=[]) [49280] id ?_ rfl;simp(maxSteps:=9^9)(disch:=try exact dS)only[go_sem,id,qTu,z1,List.take_replicate,Nat.min_self,jQ,szA];all_goals rfl
    ·have t0:List.take (List.length b0) (qTu 0 b0 n)=qTu 0 b0 n:=List.take_of_length_le (by rw[jQ];exact Nat.le_refl _);have t1:List.take (List.length b1) (qTu 1 b1 n)=qTu 1 b1 n:=List.take_of_length_le (by rw[jQ];exact Nat.le_refl _);simp(disch:=omega)only[go_sem,jQ,t0,t1];rfl
def qKp (l0 l1:Nat)(loc i:Int)(nd k0 k1:Nat):Int:=
 if loc<0∨4<loc∨i<0∨16≤i∨nd≠2 then 1 else if loc<yK i false then 13
 else if (l0≠16∧0<k0)∨(l1≠16∧0<k1) then 27 else if (l0=16∧k0≠20)∨(l1=16∧k1≠32) then 24 else 0
def qBy (a:Nat)(b:zE)(i:Nat)(d:List UInt8):zE:=if List.length b=16 then b.set i (zPi a (b.getD i []++d)) else b
theorem qZ {a:Nat}{b:zE}{i:Nat}{d:List UInt8}:List.length (qBy a b i d)=List.length b:=by
 unfold qBy;split<;>simp
def qP3 (bk:List zE)(i:Nat)(ds:List (List UInt8)):List zE:=match bk with
 | [b0,b1]=>[qBy 0 b0 i (ds.getD 0 []),qBy 1 b1 i (ds.getD 1 [])]
 | bk=>bk
def qKq (bk:List zE)(loc i:Int)(ds:List (List UInt8)):Int:=qKp (bk.getD 0 []).length (bk.getD 1 []).length loc i ds.length (ds.getD 0 []).length (ds.getD 1 []).length
def qQx (bk:List zE)(u loc i:Int)(ds:List (List UInt8)):V:=
 if qKp (bk.getD 0 []).length (bk.getD 1 []).length loc i ds.length (ds.getD 0 []).length (ds.getD 1 []).length=0 then .tup [.t (yL (qP3 bk i.toNat ds) (u+1)),.t (.int .i64 0)]
 else .tup [.t (yL [] 0),.t (.int .i64 (qKp (bk.getD 0 []).length (bk.getD 1 []).length loc i ds.length (ds.getD 0 []).length (ds.getD 1 []).length))]
theorem zOm {x:List UInt8}:zPi 0 x=qYn x:=rfl
theorem zOn {x:List UInt8}:zPi 1 x=jY x:=rfl
theorem qBw {x:List UInt8}:List.take 20 (qYn x)=qYn x:=List.take_of_length_le (by rw[yJ];exact Nat.le_refl _)
theorem kH {x:List UInt8}:List.take 32 (jY x)=jY x:=List.take_of_length_le (by rw[qO];exact Nat.le_refl _)
end Go.Eng
end
