/- A part of an abstract machine, its walks, their tie. -/
import Derived.Test.YtlhjonbjbiafaaaGreatDoorU19
import Derived.Test.YtlhjonbjbiafaaaGreatDoorU16
import Derived.Test.YtlhjonbjbiafaaaGreatDoorU9
import Derived.Test.YtlhjonbjbiafaaaGreatDoorU17
set_option linter.all false
section
set_option maxHeartbeats 64000000
set_option maxRecDepth 20000
namespace Go.Eng
variable (tab:Tab) (gl:Gl)
theorem qHn (h1:LkC tab 242 wD)(h2:LkC tab 244 qAw)(bk:List qY)(u loc i:Int)(ds:List (List UInt8))(hd:ds.length<1000000000)
  (hb:(loc<0∨4<loc∨i<0∨16≤i∨ds.length≠2)∨loc<yG i false) :
  qZ.1.wp tab gl (qF 0 [.t (zT bk u),.t (.int .i64 loc),.t (.int .i64 i),.t (.sl (ds.map bsT))]) (qF 0 []) (zD [(8,some (2,true)),(9,none)] 0 (fun r o=>r = .tup [.t (zT [] 0),.t (.int .i64 (if loc<0∨4<loc∨i<0∨16≤i∨ds.length≠2 then 1 else 13))]∧o=[])):=by
 by_cases a1:loc<0
 ·simp(disch:=omega)only[go_sem,qZ,a1,List.map_nil]
 ·by_cases a2:4<loc
  ·simp(disch:=omega)only[go_sem,qZ,a1,a2,List.map_nil]
  ·by_cases a3:i<0
   ·simp(disch:=omega)only[go_sem,qZ,a1,a2,a3,h1,qTk,List.map_nil]
   ·by_cases a4:16≤i
    ·simp(disch:=omega)only[go_sem,qZ,a1,a2,a3,a4,h1,qTk,List.map_nil]
    ·by_cases a5:ds.length=2
     ·have a6:loc<yG i false:=by rcases hb with h | h;(omega);(exact h)
      simp(disch:=omega)only[go_sem,qZ,a1,a2,a3,a4,a5,a6,h1,qGy,h2,qJv,List.map_nil,ne_eq]
     ·simp(disch:=omega)only[go_sem,qZ,a1,a2,a3,a4,a5,h1,qGy,List.map_nil,ne_eq]
theorem qP4 (h2:LkC tab 64 qDq)(bk:List qY)(u loc i:Int)(ds:List (List UInt8))(hd:ds.length<1000000000)
  (hb:(loc<0∨4<loc∨i<0∨16≤i∨ds.length≠2)∨loc<yG i false) :
  zS.1.wp tab gl (qF 0 [.t (zT bk u),.t (.int .i64 loc),.t (.int .i64 i),.t (.sl (ds.map bsT))]) (qF 0 []) (zD [(8,some (2,true)),(9,none)] 0 (fun r o=>r = .tup [.t (zT [] 0),.t (.int .i64 (if loc<0∨4<loc∨i<0∨16≤i∨ds.length≠2 then 1 else 13))]∧o=[])):=by
 have a7 : ¬ yG i false=5:=by unfold yG;split<;>(try split)<;>(try split)<;>simp_all
 by_cases a1:loc<0
 ·simp(disch:=omega)only[go_sem,zS,a1,List.map_nil]
 ·by_cases a2:4<loc
  ·simp(disch:=omega)only[go_sem,zS,a1,a2,List.map_nil]
  ·by_cases a3:i<0
   ·simp(disch:=omega)only[go_sem,zS,a1,a2,a3,List.map_nil]
   ·by_cases a4:16≤i
    ·simp(disch:=omega)only[go_sem,zS,a1,a2,a3,a4,List.map_nil]
    ·by_cases a5:ds.length=2
     ·have a6:loc<yG i false:=by rcases hb with h | h;(omega);(exact h)
      simp(disch:=omega)only[go_sem,zS,a1,a2,a3,a4,a5,a6,a7,h2,qT1,List.map_nil,ne_eq]
     ·simp(disch:=omega)only[go_sem,zS,a1,a2,a3,a4,a5,List.map_nil,ne_eq]
theorem zF5 {u:Int}{a:Nat}(ha:a<2):vE.fs [.t (.agg [.sl [],.int .i64 u]),.t (.int .i64 a)] []=some (.t (.bool false),[]):=(qSm (bk:=[]) .nil oM).trans (by simp[onB])
theorem qMr (h1:LkC tab 242 wD)(h2:LkC tab 244 qAw)(h3:LkC tab 243 qHi)(h5:LkC tab 241 jF)
  (u loc:Int) (n:Nat) (d0 d1:List UInt8) (hu:0≤u∧u<1000000000) (hd:d0.length<9223372036854775808∧d1.length<9223372036854775808) (e1 : ¬(loc<0∨4<loc∨16≤n)) (e2 : ¬ loc<yG n false) :
  qZ.1.wp tab gl (qF 0 [.t (zT [] u),.t (.int .i64 loc),.t (.int .i64 n),.t (.sl [bsT d0,bsT d1])]) (qF 0 []) (zD [(8,some (2,true)),(9,none)] 0 (fun r o=>r=qFi [] u loc n [d0,d1]∧o=[])):=by
 have c0:=zV6 (u:=u) (a:=0) oM;have c1:=zV6 (u:=u) (a:=1) oM;rw[show ((0:Nat):Int)=0 from rfl] at c0;rw[show ((1:Nat):Int)=1 from rfl] at c1;simp(disch:=omega)only[go_sem,qZ,h1,qGy,h2,qJv,mcn];refine vM (fs':=[(2,.t (.int .i64 (n:Nat))),(3,.t (.sl [bsT d0,bsT d1])),(4,.ref 4096 0 0),(8,.ref 4112 0 0),(38,.t (.sl [bsT d0,bsT d1])),(39,.t (.int .i64 2)),(40,.t (.int .i64 0))]) (hs':=[(4112,.live 2 [.agg [.nil,.t (.int .i64 0)]] true true),(4096,.live 2 [.t (zT [] u)] true true)]) (qJ.rd id ?_ ?_ rfl) ?_
 ·simp(disch:=omega)only[go_sem,id]
 ·simp(disch:=omega)only[go_sem,id,List.map_nil]
 by_cases p:0<d0.length∨0<d1.length
 ·have hE:xX 0 0 loc n 2 d0.length d1.length=27:=by unfold xX;rw[if_neg oM,if_neg oM,if_pos oM]
  by_cases p0:0<d0.length
  ·refine qG 3 ?_;simp(disch:=omega)only[go_sem,qD,h3,c0,c1,hE,List.map_nil,qFi,xY,List.getD_nil,List.getD_cons_zero,List.getD_cons_succ,List.length_cons,List.length_nil]
  ·refine qG 3 ?_;simp(disch:=omega)only[go_sem,qD,h3,c0,c1,hE,List.map_nil,qFi,xY,List.getD_nil,List.getD_cons_zero,List.getD_cons_succ,List.length_cons,List.length_nil]
 ·have hE:xX 0 0 loc n 2 d0.length d1.length=0:=by unfold xX;rw[if_neg oM,if_neg oM,if_neg oM,if_neg oM]
  refine qG 3 ?_;simp(disch:=omega)only[go_sem,qD,h3,c0,c1,List.map_nil];refine qG 3 ?_;simp(disch:=omega)only[go_sem,qD,h3,c0,c1,h5,qSd,List.map_nil];refine qG 1 ?_;simp(disch:=omega)only[go_sem,qD,hE,List.map_nil,qFi,xY,qI9,List.getD_nil,List.getD_cons_zero,List.getD_cons_succ,List.length_cons,List.length_nil]
theorem qV9 (h2:LkC tab 64 qDq)(h3:LkC tab 20 vE)(h5:LkC tab 65 jF)
  (u loc:Int) (n:Nat) (d0 d1:List UInt8) (hu:0≤u∧u<1000000000) (hd:d0.length<9223372036854775808∧d1.length<9223372036854775808) (e1 : ¬(loc<0∨4<loc∨16≤n)) (e2 : ¬ loc<yG n false) :
  zS.1.wp tab gl (qF 0 [.t (zT [] u),.t (.int .i64 loc),.t (.int .i64 n),.t (.sl [bsT d0,bsT d1])]) (qF 0 []) (zD [(8,some (2,true)),(9,none)] 0 (fun r o=>r=qFi [] u loc n [d0,d1]∧o=[])):=by
 have a6 : ¬ yG (n:Int) false=5:=by unfold yG;split<;>(try split)<;>(try split)<;>simp_all
 have c0:=zF5 (u:=u) (a:=0) oM;have c1:=zF5 (u:=u) (a:=1) oM;rw[show ((0:Nat):Int)=0 from rfl] at c0;rw[show ((1:Nat):Int)=1 from rfl] at c1;simp(disch:=omega)only[go_sem,zS,h2,qT1,a6,mcn];refine vM (fs':=[(2,.t (.int .i64 (n:Nat))),(3,.t (.sl [bsT d0,bsT d1])),(4,.ref 4096 0 0),(8,.ref 4112 0 0),(10,.t (.int .i64 0))]) (hs':=[(4112,.live 2 [.agg [.nil,.t (.int .i64 0)]] true true),(4096,.live 2 [.t (zT [] u)] true true)]) (qJ.rd id ?_ ?_ rfl) ?_
 ·simp(disch:=omega)only[go_sem,id]
 ·simp(disch:=omega)only[go_sem,id,List.map_nil]
 by_cases p:0<d0.length∨0<d1.length
 ·have hE:xX 0 0 loc n 2 d0.length d1.length=27:=by unfold xX;rw[if_neg oM,if_neg oM,if_pos oM]
  by_cases p0:0<d0.length
  ·refine qG 3 ?_;simp(disch:=omega)only[go_sem,qD,h3,c0,c1,hE,List.map_nil,qFi,xY,List.getD_nil,List.getD_cons_zero,List.getD_cons_succ,List.length_cons,List.length_nil];all_goals repeat refine And.intro rfl ?_
   all_goals rfl
  ·refine qG 3 ?_;simp(disch:=omega)only[go_sem,qD,h3,c0,c1,hE,List.map_nil,qFi,xY,List.getD_nil,List.getD_cons_zero,List.getD_cons_succ,List.length_cons,List.length_nil];all_goals repeat refine And.intro rfl ?_
   all_goals rfl
 ·have hE:xX 0 0 loc n 2 d0.length d1.length=0:=by unfold xX;rw[if_neg oM,if_neg oM,if_neg oM,if_neg oM]
  refine qG 3 ?_;simp(disch:=omega)only[go_sem,qD,h3,c0,c1,List.map_nil];all_goals repeat refine And.intro rfl ?_
  refine qG 3 ?_;simp(disch:=omega)only[go_sem,qD,h3,c0,c1,h5,qSd,List.map_nil];all_goals repeat refine And.intro rfl ?_
  refine qG 3 ?_;simp(disch:=omega)only[go_sem,qD,h3,c0,c1,hE,List.map_nil,qFi,xY,qI9,List.getD_nil,List.getD_cons_zero,List.getD_cons_succ,List.length_cons,List.length_nil]
def RV (bk:List qY):Prop:=RK bk ∧ ∀ b∈bk,∀ x∈b,x.length≤64
theorem RV.rm {bk:List qY}(h:RV bk):RM bk:=by
 refine⟨h.1,fun b hb=>⟨?_,fun x hx=>Nat.lt_of_le_of_lt (h.2 b hb x hx) oM⟩⟩;have:qRr b:=by
  obtain⟨hk,_⟩:=h;cases hk with
  | nil=>simp at hb
  | two b0 b1 h0 h1=>
   simp only[List.mem_cons,List.not_mem_nil,or_false] at hb;rcases hb with rfl | rfl
   ·exact h0
   ·exact h1
 rcases this with h | h<;>omega
theorem qGx {b:qY}{m n:Nat}(h : ∀ x∈b,x.length≤m):(b.getD n []).length≤m:=by
 by_cases hi:n<List.length b
 ·have:b.getD n []=b[n]:=by simp[List.getD,hi]
  rw[this];exact h _ (List.getElem_mem hi)
 ·simp[List.getD,List.getElem?_eq_none (Nat.le_of_not_lt hi)]
abbrev jB3:=List qY×Int×Int×Int×List (List UInt8)
def zVk (x:jB3):Prop:=RV x.1∧(0≤x.2.1∧x.2.1<1000000000)∧x.2.2.2.2.length<1000000000 ∧ ∀ d∈x.2.2.2.2,d.length<9223372036854775808
def kM:Ct where
 α:=jB3
 aS x:=[.t (zT x.1 x.2.1),.t (.int .i64 x.2.2.1),.t (.int .i64 x.2.2.2.1),.t (.sl (x.2.2.2.2.map bsT))]
 ins _:=[]
 pre:=zVk
 r x:=qFi x.1 x.2.1 x.2.2.1 x.2.2.2.1 x.2.2.2.2
 outs _:=[]
 inj:=by
  rintro⟨a,u,l,i,ds⟩ ⟨b,v,l',i',ds'⟩ h _;simp only[List.cons.injEq,V.t.injEq,T.int.injEq,T.sl.injEq,true_and,and_true,qB1] at h;obtain⟨h1,rfl,rfl,rfl⟩:=h;obtain⟨rfl,rfl⟩:=xN h1;exact⟨rfl,rfl⟩
theorem zGz {bk:List qY}{u loc i:Int}{ds:List (List UInt8)}(hb:(loc<0∨4<loc∨i<0∨16≤i∨ds.length≠2)∨loc<yG i false) :
  qFi bk u loc i ds = .tup [.t (zT [] 0),.t (.int .i64 (if loc<0∨4<loc∨i<0∨16≤i∨ds.length≠2 then 1 else 13))]:=by
 have he:xX (bk.getD 0 []).length (bk.getD 1 []).length loc i ds.length (ds.getD 0 []).length (ds.getD 1 []).length=if loc<0∨4<loc∨i<0∨16≤i∨ds.length≠2 then 1 else 13:=by
  unfold xX;by_cases h:loc<0∨4<loc∨i<0∨16≤i∨ds.length≠2
  ·rw[if_pos h,if_pos h]
  ·have h2:loc<yG i false:=by rcases hb with h' | h';exact absurd h' h;exact h'
   rw[if_neg h,if_neg h,if_pos h2]
 unfold qFi;rw[he];split
 ·split at *<;>simp_all
 ·rfl
theorem qOn (h1:LkC tab 242 wD)(h2:LkC tab 244 qAw)(h3:LkC tab 243 qHi)(h4:LkC tab 175 kD)(h5:LkC tab 241 jF)(h6:LkC tab 130 xV)(x:kM.α)(hx:kM.pre x) :
  qZ.1.wp tab gl (qF 0 (kM.aS x)) (qF 0 (kM.ins x)) (zD [(8,some (2,true)),(9,none)] (kM.ins x).length (fun r o=>r=kM.r x∧o=kM.outs x)):=by
 obtain⟨bk,u,loc,i,ds⟩:=x;obtain⟨hv,hu,hd,hd2⟩:=hx;simp only[kM] at *;by_cases hb:(loc<0∨4<loc∨i<0∨16≤i∨ds.length≠2)∨loc<yG i false
 ·rw[zGz hb];exact qHn tab gl h1 h2 bk u loc i ds hd hb
 ·obtain⟨n,rfl⟩:=Int.eq_ofNat_of_zero_le (show 0≤i by omega)
  match ds,hd2,hb with
  | [d0,d1],hd2,hb=>
   have m0:=hd2 d0 sM;have m1:=hd2 d1 sM;have e1 : ¬(loc<0∨4<loc∨16≤n):=oM;have e2 : ¬ loc<yG n false:=oM;have hm:=hv.rm;obtain⟨hk,hl⟩:=hv;cases hk with
   | nil=>exact qMr tab gl h1 h2 h3 h5 u loc n d0 d1 hu ⟨m0,m1⟩ e1 e2
   | two b0 b1 g0 g1=>exact qMs tab gl h1 h2 h3 h4 h5 h6 b0 b1 u loc n d0 d1 hu hm (qGx (hl b0 sM)) (qGx (hl b1 sM)) ⟨m0,m1⟩ e1 e2
  | [],_,hb=>simp at hb
  | [_],_,hb=>simp at hb
  | _::_::_::_,_,hb=>simp at hb
theorem qZ2 (h2:LkC tab 64 qDq)(h3:LkC tab 20 vE)(h4:LkC tab 58 kD)(h5:LkC tab 65 jF)(h7:LkC tab 67 qKz)(h6:LkC tab 66 xV)(x:kM.α)(hx:kM.pre x) :
  zS.1.wp tab gl (qF 0 (kM.aS x)) (qF 0 (kM.ins x)) (zD [(8,some (2,true)),(9,none)] (kM.ins x).length (fun r o=>r=kM.r x∧o=kM.outs x)):=by
 obtain⟨bk,u,loc,i,ds⟩:=x;obtain⟨hv,hu,hd,hd2⟩:=hx;simp only[kM] at *;by_cases hb:(loc<0∨4<loc∨i<0∨16≤i∨ds.length≠2)∨loc<yG i false
 ·rw[zGz hb];exact qP4 tab gl h2 bk u loc i ds hd hb
 ·obtain⟨n,rfl⟩:=Int.eq_ofNat_of_zero_le (show 0≤i by omega)
  match ds,hd2,hb with
  | [d0,d1],hd2,hb=>
   have m0:=hd2 d0 sM;have m1:=hd2 d1 sM;have e1 : ¬(loc<0∨4<loc∨16≤n):=oM;have e2 : ¬ loc<yG n false:=oM;have hm:=hv.rm;obtain⟨hk,hl⟩:=hv;cases hk with
   | nil=>exact qV9 tab gl h2 h3 h5 u loc n d0 d1 hu ⟨m0,m1⟩ e1 e2
   | two b0 b1 g0 g1=>exact qWa tab gl h2 h3 h4 h5 h7 h6 b0 b1 u loc n d0 d1 hu hm (qGx (hl b0 sM)) (qGx (hl b1 sM)) ⟨m0,m1⟩ e1 e2
  | [],_,hb=>simp at hb
  | [_],_,hb=>simp at hb
  | _::_::_::_,_,hb=>simp at hb
def qHo (bk:List qY)(data:List UInt8):List (List UInt8):=[if onB bk 0 then qQt data else [],if onB bk 1 then jC data else []]
def evR (bk:List qY)(u loc i:Int)(data:List UInt8):V:=if 128<data.length then .tup [.t (zT [] 0),.t (.int .i64 4)] else qFi bk u loc i (qHo bk data)
theorem qWo {bk:List qY}{u loc i:Int}{ds:List (List UInt8)} : ∃ (bk':List qY) (u' e:Int),qFi bk u loc i ds = .tup [.t (.agg [.sl (bk'.map wQ),.int .i64 u']),.t (.int .i64 e)]:=by
 unfold qFi;split
 ·exact⟨_,_,_,rfl⟩
 ·exact⟨[],0,_,rfl⟩
theorem zVl {bk:List qY}{u loc i:Int}{ds:List (List UInt8)}(h:zVk (bk,u,loc,i,ds)):kM.fs [.t (.agg [.sl (bk.map wQ),.int .i64 u]),.t (.int .i64 loc),.t (.int .i64 i),.t (.sl (ds.map bsT))] []=some (qFi bk u loc i ds,[]):=kM.eq (bk,u,loc,i,ds) h
theorem qRu {bk:List qY}{data:List UInt8}:(qHo bk data).length<1000000000 ∧ ∀ d∈qHo bk data,d.length<9223372036854775808:=by
 refine⟨by simp[qHo],?_⟩;intro d hd;simp only[qHo,List.mem_cons,List.not_mem_nil,or_false] at hd;rcases hd with rfl | rfl
 ·split
  ·rw[zK];omega
  ·simp
 ·split
  ·rw[qN];omega
  ·simp
theorem qV8 (h1:LkC tab 20 vE)(h2:LkC tab 66 xV)(bk:List qY)(u:Int)(data:List UInt8)(hk:RK bk)(hd:data.length<1000000000) :
  qDh.1.wp tab gl (qF 0 [.t (zT bk u),.t (.sl (data.map qA))]) (qF 0 []) (zD [(4,none)] 0 (fun r o=>r = .t (.sl ((qHo bk data).map bsT))∧o=[])):=by
 have c0:=qSm (u:=u) (a:=0) hk oM;have c1:=qSm (u:=u) (a:=1) hk oM;rw[show ((0:Nat):Int)=0 from rfl] at c0;rw[show ((1:Nat):Int)=1 from rfl] at c1;simp(disch:=omega)only[go_sem,qDh];cases o0:onB bk 0<;>cases o1:onB bk 1<;>rw[o0] at c0<;>rw[o1] at c1
 ·have hdig:qHo bk data=[[],[]]:=by rw[qHo,o0,o1];rfl
  rw[hdig];refine qB 2 (fun k=>match k with | 0=>[(1,.t (.sl (data.map qA))),(2,.ref 4096 0 0),(5,.sl 8192 0 2),(6,.t (.int .i64 0))] | 1=>[(1,.t (.sl (data.map qA))),(2,.ref 4096 0 0),(5,.sl 8192 0 2),(6,.t (.int .i64 1))] | _=>[(1,.t (.sl (data.map qA))),(2,.ref 4096 0 0),(5,.sl 8192 0 2),(6,.t (.int .i64 2))]) (fun k=>match k with | 0=>[(8192,.live 1 [.t (bsT []),.t (bsT [])] true false),(4096,.live 2 [.t (zT bk u)] true true)] | 1=>[(8192,.live 1 [.t (bsT ([])),.t (bsT [])] true false),(4096,.live 2 [.t (zT bk u)] true true)] | _=>[(8192,.live 1 [.t (bsT ([])),.t (bsT ([]))] true false),(4096,.live 2 [.t (zT bk u)] true true)]) ?_ (fun k hk2=>?_)
  ·refine qJ.rd id ?_ ?_ rfl;all_goals simp(disch:=omega)only[go_sem,id,List.map_nil]
  ·rcases (show k=0∨k=1∨k=2 by omega) with rfl | rfl | rfl
   ·simp(disch:=omega)only[go_sem,h1,h2,c0,c1,qQ,qP,List.map_nil];refine qJ.rd id ?_ ?_ rfl;all_goals simp(disch:=omega)only[go_sem,id,List.map_nil]
   ·simp(disch:=omega)only[go_sem,h1,h2,c0,c1,qQ,qP,List.map_nil];refine qJ.rd id ?_ ?_ rfl;all_goals simp(disch:=omega)only[go_sem,id,List.map_nil]
   ·simp(disch:=omega)only[go_sem,h1,h2,c0,c1,qQ,qP,List.map_nil,mcn]
 ·have hdig:qHo bk data=[[],jC data]:=by rw[qHo,o0,o1];rfl
  rw[hdig];refine qB 2 (fun k=>match k with | 0=>[(1,.t (.sl (data.map qA))),(2,.ref 4096 0 0),(5,.sl 8192 0 2),(6,.t (.int .i64 0))] | 1=>[(1,.t (.sl (data.map qA))),(2,.ref 4096 0 0),(5,.sl 8192 0 2),(6,.t (.int .i64 1))] | _=>[(1,.t (.sl (data.map qA))),(2,.ref 4096 0 0),(5,.sl 8192 0 2),(6,.t (.int .i64 2))]) (fun k=>match k with | 0=>[(8192,.live 1 [.t (bsT []),.t (bsT [])] true false),(4096,.live 2 [.t (zT bk u)] true true)] | 1=>[(8192,.live 1 [.t (bsT ([])),.t (bsT [])] true false),(4096,.live 2 [.t (zT bk u)] true true)] | _=>[(8192,.live 1 [.t (bsT ([])),.t (bsT (jC data))] true false),(4096,.live 2 [.t (zT bk u)] true true)]) ?_ (fun k hk2=>?_)
  ·refine qJ.rd id ?_ ?_ rfl;all_goals simp(disch:=omega)only[go_sem,id,List.map_nil]
  ·rcases (show k=0∨k=1∨k=2 by omega) with rfl | rfl | rfl
   ·simp(disch:=omega)only[go_sem,h1,h2,c0,c1,qQ,qP,List.map_nil];refine qJ.rd id ?_ ?_ rfl;all_goals simp(disch:=omega)only[go_sem,id,List.map_nil]
   ·simp(disch:=omega)only[go_sem,h1,h2,c0,c1,qQ,qP,List.map_nil];refine qJ.cv (hv:=[]) [28736] id ?_ rfl;simp(disch:=omega)only[go_sem,id,yM,jA,List.map_nil,zK,qN];all_goals rfl
   ·simp(disch:=omega)only[go_sem,h1,h2,c0,c1,qQ,qP,List.map_nil,mcn]
 ·have hdig:qHo bk data=[qQt data,[]]:=by rw[qHo,o0,o1];rfl
  rw[hdig];refine qB 2 (fun k=>match k with | 0=>[(1,.t (.sl (data.map qA))),(2,.ref 4096 0 0),(5,.sl 8192 0 2),(6,.t (.int .i64 0))] | 1=>[(1,.t (.sl (data.map qA))),(2,.ref 4096 0 0),(5,.sl 8192 0 2),(6,.t (.int .i64 1))] | _=>[(1,.t (.sl (data.map qA))),(2,.ref 4096 0 0),(5,.sl 8192 0 2),(6,.t (.int .i64 2))]) (fun k=>match k with | 0=>[(8192,.live 1 [.t (bsT []),.t (bsT [])] true false),(4096,.live 2 [.t (zT bk u)] true true)] | 1=>[(8192,.live 1 [.t (bsT (qQt data)),.t (bsT [])] true false),(4096,.live 2 [.t (zT bk u)] true true)] | _=>[(8192,.live 1 [.t (bsT (qQt data)),.t (bsT ([]))] true false),(4096,.live 2 [.t (zT bk u)] true true)]) ?_ (fun k hk2=>?_)
  ·refine qJ.rd id ?_ ?_ rfl;all_goals simp(disch:=omega)only[go_sem,id,List.map_nil]
  ·rcases (show k=0∨k=1∨k=2 by omega) with rfl | rfl | rfl
   ·simp(disch:=omega)only[go_sem,h1,h2,c0,c1,qQ,qP,List.map_nil];refine qJ.cv (hv:=[]) [28736] id ?_ rfl;simp(disch:=omega)only[go_sem,id,yM,jA,List.map_nil,zK,qN];all_goals rfl
   ·simp(disch:=omega)only[go_sem,h1,h2,c0,c1,qQ,qP,List.map_nil];refine qJ.rd id ?_ ?_ rfl;all_goals simp(disch:=omega)only[go_sem,id,List.map_nil]
   ·simp(disch:=omega)only[go_sem,h1,h2,c0,c1,qQ,qP,List.map_nil,mcn]
 ·have hdig:qHo bk data=[qQt data,jC data]:=by rw[qHo,o0,o1];rfl
  rw[hdig];refine qB 2 (fun k=>match k with | 0=>[(1,.t (.sl (data.map qA))),(2,.ref 4096 0 0),(5,.sl 8192 0 2),(6,.t (.int .i64 0))] | 1=>[(1,.t (.sl (data.map qA))),(2,.ref 4096 0 0),(5,.sl 8192 0 2),(6,.t (.int .i64 1))] | _=>[(1,.t (.sl (data.map qA))),(2,.ref 4096 0 0),(5,.sl 8192 0 2),(6,.t (.int .i64 2))]) (fun k=>match k with | 0=>[(8192,.live 1 [.t (bsT []),.t (bsT [])] true false),(4096,.live 2 [.t (zT bk u)] true true)] | 1=>[(8192,.live 1 [.t (bsT (qQt data)),.t (bsT [])] true false),(4096,.live 2 [.t (zT bk u)] true true)] | _=>[(8192,.live 1 [.t (bsT (qQt data)),.t (bsT (jC data))] true false),(4096,.live 2 [.t (zT bk u)] true true)]) ?_ (fun k hk2=>?_)
  ·refine qJ.rd id ?_ ?_ rfl;all_goals simp(disch:=omega)only[go_sem,id,List.map_nil]
  ·rcases (show k=0∨k=1∨k=2 by omega) with rfl | rfl | rfl
   ·simp(disch:=omega)only[go_sem,h1,h2,c0,c1,qQ,qP,List.map_nil];refine qJ.cv (hv:=[]) [28736] id ?_ rfl;simp(disch:=omega)only[go_sem,id,yM,jA,List.map_nil,zK,qN];all_goals rfl
   ·simp(disch:=omega)only[go_sem,h1,h2,c0,c1,qQ,qP,List.map_nil];refine qJ.cv (hv:=[]) [28736] id ?_ rfl;simp(disch:=omega)only[go_sem,id,yM,jA,List.map_nil,zK,qN];all_goals rfl
   ·simp(disch:=omega)only[go_sem,h1,h2,c0,c1,qQ,qP,List.map_nil,mcn]
def zGk:Ct where
 α:=List qY×Int×List UInt8
 aS x:=[.t (zT x.1 x.2.1),.t (.sl (x.2.2.map qA))]
 ins _:=[]
 pre x:=RK x.1∧x.2.2.length<1000000000
 r x:= .t (.sl ((qHo x.1 x.2.2).map bsT))
 outs _:=[]
 inj:=by
  rintro⟨a,u,d⟩ ⟨b,v,d'⟩ h _;simp only[List.cons.injEq,V.t.injEq,T.sl.injEq,and_true,jB] at h;obtain⟨h1,rfl⟩:=h;obtain⟨rfl,rfl⟩:=xN h1;exact⟨rfl,rfl⟩
theorem qP5 (h1:LkC tab 243 qHi)(h2:LkC tab 130 xV)(h3:LkC tab 179 kM)(bk:List qY)(u loc i:Int)(data:List UInt8)(hk:RV bk)(hu:0≤u∧u<1000000000)(hd:data.length<1000000000) :
  kG.1.wp tab gl (qF 0 [.t (zT bk u),.t (.int .i64 loc),.t (.int .i64 i),.t (.sl (data.map qA))]) (qF 0 []) (zD [(8,some (2,true)),(9,none)] 0 (fun r o=>r=evR bk u loc i data∧o=[])):=by
 have c0:=zM3 (u:=u) (a:=0) hk.1 oM;have c1:=zM3 (u:=u) (a:=1) hk.1 oM;rw[show ((0:Nat):Int)=0 from rfl] at c0;rw[show ((1:Nat):Int)=1 from rfl] at c1;by_cases hl:128<data.length
 ·simp(disch:=omega)only[go_sem,kG,evR,hl,List.map_nil]
 rw[evR,if_neg hl];have hx:=zVl (bk:=bk) (u:=u) (loc:=loc) (i:=i) (ds:=qHo bk data) ⟨hk,hu,qRu.1,qRu.2⟩;obtain⟨bk',u',e,he⟩:=qWo (bk:=bk) (u:=u) (loc:=loc) (i:=i) (ds:=qHo bk data);rw[he] at hx;rw[he];simp(disch:=omega)only[go_sem,kG];cases o0:onB bk 0<;>cases o1:onB bk 1<;>rw[o0] at c0<;>rw[o1] at c1
 ·have hdig:qHo bk data=[[],[]]:=by rw[qHo,o0,o1];rfl
  have hx':=hx;rw[hdig] at hx';simp only[mcn,qO] at hx';refine qB 2 (fun k=>match k with | 0=>[(1,.t (.int .i64 loc)),(2,.t (.int .i64 i)),(3,.t (.sl (data.map qA))),(4,.ref 4096 0 0),(8,.ref 4112 0 0),(10,.sl 16384 0 2),(18,.t (.int .i64 2)),(19,.t (.int .i64 0))] | 1=>[(1,.t (.int .i64 loc)),(2,.t (.int .i64 i)),(3,.t (.sl (data.map qA))),(4,.ref 4096 0 0),(8,.ref 4112 0 0),(10,.sl 16384 0 2),(18,.t (.int .i64 2)),(19,.t (.int .i64 1))] | _=>[(1,.t (.int .i64 loc)),(2,.t (.int .i64 i)),(3,.t (.sl (data.map qA))),(4,.ref 4096 0 0),(8,.ref 4112 0 0),(10,.sl 16384 0 2),(18,.t (.int .i64 2)),(19,.t (.int .i64 2))]) (fun k=>match k with | 0=>[(16384,.live 1 [.t (bsT []),.t (bsT [])] true false),(4112,.live 2 [.agg [.nil,.t (.int .i64 0)]] true true),(4096,.live 2 [.t (zT bk u)] true true)] | 1=>[(16384,.live 1 [.t (bsT ([])),.t (bsT [])] true false),(4112,.live 2 [.agg [.nil,.t (.int .i64 0)]] true true),(4096,.live 2 [.t (zT bk u)] true true)] | _=>[(16384,.live 1 [.t (bsT ([])),.t (bsT ([]))] true false),(4112,.live 2 [.agg [.nil,.t (.int .i64 0)]] true true),(4096,.live 2 [.t (zT bk u)] true true)]) ?_ (fun k hk2=>?_)
  ·refine qJ.rd id ?_ ?_ rfl;all_goals simp(disch:=omega)only[go_sem,id,List.map_nil]
  ·rcases (show k=0∨k=1∨k=2 by omega) with rfl | rfl | rfl
   ·simp(disch:=omega)only[go_sem,h1,h2,c0,c1,qQ,qP,List.map_nil];refine qJ.rd id ?_ ?_ rfl;all_goals simp(disch:=omega)only[go_sem,id,List.map_nil]
   ·simp(disch:=omega)only[go_sem,h1,h2,c0,c1,qQ,qP,List.map_nil];refine qJ.rd id ?_ ?_ rfl;all_goals simp(disch:=omega)only[go_sem,id,List.map_nil]
   ·simp(disch:=omega)only[go_sem,h1,h2,c0,c1,qQ,qP,mcn,h3,hx']
 ·have hdig:qHo bk data=[[],jC data]:=by rw[qHo,o0,o1];rfl
  have hx':=hx;rw[hdig] at hx';simp only[mcn,qO] at hx';refine qB 2 (fun k=>match k with | 0=>[(1,.t (.int .i64 loc)),(2,.t (.int .i64 i)),(3,.t (.sl (data.map qA))),(4,.ref 4096 0 0),(8,.ref 4112 0 0),(10,.sl 16384 0 2),(18,.t (.int .i64 2)),(19,.t (.int .i64 0))] | 1=>[(1,.t (.int .i64 loc)),(2,.t (.int .i64 i)),(3,.t (.sl (data.map qA))),(4,.ref 4096 0 0),(8,.ref 4112 0 0),(10,.sl 16384 0 2),(18,.t (.int .i64 2)),(19,.t (.int .i64 1))] | _=>[(1,.t (.int .i64 loc)),(2,.t (.int .i64 i)),(3,.t (.sl (data.map qA))),(4,.ref 4096 0 0),(8,.ref 4112 0 0),(10,.sl 16384 0 2),(18,.t (.int .i64 2)),(19,.t (.int .i64 2))]) (fun k=>match k with | 0=>[(16384,.live 1 [.t (bsT []),.t (bsT [])] true false),(4112,.live 2 [.agg [.nil,.t (.int .i64 0)]] true true),(4096,.live 2 [.t (zT bk u)] true true)] | 1=>[(16384,.live 1 [.t (bsT ([])),.t (bsT [])] true false),(4112,.live 2 [.agg [.nil,.t (.int .i64 0)]] true true),(4096,.live 2 [.t (zT bk u)] true true)] | _=>[(16384,.live 1 [.t (bsT ([])),.t (bsT (jC data))] true false),(4112,.live 2 [.agg [.nil,.t (.int .i64 0)]] true true),(4096,.live 2 [.t (zT bk u)] true true)]) ?_ (fun k hk2=>?_)
  ·refine qJ.rd id ?_ ?_ rfl;all_goals simp(disch:=omega)only[go_sem,id,List.map_nil]
  ·rcases (show k=0∨k=1∨k=2 by omega) with rfl | rfl | rfl
   ·simp(disch:=omega)only[go_sem,h1,h2,c0,c1,qQ,qP,List.map_nil];refine qJ.rd id ?_ ?_ rfl;all_goals simp(disch:=omega)only[go_sem,id,List.map_nil]
   ·simp(disch:=omega)only[go_sem,h1,h2,c0,c1,qQ,qP,List.map_nil];refine qJ.cv (hv:=[]) [36928] id ?_ rfl;simp(disch:=omega)only[go_sem,id,yM,jA,List.map_nil,zK,qN];all_goals rfl
   ·simp(disch:=omega)only[go_sem,h1,h2,c0,c1,qQ,qP,mcn,h3,hx']
 ·have hdig:qHo bk data=[qQt data,[]]:=by rw[qHo,o0,o1];rfl
  have hx':=hx;rw[hdig] at hx';simp only[mcn,qO] at hx';refine qB 2 (fun k=>match k with | 0=>[(1,.t (.int .i64 loc)),(2,.t (.int .i64 i)),(3,.t (.sl (data.map qA))),(4,.ref 4096 0 0),(8,.ref 4112 0 0),(10,.sl 16384 0 2),(18,.t (.int .i64 2)),(19,.t (.int .i64 0))] | 1=>[(1,.t (.int .i64 loc)),(2,.t (.int .i64 i)),(3,.t (.sl (data.map qA))),(4,.ref 4096 0 0),(8,.ref 4112 0 0),(10,.sl 16384 0 2),(18,.t (.int .i64 2)),(19,.t (.int .i64 1))] | _=>[(1,.t (.int .i64 loc)),(2,.t (.int .i64 i)),(3,.t (.sl (data.map qA))),(4,.ref 4096 0 0),(8,.ref 4112 0 0),(10,.sl 16384 0 2),(18,.t (.int .i64 2)),(19,.t (.int .i64 2))]) (fun k=>match k with | 0=>[(16384,.live 1 [.t (bsT []),.t (bsT [])] true false),(4112,.live 2 [.agg [.nil,.t (.int .i64 0)]] true true),(4096,.live 2 [.t (zT bk u)] true true)] | 1=>[(16384,.live 1 [.t (bsT (qQt data)),.t (bsT [])] true false),(4112,.live 2 [.agg [.nil,.t (.int .i64 0)]] true true),(4096,.live 2 [.t (zT bk u)] true true)] | _=>[(16384,.live 1 [.t (bsT (qQt data)),.t (bsT ([]))] true false),(4112,.live 2 [.agg [.nil,.t (.int .i64 0)]] true true),(4096,.live 2 [.t (zT bk u)] true true)]) ?_ (fun k hk2=>?_)
  ·refine qJ.rd id ?_ ?_ rfl;all_goals simp(disch:=omega)only[go_sem,id,List.map_nil]
  ·rcases (show k=0∨k=1∨k=2 by omega) with rfl | rfl | rfl
   ·simp(disch:=omega)only[go_sem,h1,h2,c0,c1,qQ,qP,List.map_nil];refine qJ.cv (hv:=[]) [36928] id ?_ rfl;simp(disch:=omega)only[go_sem,id,yM,jA,List.map_nil,zK,qN];all_goals rfl
   ·simp(disch:=omega)only[go_sem,h1,h2,c0,c1,qQ,qP,List.map_nil];refine qJ.rd id ?_ ?_ rfl;all_goals simp(disch:=omega)only[go_sem,id,List.map_nil]
   ·simp(disch:=omega)only[go_sem,h1,h2,c0,c1,qQ,qP,mcn,h3,hx']
 ·have hdig:qHo bk data=[qQt data,jC data]:=by rw[qHo,o0,o1];rfl
  have hx':=hx;rw[hdig] at hx';simp only[mcn,qO] at hx';refine qB 2 (fun k=>match k with | 0=>[(1,.t (.int .i64 loc)),(2,.t (.int .i64 i)),(3,.t (.sl (data.map qA))),(4,.ref 4096 0 0),(8,.ref 4112 0 0),(10,.sl 16384 0 2),(18,.t (.int .i64 2)),(19,.t (.int .i64 0))] | 1=>[(1,.t (.int .i64 loc)),(2,.t (.int .i64 i)),(3,.t (.sl (data.map qA))),(4,.ref 4096 0 0),(8,.ref 4112 0 0),(10,.sl 16384 0 2),(18,.t (.int .i64 2)),(19,.t (.int .i64 1))] | _=>[(1,.t (.int .i64 loc)),(2,.t (.int .i64 i)),(3,.t (.sl (data.map qA))),(4,.ref 4096 0 0),(8,.ref 4112 0 0),(10,.sl 16384 0 2),(18,.t (.int .i64 2)),(19,.t (.int .i64 2))]) (fun k=>match k with | 0=>[(16384,.live 1 [.t (bsT []),.t (bsT [])] true false),(4112,.live 2 [.agg [.nil,.t (.int .i64 0)]] true true),(4096,.live 2 [.t (zT bk u)] true true)] | 1=>[(16384,.live 1 [.t (bsT (qQt data)),.t (bsT [])] true false),(4112,.live 2 [.agg [.nil,.t (.int .i64 0)]] true true),(4096,.live 2 [.t (zT bk u)] true true)] | _=>[(16384,.live 1 [.t (bsT (qQt data)),.t (bsT (jC data))] true false),(4112,.live 2 [.agg [.nil,.t (.int .i64 0)]] true true),(4096,.live 2 [.t (zT bk u)] true true)]) ?_ (fun k hk2=>?_)
  ·refine qJ.rd id ?_ ?_ rfl;all_goals simp(disch:=omega)only[go_sem,id,List.map_nil]
  ·rcases (show k=0∨k=1∨k=2 by omega) with rfl | rfl | rfl
   ·simp(disch:=omega)only[go_sem,h1,h2,c0,c1,qQ,qP,List.map_nil];refine qJ.cv (hv:=[]) [36928] id ?_ rfl;simp(disch:=omega)only[go_sem,id,yM,jA,List.map_nil,zK,qN];all_goals rfl
   ·simp(disch:=omega)only[go_sem,h1,h2,c0,c1,qQ,qP,List.map_nil];refine qJ.cv (hv:=[]) [36928] id ?_ rfl;simp(disch:=omega)only[go_sem,id,yM,jA,List.map_nil,zK,qN];all_goals rfl
   ·simp(disch:=omega)only[go_sem,h1,h2,c0,c1,qQ,qP,mcn,h3,hx']
theorem zCu (h1:LkC tab 37 zGk)(h2:LkC tab 36 kM)(bk:List qY)(u loc i:Int)(data:List UInt8)(hk:RV bk)(hu:0≤u∧u<1000000000)(hd:data.length<1000000000) :
  qCr.1.wp tab gl (qF 0 [.t (zT bk u),.t (.int .i64 loc),.t (.int .i64 i),.t (.sl (data.map qA))]) (qF 0 []) (zD [(8,some (2,true)),(9,none)] 0 (fun r o=>r=evR bk u loc i data∧o=[])):=by
 by_cases hl:128<data.length
 ·simp(disch:=omega)only[go_sem,qCr,evR,hl,List.map_nil]
 rw[evR,if_neg hl];have hx:=zVl (bk:=bk) (u:=u) (loc:=loc) (i:=i) (ds:=qHo bk data) ⟨hk,hu,qRu.1,qRu.2⟩;obtain⟨bk',u',e,he⟩:=qWo (bk:=bk) (u:=u) (loc:=loc) (i:=i) (ds:=qHo bk data);rw[he] at hx;rw[he];have hdg:zGk.fs [.t (.agg [.sl (bk.map wQ),.int .i64 u]),.t (.sl (data.map qA))] []=some (.t (.sl ((qHo bk data).map bsT)),[]):=zGk.eq (bk,u,data) ⟨hk.1,hd⟩;simp(disch:=omega)only[go_sem,qCr,h1,h2,hdg,hx];all_goals rfl
theorem RM.bank {bk:List qY}(h:RM bk)(a:Nat):zPk (bk.getD a []):=by
 by_cases ha:a<bk.length
 ·have e:bk.getD a []=bk[a]:=by simp[List.getD,ha]
  rw[e];exact h.2 _ (List.getElem_mem ha)
 ·have e:bk.getD a []=[]:=by simp[List.getD,List.getElem?_eq_none (Nat.le_of_not_lt ha)]
  rw[e];exact⟨sM,sM⟩
def kN:Ct where
 α:=Int
 aS s:=[.t (.int .i64 s)]
 ins _:=[]
 pre _:=True
 r s:=twR (yJ s) 0
 outs s:=twO (yJ s)
 inj:=by
  rintro a b h _;simp only[List.cons.injEq,V.t.injEq,T.int.injEq,true_and,and_true] at h;subst h;exact⟨rfl,rfl⟩
def zDy:Ct where
 α:=List qY×Int×Int×Int×List UInt8
 aS x:=[.t (zT x.1 x.2.1),.t (.int .i64 x.2.2.1),.t (.int .i64 x.2.2.2.1),.t (.sl (x.2.2.2.2.map qA))]
 ins _:=[]
 pre x:=RV x.1∧(0≤x.2.1∧x.2.1<1000000000)∧x.2.2.2.2.length<1000000000
 r x:=evR x.1 x.2.1 x.2.2.1 x.2.2.2.1 x.2.2.2.2
 outs _:=[]
 inj:=by
  rintro⟨a,u,l,i,d⟩ ⟨b,v,l',i',d'⟩ h _;simp only[List.cons.injEq,V.t.injEq,T.int.injEq,T.sl.injEq,true_and,and_true,jB] at h;obtain⟨h1,rfl,rfl,rfl⟩:=h;obtain⟨rfl,rfl⟩:=xN h1;exact⟨rfl,rfl⟩
def zGq:Ct where
 α:=List qY×Int×Int×Int
 aS x:=[.t (zT x.1 x.2.1),.t (.int .i64 x.2.2.1),.t (.int .i64 x.2.2.2)]
 ins _:=[]
 pre x:=RM x.1
 r x:=jA6 x.1 x.2.2.1 x.2.2.2
 outs x:=jA5 x.1 x.2.2.1 x.2.2.2
 inj:=by
  rintro⟨a,u,l,i⟩ ⟨b,v,l',i'⟩ h _;simp only[List.cons.injEq,V.t.injEq,T.int.injEq,true_and,and_true] at h;obtain⟨h1,rfl,rfl⟩:=h;obtain⟨rfl,rfl⟩:=xN h1;exact⟨rfl,rfl⟩
theorem zMw {a:Nat}(ha:a<2):qRr (qA7 a):= .inr qM
theorem zMv {a:Nat}(ha:a<2) : ∀ x∈qA7 a,x.length≤64:=by
 intro x hx;simp only[qA7,List.mem_map,List.mem_range] at hx;obtain⟨i,_,rfl⟩:=hx;simp only[List.length_replicate];have:a=0∨a=1:=oM;rcases this with rfl | rfl<;>decide
theorem zG8 {s:Int}:RV (yJ s):=by
 unfold yJ;split
 ·exact⟨.nil,sM⟩
 ·refine⟨.two _ _ ?_ ?_,?_⟩
  ·split
   ·exact zMw oM
   ·exact .inl rfl
  ·split
   ·exact zMw oM
   ·exact .inl rfl
  ·intro b hb;simp only[List.mem_cons,List.not_mem_nil,or_false] at hb;rcases hb with rfl | rfl
   ·split
    ·exact zMv oM
    ·simp
   ·split
    ·exact zMv oM
    ·simp
theorem qMx (h1:LkC tab 237 qGf)(h2:LkC tab 238 qO8)(x:(xU 5 qCv).α)(hx:(xU 5 qCv).pre x) :
  wM.1.wp tab gl (qF 0 ((xU 5 qCv).aS x)) (qF 0 ((xU 5 qCv).ins x)) (zD [] ((xU 5 qCv).ins x).length (fun r o=>r=(xU 5 qCv).r x∧o=(xU 5 qCv).outs x)):=by
 obtain⟨hs,bs⟩:=x;obtain⟨hb,hh⟩:=hx
 match hs,hh with
 | [x0,x1,x2,x3,x4],_=>exact qOg tab gl h1 h2 bs x0 x1 x2 x3 x4 hb
theorem qMz (x:wT.α)(hx:wT.pre x) :
  yB.1.wp tab gl (qF 0 (wT.aS x)) (qF 0 (wT.ins x)) (zD [(2,none)] (wT.ins x).length (fun r o=>r=wT.r x∧o=wT.outs x)):=by
 obtain⟨bk,u⟩:=x;have hx':RK bk:=hx;clear hx;cases hx' with
 | nil=>exact qMv tab gl u
 | two b0 b1 h0 h1=>exact qMw tab gl b0 b1 (by rcases h0 with h | h<;>omega) (by rcases h1 with h | h<;>omega) u
theorem qQg (x:jF.α)(hx:jF.pre x) :
  yW.1.wp tab gl (qF 0 (jF.aS x)) (qF 0 (jF.ins x)) (kU [] [(2,some (2,true))] (jF.ins x).length (fun r o=>r=jF.r x∧o=jF.outs x)):=by
 obtain⟨bk,u⟩:=x;obtain⟨hk,hm⟩:=hx;have hk':RK bk:=hk;clear hk;cases hk' with
 | nil=>exact qP9 tab gl u
 | two b0 b1 h0 h1=>exact qQa tab gl b0 b1 u (hm b0 (.head _)) (hm b1 (.tail _ (.head _)))
theorem qRm (h1:LkC tab 175 kD)(h2:LkC tab 239 wG)(x:kN.α) :
  jH.1.wp tab gl (qF 0 (kN.aS x)) (qF 0 (kN.ins x)) (kU [] [(2,some (2,true))] (kN.ins x).length (fun r o=>r=kN.r x∧o=kN.outs x)):=by
 have x':Int:=x;by_cases h:(show Int from x)%4=0
 ·have:=qRi tab gl x h;show jH.1.wp tab gl (qF 0 [.t (.int .i64 x)]) (qF 0 []) (kU [] [(2,some (2,true))] 0 (fun r o=>r=twR (yJ x) 0∧o=twO (yJ x)));have e:yJ x=[]:=if_pos h;rw[e];exact this
 ·exact qU0 tab gl h1 h2 x h
theorem zFz (h1:LkC tab 33 qGe)(x:kN.α) :
  wO.1.wp tab gl (qF 0 (kN.aS x)) (qF 0 (kN.ins x)) (kU [] [(2,some (2,true))] (kN.ins x).length (fun r o=>r=kN.r x∧o=kN.outs x)):=by
 by_cases h:(show Int from x)%4=0
 ·have:=zFs tab gl x h;show wO.1.wp tab gl (qF 0 [.t (.int .i64 x)]) (qF 0 []) (kU [] [(2,some (2,true))] 0 (fun r o=>r=twR (yJ x) 0∧o=twO (yJ x)));have e:yJ x=[]:=if_pos h;rw[e];exact this
 ·exact zJ4 tab gl h1 x h
theorem zC1 (x:wG.α)(hx:wG.pre x) :
  qD7.1.wp tab gl (qF 0 (wG.aS x)) (qF 0 (wG.ins x)) (kU [] [(4,none)] (wG.ins x).length (fun r o=>r=wG.r x∧o=wG.outs x)):=by
 obtain⟨n,x⟩:=x;have hx':n=20∨n=32:=hx;exact zFt tab gl x n oM
theorem qWe (x:vE.α)(hx:vE.pre x) :
  wY.1.wp tab gl (qF 0 (vE.aS x)) (qF 0 (vE.ins x)) (zD [(4,none)] (vE.ins x).length (fun r o=>r=vE.r x∧o=vE.outs x)):=by
 obtain⟨bk,u,a⟩:=x;obtain⟨hk,ha⟩:=hx;have hk':RK bk:=hk;have ha':a<1000000000:=ha;refine qZ0 tab gl bk u a ha' ?_ ?_
 ·cases hk'<;>simp
 ·intro b hb;clear hk;cases hk' with
  | nil=>simp at hb
  | two b0 b1 h0 h1=>
   simp only[List.mem_cons,List.not_mem_nil,or_false] at hb;rcases hb with rfl | rfl
   ·rcases h0 with h | h<;>omega
   ·rcases h1 with h | h<;>omega
def stN (x:List UInt8)(b:qY):Nat→qY
 | 0=>b
 | k+1=>(stN x b k).set (12+k) x
theorem qFv {x:List UInt8}{b:qY}{k:Nat}:List.length (stN x b k)=List.length b:=by
 induction k with
 | zero=>rfl
 | succ k ih=>simp only[stN,List.length_set,ih]
def zEp (bk:List qY):List qY:=match bk with
 | [b0,b1]=>[stN (List.replicate 20 255) b0 4,stN (List.replicate 32 255) b1 4]
 | bk=>bk
theorem zMx {k:Nat}:zR4 (12+k)=255:=if_pos oM
theorem qMt (h1:LkC tab 241 jF)(u:Int):yA.1.wp tab gl (qF 0 [.t (zT [] u)]) (qF 0 []) (zD [(2,some (2,true))] 0 (fun r o=>r = .t (zT [] u)∧o=[])):=by
 simp(disch:=omega)only[go_sem,yA,h1,qSd,List.map_nil];refine qG 1 ?_;simp(disch:=omega)only[go_sem,qD]
theorem qMu (h1:LkC tab 241 jF)(h2:LkC tab 175 kD)(h3:LkC tab 239 wG)(b0 b1:qY)(u:Int)(hk:RM [b0,b1]):yA.1.wp tab gl (qF 0 [.t (zT [b0,b1] u)]) (qF 0 []) (zD [(2,some (2,true))] 0 (fun r o=>r = .t (zT (zEp [b0,b1]) u)∧o=[])):=by
 simp(disch:=omega)only[go_sem,yA,h1,qW hk,mcn];refine qG 3 ?_;simp(disch:=omega)only[go_sem,qD];obtain⟨hrk,_⟩:=hk;cases hrk with
 | two _ _ h0 h1=>
 have q0:qRr b0:=h0;rcases q0 with z0 | z0
 ·obtain rfl:b0=[]:=List.eq_nil_of_length_eq_zero z0;have y0:stN (List.replicate 20 255) [] 4=[]:=rfl;refine qG 1 ?_;simp(disch:=omega)only[go_sem,qD,List.length_nil,List.map_nil];have q1:qRr b1:=h1;rcases q1 with z1 | z1
  ·obtain rfl:b1=[]:=List.eq_nil_of_length_eq_zero z1;have y1:stN (List.replicate 32 255) [] 4=[]:=rfl;refine qG 1 ?_;simp(disch:=omega)only[go_sem,qD,List.length_nil,List.map_nil,z0,z1];all_goals rfl
  ·refine qB 4 (fun k=>[(2,.ref 4112 0 0),(3,.ref 8224 0 0),(4,.t (.int .i64 1)),(5,.t (.int .i64 ((12+k:Nat):Int))),(10,.t (.int .i64 2)),(11,.t (.int .i64 1))]) (fun k=>[(8224,.live 2 [.agg [.sl 8208 0 2,.t (.int .i64 u)]] true true),(8210,.live 1 (((stN (List.replicate 32 255) b1 k).map bsT).map V.t) true false),(8209,.live 1 (((([]:qY)).map bsT).map V.t) true false),(8208,.live 1 [.sl 8209 0 0,.sl 8210 0 16] true false),(4112,.live 2 [.agg [.nil,.t (.int .i64 0)]] true true)]) ?_ (fun k hk4=>?_)
   ·refine qJ.rd id ?_ ?_ rfl;all_goals simp(disch:=omega)only[go_sem,id,stN,z0,z1]
   ·have s1:List.length (stN (List.replicate 32 255) b1 k)=16:=by rw[qFv,z1]
    by_cases hlt:k<4
    ·simp(disch:=omega)only[go_sem,z1,s1,h2,h3,qK,qL,zF,zG];repeat refine And.intro rfl ?_
     refine⟨hlt,qJ.cv (hv:=[]) [36992] id ?_ rfl⟩;simp(maxSteps:=9^9)(disch:=try exact dS)only[go_sem,id,stN,z1,s1,List.take_replicate,Nat.min_self,zMx];refine⟨?_,rfl⟩;omega
    ·have e:k=4:=oM;subst e;have t1:List.take 16 (stN (List.replicate 32 255) b1 4)=stN (List.replicate 32 255) b1 4:=List.take_of_length_le oM;simp(disch:=omega)only[go_sem,z1,s1,qD,t1];all_goals rfl
 ·refine qB 4 (fun k=>[(2,.ref 4112 0 0),(3,.ref 8224 0 0),(4,.t (.int .i64 0)),(5,.t (.int .i64 ((12+k:Nat):Int))),(10,.t (.int .i64 2)),(11,.t (.int .i64 0))]) (fun k=>[(8224,.live 2 [.agg [.sl 8208 0 2,.t (.int .i64 u)]] true true),(8210,.live 1 (((b1).map bsT).map V.t) true false),(8209,.live 1 (((stN (List.replicate 20 255) b0 k).map bsT).map V.t) true false),(8208,.live 1 [.sl 8209 0 16,.sl 8210 0 b1.length] true false),(4112,.live 2 [.agg [.nil,.t (.int .i64 0)]] true true)]) ?_ (fun k hk4=>?_)
  ·refine qJ.rd id ?_ ?_ rfl;all_goals simp(disch:=omega)only[go_sem,id,stN,z0]
  ·have s0:List.length (stN (List.replicate 20 255) b0 k)=16:=by rw[qFv,z0]
   by_cases hlt:k<4
   ·simp(disch:=omega)only[go_sem,z0,s0,h2,h3,qK,qL,zF,zG];repeat refine And.intro rfl ?_
    refine⟨hlt,qJ.cv (hv:=[]) [36992] id ?_ rfl⟩;simp(maxSteps:=9^9)(disch:=try exact dS)only[go_sem,id,stN,z0,s0,List.take_replicate,Nat.min_self,zMx];refine⟨?_,rfl⟩;omega
   ·have e:k=4:=oM;subst e;have t0:List.take 16 (stN (List.replicate 20 255) b0 4)=stN (List.replicate 20 255) b0 4:=List.take_of_length_le oM;simp(disch:=omega)only[go_sem,z0,s0,qD,t0];have q1:qRr b1:=h1;rcases q1 with z1 | z1
    ·obtain rfl:b1=[]:=List.eq_nil_of_length_eq_zero z1;have y1:stN (List.replicate 32 255) [] 4=[]:=rfl;refine qG 1 ?_;simp(disch:=omega)only[go_sem,qD,List.length_nil,List.map_nil,z0,z1,t0];all_goals rfl
    ·refine qB 4 (fun k=>[(2,.ref 4112 0 0),(3,.ref 8224 0 0),(4,.t (.int .i64 1)),(5,.t (.int .i64 ((12+k:Nat):Int))),(10,.t (.int .i64 2)),(11,.t (.int .i64 1))]) (fun k=>[(8224,.live 2 [.agg [.sl 8208 0 2,.t (.int .i64 u)]] true true),(8210,.live 1 (((stN (List.replicate 32 255) b1 k).map bsT).map V.t) true false),(8209,.live 1 (((stN (List.replicate 20 255) b0 4).map bsT).map V.t) true false),(8208,.live 1 [.sl 8209 0 16,.sl 8210 0 16] true false),(4112,.live 2 [.agg [.nil,.t (.int .i64 0)]] true true)]) ?_ (fun k hk4=>?_)
     ·refine qJ.rd id ?_ ?_ rfl;all_goals simp(disch:=omega)only[go_sem,id,stN,z0,z1]
     ·have s1:List.length (stN (List.replicate 32 255) b1 k)=16:=by rw[qFv,z1]
      by_cases hlt:k<4
      ·simp(disch:=omega)only[go_sem,z1,s1,h2,h3,qK,qL,zF,zG];repeat refine And.intro rfl ?_
       refine⟨hlt,qJ.cv (hv:=[]) [36992] id ?_ rfl⟩;simp(maxSteps:=9^9)(disch:=try exact dS)only[go_sem,id,stN,z1,s1,List.take_replicate,Nat.min_self,zMx];refine⟨?_,rfl⟩;omega
      ·have e:k=4:=oM;subst e;have t1:List.take 16 (stN (List.replicate 32 255) b1 4)=stN (List.replicate 32 255) b1 4:=List.take_of_length_le oM;simp(disch:=omega)only[go_sem,z1,s1,qD,t0,t1];all_goals rfl
def qM7:Ct where
 α:=List qY×Int×Int×Int
 aS x:=[.t (zT x.1 x.2.1),.t (.int .i64 x.2.2.1),.t (.int .i64 x.2.2.2)]
 ins _:=[]
 pre x:=RM x.1∧0≤x.2.1∧x.2.1<1000000000
 r x:=jIt x.1 x.2.1 x.2.2.1 x.2.2.2
 outs _:=[]
 inj:=by
  rintro⟨a,u,l,i⟩ ⟨b,v,l',i'⟩ h _;simp only[List.cons.injEq,V.t.injEq,T.int.injEq,true_and,and_true] at h;obtain⟨h1,rfl,rfl⟩:=h;obtain⟨rfl,rfl⟩:=xN h1;exact⟨rfl,rfl⟩
def qQj:Ct where
 α:=List qY×Int
 aS x:=[.t (zT x.1 x.2)]
 ins _:=[]
 pre x:=RM x.1
 r x:= .t (zT (zEp x.1) x.2)
 outs _:=[]
 inj:=by
  rintro⟨a,u⟩ ⟨b,v⟩ h _;simp only[List.cons.injEq,V.t.injEq,and_true] at h;obtain⟨rfl,rfl⟩:=xN h;exact⟨rfl,rfl⟩
theorem jT5 {bk:List qY}{u:Int}(h:RM bk):qQj.fs [.t (zT bk u)] []=some (.t (zT (zEp bk) u),[]):=qQj.eq (bk,u) h
theorem qOt (h1:LkC tab 242 wD)(h2:LkC tab 244 qAw)(h3:LkC tab 241 jF)(h4:LkC tab 243 qHi)(h5:LkC tab 175 kD)(h6:LkC tab 239 wG)(x:qM7.α)(hx:qM7.pre x) :
  zC.1.wp tab gl (qF 0 (qM7.aS x)) (qF 0 (qM7.ins x)) (zD [(6,some (2,true)),(7,none)] (qM7.ins x).length (fun r o=>r=qM7.r x∧o=qM7.outs x)):=by
 obtain⟨bk,u,l,i⟩:=x;obtain⟨hk,hu⟩:=hx;show zC.1.wp tab gl (qF 0 [.t (zT bk u),.t (.int .i64 l),.t (.int .i64 i)]) (qF 0 []) (zD [(6,some (2,true)),(7,none)] 0 (fun r o=>r=jIt bk u l i∧o=[]));by_cases he:zNu l i=0
 ·rw[jIt,if_pos he];have hk':RM bk:=hk;have hk2:=hk'.1;cases hk2 with
  | nil=>exact qOo tab gl h1 h2 h3 u l i hu he
  | two b0 b1 _ _=>exact qOp tab gl h1 h2 h3 h4 h5 h6 b0 b1 u l i hu hk he
 ·rw[jIt,if_neg he];exact qJp tab gl h1 h2 bk u l i he
theorem zC0 (h1:LkC tab 67 qKz)(x:jF.α)(hx:jF.pre x) :
  qAa.1.wp tab gl (qF 0 (jF.aS x)) (qF 0 (jF.ins x)) (kU [] [(2,some (2,true))] (jF.ins x).length (fun r o=>r=jF.r x∧o=jF.outs x)):=by
 obtain⟨bk,u⟩:=x;obtain⟨hk,hm⟩:=hx;have hk':RK bk:=hk;clear hk;cases hk' with
 | nil=>exact zCs tab gl u
 | two b0 b1 h0 h1'=>exact zCt tab gl h1 b0 b1 u (hm b0 (.head _)) (hm b1 (.tail _ (.head _)))
theorem qMy (h1:LkC tab 241 jF)(h2:LkC tab 175 kD)(h3:LkC tab 239 wG)(x:qQj.α)(hx:qQj.pre x) :
  yA.1.wp tab gl (qF 0 (qQj.aS x)) (qF 0 (qQj.ins x)) (zD [(2,some (2,true))] (qQj.ins x).length (fun r o=>r=qQj.r x∧o=qQj.outs x)):=by
 obtain⟨bk,u⟩:=x;have hk:RM bk:=hx;have hk2:=hk.1;clear hx;cases hk2 with
 | nil=>exact qMt tab gl h1 u
 | two b0 b1 _ _=>exact qMu tab gl h1 h2 h3 b0 b1 u hk
theorem RV.of2 {b0 b1:qY}(h0:qRr b0)(h1:qRr b1)(m0 : ∀ x∈b0,x.length≤64)(m1 : ∀ x∈b1,x.length≤64):RV [b0,b1]:=by
 refine⟨.two _ _ h0 h1,fun b hb=>?_⟩;simp only[List.mem_cons,List.not_mem_nil,or_false] at hb;rcases hb with rfl | rfl
 ·exact m0
 ·exact m1
theorem qD9 {b c:qY}(h:qRr b)(hl:List.length c=List.length b):qRr c:=by
 rcases h with h | h
 ·exact .inl (by rw[hl,h])
 ·exact .inr (by rw[hl,h])
theorem zOe {b:qY}{i:Nat}{y:List UInt8}(h : ∀ x∈b,x.length≤64)(hy:y.length≤64) : ∀ x∈b.set i y,x.length≤64:=by
 intro x hx;rcases List.mem_or_eq_of_mem_set hx with h1 | rfl
 ·exact h x h1
 ·exact hy
theorem RV.cases {bk:List qY}(h:RV bk):bk=[] ∨ ∃ b0 b1,bk=[b0,b1]∧qRr b0∧qRr b1∧(∀ x∈b0,x.length≤64)∧(∀ x∈b1,x.length≤64):=by
 obtain⟨hk,hm⟩:=h;cases hk with
 | nil=>exact .inl rfl
 | two b0 b1 h0 h1=>exact .inr ⟨b0,b1,rfl,h0,h1,hm b0 (.head _),hm b1 (.tail _ (.head _))⟩
theorem zLk {a:Nat}(ha:a<2){b:qY}{i:Nat}{d:List UInt8}(h : ∀ x∈b,x.length≤64) : ∀ x∈vH a b i d,x.length≤64:=by
 unfold vH;split
 ·refine zOe h ?_;have:a=0∨a=1:=oM;rcases this with rfl | rfl
  ·rw[qY7,zK];omega
  ·rw[qY8,qN];omega
 ·exact h
theorem zNs {a:Nat}(ha:a<2){b:qY}{i:Nat}(h : ∀ x∈b,x.length≤64) : ∀ x∈qVi a b i,x.length≤64:=by
 unfold qVi;split
 ·refine zOe h ?_;rw[List.length_replicate];have:a=0∨a=1:=oM;rcases this with rfl | rfl<;>decide
 ·exact h
theorem zOq {y:List UInt8}{b:qY}(hy:y.length≤64)(h : ∀ x∈b,x.length≤64) : ∀ k,∀ x∈stN y b k,x.length≤64
 | 0=>h
 | k+1=>zOe (zOq hy h k) hy
theorem RV.ext {bk:List qY}(h:RV bk)(i:Nat)(ds:List (List UInt8)):RV (qI9 bk i ds):=by
 rcases h.cases with rfl | ⟨b0,b1,rfl,h0,h1,m0,m1⟩
 ·exact h
 ·exact .of2 (qD9 h0 qH) (qD9 h1 qH) (zLk oM m0) (zLk oM m1)
theorem RV.rst {bk:List qY}(h:RV bk)(i:Nat):RV (zIy bk i):=by
 rcases h.cases with rfl | ⟨b0,b1,rfl,h0,h1,m0,m1⟩
 ·exact h
 ·exact .of2 (qD9 h0 yE) (qD9 h1 yE) (zNs oM m0) (zNs oM m1)
theorem RV.res {bk:List qY}(h:RV bk):RV (zEp bk):=by
 rcases h.cases with rfl | ⟨b0,b1,rfl,h0,h1,m0,m1⟩
 ·exact h
 ·exact .of2 (qD9 h0 qFv) (qD9 h1 qFv) (zOq (by rw[List.length_replicate];omega) m0 4) (zOq (by rw[List.length_replicate];omega) m1 4)
structure Sb where
 sd:List (List UInt8)
 au:List (List UInt8)
 en:List UInt8
 act:Int
 res:Int
 rst:Int
 clk:Int
 ord:Bool
 bk:List qY
 u:Int
 mc:Int
 l1:Int
 l2:Int
 l3:Int
 l4:Int
 l5:Int
 l6:Int
def jSa (s:Sb):List T:=[.sl (s.sd.map bsT),.sl (s.au.map bsT),.sl (s.en.map qA),.int .i64 s.act,.int .i64 s.res,.int .i64 s.rst,.int .i64 s.clk,.bool s.ord,.sl (s.bk.map wQ),.int .i64 s.u,.int .i64 s.mc,.sl [],.int .i64 s.l1,.int .i64 s.l2,.int .i64 s.l3,.int .i64 s.l4,.int .i64 s.l5,.int .i64 s.l6,.sl []]
def jIw (s:Sb):T:= .agg (jSa s)
def sb0:Sb:=⟨[],[],[],0,0,0,0,false,[],0,0,0,0,0,0,0,0⟩
def zCc (en:List UInt8)(act:Int):Sb:=if en.length≠32∨act<0∨3<act then sb0 else ⟨[drv en [115,101,101,100] [0] 32,drv en [115,101,101,100] [1] 32,drv en [115,101,101,100] [2] 32],[[],[],[],[]],drv en [101,110,116,114,111,112,121] [] 32,act,0,0,0,true,[],0,0,0,5,100,0,0,1000⟩
def zE5 (en:List UInt8)(act:Int):Int:=if en.length≠32∨act<0∨3<act then 1 else 0
def jJ7:T:= .agg [.int .i64 0,.int .i64 5,.int .i64 100,.int .i64 0,.int .i64 0,.int .i64 1000]
def zGm:Ct where
 α:=Unit
 aS _:=[]
 ins _:=[]
 pre _:=True
 r _:= .t jJ7
 outs _:=[]
 inj:=fun _ _ _ _=>⟨rfl,rfl⟩
theorem jEd:zGm.fs [] []=some (.t (.agg [.int .i64 0,.int .i64 5,.int .i64 100,.int .i64 0,.int .i64 0,.int .i64 1000]),[]):=zGm.eq () trivial
theorem qZy:qEs.1.wp tab gl (qF 0 []) (qF 0 []) (zD [(0,some (6,true))] 0 (fun r o=>r = .t jJ7∧o=[])):=by
 simp(maxSteps:=9^9)(disch:=try exact dS)only[go_sem,qEs,jJ7]
theorem qJz {en:List UInt8}{act:Int}(h:en.length≠32∨act<0∨3<act):zCc en act=sb0∧zE5 en act=1:=⟨if_pos h,if_pos h⟩
def jK4 (en:List UInt8)(i:Nat):List UInt8:=drv en [115,101,101,100] [UInt8.ofNat i] 32
theorem jAs {en:List UInt8}{act:Int}(h : ¬ (en.length≠32∨act<0∨3<act)):zCc en act=⟨(List.range 3).map (jK4 en),[[],[],[],[]],drv en [101,110,116,114,111,112,121] [] 32,act,0,0,0,true,[],0,0,0,5,100,0,0,1000⟩∧zE5 en act=0:=⟨if_neg h,if_neg h⟩
theorem zFu (h1:LkC tab 71 zGm)(h2:LkC tab 72 qS0)(en:List UInt8)(act:Int)(hl:en.length≤9223372036854775807) :
  qAb.1.wp tab gl (qF 0 [.t (.sl (en.map qA)),.t (.int .i64 act)]) (qF 0 []) (zD [(4,some (19,true)),(5,none)] 0 (fun r o=>r = .tup [.t (jIw (zCc en act)),.t (.int .i64 (zE5 en act))]∧o=[])):=by
 by_cases c1:en.length=32
 ·by_cases c2:act<0
  ·rw[(qJz (en:=en) (.inr (.inl c2))).1,(qJz (en:=en) (.inr (.inl c2))).2];simp(maxSteps:=9^9)(disch:=try exact dS)only[go_sem,qAb,c1,c2];all_goals rfl
  ·by_cases c3:3<act
   ·rw[(qJz (en:=en) (.inr (.inr c3))).1,(qJz (en:=en) (.inr (.inr c3))).2];simp(maxSteps:=9^9)(disch:=try exact dS)only[go_sem,qAb,c1,c2,c3];all_goals rfl
   ·have ok:=jAs (en:=en) (act:=act) oM;rw[ok.1,ok.2];simp(maxSteps:=9^9)(disch:=try exact dS)only[go_sem,qAb,c1,c2,c3,h1,h2,jEd];refine And.intro rfl ?_;refine qB 3 (fun k=>[(0,.t (.sl (en.map qA))),(4,.ref 4096 0 0),(6,.ref 16448 0 0),(24,.t (.int .i64 (k:Nat)))]) (fun k=>[(9000,.live 1 ((((List.range k).map (jK4 en)).map bsT).map V.t) true false),
     (16448,.live 19 [.agg [.sl 9000 0 k,.sl 16384 0 4,.nil,.t (.int .i64 act),.t (.int .i64 0),.t (.int .i64 0),.t (.int .i64 0),.t (.bool true),.nil,.t (.int .i64 0),.t (.int .i64 0),.nil,.t (.int .i64 0),.t (.int .i64 5),.t (.int .i64 100),.t (.int .i64 0),.t (.int .i64 0),.t (.int .i64 1000),.nil]] true true),
     (16384,.live 1 [.nil,.nil,.nil,.nil] true false),(4096,.live 19 [.agg [.nil,.nil,.nil,.t (.int .i64 0),.t (.int .i64 0),.t (.int .i64 0),.t (.int .i64 0),.t (.bool false),.nil,.t (.int .i64 0),.t (.int .i64 0),.nil,.t (.int .i64 0),.t (.int .i64 0),.t (.int .i64 0),.t (.int .i64 0),.t (.int .i64 0),.t (.int .i64 0),.nil]] true true)]) ?_ (fun k hk'=>?_)
    ·refine qJ.cv0 (hv:=[(9000,.live 1 [] true false)]) (ho:=[(16448,.live 19 [.agg [.sl 9000 0 0,.sl 16384 0 4,.nil,.t (.int .i64 act),.t (.int .i64 0),.t (.int .i64 0),.t (.int .i64 0),.t (.bool true),.nil,.t (.int .i64 0),.t (.int .i64 0),.nil,.t (.int .i64 0),.t (.int .i64 5),.t (.int .i64 100),.t (.int .i64 0),.t (.int .i64 0),.t (.int .i64 1000),.nil]] true true),
     (16384,.live 1 [.nil,.nil,.nil,.nil] true false),(4096,.live 19 [.agg [.nil,.nil,.nil,.t (.int .i64 0),.t (.int .i64 0),.t (.int .i64 0),.t (.int .i64 0),.t (.bool false),.nil,.t (.int .i64 0),.t (.int .i64 0),.nil,.t (.int .i64 0),.t (.int .i64 0),.t (.int .i64 0),.t (.int .i64 0),.t (.int .i64 0),.t (.int .i64 0),.nil]] true true)]) id ?_ ?_ rfl rfl
     all_goals simp(maxSteps:=9^9)(disch:=try exact dS)only[go_sem,id]
     all_goals rfl
    ·by_cases hlt:k<3
     ·have hD:=zGv (k:=en) (l:=[115,101,101,100]) (c:=[UInt8.ofNat k]) (n:=32) ⟨oM,sM,sM,oM,oM⟩;rw[show ((32:Nat):Int)=32 from rfl] at hD;simp only[mcn] at hD;rw[show drv en [115,101,101,100] [UInt8.ofNat k] 32=jK4 en k from rfl] at hD;have lr:(List.range k).length=k:=List.length_range;simp(maxSteps:=9^9)(disch:=try exact dS)only[go_sem,h2,hD,lr,mcn];refine⟨rfl,hlt,qJ.rd (fun j=>if j=9000 then 32896 else j) ?_ ?_ rfl⟩;all_goals simp(maxSteps:=9^9)(disch:=try exact dS)only[go_sem,id]
      all_goals first | omega | rfl
     ·have e:k=3:=oM;subst e;have hD:=zGv (k:=en) (l:=[101,110,116,114,111,112,121]) (c:=[]) (n:=32) ⟨oM,sM,sM,oM,oM⟩;rw[show ((32:Nat):Int)=32 from rfl] at hD;simp only[List.map_nil] at hD;simp(maxSteps:=9^9)(disch:=try exact dS)only[go_sem,h2,hD];all_goals rfl
 ·rw[(qJz (act:=act) (.inl c1)).1,(qJz (act:=act) (.inl c1)).2];simp(maxSteps:=9^9)(disch:=try exact dS)only[go_sem,qAb,c1];all_goals rfl
def qX2:Ct where
 α:=List UInt8×Int
 aS x:=[.t (.sl (x.1.map qA)),.t (.int .i64 x.2)]
 ins _:=[]
 pre x:=x.1.length≤9223372036854775807
 r x:= .tup [.t (jIw (zCc x.1 x.2)),.t (.int .i64 (zE5 x.1 x.2))]
 outs _:=[]
 inj:=by
  rintro⟨a,b⟩ ⟨c,d⟩ h _;simp only[List.cons.injEq,V.t.injEq,T.int.injEq,T.sl.injEq,true_and,and_true,jB] at h;obtain⟨rfl,rfl⟩:=h;exact⟨rfl,rfl⟩
theorem jAr {en:List UInt8}{act:Int}(h:en.length≤9223372036854775807):qX2.fs [.t (.sl (en.map qA)),.t (.int .i64 act)] []=some (.tup [.t (jIw (zCc en act)),.t (.int .i64 (zE5 en act))],[]):=qX2.eq (en,act) h
def dgx (a:Nat)(b:List UInt8):List UInt8:=List.take (szA a) b++List.replicate (szA a-min (szA a) b.length) 0
def dg1 (a:Nat)(b:List UInt8):List UInt8:=(dgx a b).set (szA a-1) ((dgx a b).getD (szA a-1) 0 ^^^ UInt8.ofNat a)
def dgb (s:Int)(a:Nat)(b:List UInt8):List UInt8:=if s/(2^a:Nat)%2=1 then dg1 a b else []
def dgB (s:Int)(b:List UInt8):List (List UInt8):=[dgb s 0 b,dgb s 1 b]
def zXw (x:List qY×Int)(l i:Int)(ds:List (List UInt8)):List qY×Int:=if xY x.1 l i ds=0 then (qI9 x.1 i.toNat ds,x.2+1) else x
def evP (x:List qY×Int)(l i:Int)(d:List UInt8):List qY×Int:=if 128<d.length then x else zXw x l i (qHo x.1 d)
def jKx (x:List qY×Int)(l i:Int):List qY×Int:=if zNu l i=0 then (zIy x.1 i.toNat,x.2+1) else x
def Ans (x:List qY×Int)(v:V)(y:List qY×Int):Prop := ∃ (bk:List qY) (u e:Int),v = .tup [.t (.agg [.sl (bk.map wQ),.int .i64 u]),.t (.int .i64 e)]∧((e=0∧y=(bk,u))∨(e≠0∧y=x))
def RS (n:Nat)(x:List qY×Int):Prop:=RV x.1∧0≤x.2∧x.2≤n
theorem RS.up {n m:Nat}{x:List qY×Int}(h:RS n x)(hm:n≤m):RS m x:=⟨h.1,h.2.1,by have:=h.2.2;omega⟩
theorem RS.ext {n:Nat}{x:List qY×Int}(h:RS n x)(l i:Int)(ds:List (List UInt8)):RS (n+1) (zXw x l i ds):=by
 unfold zXw;split
 ·exact⟨h.1.ext _ _,by have:=h.2.1;simp only;omega,by have:=h.2.2;simp only;omega⟩
 ·exact h.up oM
theorem RS.ev {n:Nat}{x:List qY×Int}(h:RS n x)(l i:Int)(d:List UInt8):RS (n+1) (evP x l i d):=by
 unfold evP;split
 ·exact h.up oM
 ·exact h.ext _ _ _
theorem RS.rst {n:Nat}{x:List qY×Int}(h:RS n x)(l i:Int):RS (n+1) (jKx x l i):=by
 unfold jKx;split
 ·exact⟨h.1.rst _,by have:=h.2.1;simp only;omega,by have:=h.2.2;simp only;omega⟩
 ·exact h.up oM
theorem RS.rsm {n:Nat}{x:List qY×Int}(h:RS n x):RS (n+1) (zEp x.1,x.2):=⟨h.1.res,h.2.1,by have:=h.2.2;simp only;omega⟩
def drS (s:Int)(i k:Nat)(x:List qY×Int):List qY×Int:=
 if k%8<3 then evP x 4 (k/8%16:Nat) [UInt8.ofNat k,UInt8.ofNat i]
 else if k%8<6 then zXw x 4 (k/8%16:Nat) (dgB s [UInt8.ofNat k,UInt8.ofNat i])
 else if k%8=6 then jKx x 4 (12+k/8%4:Nat)
 else (zEp x.1,x.2)
def drN (s:Int)(cs:List UInt8):Nat→List qY×Int
 | 0=>(yJ s,0)
 | i+1=>drS s i (cs.getD i 0).toNat (drN s cs i)
theorem RS.dr {s:Int}{i k n:Nat}{x:List qY×Int}(h:RS n x):RS (n+1) (drS s i k x):=by
 unfold drS;split
 ·exact h.ev _ _ _
 ·split
  ·exact h.ext _ _ _
  ·split
   ·exact h.rst _ _
   ·exact h.rsm
def dr (s:Int)(cs:List UInt8):List qY×Int:=drN s cs (min cs.length 12)
theorem Ans.rv {x:List qY×Int}{v:V}{y:List qY×Int}(h:Ans x v y)(hv : ∃ bk' u' e,v = .tup [.t (zT bk' u'),.t (.int .i64 e)]∧RV bk'∧(e=0→u'=x.2+1)) : ∃ bk' u' e,v = .tup [.t (.agg [.sl (bk'.map wQ),.int .i64 u']),.t (.int .i64 e)]∧RM bk':=by
 obtain⟨bk',u',e,h1,h2,_⟩:=hv;exact⟨bk',u',e,h1,h2.rm⟩
def evB (bk:List qY)(n:Nat)(data:List UInt8):List qY:=qI9 bk n (qHo bk data)
theorem RK.cases {bk:List qY}(h:RK bk):bk=[] ∨ ∃ b0 b1,bk=[b0,b1]∧qRr b0∧qRr b1:=by
 cases h with
 | nil=>exact .inl rfl
 | two b0 b1 h0 h1=>exact .inr ⟨b0,b1,rfl,h0,h1⟩
theorem zK8 {bk:List qY}{data:List UInt8}:((qHo bk data).getD 0 []).length=if (bk.getD 0 []).length=16 then 20 else 0:=by
 show (if onB bk 0 then qQt data else []).length=_;unfold onB;by_cases h:(bk.getD 0 []).length=16
 ·rw[if_pos h,decide_eq_true h,if_pos rfl,zK]
 ·rw[if_neg h,decide_eq_false h];rfl
theorem zK9 {bk:List qY}{data:List UInt8}:((qHo bk data).getD 1 []).length=if (bk.getD 1 []).length=16 then 32 else 0:=by
 show (if onB bk 1 then jC data else []).length=_;unfold onB;by_cases h:(bk.getD 1 []).length=16
 ·rw[if_pos h,decide_eq_true h,if_pos rfl,qN]
 ·rw[if_neg h,decide_eq_false h];rfl
theorem jJt {bk:List qY}{u i:Int}{data:List UInt8}(hi:0≤i∧i<16)(hd:data.length≤128):evR bk u 4 i data = .tup [.t (zT (evB bk i.toNat data) (u+1)),.t (.int .i64 0)]:=by
 have hl:yG i false≤3:=by unfold yG;split<;>(try split)<;>(try split)<;>simp_all
 have he:xX (bk.getD 0 []).length (bk.getD 1 []).length 4 i (qHo bk data).length ((qHo bk data).getD 0 []).length ((qHo bk data).getD 1 []).length=0:=by
  rw[zK8,zK9];have h2:(qHo bk data).length=2:=rfl;rw[h2];unfold xX;rw[if_neg oM,if_neg oM,if_neg (by rintro (⟨h1,h2⟩ | ⟨h1,h2⟩)<;>(rw[if_neg h1] at h2;omega)),if_neg (by rintro (⟨h1,h2⟩ | ⟨h1,h2⟩)<;>exact h2 (if_pos h1))]
 rw[evR,if_neg oM,qFi,if_pos he];rfl
theorem zA0 {b0 b1:qY}{i:Nat}{ds:List (List UInt8)}:qI9 [b0,b1] i ds=[vH 0 b0 i (ds.getD 0 []),vH 1 b1 i (ds.getD 1 [])]:=rfl
theorem zVi {bk:List qY}{u i:Int}{data:List UInt8}(hv:RV bk)(hu:0≤u∧u<1000000000)(hi:0≤i∧i<16)(hd:data.length≤128):zDy.fs [.t (.agg [.sl (bk.map wQ),.int .i64 u]),.t (.int .i64 4),.t (.int .i64 i),.t (.sl (data.map qA))] []=some (.tup [.t (.agg [.sl ((evB bk i.toNat data).map wQ),.int .i64 (u+1)]),.t (.int .i64 0)],[]):=by
 have hE:=zDy.eq (bk,u,4,i,data) ⟨hv,hu,by show data.length<1000000000;omega⟩;have hE2:zDy.fs [.t (.agg [.sl (bk.map wQ),.int .i64 u]),.t (.int .i64 4),.t (.int .i64 i),.t (.sl (data.map qA))] []=some (evR bk u 4 i data,[]):=hE;rw[hE2,jJt hi hd];rfl
theorem RV.ev {bk:List qY}(h:RV bk)(n:Nat)(d:List UInt8):RV (evB bk n d):=h.ext _ _
end Go.Eng
end
