/- A part of an abstract machine, its walks, their tie. -/
import Derived.Test.YtekghmfbgbhobaaGreatDoorD19
import Derived.Test.YtekghmfbgbhobaaGreatDoorD16
import Derived.Test.YtekghmfbgbhobaaGreatDoorD9
import Derived.Test.YtekghmfbgbhobaaGreatDoorD18
set_option linter.all false
section
set_option maxHeartbeats 64000000
set_option maxRecDepth 20000
namespace Go.Eng
variable (tab:Tab) (gl:Gl)
theorem qS3 (h2:LkC tab 235 xN)(bk:List zB)(u loc i:Int)(ds:List (List UInt8))(hd:ds.length<1000000000)
  (hb:(loc<0∨4<loc∨i<0∨16≤i∨ds.length≠2)∨loc<vA i false) :
  jD.1.wp tab gl (qE 0 [.t (jN bk u),.t (.int .i64 loc),.t (.int .i64 i),.t (.sl (ds.map bsT))]) (qE 0 []) (qX [(8,some (2,true)),(9,none)] 0 (fun r o=>r = .tup [.t (jN [] 0),.t (.int .i64 (if loc<0∨4<loc∨i<0∨16≤i∨ds.length≠2 then 1 else 13))]∧o=[])):=by
 have a7 : ¬ vA i false=5:=by unfold vA;split<;>(try split)<;>(try split)<;>simp_all
 by_cases a1:loc<0
 ·simp(disch:=omega)only[go_sem,jD,a1,List.map_nil]
 ·by_cases a2:4<loc
  ·simp(disch:=omega)only[go_sem,jD,a1,a2,List.map_nil]
  ·by_cases a3:i<0
   ·simp(disch:=omega)only[go_sem,jD,a1,a2,a3,List.map_nil]
   ·by_cases a4:16≤i
    ·simp(disch:=omega)only[go_sem,jD,a1,a2,a3,a4,List.map_nil]
    ·by_cases a5:ds.length=2
     ·have a6:loc<vA i false:=by rcases hb with h | h;(omega);(exact h)
      simp(disch:=omega)only[go_sem,jD,a1,a2,a3,a4,a5,a6,a7,h2,qFr,List.map_nil,ne_eq]
     ·simp(disch:=omega)only[go_sem,jD,a1,a2,a3,a4,a5,List.map_nil,ne_eq]
theorem zJ8 {u:Int}{a:Nat}(ha:a<2):yE.fs [.t (.agg [.sl [],.int .i64 u]),.t (.int .i64 a)] []=some (.t (.bool false),[]):=(qE1 (bk:=[]) .nil oM).trans (by simp[onB])
theorem qZa (h2:LkC tab 235 xN)(h3:LkC tab 74 yE)(h5:LkC tab 79 jP)
  (u loc:Int) (n:Nat) (d0 d1:List UInt8) (hu:0≤u∧u<1000000000) (hd:d0.length<9223372036854775808∧d1.length<9223372036854775808) (e1 : ¬(loc<0∨4<loc∨16≤n)) (e2 : ¬ loc<vA n false) :
  jD.1.wp tab gl (qE 0 [.t (jN [] u),.t (.int .i64 loc),.t (.int .i64 n),.t (.sl [bsT d0,bsT d1])]) (qE 0 []) (qX [(8,some (2,true)),(9,none)] 0 (fun r o=>r=qTf [] u loc n [d0,d1]∧o=[])):=by
 have a6 : ¬ vA (n:Int) false=5:=by unfold vA;split<;>(try split)<;>(try split)<;>simp_all
 have c0:=zJ8 (u:=u) (a:=0) oM;have c1:=zJ8 (u:=u) (a:=1) oM;rw[show ((0:Nat):Int)=0 from rfl] at c0;rw[show ((1:Nat):Int)=1 from rfl] at c1;simp(disch:=omega)only[go_sem,jD,h2,qFr,a6,mcn];refine qBl (fs':=[(2,.t (.int .i64 (n:Nat))),(3,.t (.sl [bsT d0,bsT d1])),(4,.ref 4096 0 0),(8,.ref 4112 0 0),(10,.t (.int .i64 0))]) (hs':=[(4112,.live 2 [.agg [.nil,.t (.int .i64 0)]] true true),(4096,.live 2 [.t (jN [] u)] true true)]) (qI.rd id ?_ ?_ rfl) ?_
 ·simp(disch:=omega)only[go_sem,id]
 ·simp(disch:=omega)only[go_sem,id,List.map_nil]
 by_cases p:0<d0.length∨0<d1.length
 ·have hE:qMd 0 0 loc n 2 d0.length d1.length=27:=by unfold qMd;rw[if_neg oM,if_neg oM,if_pos oM]
  by_cases p0:0<d0.length
  ·refine qM 3 ?_;simp(disch:=omega)only[go_sem,qG,h3,c0,c1,hE,List.map_nil,qTf,qMe,List.getD_nil,List.getD_cons_zero,List.getD_cons_succ,List.length_cons,List.length_nil];all_goals repeat refine And.intro rfl ?_
   all_goals rfl
  ·refine qM 3 ?_;simp(disch:=omega)only[go_sem,qG,h3,c0,c1,hE,List.map_nil,qTf,qMe,List.getD_nil,List.getD_cons_zero,List.getD_cons_succ,List.length_cons,List.length_nil];all_goals repeat refine And.intro rfl ?_
   all_goals rfl
 ·have hE:qMd 0 0 loc n 2 d0.length d1.length=0:=by unfold qMd;rw[if_neg oM,if_neg oM,if_neg oM,if_neg oM]
  refine qM 3 ?_;simp(disch:=omega)only[go_sem,qG,h3,c0,c1,List.map_nil];all_goals repeat refine And.intro rfl ?_
  refine qM 3 ?_;simp(disch:=omega)only[go_sem,qG,h3,c0,c1,h5,qU7,List.map_nil];all_goals repeat refine And.intro rfl ?_
  refine qM 3 ?_;simp(disch:=omega)only[go_sem,qG,h3,c0,c1,hE,List.map_nil,qTf,qMe,qSf,List.getD_nil,List.getD_cons_zero,List.getD_cons_succ,List.length_cons,List.length_nil]
def RV (bk:List zB):Prop:=RK bk ∧ ∀ b∈bk,∀ x∈b,x.length≤64
theorem RV.rm {bk:List zB}(h:RV bk):RM bk:=by
 refine⟨h.1,fun b hb=>⟨?_,fun x hx=>Nat.lt_of_le_of_lt (h.2 b hb x hx) oM⟩⟩;have:qTt b:=by
  obtain⟨hk,_⟩:=h;cases hk with
  | nil=>simp at hb
  | two b0 b1 h0 h1=>
   simp only[List.mem_cons,List.not_mem_nil,or_false] at hb;rcases hb with rfl | rfl
   ·exact h0
   ·exact h1
 rcases this with h | h<;>omega
theorem qI6 {b:zB}{m n:Nat}(h : ∀ x∈b,x.length≤m):(b.getD n []).length≤m:=by
 by_cases hi:n<List.length b
 ·have:b.getD n []=b[n]:=by simp[List.getD,hi]
  rw[this];exact h _ (List.getElem_mem hi)
 ·simp[List.getD,List.getElem?_eq_none (Nat.le_of_not_lt hi)]
abbrev jGi:=List zB×Int×Int×Int×List (List UInt8)
def zZh (x:jGi):Prop:=RV x.1∧(0≤x.2.1∧x.2.1<1000000000)∧x.2.2.2.2.length<1000000000 ∧ ∀ d∈x.2.2.2.2,d.length<9223372036854775808
def qF1:Ct where
 α:=jGi
 aS x:=[.t (jN x.1 x.2.1),.t (.int .i64 x.2.2.1),.t (.int .i64 x.2.2.2.1),.t (.sl (x.2.2.2.2.map bsT))]
 ins _:=[]
 pre:=zZh
 r x:=qTf x.1 x.2.1 x.2.2.1 x.2.2.2.1 x.2.2.2.2
 outs _:=[]
 inj:=by
  rintro⟨a,u,l,i,ds⟩ ⟨b,v,l',i',ds'⟩ h _;simp only[List.cons.injEq,V.t.injEq,T.int.injEq,T.sl.injEq,true_and,and_true,qHj] at h;obtain⟨h1,rfl,rfl,rfl⟩:=h;obtain⟨rfl,rfl⟩:=qCb h1;exact⟨rfl,rfl⟩
theorem zU2 {bk:List zB}{u loc i:Int}{ds:List (List UInt8)}(hb:(loc<0∨4<loc∨i<0∨16≤i∨ds.length≠2)∨loc<vA i false) :
  qTf bk u loc i ds = .tup [.t (jN [] 0),.t (.int .i64 (if loc<0∨4<loc∨i<0∨16≤i∨ds.length≠2 then 1 else 13))]:=by
 have he:qMd (bk.getD 0 []).length (bk.getD 1 []).length loc i ds.length (ds.getD 0 []).length (ds.getD 1 []).length=if loc<0∨4<loc∨i<0∨16≤i∨ds.length≠2 then 1 else 13:=by
  unfold qMd;by_cases h:loc<0∨4<loc∨i<0∨16≤i∨ds.length≠2
  ·rw[if_pos h,if_pos h]
  ·have h2:loc<vA i false:=by rcases hb with h' | h';exact absurd h' h;exact h'
   rw[if_neg h,if_neg h,if_pos h2]
 unfold qTf;rw[he];split
 ·split at *<;>simp_all
 ·rfl
theorem zC9 (h2:LkC tab 235 xN)(h3:LkC tab 74 yE)(h4:LkC tab 98 xP)(h5:LkC tab 79 jP)(h7:LkC tab 99 qAg)(h6:LkC tab 236 qGz)(x:qF1.α)(hx:qF1.pre x) :
  jD.1.wp tab gl (qE 0 (qF1.aS x)) (qE 0 (qF1.ins x)) (qX [(8,some (2,true)),(9,none)] (qF1.ins x).length (fun r o=>r=qF1.r x∧o=qF1.outs x)):=by
 obtain⟨bk,u,loc,i,ds⟩:=x;obtain⟨hv,hu,hd,hd2⟩:=hx;simp only[qF1] at *;by_cases hb:(loc<0∨4<loc∨i<0∨16≤i∨ds.length≠2)∨loc<vA i false
 ·rw[zU2 hb];exact qS3 tab gl h2 bk u loc i ds hd hb
 ·obtain⟨n,rfl⟩:=Int.eq_ofNat_of_zero_le (show 0≤i by omega)
  match ds,hd2,hb with
  | [d0,d1],hd2,hb=>
   have m0:=hd2 d0 sM;have m1:=hd2 d1 sM;have e1 : ¬(loc<0∨4<loc∨16≤n):=oM;have e2 : ¬ loc<vA n false:=oM;have hm:=hv.rm;obtain⟨hk,hl⟩:=hv;cases hk with
   | nil=>exact qZa tab gl h2 h3 h5 u loc n d0 d1 hu ⟨m0,m1⟩ e1 e2
   | two b0 b1 g0 g1=>exact qZb tab gl h2 h3 h4 h5 h7 h6 b0 b1 u loc n d0 d1 hu hm (qI6 (hl b0 sM)) (qI6 (hl b1 sM)) ⟨m0,m1⟩ e1 e2
  | [],_,hb=>simp at hb
  | [_],_,hb=>simp at hb
  | _::_::_::_,_,hb=>simp at hb
def qVv (bk:List zB)(data:List UInt8):List (List UInt8):=[if onB bk 0 then zBq data else [],if onB bk 1 then yK data else []]
def evR (bk:List zB)(u loc i:Int)(data:List UInt8):V:=if 128<data.length then .tup [.t (jN [] 0),.t (.int .i64 4)] else qTf bk u loc i (qVv bk data)
theorem zMh {bk:List zB}{u loc i:Int}{ds:List (List UInt8)} : ∃ (bk':List zB) (u' e:Int),qTf bk u loc i ds = .tup [.t (.agg [.sl (bk'.map yS),.int .i64 u']),.t (.int .i64 e)]:=by
 unfold qTf;split
 ·exact⟨_,_,_,rfl⟩
 ·exact⟨[],0,_,rfl⟩
theorem zZj {bk:List zB}{u loc i:Int}{ds:List (List UInt8)}(h:zZh (bk,u,loc,i,ds)):qF1.fs [.t (.agg [.sl (bk.map yS),.int .i64 u]),.t (.int .i64 loc),.t (.int .i64 i),.t (.sl (ds.map bsT))] []=some (qTf bk u loc i ds,[]):=qF1.eq (bk,u,loc,i,ds) h
theorem zKp {bk:List zB}{data:List UInt8}:(qVv bk data).length<1000000000 ∧ ∀ d∈qVv bk data,d.length<9223372036854775808:=by
 refine⟨by simp[qVv],?_⟩;intro d hd;simp only[qVv,List.mem_cons,List.not_mem_nil,or_false] at hd;rcases hd with rfl | rfl
 ·split
  ·rw[yY];omega
  ·simp
 ·split
  ·rw[qS];omega
  ·simp
theorem qY9 (h1:LkC tab 74 yE)(h2:LkC tab 236 qGz)(bk:List zB)(u:Int)(data:List UInt8)(hk:RK bk)(hd:data.length<1000000000) :
  qEw.1.wp tab gl (qE 0 [.t (jN bk u),.t (.sl (data.map qA))]) (qE 0 []) (qX [(4,none)] 0 (fun r o=>r = .t (.sl ((qVv bk data).map bsT))∧o=[])):=by
 have c0:=qE1 (u:=u) (a:=0) hk oM;have c1:=qE1 (u:=u) (a:=1) hk oM;rw[show ((0:Nat):Int)=0 from rfl] at c0;rw[show ((1:Nat):Int)=1 from rfl] at c1;simp(disch:=omega)only[go_sem,qEw];cases o0:onB bk 0<;>cases o1:onB bk 1<;>rw[o0] at c0<;>rw[o1] at c1
 ·have hdig:qVv bk data=[[],[]]:=by rw[qVv,o0,o1];rfl
  rw[hdig];refine qD 2 (fun k=>match k with | 0=>[(1,.t (.sl (data.map qA))),(2,.ref 4096 0 0),(5,.sl 8192 0 2),(6,.t (.int .i64 0))] | 1=>[(1,.t (.sl (data.map qA))),(2,.ref 4096 0 0),(5,.sl 8192 0 2),(6,.t (.int .i64 1))] | _=>[(1,.t (.sl (data.map qA))),(2,.ref 4096 0 0),(5,.sl 8192 0 2),(6,.t (.int .i64 2))]) (fun k=>match k with | 0=>[(8192,.live 1 [.t (bsT []),.t (bsT [])] true false),(4096,.live 2 [.t (jN bk u)] true true)] | 1=>[(8192,.live 1 [.t (bsT ([])),.t (bsT [])] true false),(4096,.live 2 [.t (jN bk u)] true true)] | _=>[(8192,.live 1 [.t (bsT ([])),.t (bsT ([]))] true false),(4096,.live 2 [.t (jN bk u)] true true)]) ?_ (fun k hk2=>?_)
  ·refine qI.rd id ?_ ?_ rfl;all_goals simp(disch:=omega)only[go_sem,id,List.map_nil]
  ·rcases (show k=0∨k=1∨k=2 by omega) with rfl | rfl | rfl
   ·simp(disch:=omega)only[go_sem,h1,h2,c0,c1,zO,zN,List.map_nil];refine qI.rd id ?_ ?_ rfl;all_goals simp(disch:=omega)only[go_sem,id,List.map_nil]
   ·simp(disch:=omega)only[go_sem,h1,h2,c0,c1,zO,zN,List.map_nil];refine qI.rd id ?_ ?_ rfl;all_goals simp(disch:=omega)only[go_sem,id,List.map_nil]
   ·simp(disch:=omega)only[go_sem,h1,h2,c0,c1,zO,zN,List.map_nil,mcn]
 ·have hdig:qVv bk data=[[],yK data]:=by rw[qVv,o0,o1];rfl
  rw[hdig];refine qD 2 (fun k=>match k with | 0=>[(1,.t (.sl (data.map qA))),(2,.ref 4096 0 0),(5,.sl 8192 0 2),(6,.t (.int .i64 0))] | 1=>[(1,.t (.sl (data.map qA))),(2,.ref 4096 0 0),(5,.sl 8192 0 2),(6,.t (.int .i64 1))] | _=>[(1,.t (.sl (data.map qA))),(2,.ref 4096 0 0),(5,.sl 8192 0 2),(6,.t (.int .i64 2))]) (fun k=>match k with | 0=>[(8192,.live 1 [.t (bsT []),.t (bsT [])] true false),(4096,.live 2 [.t (jN bk u)] true true)] | 1=>[(8192,.live 1 [.t (bsT ([])),.t (bsT [])] true false),(4096,.live 2 [.t (jN bk u)] true true)] | _=>[(8192,.live 1 [.t (bsT ([])),.t (bsT (yK data))] true false),(4096,.live 2 [.t (jN bk u)] true true)]) ?_ (fun k hk2=>?_)
  ·refine qI.rd id ?_ ?_ rfl;all_goals simp(disch:=omega)only[go_sem,id,List.map_nil]
  ·rcases (show k=0∨k=1∨k=2 by omega) with rfl | rfl | rfl
   ·simp(disch:=omega)only[go_sem,h1,h2,c0,c1,zO,zN,List.map_nil];refine qI.rd id ?_ ?_ rfl;all_goals simp(disch:=omega)only[go_sem,id,List.map_nil]
   ·simp(disch:=omega)only[go_sem,h1,h2,c0,c1,zO,zN,List.map_nil];refine qI.cv (hv:=[]) [28736] id ?_ rfl;simp(disch:=omega)only[go_sem,id,qDa,xV,List.map_nil,yY,qS];all_goals rfl
   ·simp(disch:=omega)only[go_sem,h1,h2,c0,c1,zO,zN,List.map_nil,mcn]
 ·have hdig:qVv bk data=[zBq data,[]]:=by rw[qVv,o0,o1];rfl
  rw[hdig];refine qD 2 (fun k=>match k with | 0=>[(1,.t (.sl (data.map qA))),(2,.ref 4096 0 0),(5,.sl 8192 0 2),(6,.t (.int .i64 0))] | 1=>[(1,.t (.sl (data.map qA))),(2,.ref 4096 0 0),(5,.sl 8192 0 2),(6,.t (.int .i64 1))] | _=>[(1,.t (.sl (data.map qA))),(2,.ref 4096 0 0),(5,.sl 8192 0 2),(6,.t (.int .i64 2))]) (fun k=>match k with | 0=>[(8192,.live 1 [.t (bsT []),.t (bsT [])] true false),(4096,.live 2 [.t (jN bk u)] true true)] | 1=>[(8192,.live 1 [.t (bsT (zBq data)),.t (bsT [])] true false),(4096,.live 2 [.t (jN bk u)] true true)] | _=>[(8192,.live 1 [.t (bsT (zBq data)),.t (bsT ([]))] true false),(4096,.live 2 [.t (jN bk u)] true true)]) ?_ (fun k hk2=>?_)
  ·refine qI.rd id ?_ ?_ rfl;all_goals simp(disch:=omega)only[go_sem,id,List.map_nil]
  ·rcases (show k=0∨k=1∨k=2 by omega) with rfl | rfl | rfl
   ·simp(disch:=omega)only[go_sem,h1,h2,c0,c1,zO,zN,List.map_nil];refine qI.cv (hv:=[]) [28736] id ?_ rfl;simp(disch:=omega)only[go_sem,id,qDa,xV,List.map_nil,yY,qS];all_goals rfl
   ·simp(disch:=omega)only[go_sem,h1,h2,c0,c1,zO,zN,List.map_nil];refine qI.rd id ?_ ?_ rfl;all_goals simp(disch:=omega)only[go_sem,id,List.map_nil]
   ·simp(disch:=omega)only[go_sem,h1,h2,c0,c1,zO,zN,List.map_nil,mcn]
 ·have hdig:qVv bk data=[zBq data,yK data]:=by rw[qVv,o0,o1];rfl
  rw[hdig];refine qD 2 (fun k=>match k with | 0=>[(1,.t (.sl (data.map qA))),(2,.ref 4096 0 0),(5,.sl 8192 0 2),(6,.t (.int .i64 0))] | 1=>[(1,.t (.sl (data.map qA))),(2,.ref 4096 0 0),(5,.sl 8192 0 2),(6,.t (.int .i64 1))] | _=>[(1,.t (.sl (data.map qA))),(2,.ref 4096 0 0),(5,.sl 8192 0 2),(6,.t (.int .i64 2))]) (fun k=>match k with | 0=>[(8192,.live 1 [.t (bsT []),.t (bsT [])] true false),(4096,.live 2 [.t (jN bk u)] true true)] | 1=>[(8192,.live 1 [.t (bsT (zBq data)),.t (bsT [])] true false),(4096,.live 2 [.t (jN bk u)] true true)] | _=>[(8192,.live 1 [.t (bsT (zBq data)),.t (bsT (yK data))] true false),(4096,.live 2 [.t (jN bk u)] true true)]) ?_ (fun k hk2=>?_)
  ·refine qI.rd id ?_ ?_ rfl;all_goals simp(disch:=omega)only[go_sem,id,List.map_nil]
  ·rcases (show k=0∨k=1∨k=2 by omega) with rfl | rfl | rfl
   ·simp(disch:=omega)only[go_sem,h1,h2,c0,c1,zO,zN,List.map_nil];refine qI.cv (hv:=[]) [28736] id ?_ rfl;simp(disch:=omega)only[go_sem,id,qDa,xV,List.map_nil,yY,qS];all_goals rfl
   ·simp(disch:=omega)only[go_sem,h1,h2,c0,c1,zO,zN,List.map_nil];refine qI.cv (hv:=[]) [28736] id ?_ rfl;simp(disch:=omega)only[go_sem,id,qDa,xV,List.map_nil,yY,qS];all_goals rfl
   ·simp(disch:=omega)only[go_sem,h1,h2,c0,c1,zO,zN,List.map_nil,mcn]
def qVr:Ct where
 α:=List zB×Int×List UInt8
 aS x:=[.t (jN x.1 x.2.1),.t (.sl (x.2.2.map qA))]
 ins _:=[]
 pre x:=RK x.1∧x.2.2.length<1000000000
 r x:= .t (.sl ((qVv x.1 x.2.2).map bsT))
 outs _:=[]
 inj:=by
  rintro⟨a,u,d⟩ ⟨b,v,d'⟩ h _;simp only[List.cons.injEq,V.t.injEq,T.sl.injEq,and_true,yD] at h;obtain⟨h1,rfl⟩:=h;obtain⟨rfl,rfl⟩:=qCb h1;exact⟨rfl,rfl⟩
theorem zGl (h1:LkC tab 195 qVr)(h2:LkC tab 194 qF1)(bk:List zB)(u loc i:Int)(data:List UInt8)(hk:RV bk)(hu:0≤u∧u<1000000000)(hd:data.length<1000000000) :
  qD4.1.wp tab gl (qE 0 [.t (jN bk u),.t (.int .i64 loc),.t (.int .i64 i),.t (.sl (data.map qA))]) (qE 0 []) (qX [(8,some (2,true)),(9,none)] 0 (fun r o=>r=evR bk u loc i data∧o=[])):=by
 by_cases hl:128<data.length
 ·simp(disch:=omega)only[go_sem,qD4,evR,hl,List.map_nil]
 rw[evR,if_neg hl];have hx:=zZj (bk:=bk) (u:=u) (loc:=loc) (i:=i) (ds:=qVv bk data) ⟨hk,hu,zKp.1,zKp.2⟩;obtain⟨bk',u',e,he⟩:=zMh (bk:=bk) (u:=u) (loc:=loc) (i:=i) (ds:=qVv bk data);rw[he] at hx;rw[he];have hdg:qVr.fs [.t (.agg [.sl (bk.map yS),.int .i64 u]),.t (.sl (data.map qA))] []=some (.t (.sl ((qVv bk data).map bsT)),[]):=qVr.eq (bk,u,data) ⟨hk.1,hd⟩;simp(disch:=omega)only[go_sem,qD4,h1,h2,hdg,hx];all_goals rfl
def qL4:Ct where
 α:=List (List UInt8)×List (List UInt8)
 aS x:=[.t (.sl (x.1.map bsT)),.t (.sl (x.2.map bsT))]
 ins _:=[]
 pre x:=zEk x.1∧zEk x.2
 r x:= .t (.bool (decide (x.1=x.2)))
 outs _:=[]
 inj:=by
  rintro⟨a,b⟩ ⟨c,d⟩ h _;simp[qHj] at h;obtain⟨rfl,rfl⟩:=h;exact⟨rfl,rfl⟩
theorem qUt {a:zB}(h:zEk a):qL4.fs [.t (.sl (a.map bsT)),.t (.sl (a.map bsT))] []=some (.t (.bool true),[]):=by
 refine (qL4.eq (a,a) ⟨h,h⟩).trans ?_;simp[qL4]
theorem RM.bank {bk:List zB}(h:RM bk)(a:Nat):zEk (bk.getD a []):=by
 by_cases ha:a<bk.length
 ·have e:bk.getD a []=bk[a]:=by simp[List.getD,ha]
  rw[e];exact h.2 _ (List.getElem_mem ha)
 ·have e:bk.getD a []=[]:=by simp[List.getD,List.getElem?_eq_none (Nat.le_of_not_lt ha)]
  rw[e];exact⟨sM,sM⟩
theorem zJu (h1:LkC tab 74 yE)(h2:LkC tab 63 qL4)(bk:List zB)(u:Int)(hk:RM bk) :
  qKh.1.wp tab gl (qE 0 [.t (jN bk u),.t (jN bk u)]) (qE 0 []) (qX [(4,none)] 0 (fun r o=>r = .t (.bool true)∧o=[])):=by
 have c0:=qE1 (u:=u) (a:=0) hk.1 oM;have c1:=qE1 (u:=u) (a:=1) hk.1 oM;rw[show ((0:Nat):Int)=0 from rfl] at c0;rw[show ((1:Nat):Int)=1 from rfl] at c1;have m0:=qUt (hk.bank 0);have m1:=qUt (hk.bank 1);have hlen:bk.length≤2:=by
  obtain⟨h,_⟩:=hk;cases h<;>simp
 have l0:onB bk 0=true→0<bk.length:=fun h=>hk.1.len h
 have l1:onB bk 1=true→1<bk.length:=fun h=>hk.1.len h
 simp(disch:=omega)only[go_sem,qKh];refine qBl (fs':=[(2,.ref 4096 0 0),(3,.ref 4112 0 0),(5,.t (.int .i64 0))]) (hs':=[(4096,.live 2 [.t (jN bk u)] true true),(4112,.live 2 [.t (jN bk u)] true true)]) (qI.rd id ?_ ?_ rfl) ?_
 ·simp(disch:=omega)only[go_sem,id]
 ·simp(disch:=omega)only[go_sem,id]
 have g0 : ∀ h:0<bk.length,bk[0]?=some (bk.getD 0 []):=fun h=>jVt h
 cases o0:onB bk 0<;>cases o1:onB bk 1<;>rw[o0] at c0<;>rw[o1] at c1
 ·refine qM 3 ?_;simp(disch:=omega)only[go_sem,qG,h1,c0,c1];all_goals repeat refine And.intro rfl ?_
  all_goals rfl
 ·have z1:=l1 o1;refine qM 3 ?_;simp(disch:=omega)only[go_sem,qG,h1,c0,c1,h2,m0,m1];all_goals repeat refine And.intro rfl ?_
  all_goals rfl
 ·have z0:=l0 o0;refine qM 3 ?_;simp(disch:=omega)only[go_sem,qG,h1,c0,c1,h2,m0,m1];all_goals repeat refine And.intro rfl ?_
  all_goals rfl
 ·have z0:=l0 o0;have z1:=l1 o1;refine qM 3 ?_;simp(disch:=omega)only[go_sem,qG,h1,c0,c1,h2,m0,m1];all_goals repeat refine And.intro rfl ?_
  all_goals rfl
def wS:Ct where
 α:=Int
 aS s:=[.t (.int .i64 s)]
 ins _:=[]
 pre _:=True
 r s:=twR (kF s) 0
 outs s:=twO (kF s)
 inj:=by
  rintro a b h _;simp only[List.cons.injEq,V.t.injEq,T.int.injEq,true_and,and_true] at h;subst h;exact⟨rfl,rfl⟩
def zPd:Ct where
 α:=List zB×Int×Int×Int×List UInt8
 aS x:=[.t (jN x.1 x.2.1),.t (.int .i64 x.2.2.1),.t (.int .i64 x.2.2.2.1),.t (.sl (x.2.2.2.2.map qA))]
 ins _:=[]
 pre x:=RV x.1∧(0≤x.2.1∧x.2.1<1000000000)∧x.2.2.2.2.length<1000000000
 r x:=evR x.1 x.2.1 x.2.2.1 x.2.2.2.1 x.2.2.2.2
 outs _:=[]
 inj:=by
  rintro⟨a,u,l,i,d⟩ ⟨b,v,l',i',d'⟩ h _;simp only[List.cons.injEq,V.t.injEq,T.int.injEq,T.sl.injEq,true_and,and_true,yD] at h;obtain⟨h1,rfl,rfl,rfl⟩:=h;obtain⟨rfl,rfl⟩:=qCb h1;exact⟨rfl,rfl⟩
def qZp:Ct where
 α:=List zB×Int×Int×Int
 aS x:=[.t (jN x.1 x.2.1),.t (.int .i64 x.2.2.1),.t (.int .i64 x.2.2.2)]
 ins _:=[]
 pre x:=RM x.1
 r x:=jGf x.1 x.2.2.1 x.2.2.2
 outs x:=jGe x.1 x.2.2.1 x.2.2.2
 inj:=by
  rintro⟨a,u,l,i⟩ ⟨b,v,l',i'⟩ h _;simp only[List.cons.injEq,V.t.injEq,T.int.injEq,true_and,and_true] at h;obtain⟨h1,rfl,rfl⟩:=h;obtain⟨rfl,rfl⟩:=qCb h1;exact⟨rfl,rfl⟩
theorem zRa {a:Nat}(ha:a<2):qTt (qCf a):= .inr qK
theorem zQ9 {a:Nat}(ha:a<2) : ∀ x∈qCf a,x.length≤64:=by
 intro x hx;simp only[qCf,List.mem_map,List.mem_range] at hx;obtain⟨i,_,rfl⟩:=hx;simp only[List.length_replicate];have:a=0∨a=1:=oM;rcases this with rfl | rfl<;>decide
theorem zK2 {s:Int}:RV (kF s):=by
 unfold kF;split
 ·exact⟨.nil,sM⟩
 ·refine⟨.two _ _ ?_ ?_,?_⟩
  ·split
   ·exact zRa oM
   ·exact .inl rfl
  ·split
   ·exact zRa oM
   ·exact .inl rfl
  ·intro b hb;simp only[List.mem_cons,List.not_mem_nil,or_false] at hb;rcases hb with rfl | rfl
   ·split
    ·exact zQ9 oM
    ·simp
   ·split
    ·exact zQ9 oM
    ·simp
def zKl:Ct where
 α:=List zB×Int
 aS x:=[.t (jN x.1 x.2),.t (jN x.1 x.2)]
 ins _:=[]
 pre x:=RM x.1
 r _:= .t (.bool true)
 outs _:=[]
 inj:=by rintro a b h _;exact⟨rfl,rfl⟩
theorem qP1 (h1:LkC tab 178 qIo)(h2:LkC tab 179 qSa)(x:(qA7 5 qD6).α)(hx:(qA7 5 qD6).pre x) :
  wV.1.wp tab gl (qE 0 ((qA7 5 qD6).aS x)) (qE 0 ((qA7 5 qD6).ins x)) (qX [] ((qA7 5 qD6).ins x).length (fun r o=>r=(qA7 5 qD6).r x∧o=(qA7 5 qD6).outs x)):=by
 obtain⟨hs,bs⟩:=x;obtain⟨hb,hh⟩:=hx
 match hs,hh with
 | [x0,x1,x2,x3,x4],_=>exact qRp tab gl h1 h2 bs x0 x1 x2 x3 x4 hb
theorem qP3 (x:xL.α)(hx:xL.pre x) :
  yQ.1.wp tab gl (qE 0 (xL.aS x)) (qE 0 (xL.ins x)) (qX [(2,none)] (xL.ins x).length (fun r o=>r=xL.r x∧o=xL.outs x)):=by
 obtain⟨bk,u⟩:=x;have hx':RK bk:=hx;clear hx;cases hx' with
 | nil=>exact qPz tab gl u
 | two b0 b1 h0 h1=>exact qP0 tab gl b0 b1 (by rcases h0 with h | h<;>omega) (by rcases h1 with h | h<;>omega) u
theorem qS9 (x:jP.α)(hx:jP.pre x) :
  vF.1.wp tab gl (qE 0 (jP.aS x)) (qE 0 (jP.ins x)) (xU [] [(2,some (2,true))] (jP.ins x).length (fun r o=>r=jP.r x∧o=jP.outs x)):=by
 obtain⟨bk,u⟩:=x;obtain⟨hk,hm⟩:=hx;have hk':RK bk:=hk;clear hk;cases hk' with
 | nil=>exact qS4 tab gl u
 | two b0 b1 h0 h1=>exact qS5 tab gl b0 b1 u (hm b0 (.head _)) (hm b1 (.tail _ (.head _)))
theorem qUk (h1:LkC tab 76 xP)(h2:LkC tab 75 wR)(x:wS.α) :
  jT.1.wp tab gl (qE 0 (wS.aS x)) (qE 0 (wS.ins x)) (xU [] [(2,some (2,true))] (wS.ins x).length (fun r o=>r=wS.r x∧o=wS.outs x)):=by
 have x':Int:=x;by_cases h:(show Int from x)%4=0
 ·have:=qUh tab gl x h;show jT.1.wp tab gl (qE 0 [.t (.int .i64 x)]) (qE 0 []) (xU [] [(2,some (2,true))] 0 (fun r o=>r=twR (kF x) 0∧o=twO (kF x)));have e:kF x=[]:=if_pos h;rw[e];exact this
 ·exact qXn tab gl h1 h2 x h
theorem zJ1 (h1:LkC tab 78 qE7)(x:wS.α) :
  wZ.1.wp tab gl (qE 0 (wS.aS x)) (qE 0 (wS.ins x)) (xU [] [(2,some (2,true))] (wS.ins x).length (fun r o=>r=wS.r x∧o=wS.outs x)):=by
 by_cases h:(show Int from x)%4=0
 ·have:=zJs tab gl x h;show wZ.1.wp tab gl (qE 0 [.t (.int .i64 x)]) (qE 0 []) (xU [] [(2,some (2,true))] 0 (fun r o=>r=twR (kF x) 0∧o=twO (kF x)));have e:kF x=[]:=if_pos h;rw[e];exact this
 ·exact zOa tab gl h1 x h
theorem zGr (x:wR.α)(hx:wR.pre x) :
  qFy.1.wp tab gl (qE 0 (wR.aS x)) (qE 0 (wR.ins x)) (xU [] [(4,none)] (wR.ins x).length (fun r o=>r=wR.r x∧o=wR.outs x)):=by
 obtain⟨n,x⟩:=x;have hx':n=20∨n=32:=hx;exact zJv tab gl x n oM
theorem qZf (x:yE.α)(hx:yE.pre x) :
  kP.1.wp tab gl (qE 0 (yE.aS x)) (qE 0 (yE.ins x)) (qX [(4,none)] (yE.ins x).length (fun r o=>r=yE.r x∧o=yE.outs x)):=by
 obtain⟨bk,u,a⟩:=x;obtain⟨hk,ha⟩:=hx;have hk':RK bk:=hk;have ha':a<1000000000:=ha;refine zC5 tab gl bk u a ha' ?_ ?_
 ·cases hk'<;>simp
 ·intro b hb;clear hk;cases hk' with
  | nil=>simp at hb
  | two b0 b1 h0 h1=>
   simp only[List.mem_cons,List.not_mem_nil,or_false] at hb;rcases hb with rfl | rfl
   ·rcases h0 with h | h<;>omega
   ·rcases h1 with h | h<;>omega
def stN (x:List UInt8)(b:zB):Nat→zB
 | 0=>b
 | k+1=>(stN x b k).set (12+k) x
theorem kT {x:List UInt8}{b:zB}{k:Nat}:List.length (stN x b k)=List.length b:=by
 induction k with
 | zero=>rfl
 | succ k ih=>simp only[stN,List.length_set,ih]
def qXz (bk:List zB):List zB:=match bk with
 | [b0,b1]=>[stN (List.replicate 20 255) b0 4,stN (List.replicate 32 255) b1 4]
 | bk=>bk
theorem qZs {k:Nat}:zV1 (12+k)=255:=if_pos oM
theorem qPx (h1:LkC tab 77 jP)(u:Int):yP.1.wp tab gl (qE 0 [.t (jN [] u)]) (qE 0 []) (qX [(2,some (2,true))] 0 (fun r o=>r = .t (jN [] u)∧o=[])):=by
 simp(disch:=omega)only[go_sem,yP,h1,qU7,List.map_nil];refine qM 1 ?_;simp(disch:=omega)only[go_sem,qG]
theorem qPy (h1:LkC tab 77 jP)(h2:LkC tab 76 xP)(h3:LkC tab 75 wR)(b0 b1:zB)(u:Int)(hk:RM [b0,b1]):yP.1.wp tab gl (qE 0 [.t (jN [b0,b1] u)]) (qE 0 []) (qX [(2,some (2,true))] 0 (fun r o=>r = .t (jN (qXz [b0,b1]) u)∧o=[])):=by
 simp(disch:=omega)only[go_sem,yP,h1,jK hk,mcn];refine qM 3 ?_;simp(disch:=omega)only[go_sem,qG];obtain⟨hrk,_⟩:=hk;cases hrk with
 | two _ _ h0 h1=>
 have q0:qTt b0:=h0;rcases q0 with z0 | z0
 ·obtain rfl:b0=[]:=List.eq_nil_of_length_eq_zero z0;have y0:stN (List.replicate 20 255) [] 4=[]:=rfl;refine qM 1 ?_;simp(disch:=omega)only[go_sem,qG,List.length_nil,List.map_nil];have q1:qTt b1:=h1;rcases q1 with z1 | z1
  ·obtain rfl:b1=[]:=List.eq_nil_of_length_eq_zero z1;have y1:stN (List.replicate 32 255) [] 4=[]:=rfl;refine qM 1 ?_;simp(disch:=omega)only[go_sem,qG,List.length_nil,List.map_nil,z0,z1];all_goals rfl
  ·refine qD 4 (fun k=>[(2,.ref 4112 0 0),(3,.ref 8224 0 0),(4,.t (.int .i64 1)),(5,.t (.int .i64 ((12+k:Nat):Int))),(10,.t (.int .i64 2)),(11,.t (.int .i64 1))]) (fun k=>[(8224,.live 2 [.agg [.sl 8208 0 2,.t (.int .i64 u)]] true true),(8210,.live 1 (((stN (List.replicate 32 255) b1 k).map bsT).map V.t) true false),(8209,.live 1 (((([]:zB)).map bsT).map V.t) true false),(8208,.live 1 [.sl 8209 0 0,.sl 8210 0 16] true false),(4112,.live 2 [.agg [.nil,.t (.int .i64 0)]] true true)]) ?_ (fun k hk4=>?_)
   ·refine qI.rd id ?_ ?_ rfl;all_goals simp(disch:=omega)only[go_sem,id,stN,z0,z1]
   ·have s1:List.length (stN (List.replicate 32 255) b1 k)=16:=by rw[kT,z1]
    by_cases hlt:k<4
    ·simp(disch:=omega)only[go_sem,z1,s1,h2,h3,qQ,qR,zL,zM];repeat refine And.intro rfl ?_
     refine⟨hlt,qI.cv (hv:=[]) [36992] id ?_ rfl⟩;simp(maxSteps:=9^9)(disch:=try exact dS)only[go_sem,id,stN,z1,s1,List.take_replicate,Nat.min_self,qZs];refine⟨?_,rfl⟩;omega
    ·have e:k=4:=oM;subst e;have t1:List.take 16 (stN (List.replicate 32 255) b1 4)=stN (List.replicate 32 255) b1 4:=List.take_of_length_le oM;simp(disch:=omega)only[go_sem,z1,s1,qG,t1];all_goals rfl
 ·refine qD 4 (fun k=>[(2,.ref 4112 0 0),(3,.ref 8224 0 0),(4,.t (.int .i64 0)),(5,.t (.int .i64 ((12+k:Nat):Int))),(10,.t (.int .i64 2)),(11,.t (.int .i64 0))]) (fun k=>[(8224,.live 2 [.agg [.sl 8208 0 2,.t (.int .i64 u)]] true true),(8210,.live 1 (((b1).map bsT).map V.t) true false),(8209,.live 1 (((stN (List.replicate 20 255) b0 k).map bsT).map V.t) true false),(8208,.live 1 [.sl 8209 0 16,.sl 8210 0 b1.length] true false),(4112,.live 2 [.agg [.nil,.t (.int .i64 0)]] true true)]) ?_ (fun k hk4=>?_)
  ·refine qI.rd id ?_ ?_ rfl;all_goals simp(disch:=omega)only[go_sem,id,stN,z0]
  ·have s0:List.length (stN (List.replicate 20 255) b0 k)=16:=by rw[kT,z0]
   by_cases hlt:k<4
   ·simp(disch:=omega)only[go_sem,z0,s0,h2,h3,qQ,qR,zL,zM];repeat refine And.intro rfl ?_
    refine⟨hlt,qI.cv (hv:=[]) [36992] id ?_ rfl⟩;simp(maxSteps:=9^9)(disch:=try exact dS)only[go_sem,id,stN,z0,s0,List.take_replicate,Nat.min_self,qZs];refine⟨?_,rfl⟩;omega
   ·have e:k=4:=oM;subst e;have t0:List.take 16 (stN (List.replicate 20 255) b0 4)=stN (List.replicate 20 255) b0 4:=List.take_of_length_le oM;simp(disch:=omega)only[go_sem,z0,s0,qG,t0];have q1:qTt b1:=h1;rcases q1 with z1 | z1
    ·obtain rfl:b1=[]:=List.eq_nil_of_length_eq_zero z1;have y1:stN (List.replicate 32 255) [] 4=[]:=rfl;refine qM 1 ?_;simp(disch:=omega)only[go_sem,qG,List.length_nil,List.map_nil,z0,z1,t0];all_goals rfl
    ·refine qD 4 (fun k=>[(2,.ref 4112 0 0),(3,.ref 8224 0 0),(4,.t (.int .i64 1)),(5,.t (.int .i64 ((12+k:Nat):Int))),(10,.t (.int .i64 2)),(11,.t (.int .i64 1))]) (fun k=>[(8224,.live 2 [.agg [.sl 8208 0 2,.t (.int .i64 u)]] true true),(8210,.live 1 (((stN (List.replicate 32 255) b1 k).map bsT).map V.t) true false),(8209,.live 1 (((stN (List.replicate 20 255) b0 4).map bsT).map V.t) true false),(8208,.live 1 [.sl 8209 0 16,.sl 8210 0 16] true false),(4112,.live 2 [.agg [.nil,.t (.int .i64 0)]] true true)]) ?_ (fun k hk4=>?_)
     ·refine qI.rd id ?_ ?_ rfl;all_goals simp(disch:=omega)only[go_sem,id,stN,z0,z1]
     ·have s1:List.length (stN (List.replicate 32 255) b1 k)=16:=by rw[kT,z1]
      by_cases hlt:k<4
      ·simp(disch:=omega)only[go_sem,z1,s1,h2,h3,qQ,qR,zL,zM];repeat refine And.intro rfl ?_
       refine⟨hlt,qI.cv (hv:=[]) [36992] id ?_ rfl⟩;simp(maxSteps:=9^9)(disch:=try exact dS)only[go_sem,id,stN,z1,s1,List.take_replicate,Nat.min_self,qZs];refine⟨?_,rfl⟩;omega
      ·have e:k=4:=oM;subst e;have t1:List.take 16 (stN (List.replicate 32 255) b1 4)=stN (List.replicate 32 255) b1 4:=List.take_of_length_le oM;simp(disch:=omega)only[go_sem,z1,s1,qG,t0,t1];all_goals rfl
theorem qZc (h1:LkC tab 79 jP)(u:Int):kR.1.wp tab gl (qE 0 [.t (jN [] u)]) (qE 0 []) (qX [(2,some (2,true))] 0 (fun r o=>r = .t (jN [] u)∧o=[])):=by
 simp(disch:=omega)only[go_sem,kR,h1,qU7,List.map_nil];refine qM 1 ?_;simp(disch:=omega)only[go_sem,qG]
theorem qZd (h1:LkC tab 79 jP)(h2:LkC tab 78 qE7)(b0 b1:zB)(u:Int)(hk:RM [b0,b1]):kR.1.wp tab gl (qE 0 [.t (jN [b0,b1] u)]) (qE 0 []) (qX [(2,some (2,true))] 0 (fun r o=>r = .t (jN (qXz [b0,b1]) u)∧o=[])):=by
 simp(disch:=omega)only[go_sem,kR,h1,jK hk,mcn];refine qM 3 ?_;simp(disch:=omega)only[go_sem,qG];obtain⟨hrk,_⟩:=hk;cases hrk with
 | two _ _ h0 h1=>
 have q0:qTt b0:=h0;rcases q0 with z0 | z0
 ·obtain rfl:b0=[]:=List.eq_nil_of_length_eq_zero z0;have y0:stN (List.replicate 20 255) [] 4=[]:=rfl;refine qM 1 ?_;simp(disch:=omega)only[go_sem,qG,List.length_nil,List.map_nil];have q1:qTt b1:=h1;rcases q1 with z1 | z1
  ·obtain rfl:b1=[]:=List.eq_nil_of_length_eq_zero z1;have y1:stN (List.replicate 32 255) [] 4=[]:=rfl;refine qM 1 ?_;simp(disch:=omega)only[go_sem,qG,List.length_nil,List.map_nil,z0,z1];all_goals rfl
  ·refine qD 4 (fun k=>[(2,.ref 4112 0 0),(3,.ref 8224 0 0),(4,.t (.int .i64 1)),(5,.t (.int .i64 ((12+k:Nat):Int)))]) (fun k=>[(8224,.live 2 [.agg [.sl 8208 0 2,.t (.int .i64 u)]] true true),(8210,.live 1 (((stN (List.replicate 32 255) b1 k).map bsT).map V.t) true false),(8209,.live 1 (((([]:zB)).map bsT).map V.t) true false),(8208,.live 1 [.sl 8209 0 0,.sl 8210 0 16] true false),(4112,.live 2 [.agg [.nil,.t (.int .i64 0)]] true true)]) ?_ (fun k hk4=>?_)
   ·refine qI.rd id ?_ ?_ rfl;all_goals simp(disch:=omega)only[go_sem,id,stN,z0,z1]
   ·have s1:List.length (stN (List.replicate 32 255) b1 k)=16:=by rw[kT,z1]
    by_cases hlt:k<4
    ·simp(disch:=omega)only[go_sem,z1,s1,h2,yM,yN];repeat refine And.intro rfl ?_
     refine⟨hlt,qI.cv (hv:=[]) [36992] id ?_ rfl⟩;simp(maxSteps:=9^9)(disch:=try exact dS)only[go_sem,id,stN,z1,s1,List.take_replicate,Nat.min_self,qZs];refine⟨?_,rfl⟩;omega
    ·have e:k=4:=oM;subst e;have t1:List.take 16 (stN (List.replicate 32 255) b1 4)=stN (List.replicate 32 255) b1 4:=List.take_of_length_le oM;simp(disch:=omega)only[go_sem,z1,s1,qG,t1];all_goals rfl
 ·refine qD 4 (fun k=>[(2,.ref 4112 0 0),(3,.ref 8224 0 0),(4,.t (.int .i64 0)),(5,.t (.int .i64 ((12+k:Nat):Int)))]) (fun k=>[(8224,.live 2 [.agg [.sl 8208 0 2,.t (.int .i64 u)]] true true),(8210,.live 1 (((b1).map bsT).map V.t) true false),(8209,.live 1 (((stN (List.replicate 20 255) b0 k).map bsT).map V.t) true false),(8208,.live 1 [.sl 8209 0 16,.sl 8210 0 b1.length] true false),(4112,.live 2 [.agg [.nil,.t (.int .i64 0)]] true true)]) ?_ (fun k hk4=>?_)
  ·refine qI.rd id ?_ ?_ rfl;all_goals simp(disch:=omega)only[go_sem,id,stN,z0]
  ·have s0:List.length (stN (List.replicate 20 255) b0 k)=16:=by rw[kT,z0]
   by_cases hlt:k<4
   ·simp(disch:=omega)only[go_sem,z0,s0,h2,yM,yN];repeat refine And.intro rfl ?_
    refine⟨hlt,qI.cv (hv:=[]) [36992] id ?_ rfl⟩;simp(maxSteps:=9^9)(disch:=try exact dS)only[go_sem,id,stN,z0,s0,List.take_replicate,Nat.min_self,qZs];refine⟨?_,rfl⟩;omega
   ·have e:k=4:=oM;subst e;have t0:List.take 16 (stN (List.replicate 20 255) b0 4)=stN (List.replicate 20 255) b0 4:=List.take_of_length_le oM;simp(disch:=omega)only[go_sem,z0,s0,qG,t0];have q1:qTt b1:=h1;rcases q1 with z1 | z1
    ·obtain rfl:b1=[]:=List.eq_nil_of_length_eq_zero z1;have y1:stN (List.replicate 32 255) [] 4=[]:=rfl;refine qM 1 ?_;simp(disch:=omega)only[go_sem,qG,List.length_nil,List.map_nil,z0,z1,t0];all_goals rfl
    ·refine qD 4 (fun k=>[(2,.ref 4112 0 0),(3,.ref 8224 0 0),(4,.t (.int .i64 1)),(5,.t (.int .i64 ((12+k:Nat):Int)))]) (fun k=>[(8224,.live 2 [.agg [.sl 8208 0 2,.t (.int .i64 u)]] true true),(8210,.live 1 (((stN (List.replicate 32 255) b1 k).map bsT).map V.t) true false),(8209,.live 1 (((stN (List.replicate 20 255) b0 4).map bsT).map V.t) true false),(8208,.live 1 [.sl 8209 0 16,.sl 8210 0 16] true false),(4112,.live 2 [.agg [.nil,.t (.int .i64 0)]] true true)]) ?_ (fun k hk4=>?_)
     ·refine qI.rd id ?_ ?_ rfl;all_goals simp(disch:=omega)only[go_sem,id,stN,z0,z1]
     ·have s1:List.length (stN (List.replicate 32 255) b1 k)=16:=by rw[kT,z1]
      by_cases hlt:k<4
      ·simp(disch:=omega)only[go_sem,z1,s1,h2,yM,yN];repeat refine And.intro rfl ?_
       refine⟨hlt,qI.cv (hv:=[]) [36992] id ?_ rfl⟩;simp(maxSteps:=9^9)(disch:=try exact dS)only[go_sem,id,stN,z1,s1,List.take_replicate,Nat.min_self,qZs];refine⟨?_,rfl⟩;omega
      ·have e:k=4:=oM;subst e;have t1:List.take 16 (stN (List.replicate 32 255) b1 4)=stN (List.replicate 32 255) b1 4:=List.take_of_length_le oM;simp(disch:=omega)only[go_sem,z1,s1,qG,t0,t1];all_goals rfl
def qHd:Ct where
 α:=List zB×Int×Int×Int
 aS x:=[.t (jN x.1 x.2.1),.t (.int .i64 x.2.2.1),.t (.int .i64 x.2.2.2)]
 ins _:=[]
 pre x:=RM x.1∧0≤x.2.1∧x.2.1<1000000000
 r x:=jEq x.1 x.2.1 x.2.2.1 x.2.2.2
 outs _:=[]
 inj:=by
  rintro⟨a,u,l,i⟩ ⟨b,v,l',i'⟩ h _;simp only[List.cons.injEq,V.t.injEq,T.int.injEq,true_and,and_true] at h;obtain⟨h1,rfl,rfl⟩:=h;obtain⟨rfl,rfl⟩:=qCb h1;exact⟨rfl,rfl⟩
theorem jKv {bk:List zB}{u l i:Int}(h:RM bk∧0≤u∧u<1000000000):qHd.fs [.t (jN bk u),.t (.int .i64 l),.t (.int .i64 i)] []=some (jEq bk u l i,[]):=qHd.eq (bk,u,l,i) h
def qBj:Ct where
 α:=List zB×Int
 aS x:=[.t (jN x.1 x.2)]
 ins _:=[]
 pre x:=RM x.1
 r x:= .t (jN (qXz x.1) x.2)
 outs _:=[]
 inj:=by
  rintro⟨a,u⟩ ⟨b,v⟩ h _;simp only[List.cons.injEq,V.t.injEq,and_true] at h;obtain⟨rfl,rfl⟩:=qCb h;exact⟨rfl,rfl⟩
theorem jAm {bk:List zB}{u:Int}(h:RM bk):qBj.fs [.t (jN bk u)] []=some (.t (jN (qXz bk) u),[]):=qBj.eq (bk,u) h
theorem zDc (h1:LkC tab 235 xN)(h3:LkC tab 79 jP)(h4:LkC tab 74 yE)(h5:LkC tab 98 xP)(h6:LkC tab 97 wR)(x:qHd.α)(hx:qHd.pre x) :
  jG.1.wp tab gl (qE 0 (qHd.aS x)) (qE 0 (qHd.ins x)) (qX [(6,some (2,true)),(7,none)] (qHd.ins x).length (fun r o=>r=qHd.r x∧o=qHd.outs x)):=by
 obtain⟨bk,u,l,i⟩:=x;obtain⟨hk,hu⟩:=hx;show jG.1.wp tab gl (qE 0 [.t (jN bk u),.t (.int .i64 l),.t (.int .i64 i)]) (qE 0 []) (qX [(6,some (2,true)),(7,none)] 0 (fun r o=>r=jEq bk u l i∧o=[]));by_cases he:zR5 l i=0
 ·rw[jEq,if_pos he];have hk':RM bk:=hk;have hk2:=hk'.1;cases hk2 with
  | nil=>exact zDa tab gl h1 h3 h4 u l i hu he
  | two b0 b1 _ _=>exact zDb tab gl h1 h3 h4 h5 h6 b0 b1 u l i hu hk he
 ·rw[jEq,if_neg he];exact qUg tab gl h1 bk u l i he
theorem zGq (h1:LkC tab 99 qAg)(x:jP.α)(hx:jP.pre x) :
  qBh.1.wp tab gl (qE 0 (jP.aS x)) (qE 0 (jP.ins x)) (xU [] [(2,some (2,true))] (jP.ins x).length (fun r o=>r=jP.r x∧o=jP.outs x)):=by
 obtain⟨bk,u⟩:=x;obtain⟨hk,hm⟩:=hx;have hk':RK bk:=hk;clear hk;cases hk' with
 | nil=>exact zGj tab gl u
 | two b0 b1 h0 h1'=>exact zGk tab gl h1 b0 b1 u (hm b0 (.head _)) (hm b1 (.tail _ (.head _)))
theorem qP2 (h1:LkC tab 77 jP)(h2:LkC tab 76 xP)(h3:LkC tab 75 wR)(x:qBj.α)(hx:qBj.pre x) :
  yP.1.wp tab gl (qE 0 (qBj.aS x)) (qE 0 (qBj.ins x)) (qX [(2,some (2,true))] (qBj.ins x).length (fun r o=>r=qBj.r x∧o=qBj.outs x)):=by
 obtain⟨bk,u⟩:=x;have hk:RM bk:=hx;have hk2:=hk.1;clear hx;cases hk2 with
 | nil=>exact qPx tab gl h1 u
 | two b0 b1 _ _=>exact qPy tab gl h1 h2 h3 b0 b1 u hk
theorem qZg (h1:LkC tab 79 jP)(h2:LkC tab 78 qE7)(x:qBj.α)(hx:qBj.pre x) :
  kR.1.wp tab gl (qE 0 (qBj.aS x)) (qE 0 (qBj.ins x)) (qX [(2,some (2,true))] (qBj.ins x).length (fun r o=>r=qBj.r x∧o=qBj.outs x)):=by
 obtain⟨bk,u⟩:=x;have hk:RM bk:=hx;have hk2:=hk.1;clear hx;cases hk2 with
 | nil=>exact qZc tab gl h1 u
 | two b0 b1 _ _=>exact qZd tab gl h1 h2 b0 b1 u hk
theorem RV.of2 {b0 b1:zB}(h0:qTt b0)(h1:qTt b1)(m0 : ∀ x∈b0,x.length≤64)(m1 : ∀ x∈b1,x.length≤64):RV [b0,b1]:=by
 refine⟨.two _ _ h0 h1,fun b hb=>?_⟩;simp only[List.mem_cons,List.not_mem_nil,or_false] at hb;rcases hb with rfl | rfl
 ·exact m0
 ·exact m1
theorem qF0 {b c:zB}(h:qTt b)(hl:List.length c=List.length b):qTt c:=by
 rcases h with h | h
 ·exact .inl (by rw[hl,h])
 ·exact .inr (by rw[hl,h])
theorem zSq {b:zB}{i:Nat}{y:List UInt8}(h : ∀ x∈b,x.length≤64)(hy:y.length≤64) : ∀ x∈b.set i y,x.length≤64:=by
 intro x hx;rcases List.mem_or_eq_of_mem_set hx with h1 | rfl
 ·exact h x h1
 ·exact hy
theorem RV.cases {bk:List zB}(h:RV bk):bk=[] ∨ ∃ b0 b1,bk=[b0,b1]∧qTt b0∧qTt b1∧(∀ x∈b0,x.length≤64)∧(∀ x∈b1,x.length≤64):=by
 obtain⟨hk,hm⟩:=h;cases hk with
 | nil=>exact .inl rfl
 | two b0 b1 h0 h1=>exact .inr ⟨b0,b1,rfl,h0,h1,hm b0 (.head _),hm b1 (.tail _ (.head _))⟩
theorem zPv {a:Nat}(ha:a<2){b:zB}{i:Nat}{d:List UInt8}(h : ∀ x∈b,x.length≤64) : ∀ x∈qDc a b i d,x.length≤64:=by
 unfold qDc;split
 ·refine zSq h ?_;have:a=0∨a=1:=oM;rcases this with rfl | rfl
  ·rw[zS9,yY];omega
  ·rw[zTa,qS];omega
 ·exact h
theorem zR3 {a:Nat}(ha:a<2){b:zB}{i:Nat}(h : ∀ x∈b,x.length≤64) : ∀ x∈qWo a b i,x.length≤64:=by
 unfold qWo;split
 ·refine zSq h ?_;rw[List.length_replicate];have:a=0∨a=1:=oM;rcases this with rfl | rfl<;>decide
 ·exact h
theorem zS7 {y:List UInt8}{b:zB}(hy:y.length≤64)(h : ∀ x∈b,x.length≤64) : ∀ k,∀ x∈stN y b k,x.length≤64
 | 0=>h
 | k+1=>zSq (zS7 hy h k) hy
theorem RV.ext {bk:List zB}(h:RV bk)(i:Nat)(ds:List (List UInt8)):RV (qSf bk i ds):=by
 rcases h.cases with rfl | ⟨b0,b1,rfl,h0,h1,m0,m1⟩
 ·exact h
 ·exact .of2 (qF0 h0 zC) (qF0 h1 zC) (zPv oM m0) (zPv oM m1)
theorem RV.rst {bk:List zB}(h:RV bk)(i:Nat):RV (zIa bk i):=by
 rcases h.cases with rfl | ⟨b0,b1,rfl,h0,h1,m0,m1⟩
 ·exact h
 ·exact .of2 (qF0 h0 jY) (qF0 h1 jY) (zR3 oM m0) (zR3 oM m1)
theorem RV.res {bk:List zB}(h:RV bk):RV (qXz bk):=by
 rcases h.cases with rfl | ⟨b0,b1,rfl,h0,h1,m0,m1⟩
 ·exact h
 ·exact .of2 (qF0 h0 kT) (qF0 h1 kT) (zS7 (by rw[List.length_replicate];omega) m0 4) (zS7 (by rw[List.length_replicate];omega) m1 4)
structure Sb where
 sd:List (List UInt8)
 au:List (List UInt8)
 en:List UInt8
 act:Int
 res:Int
 rst:Int
 clk:Int
 ord:Bool
 bk:List zB
 u:Int
 mc:Int
 l1:Int
 l2:Int
 l3:Int
 l4:Int
 l5:Int
 l6:Int
def jVy (s:Sb):List T:=[.sl (s.sd.map bsT),.sl (s.au.map bsT),.sl (s.en.map qA),.int .i64 s.act,.int .i64 s.res,.int .i64 s.rst,.int .i64 s.clk,.bool s.ord,.sl (s.bk.map yS),.int .i64 s.u,.int .i64 s.mc,.sl [],.int .i64 s.l1,.int .i64 s.l2,.int .i64 s.l3,.int .i64 s.l4,.int .i64 s.l5,.int .i64 s.l6,.sl []]
def jGc (s:Sb):T:= .agg (jVy s)
def sb0:Sb:=⟨[],[],[],0,0,0,0,false,[],0,0,0,0,0,0,0,0⟩
def zFb (en:List UInt8)(act:Int):Sb:=if en.length≠32∨act<0∨3<act then sb0 else ⟨[drv en [115,101,101,100] [0] 32,drv en [115,101,101,100] [1] 32,drv en [115,101,101,100] [2] 32],[[],[],[],[]],drv en [101,110,116,114,111,112,121] [] 32,act,0,0,0,true,[],0,0,0,5,100,0,0,1000⟩
def zIm (en:List UInt8)(act:Int):Int:=if en.length≠32∨act<0∨3<act then 1 else 0
def jI2:T:= .agg [.int .i64 0,.int .i64 5,.int .i64 100,.int .i64 0,.int .i64 0,.int .i64 1000]
def qVs:Ct where
 α:=Unit
 aS _:=[]
 ins _:=[]
 pre _:=True
 r _:= .t jI2
 outs _:=[]
 inj:=fun _ _ _ _=>⟨rfl,rfl⟩
theorem zQw:qVs.fs [] []=some (.t (.agg [.int .i64 0,.int .i64 5,.int .i64 100,.int .i64 0,.int .i64 0,.int .i64 1000]),[]):=qVs.eq () trivial
theorem zC0:qGe.1.wp tab gl (qE 0 []) (qE 0 []) (qX [(0,some (6,true))] 0 (fun r o=>r = .t jI2∧o=[])):=by
 simp(maxSteps:=9^9)(disch:=try exact dS)only[go_sem,qGe,jI2]
theorem zJf:qJz.1.wp tab gl (qE 0 []) (qE 0 []) (qX [(0,some (6,true))] 0 (fun r o=>r = .t jI2∧o=[])):=by
 simp(maxSteps:=9^9)(disch:=try exact dS)only[go_sem,qJz,jI2]
theorem qAy {en:List UInt8}{act:Int}(h:en.length≠32∨act<0∨3<act):zFb en act=sb0∧zIm en act=1:=⟨if_pos h,if_pos h⟩
def jK5 (en:List UInt8)(i:Nat):List UInt8:=drv en [115,101,101,100] [UInt8.ofNat i] 32
theorem zS5 {en:List UInt8}{act:Int}(h : ¬ (en.length≠32∨act<0∨3<act)):zFb en act=⟨(List.range 3).map (jK5 en),[[],[],[],[]],drv en [101,110,116,114,111,112,121] [] 32,act,0,0,0,true,[],0,0,0,5,100,0,0,1000⟩∧zIm en act=0:=⟨if_neg h,if_neg h⟩
theorem zJw (h1:LkC tab 70 qVs)(h2:LkC tab 41 qB1)(en:List UInt8)(act:Int)(hl:en.length≤9223372036854775807) :
  qBi.1.wp tab gl (qE 0 [.t (.sl (en.map qA)),.t (.int .i64 act)]) (qE 0 []) (qX [(4,some (19,true)),(5,none)] 0 (fun r o=>r = .tup [.t (jGc (zFb en act)),.t (.int .i64 (zIm en act))]∧o=[])):=by
 by_cases c1:en.length=32
 ·by_cases c2:act<0
  ·rw[(qAy (en:=en) (.inr (.inl c2))).1,(qAy (en:=en) (.inr (.inl c2))).2];simp(maxSteps:=9^9)(disch:=try exact dS)only[go_sem,qBi,c1,c2];all_goals rfl
  ·by_cases c3:3<act
   ·rw[(qAy (en:=en) (.inr (.inr c3))).1,(qAy (en:=en) (.inr (.inr c3))).2];simp(maxSteps:=9^9)(disch:=try exact dS)only[go_sem,qBi,c1,c2,c3];all_goals rfl
   ·have ok:=zS5 (en:=en) (act:=act) oM;rw[ok.1,ok.2];simp(maxSteps:=9^9)(disch:=try exact dS)only[go_sem,qBi,c1,c2,c3,h1,h2,zQw];refine And.intro rfl ?_;refine qD 3 (fun k=>[(0,.t (.sl (en.map qA))),(4,.ref 4096 0 0),(6,.ref 16448 0 0),(24,.t (.int .i64 (k:Nat)))]) (fun k=>[(9000,.live 1 ((((List.range k).map (jK5 en)).map bsT).map V.t) true false),
     (16448,.live 19 [.agg [.sl 9000 0 k,.sl 16384 0 4,.nil,.t (.int .i64 act),.t (.int .i64 0),.t (.int .i64 0),.t (.int .i64 0),.t (.bool true),.nil,.t (.int .i64 0),.t (.int .i64 0),.nil,.t (.int .i64 0),.t (.int .i64 5),.t (.int .i64 100),.t (.int .i64 0),.t (.int .i64 0),.t (.int .i64 1000),.nil]] true true),
     (16384,.live 1 [.nil,.nil,.nil,.nil] true false),(4096,.live 19 [.agg [.nil,.nil,.nil,.t (.int .i64 0),.t (.int .i64 0),.t (.int .i64 0),.t (.int .i64 0),.t (.bool false),.nil,.t (.int .i64 0),.t (.int .i64 0),.nil,.t (.int .i64 0),.t (.int .i64 0),.t (.int .i64 0),.t (.int .i64 0),.t (.int .i64 0),.t (.int .i64 0),.nil]] true true)]) ?_ (fun k hk'=>?_)
    ·refine qI.cv0 (hv:=[(9000,.live 1 [] true false)]) (ho:=[(16448,.live 19 [.agg [.sl 9000 0 0,.sl 16384 0 4,.nil,.t (.int .i64 act),.t (.int .i64 0),.t (.int .i64 0),.t (.int .i64 0),.t (.bool true),.nil,.t (.int .i64 0),.t (.int .i64 0),.nil,.t (.int .i64 0),.t (.int .i64 5),.t (.int .i64 100),.t (.int .i64 0),.t (.int .i64 0),.t (.int .i64 1000),.nil]] true true),
     (16384,.live 1 [.nil,.nil,.nil,.nil] true false),(4096,.live 19 [.agg [.nil,.nil,.nil,.t (.int .i64 0),.t (.int .i64 0),.t (.int .i64 0),.t (.int .i64 0),.t (.bool false),.nil,.t (.int .i64 0),.t (.int .i64 0),.nil,.t (.int .i64 0),.t (.int .i64 0),.t (.int .i64 0),.t (.int .i64 0),.t (.int .i64 0),.t (.int .i64 0),.nil]] true true)]) id ?_ ?_ rfl rfl
     all_goals simp(maxSteps:=9^9)(disch:=try exact dS)only[go_sem,id]
     all_goals rfl
    ·by_cases hlt:k<3
     ·have hD:=qVw (k:=en) (l:=[115,101,101,100]) (c:=[UInt8.ofNat k]) (n:=32) ⟨oM,sM,sM,oM,oM⟩;rw[show ((32:Nat):Int)=32 from rfl] at hD;simp only[mcn] at hD;rw[show drv en [115,101,101,100] [UInt8.ofNat k] 32=jK5 en k from rfl] at hD;have lr:(List.range k).length=k:=List.length_range;simp(maxSteps:=9^9)(disch:=try exact dS)only[go_sem,h2,hD,lr,mcn];refine⟨rfl,hlt,qI.rd (fun j=>if j=9000 then 32896 else j) ?_ ?_ rfl⟩;all_goals simp(maxSteps:=9^9)(disch:=try exact dS)only[go_sem,id]
      all_goals first | omega | rfl
     ·have e:k=3:=oM;subst e;have hD:=qVw (k:=en) (l:=[101,110,116,114,111,112,121]) (c:=[]) (n:=32) ⟨oM,sM,sM,oM,oM⟩;rw[show ((32:Nat):Int)=32 from rfl] at hD;simp only[List.map_nil] at hD;simp(maxSteps:=9^9)(disch:=try exact dS)only[go_sem,h2,hD];all_goals rfl
 ·rw[(qAy (act:=act) (.inl c1)).1,(qAy (act:=act) (.inl c1)).2];simp(maxSteps:=9^9)(disch:=try exact dS)only[go_sem,qBi,c1];all_goals rfl
theorem zJg (h2:LkC tab 43 qB1)(h1:LkC tab 71 qVs)(en:List UInt8)(act:Int)(hl:en.length≤9223372036854775807) :
  qBf.1.wp tab gl (qE 0 [.t (.sl (en.map qA)),.t (.int .i64 act)]) (qE 0 []) (qX [(4,some (19,true)),(5,none)] 0 (fun r o=>r = .tup [.t (jGc (zFb en act)),.t (.int .i64 (zIm en act))]∧o=[])):=by
 by_cases c1:en.length=32
 ·by_cases c2:act<0
  ·rw[(qAy (en:=en) (.inr (.inl c2))).1,(qAy (en:=en) (.inr (.inl c2))).2];simp(maxSteps:=9^9)(disch:=try exact dS)only[go_sem,qBf,c1,c2];all_goals rfl
  ·by_cases c3:3<act
   ·rw[(qAy (en:=en) (.inr (.inr c3))).1,(qAy (en:=en) (.inr (.inr c3))).2];simp(maxSteps:=9^9)(disch:=try exact dS)only[go_sem,qBf,c1,c2,c3];all_goals rfl
   ·have ok:=zS5 (en:=en) (act:=act) oM;rw[ok.1,ok.2];have hE:=qVw (k:=en) (l:=[101,110,116,114,111,112,121]) (c:=[]) (n:=32) ⟨oM,sM,sM,oM,oM⟩;rw[show ((32:Nat):Int)=32 from rfl] at hE;simp only[List.map_nil] at hE;simp(maxSteps:=9^9)(disch:=try exact dS)only[go_sem,qBf,c1,c2,c3,h1,h2,hE,zQw];refine And.intro rfl ?_;refine qD 3 (fun k=>[(0,.t (.sl (en.map qA))),(4,.ref 4096 0 0),(6,.ref 16480 0 0),(7,.t (.int .i64 (k:Nat)))]) (fun k=>[(9000,.live 1 ((((List.range k).map (jK5 en)).map bsT).map V.t) true false),
     (16480,.live 19 [.agg [.sl 9000 0 k,.sl 16384 0 4,.t (.sl ((drv en [101,110,116,114,111,112,121] [] 32).map qA)),.t (.int .i64 act),.t (.int .i64 0),.t (.int .i64 0),.t (.int .i64 0),.t (.bool true),.nil,.t (.int .i64 0),.t (.int .i64 0),.nil,.t (.int .i64 0),.t (.int .i64 5),.t (.int .i64 100),.t (.int .i64 0),.t (.int .i64 0),.t (.int .i64 1000),.nil]] true true),
     (16384,.live 1 [.nil,.nil,.nil,.nil] true false),(4096,.live 19 [.agg [.nil,.nil,.nil,.t (.int .i64 0),.t (.int .i64 0),.t (.int .i64 0),.t (.int .i64 0),.t (.bool false),.nil,.t (.int .i64 0),.t (.int .i64 0),.nil,.t (.int .i64 0),.t (.int .i64 0),.t (.int .i64 0),.t (.int .i64 0),.t (.int .i64 0),.t (.int .i64 0),.nil]] true true)]) ?_ (fun k hk'=>?_)
    ·refine qI.cv0 (hv:=[(9000,.live 1 [] true false)]) (ho:=[(16480,.live 19 [.agg [.sl 9000 0 0,.sl 16384 0 4,.t (.sl ((drv en [101,110,116,114,111,112,121] [] 32).map qA)),.t (.int .i64 act),.t (.int .i64 0),.t (.int .i64 0),.t (.int .i64 0),.t (.bool true),.nil,.t (.int .i64 0),.t (.int .i64 0),.nil,.t (.int .i64 0),.t (.int .i64 5),.t (.int .i64 100),.t (.int .i64 0),.t (.int .i64 0),.t (.int .i64 1000),.nil]] true true),
     (16384,.live 1 [.nil,.nil,.nil,.nil] true false),(4096,.live 19 [.agg [.nil,.nil,.nil,.t (.int .i64 0),.t (.int .i64 0),.t (.int .i64 0),.t (.int .i64 0),.t (.bool false),.nil,.t (.int .i64 0),.t (.int .i64 0),.nil,.t (.int .i64 0),.t (.int .i64 0),.t (.int .i64 0),.t (.int .i64 0),.t (.int .i64 0),.t (.int .i64 0),.nil]] true true)]) id ?_ ?_ rfl rfl
     all_goals simp(maxSteps:=9^9)(disch:=try exact dS)only[go_sem,id]
     all_goals rfl
    ·by_cases hlt:k<3
     ·have hD:=qVw (k:=en) (l:=[115,101,101,100]) (c:=[UInt8.ofNat k]) (n:=32) ⟨oM,sM,sM,oM,oM⟩;rw[show ((32:Nat):Int)=32 from rfl] at hD;simp only[mcn] at hD;rw[show drv en [115,101,101,100] [UInt8.ofNat k] 32=jK5 en k from rfl] at hD;have lr:(List.range k).length=k:=List.length_range;simp(maxSteps:=9^9)(disch:=try exact dS)only[go_sem,h2,hD,lr,mcn];refine⟨rfl,hlt,qI.rd (fun j=>if j=9000 then 32896 else j) ?_ ?_ rfl⟩;all_goals simp(maxSteps:=9^9)(disch:=try exact dS)only[go_sem,id]
      all_goals first | omega | rfl
     ·have e:k=3:=oM;subst e;simp(maxSteps:=9^9)(disch:=try exact dS)only[go_sem];all_goals rfl
 ·rw[(qAy (act:=act) (.inl c1)).1,(qAy (act:=act) (.inl c1)).2];simp(maxSteps:=9^9)(disch:=try exact dS)only[go_sem,qBf,c1];all_goals rfl
def qSb:Ct where
 α:=List UInt8×Int
 aS x:=[.t (.sl (x.1.map qA)),.t (.int .i64 x.2)]
 ins _:=[]
 pre x:=x.1.length≤9223372036854775807
 r x:= .tup [.t (jGc (zFb x.1 x.2)),.t (.int .i64 (zIm x.1 x.2))]
 outs _:=[]
 inj:=by
  rintro⟨a,b⟩ ⟨c,d⟩ h _;simp only[List.cons.injEq,V.t.injEq,T.int.injEq,T.sl.injEq,true_and,and_true,yD] at h;obtain⟨rfl,rfl⟩:=h;exact⟨rfl,rfl⟩
theorem zS4 {en:List UInt8}{act:Int}(h:en.length≤9223372036854775807):qSb.fs [.t (.sl (en.map qA)),.t (.int .i64 act)] []=some (.tup [.t (jGc (zFb en act)),.t (.int .i64 (zIm en act))],[]):=qSb.eq (en,act) h
theorem jOi {a b c d e f:Int}:qTj .i64 [.int .i64 a,.int .i64 b,.int .i64 c,.int .i64 d,.int .i64 e,.int .i64 f]=some [a,b,c,d,e,f]:=rfl
def qM6:Ct where
 α:=List UInt8
 aS x:=[.t (.sl (x.map qA))]
 ins _:=[]
 pre x:=x.length≤9223372036854775807
 r _:= .sl 0 0 32
 outs x:=[.live 1 (((x.take 32++List.replicate (32-x.length) 0).map qA).map V.t) true false]
 inj:=by
  rintro a c h _;simp only[List.cons.injEq,V.t.injEq,T.sl.injEq,true_and,and_true,yD] at h;subst h;exact⟨rfl,rfl⟩
theorem qWv {b:List UInt8}(h:b.length≤9223372036854775807):qM6.fs [.t (.sl (b.map qA))] []=some (.sl 0 0 32,[.live 1 (((b.take 32++List.replicate (32-b.length) 0).map qA).map V.t) true false]):=qM6.eq b h
theorem zJd (b:List UInt8)(hb:b.length≤9223372036854775807):qJw.1.wp tab gl (qE 0 [.t (.sl (b.map qA))]) (qE 0 []) (xU [] [(2,none)] 0 (fun r o=>r = .sl 0 0 32∧o=[.live 1 (((b.take 32++List.replicate (32-b.length) 0).map qA).map V.t) true false])):=by
 simp(maxSteps:=9^9)(disch:=try exact dS)only[go_sem,qJw];rw[show 32-min 32 b.length=32-b.length by omega]
theorem wU {α γ:Type}{f:α→γ}{l xs:List α}{i:Nat}:jB (l.map f) i (xs.map f)=(jB l i xs).map f:=by
 simp[jB]
def dgx (a:Nat)(b:List UInt8):List UInt8:=List.take (szA a) b++List.replicate (szA a-min (szA a) b.length) 0
def dg1 (a:Nat)(b:List UInt8):List UInt8:=(dgx a b).set (szA a-1) ((dgx a b).getD (szA a-1) 0 ^^^ UInt8.ofNat a)
theorem qHf {a:Nat}{b:List UInt8}:(dgx a b).length=szA a:=by
 simp[dgx,Nat.min_def];split<;>omega
theorem qHe {a:Nat}{b:List UInt8}:(dg1 a b).length=szA a:=by rw[dg1,List.length_set,qHf]
theorem zZc {b:List UInt8}:List.take 20 b++List.replicate (20-min 20 b.length) 0=dgx 0 b:=rfl
theorem zZd {b:List UInt8}:List.take 32 b++List.replicate (32-min 32 b.length) 0=dgx 1 b:=rfl
theorem xQ {b:List UInt8}:(dgx 0 b).length=20:=qHf
theorem xR {b:List UInt8}:(dgx 1 b).length=32:=qHf
theorem zY9 {b:List UInt8}:(dgx 0 b).set 19 ((dgx 0 b).getD 19 0 ^^^ 0)=dg1 0 b:=rfl
theorem zZa {b:List UInt8}:(dgx 1 b).set 31 ((dgx 1 b).getD 31 0 ^^^ 1)=dg1 1 b:=rfl
theorem qUr {b:List UInt8}:(dg1 0 b).length=20:=qHe
theorem qUs {b:List UInt8}:(dg1 1 b).length=32:=qHe
theorem qQe {b:List UInt8}:List.take 20 (dg1 0 b)=dg1 0 b:=List.take_of_length_le (by rw[qHe];decide)
theorem qQf {b:List UInt8}:List.take 32 (dg1 1 b)=dg1 1 b:=List.take_of_length_le (by rw[qHe];decide)
def dgb (s:Int)(a:Nat)(b:List UInt8):List UInt8:=if s/(2^a:Nat)%2=1 then dg1 a b else []
theorem qY7 (s:Int)(b:List UInt8):wK.1.wp tab gl (qE 0 [.t (.int .i64 s),.t (.sl (b.map qA))]) (qE 0 []) (xU [] [(4,none)] 0 (fun r o=>r = .sl 0 0 2∧o=[.live 1 [.t (bsT (dgb s 0 b)),.t (bsT (dgb s 1 b))] true false])):=by
 have hf1:s.fdiv 1=s:=Int.fdiv_one s;have hf2:s.fdiv 2=s/2:=Int.fdiv_eq_ediv_of_nonneg s oM;have hc0:s%2=0∨s%2=1:=oM;have hc1:s/2%2=0∨s/2%2=1:=oM;have hz20:List.replicate 20 (V.t (qA 0))=((List.replicate 20 (0:UInt8)).map qA).map V.t:=sM;have hz32:List.replicate 32 (V.t (qA 0))=((List.replicate 32 (0:UInt8)).map qA).map V.t:=sM;have ht20 : ∀ m:Nat,List.take m ((b.map qA).map V.t)=((b.take m).map qA).map V.t:=fun m=>sM
 have l0:(dgx 0 b).length=20:=qHf;have l1:(dgx 1 b).length=32:=qHf;have hw0:T.int .u8 (IntKind.u8.wrap 0)=qA 0:=rfl;have hw1:T.int .u8 (IntKind.u8.wrap 1)=qA 1:=rfl;rcases hc0 with c0 | c0<;>rcases hc1 with c1 | c1
 ·have e0:dgb s 0 b=[]:=by unfold dgb;rw[if_neg (by simp[c0])]
  have e1:dgb s 1 b=[]:=by unfold dgb;rw[if_neg (by simp[c1])]
  rw[e0,e1];simp(disch:=omega)only[go_sem,wK];refine qD 2 (fun k=>match k with | 0=>[(0,.t (.int .i64 s)),(1,.t (.sl (b.map qA))),(5,.sl 8192 0 2),(6,.t (.int .i64 0))] | 1=>[(0,.t (.int .i64 s)),(1,.t (.sl (b.map qA))),(5,.sl 8192 0 2),(6,.t (.int .i64 1))] | _=>[(0,.t (.int .i64 s)),(1,.t (.sl (b.map qA))),(5,.sl 8192 0 2),(6,.t (.int .i64 2))]) (fun k=>match k with | 0=>[(8192,.live 1 [.t (bsT []),.t (bsT [])] true false)] | 1=>[(8192,.live 1 [.t (bsT []),.t (bsT [])] true false)] | _=>[(8192,.live 1 [.t (bsT []),.t (bsT [])] true false)]) ?_ (fun k hk2=>?_)
  ·refine qI.rd id ?_ ?_ rfl;all_goals simp(disch:=omega)only[go_sem,id,List.map_nil]
  ·rcases (show k=0∨k=1∨k=2 by omega) with rfl | rfl | rfl
   ·simp(disch:=omega)only[go_sem,c0,c1,hf1,hf2,hz20,hz32,ht20,wU,zZc,zZd,xQ,xR,hw0,hw1,zY9,zZa,List.map_nil];refine qI.rd id ?_ ?_ rfl;all_goals simp(disch:=omega)only[go_sem,id,List.map_nil]
   ·simp(disch:=omega)only[go_sem,c0,c1,hf1,hf2,hz20,hz32,ht20,wU,zZc,zZd,xQ,xR,hw0,hw1,zY9,zZa,List.map_nil];refine qI.rd id ?_ ?_ rfl;all_goals simp(disch:=omega)only[go_sem,id,List.map_nil]
   ·simp(disch:=omega)only[go_sem,c0,c1,hf1,hf2,List.map_nil]
 ·have e0:dgb s 0 b=[]:=by unfold dgb;rw[if_neg (by simp[c0])]
  have e1:dgb s 1 b=(dg1 1 b):=by unfold dgb;rw[if_pos (by simp[c1])]
  rw[e0,e1];simp(disch:=omega)only[go_sem,wK];refine qD 2 (fun k=>match k with | 0=>[(0,.t (.int .i64 s)),(1,.t (.sl (b.map qA))),(5,.sl 8192 0 2),(6,.t (.int .i64 0))] | 1=>[(0,.t (.int .i64 s)),(1,.t (.sl (b.map qA))),(5,.sl 8192 0 2),(6,.t (.int .i64 1))] | _=>[(0,.t (.int .i64 s)),(1,.t (.sl (b.map qA))),(5,.sl 8192 0 2),(6,.t (.int .i64 2))]) (fun k=>match k with | 0=>[(8192,.live 1 [.t (bsT []),.t (bsT [])] true false)] | 1=>[(8192,.live 1 [.t (bsT []),.t (bsT [])] true false)] | _=>[(8192,.live 1 [.t (bsT []),.t (bsT (dg1 1 b))] true false)]) ?_ (fun k hk2=>?_)
  ·refine qI.rd id ?_ ?_ rfl;all_goals simp(disch:=omega)only[go_sem,id,List.map_nil]
  ·rcases (show k=0∨k=1∨k=2 by omega) with rfl | rfl | rfl
   ·simp(disch:=omega)only[go_sem,c0,c1,hf1,hf2,hz20,hz32,ht20,wU,zZc,zZd,xQ,xR,hw0,hw1,zY9,zZa,List.map_nil];refine qI.rd id ?_ ?_ rfl;all_goals simp(disch:=omega)only[go_sem,id,List.map_nil]
   ·simp(disch:=omega)only[go_sem,c0,c1,hf1,hf2,hz20,hz32,ht20,wU,zZc,zZd,xQ,xR,hw0,hw1,zY9,zZa,List.map_nil];refine qI.cv (hv:=[]) [28720] id ?_ rfl;simp(disch:=omega)only[go_sem,id,qUr,qUs,qQe,qQf,List.map_nil];all_goals rfl
   ·simp(disch:=omega)only[go_sem,c0,c1,hf1,hf2,List.map_nil]
 ·have e0:dgb s 0 b=(dg1 0 b):=by unfold dgb;rw[if_pos (by simp[c0])]
  have e1:dgb s 1 b=[]:=by unfold dgb;rw[if_neg (by simp[c1])]
  rw[e0,e1];simp(disch:=omega)only[go_sem,wK];refine qD 2 (fun k=>match k with | 0=>[(0,.t (.int .i64 s)),(1,.t (.sl (b.map qA))),(5,.sl 8192 0 2),(6,.t (.int .i64 0))] | 1=>[(0,.t (.int .i64 s)),(1,.t (.sl (b.map qA))),(5,.sl 8192 0 2),(6,.t (.int .i64 1))] | _=>[(0,.t (.int .i64 s)),(1,.t (.sl (b.map qA))),(5,.sl 8192 0 2),(6,.t (.int .i64 2))]) (fun k=>match k with | 0=>[(8192,.live 1 [.t (bsT []),.t (bsT [])] true false)] | 1=>[(8192,.live 1 [.t (bsT (dg1 0 b)),.t (bsT [])] true false)] | _=>[(8192,.live 1 [.t (bsT (dg1 0 b)),.t (bsT [])] true false)]) ?_ (fun k hk2=>?_)
  ·refine qI.rd id ?_ ?_ rfl;all_goals simp(disch:=omega)only[go_sem,id,List.map_nil]
  ·rcases (show k=0∨k=1∨k=2 by omega) with rfl | rfl | rfl
   ·simp(disch:=omega)only[go_sem,c0,c1,hf1,hf2,hz20,hz32,ht20,wU,zZc,zZd,xQ,xR,hw0,hw1,zY9,zZa,List.map_nil];refine qI.cv (hv:=[]) [28720] id ?_ rfl;simp(disch:=omega)only[go_sem,id,qUr,qUs,qQe,qQf,List.map_nil];all_goals rfl
   ·simp(disch:=omega)only[go_sem,c0,c1,hf1,hf2,hz20,hz32,ht20,wU,zZc,zZd,xQ,xR,hw0,hw1,zY9,zZa,List.map_nil];refine qI.rd id ?_ ?_ rfl;all_goals simp(disch:=omega)only[go_sem,id,List.map_nil]
   ·simp(disch:=omega)only[go_sem,c0,c1,hf1,hf2,List.map_nil]
 ·have e0:dgb s 0 b=(dg1 0 b):=by unfold dgb;rw[if_pos (by simp[c0])]
  have e1:dgb s 1 b=(dg1 1 b):=by unfold dgb;rw[if_pos (by simp[c1])]
  rw[e0,e1];simp(disch:=omega)only[go_sem,wK];refine qD 2 (fun k=>match k with | 0=>[(0,.t (.int .i64 s)),(1,.t (.sl (b.map qA))),(5,.sl 8192 0 2),(6,.t (.int .i64 0))] | 1=>[(0,.t (.int .i64 s)),(1,.t (.sl (b.map qA))),(5,.sl 8192 0 2),(6,.t (.int .i64 1))] | _=>[(0,.t (.int .i64 s)),(1,.t (.sl (b.map qA))),(5,.sl 8192 0 2),(6,.t (.int .i64 2))]) (fun k=>match k with | 0=>[(8192,.live 1 [.t (bsT []),.t (bsT [])] true false)] | 1=>[(8192,.live 1 [.t (bsT (dg1 0 b)),.t (bsT [])] true false)] | _=>[(8192,.live 1 [.t (bsT (dg1 0 b)),.t (bsT (dg1 1 b))] true false)]) ?_ (fun k hk2=>?_)
  ·refine qI.rd id ?_ ?_ rfl;all_goals simp(disch:=omega)only[go_sem,id,List.map_nil]
  ·rcases (show k=0∨k=1∨k=2 by omega) with rfl | rfl | rfl
   ·simp(disch:=omega)only[go_sem,c0,c1,hf1,hf2,hz20,hz32,ht20,wU,zZc,zZd,xQ,xR,hw0,hw1,zY9,zZa,List.map_nil];refine qI.cv (hv:=[]) [28720] id ?_ rfl;simp(disch:=omega)only[go_sem,id,qUr,qUs,qQe,qQf,List.map_nil];all_goals rfl
   ·simp(disch:=omega)only[go_sem,c0,c1,hf1,hf2,hz20,hz32,ht20,wU,zZc,zZd,xQ,xR,hw0,hw1,zY9,zZa,List.map_nil];refine qI.cv (hv:=[]) [28720] id ?_ rfl;simp(disch:=omega)only[go_sem,id,qUr,qUs,qQe,qQf,List.map_nil];all_goals rfl
   ·simp(disch:=omega)only[go_sem,c0,c1,hf1,hf2,List.map_nil]
def qTd:Ct where
 α:=Int×List UInt8
 aS x:=[.t (.int .i64 x.1),.t (.sl (x.2.map qA))]
 ins _:=[]
 pre _:=True
 r _:= .sl 0 0 2
 outs x:=[.live 1 [.t (bsT (dgb x.1 0 x.2)),.t (bsT (dgb x.1 1 x.2))] true false]
 inj:=by
  rintro⟨s,b⟩ ⟨t,c⟩ h _;simp only[List.cons.injEq,V.t.injEq,T.int.injEq,T.sl.injEq,true_and,and_true,yD] at h;obtain⟨rfl,rfl⟩:=h;exact⟨rfl,rfl⟩
def dgB (s:Int)(b:List UInt8):List (List UInt8):=[dgb s 0 b,dgb s 1 b]
theorem zPh {s:Int}{a:Nat}{b:List UInt8}(ha:a<2):(dgb s a b).length≤32:=by
 unfold dgb;split
 ·rw[qHe];have:a=0∨a=1:=oM;rcases this with rfl | rfl<;>decide
 ·simp
def jCa (x:List zB×Int)(l i:Int)(ds:List (List UInt8)):List zB×Int:=if qMe x.1 l i ds=0 then (qSf x.1 i.toNat ds,x.2+1) else x
def evP (x:List zB×Int)(l i:Int)(d:List UInt8):List zB×Int:=if 128<d.length then x else jCa x l i (qVv x.1 d)
def jPv (x:List zB×Int)(l i:Int):List zB×Int:=if zR5 l i=0 then (zIa x.1 i.toNat,x.2+1) else x
def Ans (x:List zB×Int)(v:V)(y:List zB×Int):Prop := ∃ (bk:List zB) (u e:Int),v = .tup [.t (.agg [.sl (bk.map yS),.int .i64 u]),.t (.int .i64 e)]∧((e=0∧y=(bk,u))∨(e≠0∧y=x))
def RS (n:Nat)(x:List zB×Int):Prop:=RV x.1∧0≤x.2∧x.2≤n
theorem RS.up {n m:Nat}{x:List zB×Int}(h:RS n x)(hm:n≤m):RS m x:=⟨h.1,h.2.1,by have:=h.2.2;omega⟩
theorem RS.ext {n:Nat}{x:List zB×Int}(h:RS n x)(l i:Int)(ds:List (List UInt8)):RS (n+1) (jCa x l i ds):=by
 unfold jCa;split
 ·exact⟨h.1.ext _ _,by have:=h.2.1;simp only;omega,by have:=h.2.2;simp only;omega⟩
 ·exact h.up oM
theorem RS.ev {n:Nat}{x:List zB×Int}(h:RS n x)(l i:Int)(d:List UInt8):RS (n+1) (evP x l i d):=by
 unfold evP;split
 ·exact h.up oM
 ·exact h.ext _ _ _
theorem RS.rst {n:Nat}{x:List zB×Int}(h:RS n x)(l i:Int):RS (n+1) (jPv x l i):=by
 unfold jPv;split
 ·exact⟨h.1.rst _,by have:=h.2.1;simp only;omega,by have:=h.2.2;simp only;omega⟩
 ·exact h.up oM
theorem RS.rsm {n:Nat}{x:List zB×Int}(h:RS n x):RS (n+1) (qXz x.1,x.2):=⟨h.1.res,h.2.1,by have:=h.2.2;simp only;omega⟩
def drS (s:Int)(i k:Nat)(x:List zB×Int):List zB×Int:=
 if k%8<3 then evP x 4 (k/8%16:Nat) [UInt8.ofNat k,UInt8.ofNat i]
 else if k%8<6 then jCa x 4 (k/8%16:Nat) (dgB s [UInt8.ofNat k,UInt8.ofNat i])
 else if k%8=6 then jPv x 4 (12+k/8%4:Nat)
 else (qXz x.1,x.2)
def drN (s:Int)(cs:List UInt8):Nat→List zB×Int
 | 0=>(kF s,0)
 | i+1=>drS s i (cs.getD i 0).toNat (drN s cs i)
theorem RS.dr {s:Int}{i k n:Nat}{x:List zB×Int}(h:RS n x):RS (n+1) (drS s i k x):=by
 unfold drS;split
 ·exact h.ev _ _ _
 ·split
  ·exact h.ext _ _ _
  ·split
   ·exact h.rst _ _
   ·exact h.rsm
def dr (s:Int)(cs:List UInt8):List zB×Int:=drN s cs (min cs.length 12)
theorem Ans.rv {x:List zB×Int}{v:V}{y:List zB×Int}(h:Ans x v y)(hv : ∃ bk' u' e,v = .tup [.t (jN bk' u'),.t (.int .i64 e)]∧RV bk'∧(e=0→u'=x.2+1)) : ∃ bk' u' e,v = .tup [.t (.agg [.sl (bk'.map yS),.int .i64 u']),.t (.int .i64 e)]∧RM bk':=by
 obtain⟨bk',u',e,h1,h2,_⟩:=hv;exact⟨bk',u',e,h1,h2.rm⟩
end Go.Eng
end
