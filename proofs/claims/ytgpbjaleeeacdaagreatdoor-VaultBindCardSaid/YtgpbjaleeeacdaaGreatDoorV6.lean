/- My own text: an abstract machine, its walks over the functions reached, and their tie to the program. -/
import Derived.Test.YtgpbjaleeeacdaaGreatDoorV5
import Derived.Test.YtgpbjaleeeacdaaGreatDoorV3
import Derived.Conc.MuLone
import Derived.KernelRfl
import Derived.Test.YtgpbjaleeeacdaaGreatDoorV4
import Derived.Lib.OthersKept
import Derived.Laws.RangeAny
import Derived.Lib.ItoaNum
import Derived.Lib.LaidTab
import Derived.Sort.Grow
import Derived.Deep.Draws
import Derived.Lib.MakeNoZero
import Derived.Laws.Externs
import Derived.WideKeyArgs
import Derived.Handed
import Derived.OpenShut
import Derived.RowKit
import Derived.ProofKit
import Derived.LaidMore
import Derived.MakeChecks
import Derived.Stop.Joined
import Derived.Lib.BytesEntry
set_option linter.unusedSimpArgs false
set_option linter.unusedVariables false
section
set_option maxRecDepth 20000
set_option maxHeartbeats 64000000
namespace Go.Eng
theorem zPv (n:Nat):n &&& 2=n/2%2*2:=by
 have h1:(n &&& 2)/2=n/2%2:=by
  rw[Nat.and_div_two];exact Nat.and_one_is_mod _
 have h2:(n &&& 2)%2=0:=by
  have:=Nat.and_mod_two_pow (a:=n) (b:=2) (n:=1)
  simpa using this
 omega
theorem jJn {x:Int}:qTb .and .i64 x .i64 2=some (.int .i64 (x/2%2*2)):=by
 have h2:((BitVec.ofInt 64 x &&& BitVec.ofInt 64 2).toNat:Int)=x/2%2*2:=by
  rw[BitVec.toNat_and,BitVec.toNat_ofInt]
  have e2:(BitVec.ofInt 64 2).toNat=2:=by decide
  rw[e2,zPv]
  have e3:((2^64:Nat):Int)=18446744073709551616:=by decide
  rw[e3]
  omega
 change some (T.int IntKind.i64 (IntKind.i64.wrap ((BitVec.ofInt 64 x &&& BitVec.ofInt 64 2).toNat:Int)))=_
 rw[h2,qBr (by omega)]
attribute [go_sem ↓] jJn
def qE0:Ct where
 α:=List jH×Int×Int×Int
 as x:=[.t (vY x.1 x.2.1),.t (.agg [.int .i64 x.2.2.1,.int .i64 x.2.2.2])]
 ins _:=[]
 pre x:=RV x.1
 r x:=zA3 x.1 x.2.2.1 x.2.2.2
 outs x:=zA2 x.1 x.2.2.1 x.2.2.2
 inj:=by
  rintro⟨a,u,l,i⟩ ⟨b,v,l',i'⟩ h _
  simp only[List.cons.injEq,V.t.injEq,T.int.injEq,T.agg.injEq,true_and,and_true] at h
  obtain⟨h1,rfl,rfl⟩:=h
  obtain⟨rfl,rfl⟩:=qIr h1
  exact⟨rfl,rfl⟩
theorem zTp {act rs:Int} {es:List Ev} (h:esM es):qOq.fs [.t (.agg [.int .i64 act,.int .i64 rs,.sl (es.map evT)])] []=some (.tup [.t (.agg [.sl ((rpG act es).1.map qCi),.int .i64 (rpG act es).2]),.t (.int .i64 (rpE act es))],[]):=qOq.eq (act,rs,es) h
def rpP (act:Int) (es:List Ev) (i:Nat):Rg:=(es.take i).foldl rpS (rp0 act)
theorem jAy {act:Int} {es:List Ev} {i:Nat} {e:Ev} (h:es[i]?=some e):rpP act es (i+1)=rpS (rpP act es i) e:=by
 unfold rpP
 rw[List.take_add_one,h,List.foldl_append];rfl
theorem zTo {act:Int} (ha:1≤act∧act≤3) {es:List Ev} {i:Nat}:RQ act i (rpP act es i):=by
 have:=RQ.fold ha (es:=es.take i) (RQ.zero ha)
 rw[Nat.zero_add] at this
 exact this.up (by rw[List.length_take];omega)
theorem jJf {act:Int} (ha:1≤act∧act≤3) : ∃ b0 b1:jH,qBn act=[b0,b1]∧List.length b0≤16∧List.length b1≤16∧xL.fs [.t (.int .i64 act)] []=some (.agg [.sl 0 0 2,.t (.int .i64 0)],[.live 1 [.sl 1 0 b0.length,.sl 2 0 b1.length] true false,.live 1 ((b0.map bsT).map V.t) true false,.live 1 ((b1.map bsT).map V.t) true false]):=by
 rcases zG5 act with⟨e,_⟩ | ⟨b0,b1,e,g0,g1,hn⟩
 ·obtain⟨b0,b1,e2,_⟩:=ShA.new ha
  rw[e] at e2;cases e2
 ·exact⟨b0,b1,e,by rcases g0 with h | h<;>omega,by rcases g1 with h | h<;>omega,hn⟩
theorem zE3 {act:Int} {x:Rg} {n:Nat} {r k:Int} {ds:List (List UInt8)} {d:List UInt8} (hx:RQ act n x) (hn:n<1000000) (hm:evX (r,k,ds,d)) (hl:ds.length<1000000000) (hc:qD0 (r,k,ds,d) act=0) (h5:k≠5) :
  kI.fs [.t (.agg [.sl (x.1.map qCi),.int .i64 x.2]),.t (.int .i64 0),.t (.int .i64 r),.t (.sl (ds.map bsT))] []=some (.tup [.t (.agg [.sl ((rpS x (r,k,ds,d)).1.map qCi),.int .i64 (rpS x (r,k,ds,d)).2]),.t (.int .i64 0)],[]):=by
 have hE:=kI.eq (x.1,x.2,0,r,ds) ⟨hx.1.rv,⟨hx.2.1,by show x.2<1000000000;have:=hx.2.2;omega⟩,hl,fun y hy=>by have:=hm.2.1 y hy;omega⟩
 have h0:=zSu hx.1 hc h5
 have hr:qF5 x.1 x.2 0 r ds = .tup [.t (vY (qG1 x.1 r.toNat ds) (x.2+1)),.t (.int .i64 0)]:=if_pos h0
 rw[zWw hx.1 hc h5]
 exact hE.trans (by show some (qF5 x.1 x.2 0 r ds,([]:List Ob))=_;rw[hr];rfl)
theorem zJj {r k act:Int} {ds:List (List UInt8)} {d:List UInt8} (hc:qD0 (r,k,ds,d) act=0):ds.length=2:=by
 unfold qD0 at hc
 simp only at hc
 split at hc
 ·simp at hc
 ·split at hc
  ·simp at hc
  ·split at hc
   ·rename_i hf
    unfold zB2 at hf
    simp only[Bool.and_eq_true,decide_eq_true_eq] at hf
    exact hf.1.1
   ·simp at hc
theorem qNe {act:Int} {es:List Ev} {c:Int} (h:rpE act es=c) (hc:c≠0):rpV act es = .tup [.t (.agg [.sl [],.int .i64 0]),.t (.int .i64 c)]:=by
 unfold rpV rpG
 rw[h,if_neg hc];rfl
theorem zFv {act:Int} {es:List Ev} (h:rpE act es=0):rpV act es = .tup [.t (.agg [.sl ((rpP act es es.length).1.map qCi),.int .i64 (rpP act es es.length).2]),.t (.int .i64 0)]:=by
 unfold rpV rpG
 rw[h,if_pos rfl]
 unfold rpP rpF
 rw[List.take_length];rfl
theorem zF9 {act:Int} {es:List Ev} {i:Nat} {e:Ev} (h:es[i]?=some e) (hP : ∀ x∈es.take i,qD0 x act=0) (he:qD0 e act=0) : ∀ x∈es.take (i+1),qD0 x act=0:=by
 intro x hx
 rw[List.take_add_one,h] at hx
 simp only[Option.toList_some,List.mem_append,List.mem_cons,List.not_mem_nil,or_false] at hx
 rcases hx with hx | rfl
 ·exact hP x hx
 ·exact he
theorem qYy {act:Int} {es:List Ev} {i:Nat} {e:Ev} (ha:1≤act∧act≤3) (h:es[i]?=some e) (hP : ∀ x∈es.take i,qD0 x act=0) (he:qD0 e act≠0):rpE act es=qD0 e act:=by
 have hlt:i<es.length:=(List.getElem?_eq_some_iff.1 h).1
 have hg:es.getD i ev0=e:=by simp[List.getD,h]
 unfold rpE
 rw[if_neg (by omega),qYx (i:=i) hlt hP (by rw[hg];exact he),hg]
theorem qUw {act:Int} {es:List Ev} (ha:1≤act∧act≤3) (hP : ∀ x∈es,qD0 x act=0):rpE act es=0:=by
 unfold rpE
 rw[if_neg (by omega)]
 exact qM3 hP
theorem qMw (tab:Tab) (gl:Gl) (n1 n2 n3:Nat) (h1:tab.look n1=some xL.fs) (h2:tab.look n2=some qHr.fs) (h3:tab.look n3=some kI.fs) (act rs:Int) (es:List Ev) (hm:esM es) :
  (wO n1 n2 n3).wp tab gl (qE 0 [.t (lgT (act,rs,es))]) (qE 0 []) (zZ [(2,some (2,true)),(3,none)] 0 (fun r o=>r=rpV act es∧o=[])):=by
 by_cases a1:act<1
 ·rw[qNe (c:=1) (if_pos (.inl a1)) (by decide)]
  simp (disch:=omega) only [go_sem,seval,wO,qKf,a1]
 by_cases a3:3<act
 ·rw[qNe (c:=1) (if_pos (.inr a3)) (by decide)]
  simp (disch:=omega) only [go_sem,seval,wO,qKf,a1,a3]
 have ha:1≤act∧act≤3:=by omega
 obtain⟨b0,b1,hb,hl0,hl1,hN⟩:=jJf ha
 have hlen:=hm.1
 have hx0:rpP act es 0=([b0,b1],0):=by rw[←hb];rfl
 simp (disch:=omega) only [go_sem,seval,wO,qKf,a1,a3,h1,hN]
 refine yO es.length (fun i => ∀ e∈es.take i,qD0 e act=0) (fun i=>[(1,.ref 4096 0 0),(2,.ref 4112 0 0),(4,.ref 16432 0 0),(21,.t (.sl (es.map evT))),(22,.t (.int .i64 es.length)),(23,.t (.int .i64 (i:Nat)))])
  (fun i=>[(16432,.live 2 [.t (.agg [.sl ((rpP act es i).1.map qCi),.int .i64 (rpP act es i).2])] true true),(4112,.live 2 [.agg [.nil,.t (.int .i64 0)]] true true),(4096,.live 3 [.t (.agg [.int .i64 act,.int .i64 rs,.sl (es.map evT)])] true true)]) (by simp) ?_ (fun i hi hP=>?_)
 ·refine qI.cv (hv:=[]) [16417,16418,16416] id ?_ rfl
  simp (disch:=omega) only [go_sem,seval,id,hx0,List.map_nil,List.map_cons]
  all_goals rfl
 ·by_cases hlt:i<es.length
  ·obtain⟨⟨r,k,ds,d⟩,he⟩ : ∃ e,es[i]?=some e:=⟨es[i],by simp[hlt]⟩
   have hx:=hm.2 _ (List.mem_of_getElem? he)
   have hC:=zJi (act:=act) hx
   have hs:=jAy (act:=act) he
   have hq:=zTo ha (es:=es) (i:=i)
   by_cases hz:qD0 (r,k,ds,d) act=0
   ·have hP':=zF9 he hP hz
    have hE:=fun h5=>zE3 hq (by omega) hx (by rw[zJj hz];omega) hz h5
    rw[hz] at hC
    rw[←hs] at hE
    by_cases h5:k=5
    ·subst h5
     have hs':rpP act es (i+1)=rpP act es i:=hs.trans (if_pos rfl)
     generalize rpP act es i=X at *
     simp (disch:=omega) only [go_sem,seval,yL,zP,he,h2,hC]
     refine⟨hlt,hP',qI.rd id ?_ ?_ rfl⟩
     all_goals simp (disch:=omega) only [go_sem,seval,id,hs']
    ·have h5b:(k != 5)=true:=by simpa using h5
     have hE:=hE h5
     generalize hY:rpP act es (i+1)=Y at *
     generalize rpP act es i=X at *
     simp (disch:=omega) only [go_sem,seval,yL,zP,he,h2,hC,h5b,h3,hE]
     refine⟨hlt,hP',qI.rd id ?_ ?_ rfl⟩
     all_goals simp (disch:=omega) only [go_sem,seval,id,hY]
   ·have hz':(qD0 (r,k,ds,d) act==0)=false:=by simpa using hz
    have hz2:(qD0 (r,k,ds,d) act != 0)=true:=by simpa using hz
    rw[qNe (qYy ha he hP hz) hz]
    generalize qD0 (r,k,ds,d) act=c at *
    generalize rpP act es i=X at *
    simp (disch:=omega) only [go_sem,seval,yL,zP,he,h2,hC,hz',hz2]
  ·have e:i=es.length:=by omega
   subst e
   rw[List.take_length] at hP
   rw[zFv (qUw ha hP)]
   generalize rpP act es es.length=X at *
   simp (disch:=omega) only [go_sem,seval,yL]
theorem qT6 (tab:Tab) (gl:Gl) (n1 n2 n3:Nat) (h1:tab.look n1=some qHr.fs) (h2:tab.look n2=some xL.fs) (h3:tab.look n3=some kI.fs) (act rs:Int) (es:List Ev) (hm:esM es) :
  (qAy n1 n2 n3).wp tab gl (qE 0 [.t (lgT (act,rs,es))]) (qE 0 []) (zZ [(2,some (2,true)),(3,none)] 0 (fun r o=>r=rpV act es∧o=[])):=by
 by_cases a1:act<1
 ·rw[qNe (c:=1) (if_pos (.inl a1)) (by decide)]
  simp (disch:=omega) only [go_sem,seval,qAy,qKf,a1]
 by_cases a3:3<act
 ·rw[qNe (c:=1) (if_pos (.inr a3)) (by decide)]
  simp (disch:=omega) only [go_sem,seval,qAy,qKf,a1,a3]
 have ha:1≤act∧act≤3:=by omega
 obtain⟨b0,b1,hb,hl0,hl1,hN⟩:=jJf ha
 have hlen:=hm.1
 have hx0:rpP act es 0=([b0,b1],0):=by rw[←hb];rfl
 simp (disch:=omega) only [go_sem,seval,qAy,qKf,a1,a3]
 refine yO es.length (fun i => ∀ e∈es.take i,qD0 e act=0) (fun i=>[(1,.ref 4096 0 0),(2,.ref 4112 0 0),(4,.t (.int .i64 (i:Nat)))])
  (fun i=>[(4112,.live 2 [.agg [.nil,.t (.int .i64 0)]] true true),(4096,.live 3 [.t (.agg [.int .i64 act,.int .i64 rs,.sl (es.map evT)])] true true)]) (by simp) ?_ (fun i hi hP=>?_)
 ·refine qI.rd id ?_ ?_ rfl
  all_goals simp (disch:=omega) only [go_sem,seval,id]
 ·by_cases hlt:i<es.length
  ·obtain⟨⟨r,k,ds,d⟩,he⟩ : ∃ e,es[i]?=some e:=⟨es[i],by simp[hlt]⟩
   have hx:=hm.2 _ (List.mem_of_getElem? he)
   have hC:=zJi (act:=act) hx
   by_cases hz:qD0 (r,k,ds,d) act=0
   ·have hP':=zF9 he hP hz
    rw[hz] at hC
    simp (disch:=omega) only [go_sem,seval,kF,zP,he,h1,hC]
    repeat refine And.intro rfl ?_
    refine⟨hlt,hP',qI.rd id ?_ ?_ rfl⟩
    all_goals simp (disch:=omega) only [go_sem,seval,id]
   ·have hz2:(qD0 (r,k,ds,d) act != 0)=true:=by simpa using hz
    rw[qNe (qYy ha he hP hz) hz]
    generalize qD0 (r,k,ds,d) act=c at *
    simp (disch:=omega) only [go_sem,seval,kF,zP,he,h1,hC,hz2]
    all_goals rfl
  ·have e:i=es.length:=by omega
   subst e
   rw[List.take_length] at hP
   rw[zFv (qUw ha hP)]
   simp (disch:=omega) only [go_sem,seval,kF,h2,hN]
   refine qD es.length (fun j=>[(1,.ref 4096 0 0),(2,.ref 4112 0 0),(6,.ref 41008 0 0),(7,.t (.int .i64 (j:Nat)))])
    (fun j=>[(41008,.live 2 [.t (.agg [.sl ((rpP act es j).1.map qCi),.int .i64 (rpP act es j).2])] true true),(4112,.live 2 [.agg [.nil,.t (.int .i64 0)]] true true),(4096,.live 3 [.t (.agg [.int .i64 act,.int .i64 rs,.sl (es.map evT)])] true true)]) ?_ (fun j hj=>?_)
   ·refine qI.cv (hv:=[]) [40993,40994,40992] id ?_ rfl
    simp (disch:=omega) only [go_sem,seval,id,hx0,List.map_nil,List.map_cons]
    all_goals rfl
   ·by_cases hlt:j<es.length
    ·obtain⟨⟨r,k,ds,d⟩,he⟩ : ∃ e,es[j]?=some e:=⟨es[j],by simp[hlt]⟩
     have hx:=hm.2 _ (List.mem_of_getElem? he)
     have hs:=jAy (act:=act) he
     have hq:=zTo ha (es:=es) (i:=j)
     have hz:=hP _ (List.mem_of_getElem? he)
     have hE:=fun h5=>zE3 hq (by omega) hx (by rw[zJj hz];omega) hz h5
     rw[←hs] at hE
     by_cases h5:k=5
     ·subst h5
      have hs':rpP act es (j+1)=rpP act es j:=hs.trans (if_pos rfl)
      generalize rpP act es j=X at *
      simp (disch:=omega) only [go_sem,seval,kG,zP,he]
      refine⟨hlt,qI.rd id ?_ ?_ rfl⟩
      all_goals simp (disch:=omega) only [go_sem,seval,id,hs']
     ·have h5b:(k != 5)=true:=by simpa using h5
      have hE:=hE h5
      generalize hY:rpP act es (j+1)=Y at *
      generalize rpP act es j=X at *
      simp (disch:=omega) only [go_sem,seval,kG,zP,he,h5b,h3,hE]
      repeat refine And.intro rfl ?_
      refine⟨hlt,qI.rd id ?_ ?_ rfl⟩
      all_goals simp (disch:=omega) only [go_sem,seval,id,hY]
    ·have e:j=es.length:=by omega
     subst e
     generalize rpP act es es.length=X at *
     simp (disch:=omega) only [go_sem,seval,kG]
theorem ShA.on {act:Int} {bk:List jH} (h:ShA act bk) {a:Nat} (ha:a<2) (hb:act/2^a%2=1):onB bk a=true:=by
 obtain⟨b0,b1,rfl,h0,h1,-,-⟩:=h
 rcases (show a=0∨a=1 by omega) with rfl | rfl
 ·rw[if_pos (by simpa using hb)] at h0
  unfold onB;exact decide_eq_true h0
 ·rw[if_pos (by simpa using hb)] at h1
  unfold onB;exact decide_eq_true h1
end Go.Eng
end
section
namespace Go.Eng
def xB (n_predict_Registers n_registers_Digest:Nat):AC:=
 (.seq
 (rG 4096 [oO 5 .boxArr [.tmp 2],mC 6 .nil,mC 7 (.t (.int .i64 0))])
 (.seq
 (rG 8192 [mv 11 0,mv 12 1,cL 13 n_predict_Registers true [.tmp 11,.tmp 12],mv 10 13,oO 14 (.extract 0) [.tmp 10],oO 15 (.extract 1) [.tmp 10],oO 8 (.new 2 [(.agg [.nil,(.t (.int .i64 0))])]) [],oS 2 8 14,mv 9 15])
 (.seq
 (.seq
 (rG 12288 [mv 16 9,bN 17 .neq 16 0])
 (.cond (.tmp 17)
 (.seq
 (rG 16384 [mv 18 9,mC 6 .nil,mv 7 18])
 .ret)
 .skip))
 (.seq
 (rG 20480 [oO 19 (.load 2 true) [.tmp 8],oO 20 (.load 2 true) [.tmp 5],cL 21 n_registers_Digest false [.tmp 19,.tmp 20],oO 22 (.extract 0) [.tmp 21],oO 23 (.extract 1) [.tmp 21],mv 6 22,mv 7 23])
 .ret))))
def wS (n_ref25_Chain n_ref25_Events n_ref25_Replay:Nat):AC:=
 (.seq
 (rG 4096 [oO 4 (.new 2 [(.agg [.nil,(.t (.int .i64 0))])]) [],mC 5 (.t (.int .i64 0))])
 (.seq
 (.seq
 (rG 8192 [mv 7 0,cL 8 n_ref25_Chain false [.tmp 7],mv 6 8])
 (.seq
 (rG 12288 [mv 9 6,bN 10 .neq 9 0])
 (.cond (.tmp 10)
 (.seq
 (rG 16384 [oO 11 (.build [.nil,(.t (.int .i64 0))] []) [],mv 12 6,oS 2 4 11,mv 5 12])
 .ret)
 .skip)))
 (.seq
 (.seq
 (rG 20480 [mv 13 1,bN 14 .lss 13 1,mv 15 14,mF 16 1 15,oF 17 15 (.bin .gtr) [.tmp 16,.cst (.t (.int .i64 3))],oO 18 .pick [.tmp 15,.cst (.t (.bool true)),.tmp 17]])
 (.cond (.tmp 18)
 (.seq
 (rG 24576 [oO 19 (.build [.nil,(.t (.int .i64 0))] []) [],oS 2 4 19,mC 5 (.t (.int .i64 1))])
 .ret)
 .skip))
 (.seq
 (rG 28672 [mv 20 1,mv 21 0,mv 22 1,cL 23 n_ref25_Events true [.tmp 21,.tmp 22],oO 24 (.build [(.t (.int .i64 0)),(.t (.int .i64 0)),.nil] [(0,1),(2,1)]) [.tmp 20,.tmp 23],cL 25 n_ref25_Replay true [.tmp 24],oO 26 (.extract 0) [.tmp 25],oO 27 (.extract 1) [.tmp 25],oS 2 4 26,mv 5 27])
 .ret))))
def vR (n_ref25_Predict n_ref8_Digest:Nat):AC:=
 (.seq
 (rG 4096 [oO 5 .boxArr [.tmp 2],mC 6 .nil,mC 7 (.t (.int .i64 0))])
 (.seq
 (rG 8192 [mv 11 0,mv 12 1,cL 13 n_ref25_Predict true [.tmp 11,.tmp 12],mv 10 13,oO 14 (.extract 0) [.tmp 10],oO 15 (.extract 1) [.tmp 10],oO 8 (.new 2 [(.agg [.nil,(.t (.int .i64 0))])]) [],oS 2 8 14,mv 9 15])
 (.seq
 (.seq
 (rG 12288 [mv 16 9,bN 17 .neq 16 0])
 (.cond (.tmp 17)
 (.seq
 (rG 16384 [mv 18 9,mC 6 .nil,mv 7 18])
 .ret)
 .skip))
 (.seq
 (rG 20480 [oO 19 (.load 2 true) [.tmp 8],oO 20 (.load 2 true) [.tmp 5],cL 21 n_ref8_Digest false [.tmp 19,.tmp 20],oO 22 (.extract 0) [.tmp 21],oO 23 (.extract 1) [.tmp 21],mv 6 22,mv 7 23])
 .ret))))
end Go.Eng
end
section
set_option maxRecDepth 20000
set_option maxHeartbeats 64000000
namespace Go.Eng
theorem zSt {l:List Im} {act:Int}:(∀ e∈qTe l act,evM e)∧(qTe l act).length≤136∧esM (qTe l act):=by
 unfold qTe
 split
 ·exact⟨by simp,by simp,by simp,by simp⟩
 ·rename_i h
  have hz:qGr l=0:=by omega
  obtain⟨hok,_,h8⟩:=qM0 hz
  have hv:=zJ4 (act:=act) (by omega) hok
  have hl:=zE0 (act:=act) (l:=l)
  exact⟨fun e he=>(hv e he).2,by omega,by omega,fun e he=>(hv e he).2.x⟩
theorem zJ5 {l:List Im} {act:Int} (h:prE l act=0):qTe l act=qRl act l∧(∀ e∈qRl act l,evV act e)∧rpE act (qRl act l)=0∧rpG act (qRl act l)=prG l act:=by
 obtain⟨hz,ha⟩:=zTf h
 have hv:=zJ4 (act:=act) (by omega) (qM0 hz).1
 have hE:=jAx ha hv
 refine⟨by unfold qTe;rw[if_neg (by omega)],hv,hE,?_⟩
 unfold rpG prG
 rw[if_pos hE,if_pos h]
theorem qKe.m {l:List Im} (h:qKe l) (hz:qGr l=0):zIp l:=⟨h.1,fun x hx=>zSn ((qM0 hz).1 x hx)⟩
def qOo:Ct where
 α:=List Im×Int
 as x:=[.t (.sl (x.1.map imT)),.t (.int .i64 x.2)]
 ins _:=[]
 pre x:=qKe x.1
 r x:= .tup [.t (.agg [.sl ((prG x.1 x.2).1.map qCi),.int .i64 (prG x.1 x.2).2]),.t (.int .i64 (prE x.1 x.2))]
 outs _:=[]
 inj:=by
  rintro⟨a,b⟩ ⟨c,d⟩ h _
  simp only[List.cons.injEq,V.t.injEq,T.sl.injEq,T.int.injEq,true_and,and_true,qPv] at h
  obtain⟨rfl,rfl⟩:=h
  exact⟨rfl,rfl⟩
theorem zLq {l:List Im} {act:Int} (h:qKe l):qOo.fs [.t (.sl (l.map imT)),.t (.int .i64 act)] []=some (.tup [.t (.agg [.sl ((prG l act).1.map qCi),.int .i64 (prG l act).2]),.t (.int .i64 (prE l act))],[]):=qOo.eq (l,act) h
theorem qNc {l:List Im} {act c:Int} (h:prE l act=c) (hc:c≠0):V.tup [.t (.agg [.sl ((prG l act).1.map qCi),.int .i64 (prG l act).2]),.t (.int .i64 (prE l act))] = .tup [.t (.agg [.sl [],.int .i64 0]),.t (.int .i64 c)]:=by
 unfold prG
 rw[h,if_neg hc];rfl
theorem qKp (tab:Tab) (gl:Gl) (n1 n2 n3:Nat) (h1:tab.look n1=some qHq.fs) (h2:tab.look n2=some qOk.fs) (h3:tab.look n3=some qOq.fs) (l:List Im) (act:Int) (hm:qKe l) :
  (yZ n1 n2 n3).wp tab gl (qE 0 [.t (.sl (l.map imT)),.t (.int .i64 act)]) (qE 0 []) (zZ [(4,some (2,true)),(5,none)] 0 (fun r o=>r = .tup [.t (.agg [.sl ((prG l act).1.map qCi),.int .i64 (prG l act).2]),.t (.int .i64 (prE l act))]∧o=[])):=by
 have hC:=zBr hm
 by_cases hz:qGr l=0
 ·rw[hz] at hC
  by_cases a1:act<1
  ·rw[qNc (c:=1) (by unfold prE;rw[if_neg (by omega),if_pos (.inl a1)]) (by decide)]
   simp (disch:=omega) only [go_sem,seval,yZ,h1,hC,a1]
  by_cases a3:3<act
  ·rw[qNc (c:=1) (by unfold prE;rw[if_neg (by omega),if_pos (.inr a3)]) (by decide)]
   simp (disch:=omega) only [go_sem,seval,yZ,h1,hC,a1,a3]
  have e0:prE l act=0:=by unfold prE;rw[if_neg (by omega),if_neg (by omega)]
  obtain⟨q1,q2,q3,q4⟩:=zJ5 e0
  have hE:=zSs (act:=act) (hm.m hz)
  have hR:=zTp (act:=act) (rs:=0) (zSt (l:=l) (act:=act)).2.2
  rw[q1] at hE hR
  rw[q3,q4] at hR
  rw[e0]
  generalize qRl act l=es at *
  generalize prG l act=X at *
  simp (disch:=omega) only [go_sem,seval,yZ,h1,hC,a1,a3,h2,hE,h3,hR]
 ·have hz':(qGr l != 0)=true:=by simpa using hz
  rw[qNc (c:=qGr l) (if_pos hz) hz]
  generalize qGr l=c at *
  simp (disch:=omega) only [go_sem,seval,yZ,h1,hC,hz']
theorem qS1 (tab:Tab) (gl:Gl) (n1 n2 n3:Nat) (h1:tab.look n1=some qHq.fs) (h2:tab.look n2=some qOk.fs) (h3:tab.look n3=some qOq.fs) (l:List Im) (act:Int) (hm:qKe l) :
  (wS n1 n2 n3).wp tab gl (qE 0 [.t (.sl (l.map imT)),.t (.int .i64 act)]) (qE 0 []) (zZ [(4,some (2,true)),(5,none)] 0 (fun r o=>r = .tup [.t (.agg [.sl ((prG l act).1.map qCi),.int .i64 (prG l act).2]),.t (.int .i64 (prE l act))]∧o=[])):=by
 have hC:=zBr hm
 by_cases hz:qGr l=0
 ·rw[hz] at hC
  by_cases a1:act<1
  ·rw[qNc (c:=1) (by unfold prE;rw[if_neg (by omega),if_pos (.inl a1)]) (by decide)]
   simp (disch:=omega) only [go_sem,seval,wS,h1,hC,a1]
  by_cases a3:3<act
  ·rw[qNc (c:=1) (by unfold prE;rw[if_neg (by omega),if_pos (.inr a3)]) (by decide)]
   simp (disch:=omega) only [go_sem,seval,wS,h1,hC,a1,a3]
  have e0:prE l act=0:=by unfold prE;rw[if_neg (by omega),if_neg (by omega)]
  obtain⟨q1,q2,q3,q4⟩:=zJ5 e0
  have hE:=zSs (act:=act) (hm.m hz)
  have hR:=zTp (act:=act) (rs:=0) (zSt (l:=l) (act:=act)).2.2
  rw[q1] at hE hR
  rw[q3,q4] at hR
  rw[e0]
  generalize qRl act l=es at *
  generalize prG l act=X at *
  simp (disch:=omega) only [go_sem,seval,wS,h1,hC,a1,a3,h2,hE,h3,hR]
 ·have hz':(qGr l != 0)=true:=by simpa using hz
  rw[qNc (c:=qGr l) (if_pos hz) hz]
  generalize qGr l=c at *
  simp (disch:=omega) only [go_sem,seval,wS,h1,hC,hz']
end Go.Eng
end
section
set_option maxRecDepth 20000
namespace Go.Eng
open Go.MuLone
theorem jK5 {P:Program} {G:Gl} {tab:Tab} {f:FuncId} {fn:Func} {c:Code} {ac:AC} {hints:List (Nat×List Nat)} {rs:List (Nat×Option (Nat×Bool))} (hf:P.funcs[f]?=some fn) (hname:(fn.name == "runtime.NumGoroutine")=false) (hb:fn.body=some c) (hann:ann P fn.ntmps hints c=some ac) (hmx:P.follows .mixedOrders=true)
  (ht:qD3 P G tab) (hrs:qNd P fn.results.toList=some rs) (ct:Ct) (hn : ∀ x,(ct.as x).length≤fn.ntmps) (hi : ∀ x,(ct.ins x).length≤100)
  (h : ∀ x,ct.pre x→ac.wp tab G (qE 0 (ct.as x)) (qE 0 (ct.ins x)) (zZ rs (ct.ins x).length (fun r' o'=>r'=ct.r x∧o'=ct.outs x))):FOk P G f ct.fs:=
 ct.ok (fun args w=>run_callFunc_enter hf hname hb args w) (fun x hx=>zMy hf hb hann hmx ht hrs (hn x) (hi x) (h x hx))
theorem jK3 {P:Program} {G:Gl} {tab:Tab} {f:FuncId} {fn:Func} {c:Code} {ac:AC} {hints:List (Nat×List Nat)} {rs:List (Nat×Option (Nat×Bool))} (fz:List Nat) (hf:P.funcs[f]?=some fn) (hname:(fn.name == "runtime.NumGoroutine")=false) (hb:fn.body=some c) (hann:ann P fn.ntmps hints c=some ac) (hmx:P.follows .mixedOrders=true)
  (ht:qD3 P G tab) (hrs:qNd P fn.results.toList=some rs) (ct:Ct) (hn : ∀ x,(ct.as x).length≤fn.ntmps) (hi : ∀ x,(ct.ins x).length≤100)
  (h : ∀ x,ct.pre x→ac.wp tab G (qE 0 (ct.as x)) (qE 0 (ct.ins x)) (xM fz rs (ct.ins x).length (fun r' o'=>r'=ct.r x∧o'=ct.outs x))):FOk P G f ct.fs:=
 ct.ok (fun args w=>run_callFunc_enter hf hname hb args w) (fun x hx=>zMx fz hf hb hann hmx ht hrs (hn x) (hi x) (h x hx))
theorem jK4 {P:Program} {G:Gl} {tab:Tab} {f:FuncId} {fn:Func} {c:Code} {ac:AC} {hints:List (Nat×List Nat)} {rs:List (Nat×Option (Nat×Bool))} (hf:P.funcs[f]?=some fn) (hb:fn.body=some c) (hann:ann P fn.ntmps hints c=some ac) (hmx:P.follows .mixedOrders=true)
  (ht:qD3 P G tab) (hrs:qNd P fn.results.toList=some rs) {as:List V} (hn:as.length≤fn.ntmps)
  (h:ac.wp tab G (qE 0 as) (qE 0 []) (zZ rs 0 (fun r o=>r = .t (.bool true)∧o=[]))):qX2 P G f as [] (.t (.bool true)) []:=
 zMy hf hb hann hmx ht hrs hn (Nat.zero_le _) h
theorem qW {P:Program} {G:Gl} {tab:Tab} {f:FuncId} (fn:Func) (hints:List (Nat×List Nat)) (ac:AC) (rs:List (Nat×Option (Nat×Bool))) (ht:qD3 P G tab) (ct:Ct)
  (h : ∀ x,ct.pre x→ac.wp tab G (qE 0 (ct.as x)) (qE 0 (ct.ins x)) (zZ rs (ct.ins x).length (fun r' o'=>r'=ct.r x∧o'=ct.outs x)))
  (hf:P.funcs[f]?=some fn:=by kernel_rfl) (hname:(fn.name == "runtime.NumGoroutine")=false:=by kernel_rfl) (hb:fn.body=some (fn.body.getD .skip):=by kernel_rfl) (hann:ann P fn.ntmps hints (fn.body.getD .skip)=some ac:=by kernel_rfl) (hmx:P.follows .mixedOrders=true:=by kernel_rfl)
  (hrs:qNd P fn.results.toList=some rs:=by kernel_rfl) (hn : ∀ x,(ct.as x).length≤fn.ntmps:=by exact fun _=>Nat.le_of_ble_eq_true (by kernel_rfl)) (hi : ∀ x,(ct.ins x).length≤100:=by exact fun _=>Nat.le_of_ble_eq_true (by kernel_rfl)):FOk P G f ct.fs:=jK5 hf hname hb hann hmx ht hrs ct hn hi h
theorem yM {P:Program} {G:Gl} {tab:Tab} {f:FuncId} (fz:List Nat) (fn:Func) (hints:List (Nat×List Nat)) (ac:AC) (rs:List (Nat×Option (Nat×Bool))) (ht:qD3 P G tab) (ct:Ct)
  (h : ∀ x,ct.pre x→ac.wp tab G (qE 0 (ct.as x)) (qE 0 (ct.ins x)) (xM fz rs (ct.ins x).length (fun r' o'=>r'=ct.r x∧o'=ct.outs x)))
  (hf:P.funcs[f]?=some fn:=by kernel_rfl) (hname:(fn.name == "runtime.NumGoroutine")=false:=by kernel_rfl) (hb:fn.body=some (fn.body.getD .skip):=by kernel_rfl) (hann:ann P fn.ntmps hints (fn.body.getD .skip)=some ac:=by kernel_rfl) (hmx:P.follows .mixedOrders=true:=by kernel_rfl)
  (hrs:qNd P fn.results.toList=some rs:=by kernel_rfl) (hn : ∀ x,(ct.as x).length≤fn.ntmps:=by exact fun _=>Nat.le_of_ble_eq_true (by kernel_rfl)) (hi : ∀ x,(ct.ins x).length≤100:=by exact fun _=>Nat.le_of_ble_eq_true (by kernel_rfl)):FOk P G f ct.fs:=jK3 fz hf hname hb hann hmx ht hrs ct hn hi h
theorem zRq {P:Program} {G:Gl} {tab:Tab} {f:FuncId} (fn:Func) (hints:List (Nat×List Nat)) (ac:AC) (rs:List (Nat×Option (Nat×Bool))) (ht:qD3 P G tab) {as:List V}
  (h:ac.wp tab G (qE 0 as) (qE 0 []) (zZ rs 0 (fun r o=>r = .t (.bool true)∧o=[])))
  (hf:P.funcs[f]?=some fn:=by kernel_rfl) (hb:fn.body=some (fn.body.getD .skip):=by kernel_rfl) (hann:ann P fn.ntmps hints (fn.body.getD .skip)=some ac:=by kernel_rfl) (hmx:P.follows .mixedOrders=true:=by kernel_rfl)
  (hrs:qNd P fn.results.toList=some rs:=by kernel_rfl) (hn:as.length≤fn.ntmps:=by exact Nat.le_of_ble_eq_true (by kernel_rfl)):qX2 P G f as [] (.t (.bool true)) []:=jK4 hf hb hann hmx ht hrs hn h
end Go.Eng
end
section
set_option maxRecDepth 20000
namespace Go.Eng
open Go.MuLone
def SW (tab:Tab) (gl:Gl) (ac:AC) (fs:Fs) (hs:Hs) (Qa:qD2):Prop:=
 ∀ (cx:Cx) (hints:List (Nat×List Nat)) (c:Code),cx.gl=gl→qD3 cx.P cx.gl tab→cx.P.follows .mixedOrders=true→ann cx.P cx.nt hints c=some ac→
  ∀ {Qx:Exit→Act→World→Prop} {β:Nat→Option BI} {F:Nat→Prop} {a:Act} {w:World},Rel cx β F (jT fs) (jT hs) a w→
   (∀ e fs' hs' β' F' a' w',Qa e fs' hs'→Rel cx β' F' (jT fs') (jT hs') a' w'→Qx e.ex a' w')→c.wp cx.P Qx a w
def jD5 (tab:Tab) (gl:Gl) (b:AC) (Q:qD2):qD2:=fun e fs hs=>match e with | .normal=>SW tab gl b fs hs Q | e=>Q e fs hs
theorem zC4 {tab:Tab} {gl:Gl} {b:AC} {Q:qD2} {fs:Fs} {hs:Hs}:jD5 tab gl b Q .normal fs hs=SW tab gl b fs hs Q:=Eq.trans (Eq.refl _) rfl
theorem zRi {tab:Tab} {gl:Gl} {b:AC} {Q:qD2} {fs:Fs} {hs:Hs}:jD5 tab gl b Q .ret fs hs=Q .ret fs hs:=Eq.trans (Eq.refl _) rfl
attribute [go_sem] zC4 zRi
theorem SW.of {tab:Tab} {gl:Gl} {ac:AC} {fs:Fs} {hs:Hs} {Q:qD2} (h:ac.wp tab gl fs hs Q):SW tab gl ac fs hs Q:=by
 intro cx hints c hg ht hm ha Qx β F a w R hQ
 subst hg
 exact AC.sound ht hm ha h R hQ
theorem SW.seq {tab:Tab} {gl:Gl} {a b:AC} {fs:Fs} {hs:Hs} {Q:qD2} (h:SW tab gl a fs hs (jD5 tab gl b Q)):SW tab gl (.seq a b) fs hs Q:=by
 intro cx hints c hg ht hm ha Qx β F act w R hQ
 cases c with
 | seq x y=>
  simp only[ann,Option.bind_eq_some_iff,Option.map_eq_some_iff] at ha
  obtain⟨cx',hx,cy,hy,e⟩:=ha
  cases e
  refine wp_seq (h cx hints x hg ht hm hx R (fun e fs' hs' β' F' a' w' hq R'=>?_))
  cases e with
  | normal=>exact hq cx hints y hg ht hm hy R' hQ
  | exit id=>exact hQ (.exit id) _ _ _ _ _ _ hq R'
  | ret=>exact hQ .ret _ _ _ _ _ _ hq R'
 | cond o x y=>
  simp only[ann,Option.bind_eq_some_iff,Option.map_eq_some_iff] at ha
  obtain⟨_,_,_,_,_,_,e⟩:=ha
  cases hm:jT hints 900000 with
  | none=>rw[hm] at e;cases e
  | some l=>rw[hm] at e;cases e
 | region id ops draw=>
  simp only[ann,Option.bind_eq_some_iff] at ha
  obtain⟨_,_,e⟩:=ha
  split at e
  ·split at e
   ·cases e
   ·cases e
  ·cases e
 | _=>simp[ann] at ha
end Go.Eng
end
section
set_option maxRecDepth 20000
set_option maxHeartbeats 64000000
namespace Go.Eng
theorem zUd {b:List UInt8}:zIp (chG b):=by
 obtain⟨_,h1,h2⟩:=zJg (b:=b)
 exact⟨by omega,fun x hx=>zSn (h1 x hx)⟩
def jCt:List UInt8:=List.replicate 32 0
def dgE (e:Ev):List UInt8:=e.2.2.1.getD 1 []
def msE (v:List (List UInt8)) (e:Ev):List (List UInt8):=(if e.2.1≠1 then [e.2.2.2] else [])++[v.getD e.1.toNat []++dgE e]
def stV (v:List (List UInt8)) (e:Ev):List (List UInt8):=v.set e.1.toNat (zK (v.getD e.1.toNat []++dgE e))
def hsE:List (List UInt8)→List Ev→List (List UInt8)
 | _,[]=>[]
 | v,e::r=>msE v e++hsE (stV v e) r
def v0:List (List UInt8):=List.replicate 12 jCt
def hsd (l:List Im):List (List UInt8):=(jJ2 l).map qCp++hsE v0 (qTe l 2)
theorem jAj {l:List Im} {act:Int}:RV (prG l act).1∧0≤(prG l act).2∧(prG l act).2≤1000:=by
 unfold prG
 split
 ·rename_i h
  obtain⟨hz,ha⟩:=zTf h
  have:=zTn ha (es:=qRl act l)
  have hl:=zE0 (act:=act) (l:=l)
  have h8:=(qM0 hz).2.2
  exact⟨this.1.rv,this.2.1,by have:=this.2.2;omega⟩
 ·exact⟨⟨.nil,by simp⟩,by simp,by simp⟩
def pdE (l:List Im) (act s0 s1:Int):Int:=if prE l act=0 then qM2 (prG l act).1 s0 s1 else prE l act
def pdB (l:List Im) (act s0 s1:Int):List UInt8:=if pdE l act s0 s1=0 then qD5 5 [qB3 s0 s1,zBa (prG l act).1 s0 s1] else []
def qJq:Ct where
 α:=List Im×Int×Int×Int
 as x:=[.t (.sl (x.1.map imT)),.t (.int .i64 x.2.1),.t (.agg [.int .i64 x.2.2.1,.int .i64 x.2.2.2])]
 ins _:=[]
 pre x:=qKe x.1
 r x:= .tup [.t (.sl ((pdB x.1 x.2.1 x.2.2.1 x.2.2.2).map qA)),.t (.int .i64 (pdE x.1 x.2.1 x.2.2.1 x.2.2.2))]
 outs _:=[]
 inj:=by
  rintro⟨l,c,a,b⟩ ⟨m,f,d,e⟩ h _
  simp only[List.cons.injEq,V.t.injEq,T.int.injEq,T.agg.injEq,T.sl.injEq,true_and,and_true,qPv] at h
  obtain⟨rfl,rfl,rfl,rfl⟩:=h
  exact⟨rfl,rfl⟩
theorem zCt {l:List Im} {act s0 s1:Int} (h:qKe l):qJq.fs [.t (.sl (l.map imT)),.t (.int .i64 act),.t (.agg [.int .i64 s0,.int .i64 s1])] []=some (.tup [.t (.sl ((pdB l act s0 s1).map qA)),.t (.int .i64 (pdE l act s0 s1))],[]):=qJq.eq (l,act,s0,s1) h
theorem qR1 {act:Int} {l:List Im} (s0 s1:Int):(prE l act≠0∧pdE l act s0 s1=prE l act∧pdB l act s0 s1=[])∨(prE l act=0∧pdE l act s0 s1≠0∧pdB l act s0 s1=[]∧qE0.fs [.t (.agg [.sl ((prG l act).1.map qCi),.int .i64 (prG l act).2]),.t (.agg [.int .i64 s0,.int .i64 s1])] []=some (.tup [.nil,.t (.int .i64 (pdE l act s0 s1))],[]))∨
  (prE l act=0∧pdE l act s0 s1=0∧(pdB l act s0 s1).length=32∧qE0.fs [.t (.agg [.sl ((prG l act).1.map qCi),.int .i64 (prG l act).2]),.t (.agg [.int .i64 s0,.int .i64 s1])] []=some (.tup [.sl 0 0 32,.t (.int .i64 0)],[.live 1 (((pdB l act s0 s1).map qA).map V.t) true false])):=by
 have he:qE0.fs [.t (.agg [.sl ((prG l act).1.map qCi),.int .i64 (prG l act).2]),.t (.agg [.int .i64 s0,.int .i64 s1])] []=some (zA3 (prG l act).1 s0 s1,zA2 (prG l act).1 s0 s1):=qE0.eq ((prG l act).1,(prG l act).2,s0,s1) jAj.1
 by_cases hz:prE l act=0
 ·have hE:pdE l act s0 s1=qM2 (prG l act).1 s0 s1:=if_pos hz
  by_cases hd:qM2 (prG l act).1 s0 s1=0
  ·refine .inr (.inr ⟨hz,hE.trans hd,?_,?_⟩)
   ·unfold pdB;rw[if_pos (hE.trans hd)];exact qM
   ·rw[he]
    unfold zA3 zA2 pdB
    rw[if_pos hd,if_pos hd,if_pos (hE.trans hd)]
  ·refine .inr (.inl ⟨hz,by rw[hE];exact hd,?_,?_⟩)
   ·unfold pdB;rw[if_neg (by rw[hE];exact hd)]
   ·rw[he,hE]
    unfold zA3 zA2
    rw[if_neg hd,if_neg hd]
 ·have hE:pdE l act s0 s1=prE l act:=if_neg hz
  refine .inl ⟨hz,hE,?_⟩
  unfold pdB;rw[if_neg (by rw[hE];exact hz)]
theorem qPc (tab:Tab) (gl:Gl) (n1 n2:Nat) (h1:tab.look n1=some qOo.fs) (h2:tab.look n2=some qE0.fs) (l:List Im) (act s0 s1:Int) (hm:qKe l) :
  (xB n1 n2).wp tab gl (qE 0 [.t (.sl (l.map imT)),.t (.int .i64 act),.t (.agg [.int .i64 s0,.int .i64 s1])]) (qE 0 []) (zZ [(6,none),(7,none)] 0 (fun r o=>r = .tup [.t (.sl ((pdB l act s0 s1).map qA)),.t (.int .i64 (pdE l act s0 s1))]∧o=[])):=by
 have hR:=zLq (act:=act) hm
 rcases qR1 (act:=act) (l:=l) s0 s1 with⟨z,e,b⟩ | ⟨z,e,b,hD⟩ | ⟨z,e,b,hD⟩
 ·rw[e,b]
  have z':(prE l act != 0)=true:=by simpa using z
  generalize prE l act=c at *
  generalize prG l act=X at *
  simp (disch:=omega) only [go_sem,seval,xB,h1,hR,z',List.map_nil]
 ·rw[b]
  rw[z] at hR
  generalize pdE l act s0 s1=c at *
  generalize prG l act=X at *
  simp (disch:=omega) only [go_sem,seval,xB,h1,hR,h2,hD,List.map_nil]
 ·rw[e]
  rw[z] at hR
  generalize pdB l act s0 s1=B at *
  generalize prG l act=X at *
  have t32:List.take 32 B=B:=List.take_of_length_le (by omega)
  simp (disch:=omega) only [go_sem,seval,xB,h1,hR,h2,hD,b,t32]
theorem qIf (tab:Tab) (gl:Gl) (n1 n2:Nat) (h1:tab.look n1=some qOo.fs) (h2:tab.look n2=some qE0.fs) (l:List Im) (act s0 s1:Int) (hm:qKe l) :
  (vR n1 n2).wp tab gl (qE 0 [.t (.sl (l.map imT)),.t (.int .i64 act),.t (.agg [.int .i64 s0,.int .i64 s1])]) (qE 0 []) (zZ [(6,none),(7,none)] 0 (fun r o=>r = .tup [.t (.sl ((pdB l act s0 s1).map qA)),.t (.int .i64 (pdE l act s0 s1))]∧o=[])):=by
 have hR:=zLq (act:=act) hm
 rcases qR1 (act:=act) (l:=l) s0 s1 with⟨z,e,b⟩ | ⟨z,e,b,hD⟩ | ⟨z,e,b,hD⟩
 ·rw[e,b]
  have z':(prE l act != 0)=true:=by simpa using z
  generalize prE l act=c at *
  generalize prG l act=X at *
  simp (disch:=omega) only [go_sem,seval,vR,h1,hR,z',List.map_nil]
 ·rw[b]
  rw[z] at hR
  generalize pdE l act s0 s1=c at *
  generalize prG l act=X at *
  simp (disch:=omega) only [go_sem,seval,vR,h1,hR,h2,hD,List.map_nil]
 ·rw[e]
  rw[z] at hR
  generalize pdB l act s0 s1=B at *
  generalize prG l act=X at *
  have t32:List.take 32 B=B:=List.take_of_length_le (by omega)
  simp (disch:=omega) only [go_sem,seval,vR,h1,hR,h2,hD,b,t32]
end Go.Eng
end
section
namespace Go.Eng
def qDe (n_evidence_Selection n_predict_Digest:Nat):AC:=
 (.seq
 (rG 4096 [oO 4 (.new 10 [(.agg [(.t (.int .i64 0)),(.t (.int .i64 0)),(.t (.int .i64 0)),.nil,(.t (.int .i64 0)),(.t (.int .i64 0)),.nil,.nil,.nil,.nil])]) [],mC 5 (.t (.int .i64 0))])
 (.seq
 (rG 8192 [mv 9 1,cL 10 n_evidence_Selection false [.tmp 9],oO 6 (.new 1 [(.t (.int .i64 0)),(.t (.int .i64 0))]) [],oS 2 6 10])
 (.seq
 (rG 12288 [mv 12 0,mv 13 1,oO 14 (.load 2 true) [.tmp 6],cL 15 n_predict_Digest true [.tmp 12,.tmp 13,.tmp 14],mv 11 15,oO 16 (.extract 0) [.tmp 11],oO 17 (.extract 1) [.tmp 11],mv 7 16,mv 8 17])
 (.seq
 (.seq
 (rG 16384 [mv 18 8,bN 19 .neq 18 0])
 (.cond (.tmp 19)
 (.seq
 (rG 20480 [oO 20 (.build [(.t (.int .i64 0)),(.t (.int .i64 0)),(.t (.int .i64 0)),.nil,(.t (.int .i64 0)),(.t (.int .i64 0)),.nil,.nil,.nil,.nil] []) [],mv 21 8,oS 10 4 20,mv 5 21])
 .ret)
 .skip))
 (.seq
 (rG 24576 [oO 22 (.load 2 true) [.tmp 6],mv 23 7,oO 24 (.build [(.t (.int .i64 0)),(.t (.int .i64 0)),(.t (.int .i64 0)),.nil,(.t (.int .i64 0)),(.t (.int .i64 0)),.nil,.nil,.nil,.nil] [(0,1),(1,2),(3,1)]) [.cst (.t (.int .i64 1)),.tmp 22,.tmp 23],oS 10 4 24,mC 5 (.t (.int .i64 0))])
 .ret)))))
def wC (n_vault_Branch n_policy_Digest:Nat):AC:=
 (.seq
 (rG 24576 [bT 22 .lss 21 20])
 (.seq
 (.cond (.tmp 22)
 .skip
 (.exit 0))
 (.seq
 (.block 1
 (.seq
 (rG 28672 [oO 23 (.iaddr 1) [.tmp 19,.tmp 21],oO 24 (.load 1 false) [.tmp 23],mv 8 24])
 (.seq
 (rG 32768 [mv 26 8,mv 27 1,cL 28 n_vault_Branch true [.tmp 26,.tmp 27],mv 25 28,oO 29 (.extract 0) [.tmp 25],oO 30 (.extract 1) [.tmp 25],oO 9 (.new 10 [(.agg [(.t (.int .i64 0)),(.t (.int .i64 0)),(.t (.int .i64 0)),.nil,(.t (.int .i64 0)),(.t (.int .i64 0)),.nil,.nil,.nil,.nil])]) [],oS 10 9 29,mv 10 30])
 (.seq
 (.seq
 (rG 36864 [mv 31 10,bN 32 .neq 31 0])
 (.cond (.tmp 32)
 (.seq
 (rG 40960 [mv 33 10,mC 4 .nil,mv 5 33])
 .ret)
 .skip))
 (rG 45056 [mv 34 6,oO 35 (.load 10 true) [.tmp 9],oO 36 (.bslice 10 1 (.agg [(.t (.int .i64 0)),(.t (.int .i64 0)),(.t (.int .i64 0)),.nil,(.t (.int .i64 0)),(.t (.int .i64 0)),.nil,.nil,.nil,.nil]) [0]) [.tmp 35],cL 37 n_policy_Digest true [.tmp 36],oO 38 (.bslice 1 1 .nil [0]) [.tmp 37],oO 39 (.append 1 24) [.tmp 34,.tmp 38],mv 6 39])))))
 (rG 49152 [bN 40 .add 21 1,mv 21 40]))))
def xH (n_vault_Branch n_policy_Digest:Nat):AC:=
 (.seq
 (rG 4096 [mC 4 .nil,mC 5 (.t (.int .i64 0))])
 (.seq
 (.seq
 (rG 8192 [mv 11 0,oO 12 .len [.tmp 11],bN 13 .eql 12 0,mv 14 13,mF 15 0 14,oF 16 14 .len [.tmp 15],oF 17 14 (.bin .gtr) [.tmp 16,.cst (.t (.int .i64 8))],oO 18 .pick [.tmp 14,.cst (.t (.bool true)),.tmp 17]])
 (.cond (.tmp 18)
 (.seq
 (rG 12288 [mC 4 .nil,mC 5 (.t (.int .i64 1))])
 .ret)
 .skip))
 (.seq
 (rG 16384 [mC 6 .nil])
 (.seq
 (.seq
 (rG 20480 [mv 19 0,oO 20 .len [.tmp 19],mC 21 (.t (.int .i64 0))])
 (.block 0
 (.loop (wC n_vault_Branch n_policy_Digest))))
 (.seq
 (rG 53248 [mv 41 6,mv 4 41,mC 5 (.t (.int .i64 0))])
 .ret)))))
def qAz (n_vault_Branches n_policy_Digest:Nat):AC:=
 (.seq
 (rG 4096 [mC 4 .nil,mC 5 (.t (.int .i64 0))])
 (.seq
 (rG 8192 [mv 9 0,mv 10 1,cL 11 n_vault_Branches true [.tmp 9,.tmp 10],mv 8 11,oO 12 (.extract 0) [.tmp 8],oO 13 (.extract 1) [.tmp 8],mv 6 12,mv 7 13])
 (.seq
 (.block 0
 (.seq
 (rG 12288 [mv 15 7,bN 16 .neq 15 0,mv 14 16])
 (.cond (.tmp 14)
 (.seq
 (rG 16384 [mv 17 7,mC 4 .nil,mv 5 17])
 .ret)
 (.seq
 (rG 20480 [mv 19 6,oO 20 .len [.tmp 19],bN 21 .eql 20 1,mv 18 21])
 (.cond (.tmp 18)
 (.seq
 (rG 24576 [mv 22 6,oO 23 (.iaddr 1) [.tmp 22,.cst (.t (.int .i64 0))],oO 24 (.load 1 false) [.tmp 23],mv 4 24,mC 5 (.t (.int .i64 0))])
 .ret)
 .skip)))))
 (.seq
 (rG 28672 [mv 25 6,oO 26 (.build [(.t (.int .i64 0)),(.t (.int .i64 0)),(.t (.int .i64 0)),.nil,(.t (.int .i64 0)),(.t (.int .i64 0)),.nil,.nil,.nil,.nil] [(0,1),(9,1)]) [.cst (.t (.int .i64 8)),.tmp 25],oO 27 (.bslice 10 1 (.agg [(.t (.int .i64 0)),(.t (.int .i64 0)),(.t (.int .i64 0)),.nil,(.t (.int .i64 0)),(.t (.int .i64 0)),.nil,.nil,.nil,.nil]) [0]) [.tmp 26],cL 28 n_policy_Digest true [.tmp 27],mv 4 28,mC 5 (.t (.int .i64 0))])
 .ret))))
def xG (n_vault_Policy n_wire_Uint n_digest_Hash n_wrap_Make n_wrap_Private n_vault_Branches:Nat):AC:=
 (.seq
 (rG 4096 [oO 2 .box [.tmp 0],oO 3 .box [.tmp 1],oO 4 (.new 8 [(.agg [(.t (.int .i64 0)),(.t (.int .i64 0)),(.t (.int .i64 0)),(.t (.int .i64 0)),.nil,.nil,.nil,.nil])]) [],mC 5 (.t (.int .i64 0))])
 (.seq
 (.seq
 (rG 8192 [oO 12 (.faddr 0) [.tmp 3],oO 13 (.load 1 false) [.tmp 12],oO 14 (.faddr 0) [.tmp 2],oO 15 (.load 1 false) [.tmp 14],bT 16 .neq 13 15])
 (.cond (.tmp 16)
 (.seq
 (rG 12288 [oO 17 (.build [(.t (.int .i64 0)),(.t (.int .i64 0)),(.t (.int .i64 0)),(.t (.int .i64 0)),.nil,.nil,.nil,.nil] []) [],oS 8 4 17,mC 5 (.t (.int .i64 49))])
 .ret)
 .skip))
 (.seq
 (rG 16384 [oO 19 (.faddr 3) [.tmp 3],oO 20 (.load 1 false) [.tmp 19],oO 21 (.faddr 1) [.tmp 2],oO 22 (.load 1 false) [.tmp 21],cL 23 n_vault_Policy true [.tmp 20,.tmp 22],mv 18 23,oO 24 (.extract 0) [.tmp 18],oO 25 (.extract 1) [.tmp 18],mv 6 24,mv 7 25])
 (.seq
 (.seq
 (rG 20480 [mv 26 7,bN 27 .neq 26 0])
 (.cond (.tmp 27)
 (.seq
 (rG 24576 [oO 28 (.build [(.t (.int .i64 0)),(.t (.int .i64 0)),(.t (.int .i64 0)),(.t (.int .i64 0)),.nil,.nil,.nil,.nil] []) [],mv 29 7,oS 8 4 28,mv 5 29])
 .ret)
 .skip))
 (.seq
 (.reg 28672 (some [0,1,3,0,8,31,0,64,255,511,1023]) [oO 30 (.faddr 0) [.tmp 3],oO 31 (.load 1 false) [.tmp 30],cL 32 n_wire_Uint false [.cst .nil,.cst (.t (.int .i64 2)),.tmp 31],oO 33 (.faddr 1) [.tmp 3],oO 34 (.load 1 false) [.tmp 33],cL 35 n_wire_Uint false [.cst .nil,.cst (.t (.int .i64 2)),.tmp 34],oO 36 (.faddr 2) [.tmp 3],oO 37 (.load 1 false) [.tmp 36],oO 38 (.bslice 1 3 .nil [0,1,2]) [.tmp 32,.tmp 35,.tmp 37],cL 39 n_digest_Hash false [.cst (.t (.int .i64 24)),.tmp 38],mv 8 39])
 (.seq
 (rG 32768 [mv 41 8,mv 42 6,oO 43 (.build [(.t (.int .i64 0)),(.t (.int .i64 0)),(.t (.int .i64 0)),.nil,.nil] [(0,1),(3,1)]) [.cst (.t (.int .i64 3)),.tmp 42],oO 44 (.faddr 2) [.tmp 3],oO 45 (.load 1 false) [.tmp 44],cL 46 n_wrap_Make true [.tmp 41,.tmp 43,.cst .nil,.tmp 45],mv 40 46,oO 47 (.extract 0) [.tmp 40],oO 48 (.extract 1) [.tmp 40],oO 49 (.extract 2) [.tmp 40],oO 9 (.new 5 [(.agg [(.t (.int .i64 0)),(.t (.int .i64 0)),(.t (.int .i64 0)),.nil,.nil])]) [],oO 10 (.new 3 [(.agg [.nil,.nil,.nil])]) [],oS 5 9 47,oS 3 10 48,mv 7 49])
 (.seq
 (.seq
 (rG 36864 [mv 50 7,bN 51 .neq 50 0])
 (.cond (.tmp 51)
 (.seq
 (rG 40960 [oO 52 (.build [(.t (.int .i64 0)),(.t (.int .i64 0)),(.t (.int .i64 0)),(.t (.int .i64 0)),.nil,.nil,.nil,.nil] []) [],mv 53 7,oS 8 4 52,mv 5 53])
 .ret)
 .skip))
 (.seq
 (.reg 45056 (some [0,1,0,0,8,0,0,120,255,0,1023]) [oO 54 (.faddr 1) [.tmp 3],oO 55 (.load 1 false) [.tmp 54],oO 56 (.load 5 true) [.tmp 9],oO 57 (.faddr 3) [.tmp 2],oO 58 (.load 3 true) [.tmp 57],oO 59 (.load 5 true) [.tmp 9],oO 60 (.load 3 true) [.tmp 10],cL 61 n_wrap_Private true [.tmp 58,.tmp 59,.tmp 60],oO 62 (.build [(.t (.int .i64 0)),(.t (.int .i64 0)),(.t (.int .i64 0)),(.t (.int .i64 0)),.nil,.nil,.nil,.nil] [(0,1),(1,5),(6,1)]) [.tmp 55,.tmp 56,.tmp 61],oO 11 (.new 8 [(.agg [(.t (.int .i64 0)),(.t (.int .i64 0)),(.t (.int .i64 0)),(.t (.int .i64 0)),.nil,.nil,.nil,.nil])]) [],oS 8 11 62])
 (.seq
 (.seq
 (rG 49152 [oO 63 (.faddr 3) [.tmp 3],oO 64 (.load 1 false) [.tmp 63],oO 65 .len [.tmp 64],bN 66 .gtr 65 1])
 (.cond (.tmp 66)
 (rG 53248 [oO 68 (.faddr 3) [.tmp 3],oO 69 (.load 1 false) [.tmp 68],oO 70 (.faddr 1) [.tmp 2],oO 71 (.load 1 false) [.tmp 70],cL 72 n_vault_Branches true [.tmp 69,.tmp 71],mv 67 72,oO 73 (.extract 0) [.tmp 67],oO 74 (.extract 1) [.tmp 67],oO 75 (.faddr 7) [.tmp 11],oS 1 75 73])
 .skip))
 (.seq
 (rG 57344 [oO 76 (.load 8 true) [.tmp 11],oS 8 4 76,mC 5 (.t (.int .i64 0))])
 .ret))))))))))
def qDa (n_ref36_Selection n_ref25_PredictDigest:Nat):AC:=
 (.seq
 (rG 4096 [oO 4 (.new 10 [(.agg [(.t (.int .i64 0)),(.t (.int .i64 0)),(.t (.int .i64 0)),.nil,(.t (.int .i64 0)),(.t (.int .i64 0)),.nil,.nil,.nil,.nil])]) [],mC 5 (.t (.int .i64 0))])
 (.seq
 (rG 8192 [mv 9 1,cL 10 n_ref36_Selection false [.tmp 9],oO 6 (.new 1 [(.t (.int .i64 0)),(.t (.int .i64 0))]) [],oS 2 6 10])
 (.seq
 (rG 12288 [mv 12 0,mv 13 1,oO 14 (.load 2 true) [.tmp 6],cL 15 n_ref25_PredictDigest true [.tmp 12,.tmp 13,.tmp 14],mv 11 15,oO 16 (.extract 0) [.tmp 11],oO 17 (.extract 1) [.tmp 11],mv 7 16,mv 8 17])
 (.seq
 (.seq
 (rG 16384 [mv 18 8,bN 19 .neq 18 0])
 (.cond (.tmp 19)
 (.seq
 (rG 20480 [oO 20 (.build [(.t (.int .i64 0)),(.t (.int .i64 0)),(.t (.int .i64 0)),.nil,(.t (.int .i64 0)),(.t (.int .i64 0)),.nil,.nil,.nil,.nil] []) [],mv 21 8,oS 10 4 20,mv 5 21])
 .ret)
 .skip))
 (.seq
 (rG 24576 [oO 22 (.load 2 true) [.tmp 6],mv 23 7,oO 24 (.build [(.t (.int .i64 0)),(.t (.int .i64 0)),(.t (.int .i64 0)),.nil,(.t (.int .i64 0)),(.t (.int .i64 0)),.nil,.nil,.nil,.nil] [(0,1),(1,2),(3,1)]) [.cst (.t (.int .i64 1)),.tmp 22,.tmp 23],oS 10 4 24,mC 5 (.t (.int .i64 0))])
 .ret)))))
def wB (n_ref40_Branch n_ref9_Digest:Nat):AC:=
 (.seq
 (.seq
 (rG 24576 [mv 18 7,mv 19 0,oO 20 .len [.tmp 19],bT 21 .lss 18 20])
 (.cond (.tmp 21)
 .skip
 (.exit 0)))
 (.seq
 (.block 1
 (.seq
 (rG 32768 [mv 25 0,mv 26 7,oO 27 (.iaddr 1) [.tmp 25,.tmp 26],oO 28 (.load 1 false) [.tmp 27],mv 29 1,cL 30 n_ref40_Branch true [.tmp 28,.tmp 29],mv 24 30,oO 31 (.extract 0) [.tmp 24],oO 32 (.extract 1) [.tmp 24],oO 8 (.new 10 [(.agg [(.t (.int .i64 0)),(.t (.int .i64 0)),(.t (.int .i64 0)),.nil,(.t (.int .i64 0)),(.t (.int .i64 0)),.nil,.nil,.nil,.nil])]) [],oS 10 8 31,mv 9 32])
 (.seq
 (.seq
 (rG 36864 [mv 33 9,bN 34 .neq 33 0])
 (.cond (.tmp 34)
 (.seq
 (rG 40960 [mv 35 9,mC 4 .nil,mv 5 35])
 .ret)
 .skip))
 (rG 45056 [mv 36 6,oO 37 (.load 10 true) [.tmp 8],oO 38 (.bslice 10 1 (.agg [(.t (.int .i64 0)),(.t (.int .i64 0)),(.t (.int .i64 0)),.nil,(.t (.int .i64 0)),(.t (.int .i64 0)),.nil,.nil,.nil,.nil]) [0]) [.tmp 37],cL 39 n_ref9_Digest true [.tmp 38],oO 40 (.bslice 1 1 .nil [0]) [.tmp 39],oO 41 (.append 1 24) [.tmp 36,.tmp 40],mv 6 41]))))
 (rG 28672 [mv 22 7,bN 23 .add 22 1,mv 7 23])))
def xE (n_ref40_Branch n_ref9_Digest:Nat):AC:=
 (.seq
 (rG 4096 [mC 4 .nil,mC 5 (.t (.int .i64 0))])
 (.seq
 (.seq
 (rG 8192 [mv 10 0,oO 11 .len [.tmp 10],bN 12 .eql 11 0,mv 13 12,mF 14 0 13,oF 15 13 .len [.tmp 14],oF 16 13 (.bin .gtr) [.tmp 15,.cst (.t (.int .i64 8))],oO 17 .pick [.tmp 13,.cst (.t (.bool true)),.tmp 16]])
 (.cond (.tmp 17)
 (.seq
 (rG 12288 [mC 4 .nil,mC 5 (.t (.int .i64 1))])
 .ret)
 .skip))
 (.seq
 (rG 16384 [mC 6 .nil])
 (.seq
 (.seq
 (rG 20480 [mC 7 (.t (.int .i64 0))])
 (.block 0
 (.loop (wB n_ref40_Branch n_ref9_Digest))))
 (.seq
 (rG 49152 [mv 42 6,mv 4 42,mC 5 (.t (.int .i64 0))])
 .ret)))))
def qFw (n_ref9_Digest:Nat):AC:=
 (.seq
 (rG 4096 [mC 2 .nil])
 (.seq
 (.seq
 (rG 8192 [mv 3 0,oO 4 .len [.tmp 3],bN 5 .eql 4 1])
 (.cond (.tmp 5)
 (.seq
 (rG 12288 [mv 6 0,oO 7 (.iaddr 1) [.tmp 6,.cst (.t (.int .i64 0))],oO 8 (.load 1 false) [.tmp 7],mv 2 8])
 .ret)
 .skip))
 (.seq
 (rG 16384 [mv 9 0,oO 10 (.build [(.t (.int .i64 0)),(.t (.int .i64 0)),(.t (.int .i64 0)),.nil,(.t (.int .i64 0)),(.t (.int .i64 0)),.nil,.nil,.nil,.nil] [(0,1),(9,1)]) [.cst (.t (.int .i64 8)),.tmp 9],oO 11 (.bslice 10 1 (.agg [(.t (.int .i64 0)),(.t (.int .i64 0)),(.t (.int .i64 0)),.nil,(.t (.int .i64 0)),(.t (.int .i64 0)),.nil,.nil,.nil,.nil]) [0]) [.tmp 10],cL 12 n_ref9_Digest true [.tmp 11],mv 2 12])
 .ret)))
def qDb (n_ref40_Branches n_ref40_join:Nat):AC:=
 (.seq
 (rG 4096 [mC 4 .nil,mC 5 (.t (.int .i64 0))])
 (.seq
 (rG 8192 [mv 9 0,mv 10 1,cL 11 n_ref40_Branches true [.tmp 9,.tmp 10],mv 8 11,oO 12 (.extract 0) [.tmp 8],oO 13 (.extract 1) [.tmp 8],mv 6 12,mv 7 13])
 (.seq
 (.seq
 (rG 12288 [mv 14 7,bN 15 .neq 14 0])
 (.cond (.tmp 15)
 (.seq
 (rG 16384 [mv 16 7,mC 4 .nil,mv 5 16])
 .ret)
 .skip))
 (.seq
 (rG 20480 [mv 17 6,cL 18 n_ref40_join true [.tmp 17],mv 4 18,mC 5 (.t (.int .i64 0))])
 .ret))))
def xD (n_ref40_Policy n_ref3_Uint n_ref1_Hash n_ref11_Make n_ref11_Private n_ref40_Branches:Nat):AC:=
 (.seq
 (rG 4096 [oO 2 .box [.tmp 0],oO 3 .box [.tmp 1],oO 4 (.new 8 [(.agg [(.t (.int .i64 0)),(.t (.int .i64 0)),(.t (.int .i64 0)),(.t (.int .i64 0)),.nil,.nil,.nil,.nil])]) [],mC 5 (.t (.int .i64 0))])
 (.seq
 (.seq
 (rG 8192 [oO 12 (.faddr 0) [.tmp 3],oO 13 (.load 1 false) [.tmp 12],oO 14 (.faddr 0) [.tmp 2],oO 15 (.load 1 false) [.tmp 14],bT 16 .neq 13 15])
 (.cond (.tmp 16)
 (.seq
 (rG 12288 [oO 17 (.build [(.t (.int .i64 0)),(.t (.int .i64 0)),(.t (.int .i64 0)),(.t (.int .i64 0)),.nil,.nil,.nil,.nil] []) [],oS 8 4 17,mC 5 (.t (.int .i64 49))])
 .ret)
 .skip))
 (.seq
 (rG 16384 [oO 19 (.faddr 3) [.tmp 3],oO 20 (.load 1 false) [.tmp 19],oO 21 (.faddr 1) [.tmp 2],oO 22 (.load 1 false) [.tmp 21],cL 23 n_ref40_Policy true [.tmp 20,.tmp 22],mv 18 23,oO 24 (.extract 0) [.tmp 18],oO 25 (.extract 1) [.tmp 18],mv 6 24,mv 7 25])
 (.seq
 (.seq
 (rG 20480 [mv 26 7,bN 27 .neq 26 0])
 (.cond (.tmp 27)
 (.seq
 (rG 24576 [oO 28 (.build [(.t (.int .i64 0)),(.t (.int .i64 0)),(.t (.int .i64 0)),(.t (.int .i64 0)),.nil,.nil,.nil,.nil] []) [],mv 29 7,oS 8 4 28,mv 5 29])
 .ret)
 .skip))
 (.seq
 (.reg 28672 (some [0,1,3,0,8,31,0,64,255,511,1023]) [oO 30 (.faddr 0) [.tmp 3],oO 31 (.load 1 false) [.tmp 30],cL 32 n_ref3_Uint false [.cst .nil,.cst (.t (.int .i64 2)),.tmp 31],oO 33 (.faddr 1) [.tmp 3],oO 34 (.load 1 false) [.tmp 33],cL 35 n_ref3_Uint false [.cst .nil,.cst (.t (.int .i64 2)),.tmp 34],oO 36 (.faddr 2) [.tmp 3],oO 37 (.load 1 false) [.tmp 36],oO 38 (.bslice 1 3 .nil [0,1,2]) [.tmp 32,.tmp 35,.tmp 37],cL 39 n_ref1_Hash false [.cst (.t (.int .i64 24)),.tmp 38],mv 8 39])
 (.seq
 (rG 32768 [mv 41 8,mv 42 6,oO 43 (.build [(.t (.int .i64 0)),(.t (.int .i64 0)),(.t (.int .i64 0)),.nil,.nil] [(0,1),(3,1)]) [.cst (.t (.int .i64 3)),.tmp 42],oO 44 (.faddr 2) [.tmp 3],oO 45 (.load 1 false) [.tmp 44],cL 46 n_ref11_Make true [.tmp 41,.tmp 43,.cst .nil,.tmp 45],mv 40 46,oO 47 (.extract 0) [.tmp 40],oO 48 (.extract 1) [.tmp 40],oO 49 (.extract 2) [.tmp 40],oO 9 (.new 5 [(.agg [(.t (.int .i64 0)),(.t (.int .i64 0)),(.t (.int .i64 0)),.nil,.nil])]) [],oO 10 (.new 3 [(.agg [.nil,.nil,.nil])]) [],oS 5 9 47,oS 3 10 48,mv 7 49])
 (.seq
 (.seq
 (rG 36864 [mv 50 7,bN 51 .neq 50 0])
 (.cond (.tmp 51)
 (.seq
 (rG 40960 [oO 52 (.build [(.t (.int .i64 0)),(.t (.int .i64 0)),(.t (.int .i64 0)),(.t (.int .i64 0)),.nil,.nil,.nil,.nil] []) [],mv 53 7,oS 8 4 52,mv 5 53])
 .ret)
 .skip))
 (.seq
 (.reg 45056 (some [0,1,0,0,8,0,0,120,255,0,1023]) [oO 54 (.faddr 1) [.tmp 3],oO 55 (.load 1 false) [.tmp 54],oO 56 (.load 5 true) [.tmp 9],oO 57 (.faddr 3) [.tmp 2],oO 58 (.load 3 true) [.tmp 57],oO 59 (.load 5 true) [.tmp 9],oO 60 (.load 3 true) [.tmp 10],cL 61 n_ref11_Private true [.tmp 58,.tmp 59,.tmp 60],oO 62 (.build [(.t (.int .i64 0)),(.t (.int .i64 0)),(.t (.int .i64 0)),(.t (.int .i64 0)),.nil,.nil,.nil,.nil] [(0,1),(1,5),(6,1)]) [.tmp 55,.tmp 56,.tmp 61],oO 11 (.new 8 [(.agg [(.t (.int .i64 0)),(.t (.int .i64 0)),(.t (.int .i64 0)),(.t (.int .i64 0)),.nil,.nil,.nil,.nil])]) [],oS 8 11 62])
 (.seq
 (.seq
 (rG 49152 [oO 63 (.faddr 3) [.tmp 3],oO 64 (.load 1 false) [.tmp 63],oO 65 .len [.tmp 64],bN 66 .gtr 65 1])
 (.cond (.tmp 66)
 (rG 53248 [oO 68 (.faddr 3) [.tmp 3],oO 69 (.load 1 false) [.tmp 68],oO 70 (.faddr 1) [.tmp 2],oO 71 (.load 1 false) [.tmp 70],cL 72 n_ref40_Branches true [.tmp 69,.tmp 71],mv 67 72,oO 73 (.extract 0) [.tmp 67],oO 74 (.extract 1) [.tmp 67],oO 75 (.faddr 7) [.tmp 11],oS 1 75 73])
 .skip))
 (.seq
 (rG 57344 [oO 76 (.load 8 true) [.tmp 11],oS 8 4 76,mC 5 (.t (.int .i64 0))])
 .ret))))))))))
def vW (n_ref10_Same n_ref1_Same n_ref1_Lists:Nat):AC:=
 (.seq
 (rG 4096 [oO 2 .box [.tmp 0],oO 3 .box [.tmp 1],mC 4 (.t (.bool false))])
 (.seq
 (rG 8192 [oO 5 (.faddr 0) [.tmp 2],oO 6 (.load 1 false) [.tmp 5],oO 7 (.faddr 0) [.tmp 3],oO 8 (.load 1 false) [.tmp 7],bT 9 .eql 6 8,mv 10 9,oG 11 10 (.faddr 1) [.tmp 2],oG 12 10 (.load 5 true) [.tmp 11],oG 13 10 (.faddr 1) [.tmp 3],oG 14 10 (.load 5 true) [.tmp 13],cG 15 10 n_ref10_Same false [.tmp 12,.tmp 14],oO 16 .pick [.tmp 10,.tmp 15,.cst (.t (.bool false))],mv 17 16,oG 18 17 (.faddr 6) [.tmp 2],oG 19 17 (.load 1 false) [.tmp 18],oG 20 17 (.faddr 6) [.tmp 3],oG 21 17 (.load 1 false) [.tmp 20],cG 22 17 n_ref1_Same false [.tmp 19,.tmp 21],oO 23 .pick [.tmp 17,.tmp 22,.cst (.t (.bool false))],mv 24 23,oG 25 24 (.faddr 7) [.tmp 2],oG 26 24 (.load 1 false) [.tmp 25],oG 27 24 (.faddr 7) [.tmp 3],oG 28 24 (.load 1 false) [.tmp 27],cG 29 24 n_ref1_Lists false [.tmp 26,.tmp 28],oO 30 .pick [.tmp 24,.tmp 29,.cst (.t (.bool false))],mv 4 30])
 .ret))
def qNy:AC:=
 (.seq
 (rG 4096 [mC 0 .nil])
 (.seq
 (rG 8192 [oO 1 (.build [(.t (.int .i64 0)),(.t (zU [])),(.t (.int .i64 0)),.nil] [(0,1),(1,1)]) [.cst (.t (.int .i64 1)),.cst (.t (zU [102]))],oO 2 (.build [(.t (.int .i64 0)),(.t (zU [])),(.t (.int .i64 0)),.nil] [(0,1),(1,1),(2,1)]) [.cst (.t (.int .i64 3)),.cst (.t (zU [107])),.cst (.t (.int .i64 1))],oO 3 (.bslice 4 2 (.agg [(.t (.int .i64 0)),(.t (zU [])),(.t (.int .i64 0)),.nil]) [0,1]) [.tmp 1,.tmp 2],oO 4 (.build [(.t (.int .i64 0)),(.t (zU [])),(.t (.int .i64 0)),.nil] [(0,1),(1,1)]) [.cst (.t (.int .i64 1)),.cst (.t (zU [102]))],oO 5 (.build [(.t (.int .i64 0)),(.t (zU [])),(.t (.int .i64 0)),.nil] [(0,1),(1,1),(2,1)]) [.cst (.t (.int .i64 3)),.cst (.t (zU [107])),.cst (.t (.int .i64 2))],oO 6 (.bslice 4 2 (.agg [(.t (.int .i64 0)),(.t (zU [])),(.t (.int .i64 0)),.nil]) [0,1]) [.tmp 4,.tmp 5],oO 7 (.bslice 1 2 .nil [0,1]) [.tmp 3,.tmp 6],mv 0 7])
 .ret))
def qI8 (n_law40_two n_vault_Branches n_vault_Policy n_draw_Enrolled n_vault_Bind n_ref1_Same:Nat):AC:=
 (.seq
 (rG 4096 [mC 0 (.t (.bool false))])
 (.seq
 (rG 8192 [cL 8 n_law40_two true [],cL 9 n_vault_Branches true [.tmp 8,.cst (.t (.int .i64 2))],mv 7 9,oO 10 (.extract 0) [.tmp 7],oO 11 (.extract 1) [.tmp 7],mv 1 10,mv 2 11])
 (.seq
 (rG 12288 [cL 13 n_law40_two true [],cL 14 n_vault_Policy true [.tmp 13,.cst (.t (.int .i64 2))],mv 12 14,oO 15 (.extract 0) [.tmp 12],oO 16 (.extract 1) [.tmp 12],mv 3 15,mv 4 16])
 (.seq
 (rG 16384 [cL 18 n_draw_Enrolled true [.cst (.t (.int .i64 1)),.cst (.t (.int .i64 2))],oO 19 (.bslice 1 1 (.t (qA 0)) [0]) [.cst (.t (qA 115))],oO 20 .idsl [.tmp 19],cL 21 n_law40_two true [],oO 22 (.build [(.t (.int .i64 0)),(.t (.int .i64 0)),.nil,.nil] [(0,1),(1,1),(2,1),(3,1)]) [.cst (.t (.int .i64 1)),.cst (.t (.int .i64 3)),.tmp 20,.tmp 21],cL 23 n_vault_Bind true [.tmp 18,.tmp 22],mv 17 23,oO 24 (.extract 0) [.tmp 17],oO 25 (.extract 1) [.tmp 17],oO 5 (.new 8 [(.agg [(.t (.int .i64 0)),(.t (.int .i64 0)),(.t (.int .i64 0)),(.t (.int .i64 0)),.nil,.nil,.nil,.nil])]) [],oS 8 5 24,mv 6 25])
 (.seq
 (rG 20480 [mv 26 2,bN 27 .eql 26 0,mv 28 27,mG 29 4 28,oG 30 28 (.bin .eql) [.tmp 29,.cst (.t (.int .i64 0))],oO 31 .pick [.tmp 28,.tmp 30,.cst (.t (.bool false))],mv 32 31,mG 33 6 32,oG 34 32 (.bin .eql) [.tmp 33,.cst (.t (.int .i64 0))],oO 35 .pick [.tmp 32,.tmp 34,.cst (.t (.bool false))],mv 36 35,mG 37 1 36,oG 38 36 .len [.tmp 37],oG 39 36 (.bin .eql) [.tmp 38,.cst (.t (.int .i64 2))],oO 40 .pick [.tmp 36,.tmp 39,.cst (.t (.bool false))],mv 41 40,mG 42 3 41,oG 43 41 .len [.tmp 42],oG 44 41 (.bin .eql) [.tmp 43,.cst (.t (.int .i64 32))],oO 45 .pick [.tmp 41,.tmp 44,.cst (.t (.bool false))],mv 46 45,oG 47 46 (.faddr 7) [.tmp 5],oG 48 46 (.load 1 false) [.tmp 47],oG 49 46 .len [.tmp 48],oG 50 46 (.bin .eql) [.tmp 49,.cst (.t (.int .i64 2))],oO 51 .pick [.tmp 46,.tmp 50,.cst (.t (.bool false))],mv 52 51,oG 53 52 (.faddr 1) [.tmp 5],oG 54 52 (.faddr 0) [.tmp 53],oG 55 52 (.load 1 false) [.tmp 54],oG 56 52 (.bin .eql) [.tmp 55,.cst (.t (.int .i64 3))],oO 57 .pick [.tmp 52,.tmp 56,.cst (.t (.bool false))],mv 58 57,oG 59 58 (.faddr 1) [.tmp 5],oG 60 58 (.faddr 3) [.tmp 59],oG 61 58 (.load 1 false) [.tmp 60],mG 62 3 58,cG 63 58 n_ref1_Same false [.tmp 61,.tmp 62],oO 64 .pick [.tmp 58,.tmp 63,.cst (.t (.bool false))],mv 65 64,oG 66 65 (.faddr 6) [.tmp 5],oG 67 65 (.load 1 false) [.tmp 66],oG 68 65 .len [.tmp 67],oG 69 65 (.bin .gtr) [.tmp 68,.cst (.t (.int .i64 32))],oO 70 .pick [.tmp 65,.tmp 69,.cst (.t (.bool false))],mv 0 70])
 .ret)))))
def kD (n_draw_Codes_Next n_draw_Chain:Nat):AC:=
 (.seq
 (.seq
 (rG 16384 [mv 10 1,bN 11 .gtr 10 0])
 (.cond (.tmp 11)
 .skip
 (.exit 0)))
 (.seq
 (.block 1
 (.seq
 (rG 24576 [mv 14 5,cL 15 n_draw_Codes_Next true [.tmp 14,.cst (.t (.int .i64 100))],mv 7 15])
 (.seq
 (.seq
 (rG 28672 [mv 16 7,mv 17 0,oO 18 .len [.tmp 17],bT 19 .gtr 16 18])
 (.cond (.tmp 19)
 (rG 32768 [mC 7 (.t (.int .i64 0))])
 .skip))
 (rG 36864 [mv 20 6,mv 21 0,mv 22 7,oO 23 (.slice 1 true false false) [.tmp 21,.tmp 22],cL 24 n_draw_Chain true [.tmp 23],oO 25 (.bslice 1 1 .nil [0]) [.tmp 24],oO 26 (.append 1 24) [.tmp 20,.tmp 25],mv 6 26]))))
 (rG 20480 [mv 12 1,bN 13 .sub 12 1,mv 1 13])))
def qHa (n_draw_New n_draw_Codes_Next n_draw_Chain:Nat):AC:=
 (.seq
 (rG 4096 [mC 4 .nil])
 (.seq
 (rG 8192 [mv 8 0,cL 9 n_draw_New true [.tmp 8,.cst (.t (.int .i64 120))],mv 5 9])
 (.seq
 (rG 12288 [mC 6 .nil])
 (.seq
 (.block 0
 (.loop (kD n_draw_Codes_Next n_draw_Chain)))
 (.seq
 (rG 40960 [mv 27 6,mv 4 27])
 .ret)))))
def qAr (n_draw_Cut:Nat):AC:=
 (.seq
 (.seq
 (rG 53248 [mv 31 7,mv 32 6,oO 33 .len [.tmp 32],bT 34 .lss 31 33])
 (.cond (.tmp 34)
 .skip
 (.exit 2)))
 (.seq
 (.block 3
 (rG 61440 [mv 37 6,mv 38 7,mv 39 6,mv 40 7,oO 41 (.iaddr 4) [.tmp 39,.tmp 40],oO 42 (.faddr 3) [.tmp 41],oO 43 (.load 1 false) [.tmp 42],cL 44 n_draw_Cut true [.tmp 43,.cst (.t (.int .i64 80))],oO 45 (.iaddr 4) [.tmp 37,.tmp 38],oO 46 (.faddr 3) [.tmp 45],oS 1 46 44]))
 (rG 57344 [mv 35 7,bN 36 .add 35 1,mv 7 36])))
def kO (n_draw_Cut:Nat):AC:=
 (.seq
 (.seq
 (rG 24576 [mv 13 4,mv 14 0,oO 15 .len [.tmp 14],bT 16 .lss 13 15])
 (.cond (.tmp 16)
 .skip
 (.exit 0)))
 (.seq
 (.block 1
 (.seq
 (rG 32768 [mv 19 0,mv 20 4,oO 21 (.iaddr 1) [.tmp 19,.tmp 20],oO 22 (.load 1 false) [.tmp 21],mv 5 22])
 (.seq
 (.seq
 (rG 36864 [mv 23 5,oO 24 .len [.tmp 23],bN 25 .gtr 24 10])
 (.cond (.tmp 25)
 (rG 40960 [mv 26 5,oO 27 (.slice 4 false true false) [.tmp 26,.cst (.t (.int .i64 10))],mv 5 27])
 .skip))
 (.seq
 (rG 45056 [oO 28 (.bslice 4 0 (.agg [(.t (.int .i64 0)),(.t (zU [])),(.t (.int .i64 0)),.nil]) []) [],mv 29 5,oO 30 (.append 4 56) [.tmp 28,.tmp 29],mv 6 30])
 (.seq
 (.seq
 (rG 49152 [mC 7 (.t (.int .i64 0))])
 (.block 2
 (.loop (qAr n_draw_Cut))))
 (rG 65536 [mv 47 3,mv 48 6,oO 49 (.bslice 1 1 .nil [0]) [.tmp 48],oO 50 (.append 1 24) [.tmp 47,.tmp 49],mv 3 50]))))))
 (rG 28672 [mv 17 4,bN 18 .add 17 1,mv 4 18])))
def qHb (n_draw_Cut:Nat):AC:=
 (.seq
 (rG 4096 [mC 2 .nil])
 (.seq
 (.seq
 (rG 8192 [mv 8 0,oO 9 .len [.tmp 8],bN 10 .gtr 9 10])
 (.cond (.tmp 10)
 (rG 12288 [mv 11 0,oO 12 (.slice 1 false true false) [.tmp 11,.cst (.t (.int .i64 10))],mv 0 12])
 .skip))
 (.seq
 (rG 16384 [mC 3 .nil])
 (.seq
 (.seq
 (rG 20480 [mC 4 (.t (.int .i64 0))])
 (.block 0
 (.loop (kO n_draw_Cut))))
 (.seq
 (rG 69632 [mv 51 3,mv 2 51])
 .ret)))))
def kE (n_ref1_Same:Nat):AC:=
 (.seq
 (.seq
 (rG 12288 [mv 6 5,mv 7 0,oO 8 .len [.tmp 7],bT 9 .lss 6 8])
 (.cond (.tmp 9)
 .skip
 (.exit 0)))
 (.seq
 (.block 1
 (.seq
 (rG 20480 [mv 12 0,mv 13 5,oO 14 (.iaddr 1) [.tmp 12,.tmp 13],oO 15 (.load 1 false) [.tmp 14],mv 16 1,cL 17 n_ref1_Same false [.tmp 15,.tmp 16]])
 (.cond (.tmp 17)
 (.seq
 (rG 24576 [mC 4 (.t (.bool true))])
 .ret)
 .skip)))
 (rG 16384 [mv 10 5,bN 11 .add 10 1,mv 5 11])))
def qHc (n_ref1_Same:Nat):AC:=
 (.seq
 (rG 4096 [mC 4 (.t (.bool false))])
 (.seq
 (.seq
 (rG 8192 [mC 5 (.t (.int .i64 0))])
 (.block 0
 (.loop (kE n_ref1_Same))))
 (.seq
 (rG 28672 [mC 4 (.t (.bool false))])
 .ret)))
def zV (n_vault_Branch n_ref40_Branch n_ref1_Same n_ref36_Selection n_predict_Digest n_policy_Check:Nat):AC:=
 (.seq
 (rG 32768 [bT 31 .lss 30 29])
 (.seq
 (.cond (.tmp 31)
 .skip
 (.exit 0))
 (.seq
 (.block 1
 (.seq
 (rG 36864 [oO 32 (.iaddr 1) [.tmp 28,.tmp 30],oO 33 (.load 1 false) [.tmp 32],mv 8 33])
 (.seq
 (rG 40960 [mv 35 8,mv 36 2,cL 37 n_vault_Branch true [.tmp 35,.tmp 36],mv 34 37,oO 38 (.extract 0) [.tmp 34],oO 39 (.extract 1) [.tmp 34],oO 9 (.new 10 [(.agg [(.t (.int .i64 0)),(.t (.int .i64 0)),(.t (.int .i64 0)),.nil,(.t (.int .i64 0)),(.t (.int .i64 0)),.nil,.nil,.nil,.nil])]) [],oS 10 9 38,mv 10 39])
 (.seq
 (rG 45056 [mv 41 8,mv 42 2,cL 43 n_ref40_Branch true [.tmp 41,.tmp 42],mv 40 43,oO 44 (.extract 0) [.tmp 40],oO 45 (.extract 1) [.tmp 40],oO 11 (.new 10 [(.agg [(.t (.int .i64 0)),(.t (.int .i64 0)),(.t (.int .i64 0)),.nil,(.t (.int .i64 0)),(.t (.int .i64 0)),.nil,.nil,.nil,.nil])]) [],oS 10 11 44,mv 12 45])
 (.seq
 (.seq
 (rG 49152 [mv 46 10,mv 47 12,bT 48 .neq 46 47,mv 49 48,oF 50 49 (.faddr 0) [.tmp 9],oF 51 49 (.load 1 false) [.tmp 50],oF 52 49 (.faddr 0) [.tmp 11],oF 53 49 (.load 1 false) [.tmp 52],oF 54 49 (.bin .neq) [.tmp 51,.tmp 53],oO 55 .pick [.tmp 49,.cst (.t (.bool true)),.tmp 54],mv 56 55,oF 57 56 (.faddr 1) [.tmp 9],oF 58 56 (.load 2 true) [.tmp 57],oF 59 56 (.faddr 1) [.tmp 11],oF 60 56 (.load 2 true) [.tmp 59],oF 61 56 (.aeq 2 .i64 true) [.tmp 58,.tmp 60],oO 62 .pick [.tmp 56,.cst (.t (.bool true)),.tmp 61],mv 63 62,oF 64 63 (.faddr 3) [.tmp 9],oF 65 63 (.load 1 false) [.tmp 64],oF 66 63 (.faddr 3) [.tmp 11],oF 67 63 (.load 1 false) [.tmp 66],cF 68 63 n_ref1_Same false [.tmp 65,.tmp 67],oF 69 63 (.un .not) [.tmp 68],oO 70 .pick [.tmp 63,.cst (.t (.bool true)),.tmp 69]])
 (.cond (.tmp 70)
 (.seq
 (rG 53248 [mC 6 (.t (.bool false))])
 .ret)
 .skip))
 (.seq
 (rG 57344 [mv 71 10,bN 72 .eql 71 0])
 (.cond (.tmp 72)
 (.seq
 (rG 61440 [mv 74 8,mv 75 2,mv 76 2,cL 77 n_ref36_Selection false [.tmp 76],cL 78 n_predict_Digest true [.tmp 74,.tmp 75,.tmp 77],mv 73 78,oO 79 (.extract 0) [.tmp 73],oO 80 (.extract 1) [.tmp 73],mv 13 79,mv 14 80])
 (.seq
 (rG 65536 [mv 81 14,bN 82 .neq 81 0,mv 83 82,oF 84 83 (.faddr 3) [.tmp 9],oF 85 83 (.load 1 false) [.tmp 84],mF 86 13 83,cF 87 83 n_ref1_Same false [.tmp 85,.tmp 86],oF 88 83 (.un .not) [.tmp 87],oO 89 .pick [.tmp 83,.cst (.t (.bool true)),.tmp 88],mv 90 89,oF 91 90 (.load 10 true) [.tmp 9],cF 92 90 n_policy_Check false [.tmp 91],oF 93 90 (.bin .neq) [.tmp 92,.cst (.t (.int .i64 0))],oO 94 .pick [.tmp 90,.cst (.t (.bool true)),.tmp 93]])
 (.cond (.tmp 94)
 (.seq
 (rG 69632 [mC 6 (.t (.bool false))])
 .ret)
 .skip)))
 .skip)))))))
 (rG 73728 [bN 95 .add 30 1,mv 30 95]))))
def xN (n_law40_awake n_draw_Mod n_draw_Chain n_vault_Branch n_ref40_Branch n_ref1_Same n_ref36_Selection n_predict_Digest n_policy_Check:Nat):AC:=
 (.seq
 (rG 4096 [mC 6 (.t (.bool false))])
 (.seq
 (.seq
 (rG 8192 [cL 15 n_law40_awake false [],oO 16 (.un .not) [.tmp 15]])
 (.cond (.tmp 16)
 (.seq
 (rG 12288 [mC 6 (.t (.bool false))])
 .ret)
 .skip))
 (.seq
 (.seq
 (rG 16384 [mv 17 0,oO 18 .len [.tmp 17],bN 19 .gtr 18 10])
 (.cond (.tmp 19)
 (rG 20480 [mv 20 0,oO 21 (.slice 4 false true false) [.tmp 20,.cst (.t (.int .i64 10))],mv 0 21])
 .skip))
 (.seq
 (rG 24576 [mv 22 2,cL 23 n_draw_Mod false [.tmp 22,.cst (.t (.int .i64 6))],bN 24 .sub 23 1,mv 2 24])
 (.seq
 (.seq
 (rG 28672 [mv 25 0,mv 26 1,cL 27 n_draw_Chain true [.tmp 26],oO 28 (.bslice 1 2 .nil [0,1]) [.tmp 25,.tmp 27],oO 29 .len [.tmp 28],mC 30 (.t (.int .i64 0))])
 (.block 0
 (.loop (zV n_vault_Branch n_ref40_Branch n_ref1_Same n_ref36_Selection n_predict_Digest n_policy_Check))))
 (.seq
 (rG 77824 [mC 6 (.t (.bool true))])
 .ret))))))
def vC (n_vault_Branches n_ref40_Branches n_vault_Policy n_ref40_Policy n_ref1_Lists n_ref1_Same:Nat):AC:=
 (.seq
 (rG 24576 [bT 32 .lss 31 30])
 (.seq
 (.cond (.tmp 32)
 .skip
 (.exit 0))
 (.seq
 (.block 1
 (.seq
 (rG 28672 [oO 33 (.iaddr 1) [.tmp 29,.tmp 31],oO 34 (.load 1 false) [.tmp 33],mv 10 34])
 (.seq
 (rG 32768 [mv 36 10,mv 37 3,cL 38 n_vault_Branches true [.tmp 36,.tmp 37],mv 35 38,oO 39 (.extract 0) [.tmp 35],oO 40 (.extract 1) [.tmp 35],mv 11 39,mv 12 40])
 (.seq
 (rG 36864 [mv 42 10,mv 43 3,cL 44 n_ref40_Branches true [.tmp 42,.tmp 43],mv 41 44,oO 45 (.extract 0) [.tmp 41],oO 46 (.extract 1) [.tmp 41],mv 13 45,mv 14 46])
 (.seq
 (rG 40960 [mv 48 10,mv 49 3,cL 50 n_vault_Policy true [.tmp 48,.tmp 49],mv 47 50,oO 51 (.extract 0) [.tmp 47],oO 52 (.extract 1) [.tmp 47],mv 15 51,mv 16 52])
 (.seq
 (rG 45056 [mv 54 10,mv 55 3,cL 56 n_ref40_Policy true [.tmp 54,.tmp 55],mv 53 56,oO 57 (.extract 0) [.tmp 53],oO 58 (.extract 1) [.tmp 53],mv 17 57,mv 18 58])
 (.seq
 (rG 49152 [mv 59 12,mv 60 14,bT 61 .neq 59 60,mv 62 61,mF 63 16 62,mF 64 18 62,oF 65 62 (.bin .neq) [.tmp 63,.tmp 64],oO 66 .pick [.tmp 62,.cst (.t (.bool true)),.tmp 65],mv 67 66,mF 68 11 67,mF 69 13 67,cF 70 67 n_ref1_Lists false [.tmp 68,.tmp 69],oF 71 67 (.un .not) [.tmp 70],oO 72 .pick [.tmp 67,.cst (.t (.bool true)),.tmp 71],mv 73 72,mF 74 15 73,mF 75 17 73,cF 76 73 n_ref1_Same false [.tmp 74,.tmp 75],oF 77 73 (.un .not) [.tmp 76],oO 78 .pick [.tmp 73,.cst (.t (.bool true)),.tmp 77]])
 (.cond (.tmp 78)
 (.seq
 (rG 53248 [mC 8 (.t (.bool false))])
 .ret)
 .skip))))))))
 (rG 57344 [bN 79 .add 31 1,mv 31 79]))))
def qCr (n_law40_awake n_draw_Active n_law40_few n_draw_Mod n_law40_chains n_vault_Branches n_ref40_Branches n_vault_Policy n_ref40_Policy n_ref1_Lists n_ref1_Same:Nat):AC:=
 (.seq
 (rG 4096 [mC 8 (.t (.bool false))])
 (.seq
 (.seq
 (rG 8192 [cL 19 n_law40_awake false [],oO 20 (.un .not) [.tmp 19]])
 (.cond (.tmp 20)
 (.seq
 (rG 12288 [mC 8 (.t (.bool false))])
 .ret)
 .skip))
 (.seq
 (rG 16384 [mv 21 3,cL 22 n_draw_Active false [.tmp 21],mv 3 22])
 (.seq
 (.seq
 (rG 20480 [mv 23 0,cL 24 n_law40_few true [.tmp 23],mv 25 1,mv 26 2,cL 27 n_draw_Mod false [.tmp 26,.cst (.t (.int .i64 10))],cL 28 n_law40_chains true [.tmp 25,.tmp 27],oO 29 (.bslice 1 2 .nil [0,1]) [.tmp 24,.tmp 28],oO 30 .len [.tmp 29],mC 31 (.t (.int .i64 0))])
 (.block 0
 (.loop (vC n_vault_Branches n_ref40_Branches n_vault_Policy n_ref40_Policy n_ref1_Lists n_ref1_Same))))
 (.seq
 (rG 61440 [mC 8 (.t (.bool true))])
 .ret)))))
def jD (n_ref40_Branch n_ref1_Same:Nat):AC:=
 (.seq
 (.seq
 (rG 98304 [mv 106 23,mv 107 11,oO 108 .len [.tmp 107],bT 109 .lss 106 108])
 (.cond (.tmp 109)
 .skip
 (.exit 0)))
 (.seq
 (.block 1
 (.seq
 (rG 106496 [mv 113 11,mv 114 23,oO 115 (.iaddr 1) [.tmp 113,.tmp 114],oO 116 (.load 1 false) [.tmp 115],mv 117 4,cL 118 n_ref40_Branch true [.tmp 116,.tmp 117],mv 112 118,oO 119 (.extract 0) [.tmp 112],oO 120 (.extract 1) [.tmp 112],oO 24 (.new 10 [(.agg [(.t (.int .i64 0)),(.t (.int .i64 0)),(.t (.int .i64 0)),.nil,(.t (.int .i64 0)),(.t (.int .i64 0)),.nil,.nil,.nil,.nil])]) [],oS 10 24 119,mv 25 120])
 (rG 110592 [mv 121 22,mv 122 121,oF 123 122 (.faddr 3) [.tmp 19],oF 124 122 (.load 1 false) [.tmp 123],oF 125 122 (.faddr 3) [.tmp 24],oF 126 122 (.load 1 false) [.tmp 125],cF 127 122 n_ref1_Same false [.tmp 124,.tmp 126],oO 128 .pick [.tmp 122,.cst (.t (.bool true)),.tmp 127],mv 22 128])))
 (rG 102400 [mv 110 23,bN 111 .add 110 1,mv 23 111])))
def kN (n_law40_awake n_draw_Active n_draw_Mod n_law40_chains n_vault_Policy n_vault_Branches n_vault_Branch n_ref9_Digest n_law40_member n_ref9_Extend n_ref1_Same n_draw_Chain n_ref40_Branch:Nat):AC:=
 (.seq
 (rG 4096 [mC 10 (.t (.bool false))])
 (.seq
 (.seq
 (rG 8192 [cL 26 n_law40_awake false [],oO 27 (.un .not) [.tmp 26]])
 (.cond (.tmp 27)
 (.seq
 (rG 12288 [mC 10 (.t (.bool false))])
 .ret)
 .skip))
 (.seq
 (rG 16384 [mv 28 4,cL 29 n_draw_Active false [.tmp 28],mv 4 29])
 (.seq
 (rG 20480 [mv 30 0,mv 31 2,cL 32 n_draw_Mod false [.tmp 31,.cst (.t (.int .i64 4))],oO 33 (.bin .add) [.cst (.t (.int .i64 1)),.tmp 32],cL 34 n_law40_chains true [.tmp 30,.tmp 33],mv 11 34])
 (.seq
 (rG 24576 [mv 36 11,mv 37 4,cL 38 n_vault_Policy true [.tmp 36,.tmp 37],mv 35 38,oO 39 (.extract 0) [.tmp 35],oO 40 (.extract 1) [.tmp 35],mv 12 39,mv 13 40])
 (.seq
 (rG 28672 [mv 42 11,mv 43 4,cL 44 n_vault_Branches true [.tmp 42,.tmp 43],mv 41 44,oO 45 (.extract 0) [.tmp 41],oO 46 (.extract 1) [.tmp 41],mv 14 45,mv 15 46])
 (.seq
 (.seq
 (rG 32768 [mv 47 13,bN 48 .neq 47 0,mv 49 48,mF 50 15 49,oF 51 49 (.bin .neq) [.tmp 50,.cst (.t (.int .i64 0))],oO 52 .pick [.tmp 49,.cst (.t (.bool true)),.tmp 51],mv 53 52,mF 54 14 53,oF 55 53 .len [.tmp 54],mF 56 11 53,oF 57 53 .len [.tmp 56],oF 58 53 (.bin .neq) [.tmp 55,.tmp 57],oO 59 .pick [.tmp 53,.cst (.t (.bool true)),.tmp 58]])
 (.cond (.tmp 59)
 (.seq
 (rG 36864 [mC 10 (.t (.bool false))])
 .ret)
 .skip))
 (.seq
 (rG 40960 [mv 61 11,mv 62 3,mv 63 11,oO 64 .len [.tmp 63],cL 65 n_draw_Mod false [.tmp 62,.tmp 64],oO 66 (.iaddr 1) [.tmp 61,.tmp 65],oO 67 (.load 1 false) [.tmp 66],mv 68 4,cL 69 n_vault_Branch true [.tmp 67,.tmp 68],mv 60 69,oO 70 (.extract 0) [.tmp 60],oO 71 (.extract 1) [.tmp 60],oO 16 (.new 10 [(.agg [(.t (.int .i64 0)),(.t (.int .i64 0)),(.t (.int .i64 0)),.nil,(.t (.int .i64 0)),(.t (.int .i64 0)),.nil,.nil,.nil,.nil])]) [],oS 10 16 70,mv 17 71])
 (.seq
 (rG 45056 [oO 72 (.load 10 true) [.tmp 16],oO 73 (.bslice 10 1 (.agg [(.t (.int .i64 0)),(.t (.int .i64 0)),(.t (.int .i64 0)),.nil,(.t (.int .i64 0)),(.t (.int .i64 0)),.nil,.nil,.nil,.nil]) [0]) [.tmp 72],cL 74 n_ref9_Digest true [.tmp 73],mv 18 74])
 (.seq
 (.seq
 (rG 49152 [mv 75 17,bN 76 .neq 75 0,mv 77 76,mF 78 14 77,mF 79 18 77,cF 80 77 n_law40_member false [.tmp 78,.tmp 79],oF 81 77 (.un .not) [.tmp 80],oO 82 .pick [.tmp 77,.cst (.t (.bool true)),.tmp 81]])
 (.cond (.tmp 82)
 (.seq
 (rG 53248 [mC 10 (.t (.bool false))])
 .ret)
 .skip))
 (.seq
 (.seq
 (rG 57344 [mv 83 11,oO 84 .len [.tmp 83],bN 85 .gtr 84 1])
 (.cond (.tmp 85)
 (rG 61440 [mv 86 18,mv 87 14,oO 88 (.build [(.t (.int .i64 0)),(.t (.int .i64 0)),(.t (.int .i64 0)),.nil,(.t (.int .i64 0)),(.t (.int .i64 0)),.nil,.nil,.nil,.nil] [(0,1),(9,1)]) [.cst (.t (.int .i64 8)),.tmp 87],cL 89 n_ref9_Extend false [.tmp 86,.tmp 88],mv 18 89])
 .skip))
 (.seq
 (.seq
 (rG 65536 [mv 90 18,mv 91 12,cL 92 n_ref1_Same false [.tmp 90,.tmp 91],oO 93 (.un .not) [.tmp 92]])
 (.cond (.tmp 93)
 (.seq
 (rG 69632 [mC 10 (.t (.bool false))])
 .ret)
 .skip))
 (.seq
 (rG 73728 [mv 95 1,cL 96 n_draw_Chain true [.tmp 95],mv 97 4,cL 98 n_vault_Branch true [.tmp 96,.tmp 97],mv 94 98,oO 99 (.extract 0) [.tmp 94],oO 100 (.extract 1) [.tmp 94],oO 19 (.new 10 [(.agg [(.t (.int .i64 0)),(.t (.int .i64 0)),(.t (.int .i64 0)),.nil,(.t (.int .i64 0)),(.t (.int .i64 0)),.nil,.nil,.nil,.nil])]) [],oS 10 19 99,mv 20 100])
 (.seq
 (.seq
 (rG 77824 [mv 101 20,bN 102 .neq 101 0])
 (.cond (.tmp 102)
 (.seq
 (rG 81920 [mC 10 (.t (.bool false))])
 .ret)
 .skip))
 (.seq
 (rG 86016 [oO 103 (.load 10 true) [.tmp 19],oO 104 (.bslice 10 1 (.agg [(.t (.int .i64 0)),(.t (.int .i64 0)),(.t (.int .i64 0)),.nil,(.t (.int .i64 0)),(.t (.int .i64 0)),.nil,.nil,.nil,.nil]) [0]) [.tmp 103],cL 105 n_ref9_Digest true [.tmp 104],mv 21 105])
 (.seq
 (rG 90112 [mC 22 (.t (.bool false))])
 (.seq
 (.seq
 (rG 94208 [mC 23 (.t (.int .i64 0))])
 (.block 0
 (.loop (jD n_ref40_Branch n_ref1_Same))))
 (.seq
 (rG 114688 [mv 129 14,mv 130 21,cL 131 n_law40_member false [.tmp 129,.tmp 130],mv 132 22,oO 133 (.beq false) [.tmp 131,.tmp 132],mv 134 133,mF 135 22 134,oF 136 134 (.un .not) [.tmp 135],oO 137 .pick [.tmp 134,.cst (.t (.bool true)),.tmp 136],mv 10 137])
 .ret))))))))))))))))))
def kC (n_law40_awake n_draw_Mod n_draw_Strong n_draw_Enrolled n_draw_Cut n_law40_chains n_law40_few n_vault_Bind n_ref40_Bind n_ref40_SameBound:Nat):AC:=
 (.seq
 (rG 4096 [oO 8 .box [.tmp 0],mC 16 (.t (.bool false))])
 (.seq
 (.seq
 (rG 8192 [cL 23 n_law40_awake false [],oO 24 (.un .not) [.tmp 23]])
 (.cond (.tmp 24)
 (.seq
 (rG 12288 [mC 16 (.t (.bool false))])
 .ret)
 .skip))
 (.seq
 (rG 16384 [mv 25 2,cL 26 n_draw_Mod false [.tmp 25,.cst (.t (.int .i64 4))],oO 27 (.bin .add) [.cst (.t (.int .i64 1)),.tmp 26],mv 28 5,cL 29 n_draw_Strong false [.tmp 28],cL 30 n_draw_Enrolled true [.tmp 27,.tmp 29],oO 17 (.new 11 [(.agg [(.t (.int .i64 0)),(.t (.int .i64 0)),.nil,.nil,.nil,.nil,(.t (.int .i64 0)),(.t (.int .i64 0)),(.t (.int .i64 0)),.nil,.nil])]) [],oS 11 17 30])
 (.seq
 (.reg 20480 (some [0,1,0,4,12,0,44,0,0,364,876,2028,4095,0,16383]) [oO 31 (.faddr 0) [.tmp 17],oO 32 (.load 1 false) [.tmp 31],mv 33 3,cL 34 n_draw_Mod false [.tmp 33,.cst (.t (.int .i64 4))],oO 35 (.bin .add) [.cst (.t (.int .i64 1)),.tmp 34],mv 36 6,cL 37 n_draw_Cut true [.tmp 36,.cst (.t (.int .i64 140))],mv 38 1,mv 39 4,cL 40 n_draw_Mod false [.tmp 39,.cst (.t (.int .i64 3))],oO 41 (.bin .add) [.cst (.t (.int .i64 1)),.tmp 40],cL 42 n_law40_chains true [.tmp 38,.tmp 41],oO 43 (.build [(.t (.int .i64 0)),(.t (.int .i64 0)),.nil,.nil] [(0,1),(1,1),(2,1),(3,1)]) [.tmp 32,.tmp 35,.tmp 37,.tmp 42],oO 18 (.new 4 [(.agg [(.t (.int .i64 0)),(.t (.int .i64 0)),.nil,.nil])]) [],oS 4 18 43])
 (.seq
 (.seq
 (rG 24576 [mv 44 7])
 (.cond (.tmp 44)
 (.seq
 (.reg 28672 (some [0,1,3,0,8,31,7,127,255,511]) [oO 45 (.faddr 0) [.tmp 8],oO 46 (.load 1 false) [.tmp 45],cL 47 n_draw_Mod false [.tmp 46,.cst (.t (.int .i64 65536))],oO 48 (.faddr 1) [.tmp 8],oO 49 (.load 1 false) [.tmp 48],cL 50 n_draw_Mod false [.tmp 49,.cst (.t (.int .i64 65536))],oO 51 (.faddr 0) [.tmp 18],oS 1 51 47,oO 52 (.faddr 1) [.tmp 18],oS 1 52 50])
 (.seq
 (.seq
 (rG 32768 [oO 53 (.faddr 1) [.tmp 8],oO 54 (.load 1 false) [.tmp 53],bN 55 .and 54 1,bN 56 .eql 55 1])
 (.cond (.tmp 56)
 (rG 36864 [oO 57 (.faddr 0) [.tmp 17],oO 58 (.load 1 false) [.tmp 57],oO 59 (.faddr 0) [.tmp 18],oS 1 59 58])
 .skip))
 (rG 40960 [oO 60 (.faddr 3) [.tmp 8],oO 61 (.load 1 false) [.tmp 60],cL 62 n_law40_few true [.tmp 61],oO 63 (.faddr 3) [.tmp 18],oS 1 63 62])))
 .skip))
 (.seq
 (rG 45056 [oO 65 (.load 11 true) [.tmp 17],oO 66 (.load 4 true) [.tmp 18],cL 67 n_vault_Bind true [.tmp 65,.tmp 66],mv 64 67,oO 68 (.extract 0) [.tmp 64],oO 69 (.extract 1) [.tmp 64],oO 19 (.new 8 [(.agg [(.t (.int .i64 0)),(.t (.int .i64 0)),(.t (.int .i64 0)),(.t (.int .i64 0)),.nil,.nil,.nil,.nil])]) [],oS 8 19 68,mv 20 69])
 (.seq
 (rG 49152 [oO 71 (.load 11 true) [.tmp 17],oO 72 (.load 4 true) [.tmp 18],cL 73 n_ref40_Bind true [.tmp 71,.tmp 72],mv 70 73,oO 74 (.extract 0) [.tmp 70],oO 75 (.extract 1) [.tmp 70],oO 21 (.new 8 [(.agg [(.t (.int .i64 0)),(.t (.int .i64 0)),(.t (.int .i64 0)),(.t (.int .i64 0)),.nil,.nil,.nil,.nil])]) [],oS 8 21 74,mv 22 75])
 (.seq
 (rG 53248 [mv 76 20,mv 77 22,bT 78 .eql 76 77,mv 79 78,oG 80 79 (.load 8 true) [.tmp 19],oG 81 79 (.load 8 true) [.tmp 21],cG 82 79 n_ref40_SameBound false [.tmp 80,.tmp 81],oO 83 .pick [.tmp 79,.tmp 82,.cst (.t (.bool false))],mv 16 83])
 .ret))))))))
end Go.Eng
end
section
set_option maxRecDepth 20000
set_option maxHeartbeats 64000000
namespace Go.Eng
def qD4 (act:Int) (l:List Im):Int:=pdE l act (qDx act).1 (qDx act).2
def qG5 (act:Int) (l:List Im):List UInt8:=pdB l act (qDx act).1 (qDx act).2
def qVu (act:Int) (l:List Im):As:= .reg (qDx act).1 (qDx act).2 (qG5 act l)
def jDc:T:= .agg [.int .i64 0,.int .i64 0,.int .i64 0,.sl [],.int .i64 0,.int .i64 0,.sl [],.sl [],.sl [],.sl []]
def zNq (act:Int) (l:List Im):V:= .tup [.t (if qD4 act l=0 then asT (qVu act l) else jDc),.t (.int .i64 (qD4 act l))]
theorem qVv {act:Int} {l:List Im} (h:qD4 act l=0):(qG5 act l).length=32:=by
 rcases qR1 (act:=act) (l:=l) (qDx act).1 (qDx act).2 with⟨h1,h2,_⟩ | ⟨_,h2,_⟩ | ⟨_,_,h3,_⟩
 ·exact absurd (h2.symm.trans h) h1
 ·exact absurd h h2
 ·exact h3
theorem qQr {act:Int} {l:List Im} (h:qD4 act l=0):(qVu act l).Ok:=by
 refine⟨?_,?_,qVv h⟩
 ·simp only[qDx,jA8];split<;>decide
 ·simp only[qDx,jA8];split<;>decide
def qCs:Ct where
 α:=List Im×Int
 as x:=[.t (.sl (x.1.map imT)),.t (.int .i64 x.2)]
 ins _:=[]
 pre x:=qKe x.1 ∧ -1000≤x.2∧x.2≤1000
 r x:=zNq x.2 x.1
 outs _:=[]
 inj:=by
  rintro⟨a,b⟩ ⟨c,d⟩ h _
  simp only[List.cons.injEq,V.t.injEq,T.sl.injEq,T.int.injEq,true_and,and_true] at h
  obtain⟨h1,rfl⟩:=h
  rw[kJ (fun _ _=>qF8) h1]
  exact⟨rfl,rfl⟩
theorem zSj {l:List Im} {act:Int} (h:qKe l ∧ -1000≤act∧act≤1000):qCs.fs [.t (.sl (l.map imT)),.t (.int .i64 act)] []=some (zNq act l,[]):=qCs.eq (l,act) h
theorem qUs {l:List Im} {act:Int} (h:qKe l ∧ -1000≤act∧act≤1000) (he:qD4 act l=0):qCs.fs [.t (.sl (l.map imT)),.t (.int .i64 act)] []=some (.tup [.t (.agg [.int .i64 1,.int .i64 (qDx act).1,.int .i64 (qDx act).2,.sl ((qG5 act l).map qA),.int .i64 0,.int .i64 0,.sl [],.sl [],.sl [],.sl []]),.t (.int .i64 0)],[]):=by
 rw[zSj h,zNq,if_pos he,he];rfl
theorem zBn {l:List Im} {act:Int} (h:qKe l ∧ -1000≤act∧act≤1000) (he:qD4 act l≠0):qCs.fs [.t (.sl (l.map imT)),.t (.int .i64 act)] []=some (.tup [.t (.agg [.int .i64 0,.int .i64 0,.int .i64 0,.sl [],.int .i64 0,.int .i64 0,.sl [],.sl [],.sl [],.sl []]),.t (.int .i64 (qD4 act l))],[]):=by
 rw[zSj h,zNq,if_neg he];rfl
theorem qUe (tab:Tab) (gl:Gl) (n1 n2:Nat) (h1:tab.look n1=some qF2.fs) (h2:tab.look n2=some qJq.fs) (l:List Im) (act:Int) (h:qKe l ∧ -1000≤act∧act≤1000) :
  (qDe n1 n2).wp tab gl (qE 0 [.t (.sl (l.map imT)),.t (.int .i64 act)]) (qE 0 []) (zZ [(4,some (10,true)),(5,none)] 0 (fun r o=>r=zNq act l∧o=[])):=by
 have hS:=zBz h.2
 have hD:=zCt (l:=l) (act:=act) (s0:=(qDx act).1) (s1:=(qDx act).2) h.1
 change _=some (V.tup [.t (.sl ((qG5 act l).map qA)),.t (.int .i64 (qD4 act l))],[]) at hD
 by_cases he:qD4 act l=0
 ·rw[zNq,if_pos he,qVu]
  rw[he] at hD ⊢
  generalize qG5 act l=d at *
  generalize (qDx act).1=a at *
  generalize (qDx act).2=b at *
  simp only[asT] at *
  simp (disch:=omega) only [go_sem,seval,qDe,h1,hS,h2,hD]
 ·rw[zNq,if_neg he]
  have hb:(qD4 act l != 0)=true:=by simpa using he
  generalize qD4 act l=e at *
  generalize qG5 act l=d at *
  generalize (qDx act).1=a at *
  generalize (qDx act).2=b at *
  simp (disch:=omega) only [go_sem,seval,qDe,h1,hS,h2,hD,hb,jDc]
theorem qT7 (tab:Tab) (gl:Gl) (n1 n2:Nat) (h1:tab.look n1=some qF2.fs) (h2:tab.look n2=some qJq.fs) (l:List Im) (act:Int) (h:qKe l ∧ -1000≤act∧act≤1000) :
  (qDa n1 n2).wp tab gl (qE 0 [.t (.sl (l.map imT)),.t (.int .i64 act)]) (qE 0 []) (zZ [(4,some (10,true)),(5,none)] 0 (fun r o=>r=zNq act l∧o=[])):=by
 have hS:=zBz h.2
 have hD:=zCt (l:=l) (act:=act) (s0:=(qDx act).1) (s1:=(qDx act).2) h.1
 change _=some (V.tup [.t (.sl ((qG5 act l).map qA)),.t (.int .i64 (qD4 act l))],[]) at hD
 by_cases he:qD4 act l=0
 ·rw[zNq,if_pos he,qVu]
  rw[he] at hD ⊢
  generalize qG5 act l=d at *
  generalize (qDx act).1=a at *
  generalize (qDx act).2=b at *
  simp only[asT] at *
  simp (disch:=omega) only [go_sem,seval,qDa,h1,hS,h2,hD]
 ·rw[zNq,if_neg he]
  have hb:(qD4 act l != 0)=true:=by simpa using he
  generalize qD4 act l=e at *
  generalize qG5 act l=d at *
  generalize (qDx act).1=a at *
  generalize (qDx act).2=b at *
  simp (disch:=omega) only [go_sem,seval,qDa,h1,hS,h2,hD,hb,jDc]
def qAm (l:List Im):T:= .sl (l.map imT)
theorem qLj {a b:List Im} (h:qAm a=qAm b):a=b:=kJ (fun _ _=>qF8) (T.sl.inj h)
def qBc (act:Int) (l:List Im):List UInt8:=qKa z32 (qVu act l)
theorem qNb {act:Int} {l:List Im}:(qBc act l).length=32:=qAf
def zO2 (act:Int):List (List Im)→Int
 | []=>0
 | l::r=>if qD4 act l≠0 then qD4 act l else zO2 act r
theorem zB7 {act:Int} : ∀ {ls:List (List Im)} {k:Nat},(∀ j,j<k→qD4 act (ls.getD j [])=0)→k<ls.length→qD4 act (ls.getD k [])≠0→zO2 act ls=qD4 act (ls.getD k [])
 | [],k,_,h,_=>by simp at h
 | l::r,0,_,_,h=>by simp only[List.getD_cons_zero] at h ⊢;rw[zO2,if_pos h]
 | l::r,k+1,h0,h1,h2=>by
  have:=h0 0 (by omega)
  simp only[List.getD_cons_zero] at this
  simp only[List.getD_cons_succ] at h2 ⊢
  rw[zO2,if_neg (by rw[this];decide)]
  exact zB7 (fun j hj=>by simpa only[List.getD_cons_succ] using h0 (j+1) (by omega)) (by simpa using h1) h2
theorem qLw {act:Int} : ∀ {ls:List (List Im)},(∀ j,j<ls.length→qD4 act (ls.getD j [])=0)→zO2 act ls=0
 | [],_=>rfl
 | l::r,h=>by
  have:=h 0 (by simp)
  simp only[List.getD_cons_zero] at this
  rw[zO2,if_neg (by rw[this];decide)]
  exact qLw (fun j hj=>by simpa only[List.getD_cons_succ] using h (j+1) (by simpa using hj))
def qEh (act:Int) (ls:List (List Im)):Int:=if ls.length=0∨8<ls.length then 1 else zO2 act ls
def qIj (act:Int) (ls:List (List Im)):List (List UInt8):=if qEh act ls=0 then ls.map (qBc act) else []
abbrev zGm (ls:List (List Im)) (act:Int):Prop:=(∀ l∈ls,zIp l)∧ls.length≤9223372036854775807 ∧ -1000≤act∧act≤1000
def qDl:Ct where
 α:=List (List Im)×Int
 as x:=[.t (.sl (x.1.map qAm)),.t (.int .i64 x.2)]
 ins _:=[]
 pre x:=zGm x.1 x.2
 r x:= .tup [.t (.sl ((qIj x.2 x.1).map bsT)),.t (.int .i64 (qEh x.2 x.1))]
 outs _:=[]
 inj:=by
  rintro⟨a,b⟩ ⟨c,d⟩ h _
  simp only[List.cons.injEq,V.t.injEq,T.sl.injEq,T.int.injEq,true_and,and_true] at h
  obtain⟨h1,rfl⟩:=h
  rw[kJ (fun _ _=>qLj) h1]
  exact⟨rfl,rfl⟩
theorem qQs {ls:List (List Im)} {act:Int} (h:zGm ls act):qDl.fs [.t (.sl (ls.map qAm)),.t (.int .i64 act)] []=some (.tup [.t (.sl ((qIj act ls).map bsT)),.t (.int .i64 (qEh act ls))],[]):=qDl.eq (ls,act) h
theorem qPj (tab:Tab) (gl:Gl) (n1 n2:Nat) (h1:tab.look n1=some qCs.fs) (h2:tab.look n2=some qCn.fs) (ls:List (List Im)) (act:Int) (h:zGm ls act) :
  (xH n1 n2).wp tab gl (qE 0 [.t (.sl (ls.map qAm)),.t (.int .i64 act)]) (qE 0 []) (zZ [(4,none),(5,none)] 0 (fun r o=>r = .tup [.t (.sl ((qIj act ls).map bsT)),.t (.int .i64 (qEh act ls))]∧o=[])):=by
 obtain⟨hm,hl,ha,ha'⟩:=h
 by_cases z0:ls.length=0
 ·have hE:qEh act ls=1:=if_pos (.inl z0)
  rw[qIj,hE,if_neg (by decide)]
  simp (disch:=omega) only [go_sem,seval,xH,z0,List.map_nil]
 by_cases z8:8<ls.length
 ·have hE:qEh act ls=1:=if_pos (.inr z8)
  rw[qIj,hE,if_neg (by decide)]
  simp (disch:=omega) only [go_sem,seval,xH,z0,z8,List.map_nil]
 have hE:qEh act ls=zO2 act ls:=if_neg (by omega)
 simp (disch:=omega) only [go_sem,seval,xH,z0,z8]
 refine yO ls.length (fun k => ∀ j,j<k→qD4 act (ls.getD j [])=0) (fun k=>[(1,.t (.int .i64 act)),(6,.sl 9000 0 k),(19,.t (.sl (ls.map qAm))),(20,.t (.int .i64 ls.length)),(21,.t (.int .i64 k))]) (fun k=>[(9000,.live 1 ((((ls.take k).map (qBc act)).map bsT).map V.t) true false)]) (fun j hj=>by omega) ?_ (fun k hk hP=>?_)
 ·refine qI.cv0 (hv:=[(9000,.live 1 [] true false)]) (ho:=[]) id ?_ ?_ rfl rfl
  all_goals simp (disch:=omega) only [go_sem,seval,id]
  all_goals rfl
 ·by_cases hlt:k<ls.length
  ·obtain⟨l,hg⟩ : ∃ l,ls[k]?=some l:=⟨_,List.getElem?_eq_getElem hlt⟩
   have hgd:ls.getD k []=l:=by rw[List.getD_eq_getElem?_getD,hg];rfl
   have hmk:zIp l:=hm _ (List.mem_of_getElem? hg)
   have hc:qAm l = .sl (l.map imT):=rfl
   by_cases he:qD4 act l=0
   ·have hB:=qUs ⟨hmk.x,ha,ha'⟩ he
    have hD:=qR2 (qQr he)
    rw[show qKa z32 (qVu act l)=qBc act l from rfl] at hD
    have hS:List.map V.t (List.map bsT (List.map (qBc act) (List.take (k+1) ls)))=List.map V.t (List.map bsT (List.map (qBc act) (List.take k ls)))++[V.t (.sl ((qBc act l).map qA))]:=by rw[qC1 hg,List.map_append,List.map_append];rfl
    have hN : ∀ j,j<k+1→qD4 act (ls.getD j [])=0:=fun j hj=>by
     rcases Nat.lt_or_ge j k with h | h
     ·exact hP j h
     ·rw[show j=k by omega,hgd];exact he
    simp only[qVu,asT] at hD
    simp (disch:=omega) only [go_sem,seval,wC,hlt,hg,Option.map_some,hc,h1,hB,h2,hD]
    refine⟨hN,qI.rd (fun j=>if j=9000 then 45136 else j) ?_ ?_ rfl⟩
    all_goals simp (disch:=omega) only [go_sem,seval,id,hS]
    all_goals first | omega | rfl
   ·have hB:=zBn ⟨hmk.x,ha,ha'⟩ he
    have hF:=zB7 hP hlt (by rw[hgd];exact he)
    rw[hgd] at hF
    have hb:(qD4 act l != 0)=true:=by simpa using he
    rw[qIj,hE,hF,if_neg he]
    generalize qD4 act l=e at *
    simp (disch:=omega) only [go_sem,seval,wC,hlt,hg,Option.map_some,hc,h1,hB,hb,List.map_nil]
  ·have e:k=ls.length:=by omega
   subst e
   have hz:=qLw (act:=act) (ls:=ls) hP
   have tl:List.take ls.length ls=ls:=List.take_length
   rw[qIj,hE,hz,if_pos rfl]
   simp (disch:=omega) only [go_sem,seval,wC,tl]
theorem qPg (tab:Tab) (gl:Gl) (n1 n2:Nat) (h1:tab.look n1=some qCs.fs) (h2:tab.look n2=some qCn.fs) (ls:List (List Im)) (act:Int) (h:zGm ls act) :
  (xE n1 n2).wp tab gl (qE 0 [.t (.sl (ls.map qAm)),.t (.int .i64 act)]) (qE 0 []) (zZ [(4,none),(5,none)] 0 (fun r o=>r = .tup [.t (.sl ((qIj act ls).map bsT)),.t (.int .i64 (qEh act ls))]∧o=[])):=by
 obtain⟨hm,hl,ha,ha'⟩:=h
 by_cases z0:ls.length=0
 ·have hE:qEh act ls=1:=if_pos (.inl z0)
  rw[qIj,hE,if_neg (by decide)]
  simp (disch:=omega) only [go_sem,seval,xE,z0,List.map_nil]
 by_cases z8:8<ls.length
 ·have hE:qEh act ls=1:=if_pos (.inr z8)
  rw[qIj,hE,if_neg (by decide)]
  simp (disch:=omega) only [go_sem,seval,xE,z0,z8,List.map_nil]
 have hE:qEh act ls=zO2 act ls:=if_neg (by omega)
 simp (disch:=omega) only [go_sem,seval,xE,z0,z8]
 refine yO ls.length (fun k => ∀ j,j<k→qD4 act (ls.getD j [])=0) (fun k=>[(0,.t (.sl (ls.map qAm))),(1,.t (.int .i64 act)),(6,.sl 9000 0 k),(7,.t (.int .i64 k))]) (fun k=>[(9000,.live 1 ((((ls.take k).map (qBc act)).map bsT).map V.t) true false)]) (fun j hj=>by omega) ?_ (fun k hk hP=>?_)
 ·refine qI.cv0 (hv:=[(9000,.live 1 [] true false)]) (ho:=[]) id ?_ ?_ rfl rfl
  all_goals simp (disch:=omega) only [go_sem,seval,id]
  all_goals rfl
 ·by_cases hlt:k<ls.length
  ·obtain⟨l,hg⟩ : ∃ l,ls[k]?=some l:=⟨_,List.getElem?_eq_getElem hlt⟩
   have hgd:ls.getD k []=l:=by rw[List.getD_eq_getElem?_getD,hg];rfl
   have hmk:zIp l:=hm _ (List.mem_of_getElem? hg)
   have hc:qAm l = .sl (l.map imT):=rfl
   by_cases he:qD4 act l=0
   ·have hB:=qUs ⟨hmk.x,ha,ha'⟩ he
    have hD:=qR2 (qQr he)
    rw[show qKa z32 (qVu act l)=qBc act l from rfl] at hD
    have hS:List.map V.t (List.map bsT (List.map (qBc act) (List.take (k+1) ls)))=List.map V.t (List.map bsT (List.map (qBc act) (List.take k ls)))++[V.t (.sl ((qBc act l).map qA))]:=by rw[qC1 hg,List.map_append,List.map_append];rfl
    have hN : ∀ j,j<k+1→qD4 act (ls.getD j [])=0:=fun j hj=>by
     rcases Nat.lt_or_ge j k with h | h
     ·exact hP j h
     ·rw[show j=k by omega,hgd];exact he
    simp only[qVu,asT] at hD
    simp (disch:=omega) only [go_sem,seval,wB,hlt,hg,Option.map_some,hc,h1,hB,h2,hD]
    refine⟨hN,qI.rd (fun j=>if j=9000 then 45136 else j) ?_ ?_ rfl⟩
    all_goals simp (disch:=omega) only [go_sem,seval,id,hS]
    all_goals first | omega | rfl
   ·have hB:=zBn ⟨hmk.x,ha,ha'⟩ he
    have hF:=zB7 hP hlt (by rw[hgd];exact he)
    rw[hgd] at hF
    have hb:(qD4 act l != 0)=true:=by simpa using he
    rw[qIj,hE,hF,if_neg he]
    generalize qD4 act l=e at *
    simp (disch:=omega) only [go_sem,seval,wB,hlt,hg,Option.map_some,hc,h1,hB,hb,List.map_nil]
  ·have e:k=ls.length:=by omega
   subst e
   have hz:=qLw (act:=act) (ls:=ls) hP
   have tl:List.take ls.length ls=ls:=List.take_length
   rw[qIj,hE,hz,if_pos rfl]
   simp (disch:=omega) only [go_sem,seval,wB,tl]
def qIu (bs:List (List UInt8)):List UInt8:=if bs.length=1 then bs.getD 0 [] else qKa z32 (.alt bs)
abbrev zK2 (bs:List (List UInt8)):Prop:=(1≤bs.length∧bs.length≤8) ∧ ∀ b∈bs,b.length=32
theorem zFe {bs:List (List UInt8)} (h:zK2 bs):(qIu bs).length=32:=by
 unfold qIu
 split
 ·exact zB9 h.2 (by omega)
 ·exact qAf
def qLo:Ct where
 α:=List (List UInt8)
 as x:=[.t (.sl (x.map bsT))]
 ins _:=[]
 pre x:=zK2 x
 r x:= .t (.sl ((qIu x).map qA))
 outs _:=[]
 inj:=by
  intro a b h _
  simp only[List.cons.injEq,V.t.injEq,T.sl.injEq,and_true,qA6] at h
  subst h
  exact⟨rfl,rfl⟩
theorem zQb {bs:List (List UInt8)} (h:zK2 bs):qLo.fs [.t (.sl (bs.map bsT))] []=some (.t (.sl ((qIu bs).map qA)),[]):=qLo.eq bs h
theorem zFt {bs:List (List UInt8)} (h:(As.alt bs).Ok):qCn.fs [.t (.sl [.agg [.int .i64 8,.int .i64 0,.int .i64 0,.sl [],.int .i64 0,.int .i64 0,.sl [],.sl [],.sl [],.sl (bs.map bsT)]])] []=some (.t (.sl ((qKa z32 (.alt bs)).map qA)),[]):=qR2 h
theorem zAj (tab:Tab) (gl:Gl) (n1:Nat) (h1:tab.look n1=some qCn.fs) (bs:List (List UInt8)) (h:zK2 bs) :
  (qFw n1).wp tab gl (qE 0 [.t (.sl (bs.map bsT))]) (qE 0 []) (zZ [(2,none)] 0 (fun r o=>r = .t (.sl ((qIu bs).map qA))∧o=[])):=by
 by_cases h1l:bs.length=1
 ·rw[qIu,if_pos h1l]
  simp (disch:=omega) only [go_sem,seval,qFw,h1l]
 ·rw[qIu,if_neg h1l]
  have hD:=zFt (bs:=bs) ⟨by omega,h.2⟩
  generalize qKa z32 (.alt bs)=z at *
  simp (disch:=omega) only [go_sem,seval,qFw,h1l,h1,hD]
def qG3 (act:Int) (ls:List (List Im)):List UInt8:=if qEh act ls=0 then qIu (qIj act ls) else []
theorem qIk {act:Int} {ls:List (List Im)} (h:qEh act ls=0):zK2 (qIj act ls):=by
 rw[qIj,if_pos h]
 have hl : ¬ (ls.length=0∨8<ls.length):=by
  intro hx
  rw[qEh,if_pos hx] at h
  exact absurd h (by decide)
 refine⟨by rw[List.length_map];omega,fun b hb=>?_⟩
 obtain⟨l,_,rfl⟩:=List.mem_map.1 hb
 exact qNb
def qFi:Ct where
 α:=List (List Im)×Int
 as x:=[.t (.sl (x.1.map qAm)),.t (.int .i64 x.2)]
 ins _:=[]
 pre x:=zGm x.1 x.2
 r x:= .tup [.t (.sl ((qG3 x.2 x.1).map qA)),.t (.int .i64 (qEh x.2 x.1))]
 outs _:=[]
 inj:=by
  rintro⟨a,b⟩ ⟨c,d⟩ h _
  simp only[List.cons.injEq,V.t.injEq,T.sl.injEq,T.int.injEq,true_and,and_true] at h
  obtain⟨h1,rfl⟩:=h
  rw[kJ (fun _ _=>qLj) h1]
  exact⟨rfl,rfl⟩
theorem qZl {ls:List (List Im)} {act:Int} (h:zGm ls act):qFi.fs [.t (.sl (ls.map qAm)),.t (.int .i64 act)] []=some (.tup [.t (.sl ((qG3 act ls).map qA)),.t (.int .i64 (qEh act ls))],[]):=qFi.eq (ls,act) h
theorem qUf (tab:Tab) (gl:Gl) (n1 n2:Nat) (h1:tab.look n1=some qDl.fs) (h2:tab.look n2=some qCn.fs) (ls:List (List Im)) (act:Int) (h:zGm ls act) :
  (qAz n1 n2).wp tab gl (qE 0 [.t (.sl (ls.map qAm)),.t (.int .i64 act)]) (qE 0 []) (zZ [(4,none),(5,none)] 0 (fun r o=>r = .tup [.t (.sl ((qG3 act ls).map qA)),.t (.int .i64 (qEh act ls))]∧o=[])):=by
 have hB:=qQs h
 by_cases he:qEh act ls=0
 ·have hj:=qIk he
  rw[qG3,if_pos he,he]
  rw[he] at hB
  generalize qIj act ls=bs at *
  by_cases h1l:bs.length=1
  ·rw[qIu,if_pos h1l]
   simp (disch:=omega) only [go_sem,seval,qAz,h1,hB,h1l]
  ·rw[qIu,if_neg h1l]
   have hD:=zFt (bs:=bs) ⟨by omega,hj.2⟩
   generalize qKa z32 (.alt bs)=z at *
   simp (disch:=omega) only [go_sem,seval,qAz,h1,hB,h1l,h2,hD]
 ·rw[qG3,if_neg he]
  have hb:(qEh act ls != 0)=true:=by simpa using he
  generalize qEh act ls=e at *
  simp (disch:=omega) only [go_sem,seval,qAz,h1,hB,hb,List.map_nil]
theorem qT8 (tab:Tab) (gl:Gl) (n1 n2:Nat) (h1:tab.look n1=some qDl.fs) (h2:tab.look n2=some qLo.fs) (ls:List (List Im)) (act:Int) (h:zGm ls act) :
  (qDb n1 n2).wp tab gl (qE 0 [.t (.sl (ls.map qAm)),.t (.int .i64 act)]) (qE 0 []) (zZ [(4,none),(5,none)] 0 (fun r o=>r = .tup [.t (.sl ((qG3 act ls).map qA)),.t (.int .i64 (qEh act ls))]∧o=[])):=by
 have hB:=qQs h
 by_cases he:qEh act ls=0
 ·have hj:=zQb (qIk he)
  rw[qG3,if_pos he,he]
  rw[he] at hB
  generalize qIu (qIj act ls)=z at *
  simp (disch:=omega) only [go_sem,seval,qDb,h1,hB,h2,hj]
 ·rw[qG3,if_neg he]
  have hb:(qEh act ls != 0)=true:=by simpa using he
  generalize qEh act ls=e at *
  simp (disch:=omega) only [go_sem,seval,qDb,h1,hB,hb,List.map_nil]
def qKz (mach num:Int) (d:List UInt8) (ls:List (List Im)):T:= .agg [.int .i64 mach,.int .i64 num,.sl (d.map qA),.sl (ls.map qAm)]
theorem zQ4 {a b c d:Int} {x y:List UInt8} {l m:List (List Im)} (h:qKz a b x l=qKz c d y m):a=c∧b=d∧x=y∧l=m:=by
 simp only[qKz,T.agg.injEq,List.cons.injEq,T.int.injEq,T.sl.injEq,true_and,and_true,qZ] at h
 obtain⟨h1,h2,h3,h4⟩:=h
 exact⟨h1,h2,h3,kJ (fun _ _=>qLj) h4⟩
def qIb (mach num:Int) (d:List UInt8):List UInt8:=qD5 24 [beI 2 mach 2,beI 2 num 2,d]
theorem qSg {mach num:Int} {d:List UInt8}:(qIb mach num d).length=32:=qM
structure Bd where
 num:Int
 pol:List UInt8
 unq:List UInt8
 prv:List UInt8
 brs:List (List UInt8)
def bdT (b:Bd):T:= .agg [.int .i64 b.num,.int .i64 3,.int .i64 0,.int .i64 0,.sl (b.pol.map qA),.sl (b.unq.map qA),.sl (b.prv.map qA),.sl (b.brs.map bsT)]
def zBi:T:= .agg [.int .i64 0,.int .i64 0,.int .i64 0,.int .i64 0,.sl [],.sl [],.sl [],.sl []]
def qOg (m:Nat) (act mach:Int) (d:List UInt8) (ls:List (List Im)):Int:=if mach≠m then 49 else if qEh act ls≠0 then qEh act ls else if 128<d.length then 4 else 0
def zYi (m:Nat) (act mach num:Int) (d:List UInt8) (ls:List (List Im)):Bd:=
 let p:=qG3 act ls
 let sec:=qIb mach num d
 let u:=qO9 (qFm sec) d
 ⟨num,p,u,zA8 (zIr m) p u [] (qFm sec) d,if 1<ls.length then qIj act ls else []⟩
def zEn (m:Nat) (act mach num:Int) (d:List UInt8) (ls:List (List Im)):V:= .tup [.t (if qOg m act mach d ls=0 then bdT (zYi m act mach num d ls) else zBi),.t (.int .i64 (qOg m act mach d ls))]
abbrev zT9 (m:Nat) (act:Int) (d:List UInt8) (ls:List (List Im)):Prop:=m≤1000000∧d.length≤500∧zGm ls act
theorem zOr {m n:Nat} {a b:Int} (h:qMy m a=qMy n b):m=n∧a=b:=by
 simp only[qMy,T.agg.injEq,List.cons.injEq,T.int.injEq] at h
 exact⟨Int.natCast_inj.1 h.1.2,h.2.1.2⟩
def qGs:Ct where
 α:=(Nat×Int)×Int×Int×List UInt8×List (List Im)
 as x:=[.t (qMy x.1.1 x.1.2),.t (qKz x.2.1 x.2.2.1 x.2.2.2.1 x.2.2.2.2)]
 ins _:=[]
 pre x:=zT9 x.1.1 x.1.2 x.2.2.2.1 x.2.2.2.2
 r x:=zEn x.1.1 x.1.2 x.2.1 x.2.2.1 x.2.2.2.1 x.2.2.2.2
 outs _:=[]
 inj:=by
  rintro⟨⟨a,b⟩,c,d,e,f⟩ ⟨⟨g,i⟩,j,k,l,m⟩ h _
  simp only[List.cons.injEq,V.t.injEq,and_true] at h
  obtain⟨h1,h2⟩:=h
  obtain⟨rfl,rfl⟩:=zOr h1
  obtain⟨rfl,rfl,rfl,rfl⟩:=zQ4 h2
  exact⟨rfl,rfl⟩
theorem zSh {m:Nat} {act mach num:Int} {d:List UInt8} {ls:List (List Im)} (h:zT9 m act d ls):qGs.fs [.t (qMy m act),.t (qKz mach num d ls)] []=some (zEn m act mach num d ls,[]):=qGs.eq ((m,act),mach,num,d,ls) h
theorem zSi {m:Nat} {act mach num:Int} {d:List UInt8} {ls:List (List Im)} (h:zT9 m act d ls) (he:qOg m act mach d ls=0):qGs.fs [.t (qMy m act),.t (qKz mach num d ls)] []=some (.tup [.t (bdT (zYi m act mach num d ls)),.t (.int .i64 0)],[]):=by
 rw[zSh h,zEn,if_pos he,he]
theorem zUa {m:Nat} {act mach num:Int} {d:List UInt8} {ls:List (List Im)} (h:zT9 m act d ls) (he:qOg m act mach d ls≠0):qGs.fs [.t (qMy m act),.t (qKz mach num d ls)] []=some (.tup [.t zBi,.t (.int .i64 (qOg m act mach d ls))],[]):=by
 rw[zSh h,zEn,if_neg he]
theorem qWi {act:Int} {ls:List (List Im)} (h:qEh act ls=0):(qG3 act ls).length=32:=by
 rw[qG3,if_pos h];exact zFe (qIk h)
theorem zFa {mach num:Int} {d:List UInt8} (h:d.length≤500):yE.fs [.t (.int .i64 24),.t (.sl [.sl ((beI 2 mach 2).map qA),.sl ((beI 2 num 2).map qA),.sl (d.map qA)])] []=some (.sl 0 0 32,[.live 1 (((qIb mach num d).map qA).map V.t) true false]):=zE9 (t:=24) (fs:=[beI 2 mach 2,beI 2 num 2,d]) (by omega) (by intro x hx;simp only[List.mem_cons,List.not_mem_nil,or_false] at hx;rcases hx with rfl | rfl | rfl;rw[zJ];omega;rw[zJ];omega;omega) (by simp)
theorem zAt (tab:Tab) (gl:Gl) (n1 n2 n3 n4 n5 n6:Nat) (h1:tab.look n1=some qFi.fs) (h2:tab.look n2=some vT.fs) (h3:tab.look n3=some yE.fs) (h4:tab.look n4=some qOm.fs) (h5:tab.look n5=some qHz.fs) (h6:tab.look n6=some qDl.fs) (m:Nat) (act mach num:Int) (d:List UInt8) (ls:List (List Im)) (h:zT9 m act d ls) :
  (xG n1 n2 n3 n4 n5 n6).wp tab gl (qE 0 [.t (qMy m act),.t (qKz mach num d ls)]) (qE 0 []) (zZ [(4,some (8,true)),(5,none)] 0 (fun r o=>r=zEn m act mach num d ls∧o=[])):=by
 obtain⟨hm,hd,hc⟩:=h
 by_cases e1:mach=m
 ·have hP:=qZl hc
  have b1:(mach != (m:Int))=false:=by simp[e1]
  by_cases e2:qEh act ls=0
  ·have lP:=qWi e2
   have hU:=qMo (b:=[]) (n:=mach) (by decide)
   have hV:=qMo (b:=[]) (n:=num) (by decide)
   simp only[List.map_nil,List.length_nil,List.nil_append] at hU hV
   have tU : ∀ n:Int,List.take 2 (beI 2 n 2)=beI 2 n 2:=fun n=>List.take_of_length_le (by rw[zJ];exact Nat.le_refl _)
   have lU : ∀ n:Int,(beI 2 n 2).length=2:=fun n=>zJ
   have hH:=zFa (mach:=mach) (num:=num) hd
   have lS:=qSg (mach:=mach) (num:=num) (d:=d)
   have tS:List.take 32 (qIb mach num d)=qIb mach num d:=List.take_of_length_le (by omega)
   have hK:=zS9 (sec:=qIb mach num d) (p:=qG3 act ls) (d:=d) ⟨by omega,lP,by omega⟩
   rw[zNr] at hK
   by_cases e3:128<d.length
   ·have hE:qOg m act mach d ls=4:=by rw[qOg,if_neg (by simpa using e1),if_neg (by simpa using e2),if_pos e3]
    rw[zEn,hE,if_neg (by decide)]
    rw[e2] at hP
    rw[if_neg (by omega)] at hK
    generalize qG3 act ls=p at *
    generalize qIb mach num d=s at *
    simp only[puT,snT,List.map_nil] at hK
    simp (config := { maxSteps:=2000000 }) (disch:=(first | omega | (simp only[wL,wK];omega))) only [go_sem,seval,xG,qMy,qKz,zBi,b1,h1,hP,h2,hU,hV,tU,lU,h3,hH,lS,tS,h4,hK,List.map_nil]
    all_goals rfl
   ·have hE:qOg m act mach d ls=0:=by rw[qOg,if_neg (by simpa using e1),if_neg (by simpa using e2),if_neg e3]
    rw[zEn,hE,if_pos rfl,zYi]
    rw[e2] at hP
    rw[if_pos (by omega)] at hK
    have lM:(qFm (qIb mach num d)).length=32:=yU
    have lN:=qDz (s:=qFm (qIb mach num d)) (d:=d)
    have lQ:=qKi (m:=m)
    have hW:=zNj (pa:=[]) (ps:=zIr m) (pd:=[]) (p:=qG3 act ls) (u:=qO9 (qFm (qIb mach num d)) d) (a:=[]) (s:=qFm (qIb mach num d)) (d:=d) ⟨by omega,⟨lP,lN⟩,by simp,by omega,by omega⟩
    have hB:=qQs hc
    rw[e2] at hB
    try simp only
    generalize zA8 (zIr m) (qG3 act ls) (qO9 (qFm (qIb mach num d)) d) [] (qFm (qIb mach num d)) d=w at *
    generalize qO9 (qFm (qIb mach num d)) d=u at *
    generalize qFm (qIb mach num d)=ms at *
    generalize qG3 act ls=p at *
    generalize qIb mach num d=s at *
    generalize qIj act ls=bl at *
    simp only[puT,snT,List.map_nil] at hK hW
    by_cases e4:1<ls.length
    ·rw[if_pos e4]
     simp (config := { maxSteps:=2000000 }) (disch:=(first | omega | (simp only[wL,wK];omega))) only [go_sem,seval,xG,qMy,qKz,bdT,b1,h1,hP,h2,hU,hV,tU,lU,h3,hH,lS,tS,h4,hK,h5,hW,h6,hB,e4,List.map_nil]
     all_goals first | rfl | exact⟨rfl,rfl⟩
    ·rw[if_neg e4]
     simp (config := { maxSteps:=2000000 }) (disch:=(first | omega | (simp only[wL,wK];omega))) only [go_sem,seval,xG,qMy,qKz,bdT,b1,h1,hP,h2,hU,hV,tU,lU,h3,hH,lS,tS,h4,hK,h5,hW,e4,List.map_nil]
     all_goals first | rfl | exact⟨rfl,rfl⟩
  ·have hE:qOg m act mach d ls=qEh act ls:=by rw[qOg,if_neg (by simpa using e1),if_pos e2]
   rw[zEn,hE,if_neg e2]
   have hb:(qEh act ls != 0)=true:=by simpa using e2
   generalize qEh act ls=e at *
   simp (config := { maxSteps:=2000000 }) (disch:=(first | omega | (simp only[wL,wK];omega))) only [go_sem,seval,xG,qMy,qKz,zBi,b1,h1,hP,hb,List.map_nil]
   all_goals rfl
 ·have hE:qOg m act mach d ls=49:=by rw[qOg,if_pos e1]
  have b1:(mach != (m:Int))=true:=by simpa using e1
  rw[zEn,hE,if_neg (by decide)]
  simp (config := { maxSteps:=2000000 }) (disch:=(first | omega | (simp only[wL,wK];omega))) only [go_sem,seval,xG,qMy,qKz,zBi,b1,List.map_nil]
  all_goals rfl
theorem zAi (tab:Tab) (gl:Gl) (n1 n2 n3 n4 n5 n6:Nat) (h1:tab.look n1=some qFi.fs) (h2:tab.look n2=some vT.fs) (h3:tab.look n3=some yE.fs) (h4:tab.look n4=some qOm.fs) (h5:tab.look n5=some qHz.fs) (h6:tab.look n6=some qDl.fs) (m:Nat) (act mach num:Int) (d:List UInt8) (ls:List (List Im)) (h:zT9 m act d ls) :
  (xD n1 n2 n3 n4 n5 n6).wp tab gl (qE 0 [.t (qMy m act),.t (qKz mach num d ls)]) (qE 0 []) (zZ [(4,some (8,true)),(5,none)] 0 (fun r o=>r=zEn m act mach num d ls∧o=[])):=by
 obtain⟨hm,hd,hc⟩:=h
 by_cases e1:mach=m
 ·have hP:=qZl hc
  have b1:(mach != (m:Int))=false:=by simp[e1]
  by_cases e2:qEh act ls=0
  ·have lP:=qWi e2
   have hU:=qMo (b:=[]) (n:=mach) (by decide)
   have hV:=qMo (b:=[]) (n:=num) (by decide)
   simp only[List.map_nil,List.length_nil,List.nil_append] at hU hV
   have tU : ∀ n:Int,List.take 2 (beI 2 n 2)=beI 2 n 2:=fun n=>List.take_of_length_le (by rw[zJ];exact Nat.le_refl _)
   have lU : ∀ n:Int,(beI 2 n 2).length=2:=fun n=>zJ
   have hH:=zFa (mach:=mach) (num:=num) hd
   have lS:=qSg (mach:=mach) (num:=num) (d:=d)
   have tS:List.take 32 (qIb mach num d)=qIb mach num d:=List.take_of_length_le (by omega)
   have hK:=zS9 (sec:=qIb mach num d) (p:=qG3 act ls) (d:=d) ⟨by omega,lP,by omega⟩
   rw[zNr] at hK
   by_cases e3:128<d.length
   ·have hE:qOg m act mach d ls=4:=by rw[qOg,if_neg (by simpa using e1),if_neg (by simpa using e2),if_pos e3]
    rw[zEn,hE,if_neg (by decide)]
    rw[e2] at hP
    rw[if_neg (by omega)] at hK
    generalize qG3 act ls=p at *
    generalize qIb mach num d=s at *
    simp only[puT,snT,List.map_nil] at hK
    simp (config := { maxSteps:=2000000 }) (disch:=(first | omega | (simp only[wL,wK];omega))) only [go_sem,seval,xD,qMy,qKz,zBi,b1,h1,hP,h2,hU,hV,tU,lU,h3,hH,lS,tS,h4,hK,List.map_nil]
    all_goals rfl
   ·have hE:qOg m act mach d ls=0:=by rw[qOg,if_neg (by simpa using e1),if_neg (by simpa using e2),if_neg e3]
    rw[zEn,hE,if_pos rfl,zYi]
    rw[e2] at hP
    rw[if_pos (by omega)] at hK
    have lM:(qFm (qIb mach num d)).length=32:=yU
    have lN:=qDz (s:=qFm (qIb mach num d)) (d:=d)
    have lQ:=qKi (m:=m)
    have hW:=zNj (pa:=[]) (ps:=zIr m) (pd:=[]) (p:=qG3 act ls) (u:=qO9 (qFm (qIb mach num d)) d) (a:=[]) (s:=qFm (qIb mach num d)) (d:=d) ⟨by omega,⟨lP,lN⟩,by simp,by omega,by omega⟩
    have hB:=qQs hc
    rw[e2] at hB
    try simp only
    generalize zA8 (zIr m) (qG3 act ls) (qO9 (qFm (qIb mach num d)) d) [] (qFm (qIb mach num d)) d=w at *
    generalize qO9 (qFm (qIb mach num d)) d=u at *
    generalize qFm (qIb mach num d)=ms at *
    generalize qG3 act ls=p at *
    generalize qIb mach num d=s at *
    generalize qIj act ls=bl at *
    simp only[puT,snT,List.map_nil] at hK hW
    by_cases e4:1<ls.length
    ·rw[if_pos e4]
     simp (config := { maxSteps:=2000000 }) (disch:=(first | omega | (simp only[wL,wK];omega))) only [go_sem,seval,xD,qMy,qKz,bdT,b1,h1,hP,h2,hU,hV,tU,lU,h3,hH,lS,tS,h4,hK,h5,hW,h6,hB,e4,List.map_nil]
     all_goals first | rfl | exact⟨rfl,rfl⟩
    ·rw[if_neg e4]
     simp (config := { maxSteps:=2000000 }) (disch:=(first | omega | (simp only[wL,wK];omega))) only [go_sem,seval,xD,qMy,qKz,bdT,b1,h1,hP,h2,hU,hV,tU,lU,h3,hH,lS,tS,h4,hK,h5,hW,e4,List.map_nil]
     all_goals first | rfl | exact⟨rfl,rfl⟩
  ·have hE:qOg m act mach d ls=qEh act ls:=by rw[qOg,if_neg (by simpa using e1),if_pos e2]
   rw[zEn,hE,if_neg e2]
   have hb:(qEh act ls != 0)=true:=by simpa using e2
   generalize qEh act ls=e at *
   simp (config := { maxSteps:=2000000 }) (disch:=(first | omega | (simp only[wL,wK];omega))) only [go_sem,seval,xD,qMy,qKz,zBi,b1,h1,hP,hb,List.map_nil]
   all_goals rfl
 ·have hE:qOg m act mach d ls=49:=by rw[qOg,if_pos e1]
  have b1:(mach != (m:Int))=true:=by simpa using e1
  rw[zEn,hE,if_neg (by decide)]
  simp (config := { maxSteps:=2000000 }) (disch:=(first | omega | (simp only[wL,wK];omega))) only [go_sem,seval,xD,qMy,qKz,zBi,b1,List.map_nil]
  all_goals rfl
def bdM (b:Bd):Prop:=L32 b.pol b.unq∧b.prv.length<1000000000∧zA6 b.brs
def bdO:Option Bd→T
 | some b=>bdT b
 | none=>zBi
def qJs:Ct where
 α:=Option Bd
 as x:=[.t (bdO x),.t (bdO x)]
 ins _:=[]
 pre x := ∀ b,x=some b→bdM b
 r _:= .t (.bool true)
 outs _:=[]
 inj:=fun _ _ _ _=>⟨rfl,rfl⟩
theorem jA6 {b:Bd} (h:bdM b):qJs.fs [.t (bdT b),.t (bdT b)] []=some (.t (.bool true),[]):=qJs.eq (some b) (fun c hc=>by cases hc;exact h)
theorem jD4:qJs.fs [.t zBi,.t zBi] []=some (.t (.bool true),[]):=qJs.eq none (fun c hc=>by cases hc)
def puO:Option (List UInt8×List UInt8)→T
 | some x=>puT x.1 x.2
 | none=> .agg [.int .i64 0,.int .i64 0,.int .i64 0,.sl [],.sl []]
def qCy:Ct where
 α:=Option (List UInt8×List UInt8)
 as x:=[.t (puO x),.t (puO x)]
 ins _:=[]
 pre x := ∀ y,x=some y→L32 y.1 y.2
 r _:= .t (.bool true)
 outs _:=[]
 inj:=fun _ _ _ _=>⟨rfl,rfl⟩
theorem zV6 {p u:List UInt8} (h:L32 p u):qCy.fs [.t (.agg [.int .i64 3,.int .i64 0,.int .i64 0,.sl (p.map qA),.sl (u.map qA)]),.t (.agg [.int .i64 3,.int .i64 0,.int .i64 0,.sl (p.map qA),.sl (u.map qA)])] []=some (.t (.bool true),[]):=qCy.eq (some (p,u)) (fun c hc=>by cases hc;exact h)
theorem jAk:qCy.fs [.t (.agg [.int .i64 0,.int .i64 0,.int .i64 0,.sl [],.sl []]),.t (.agg [.int .i64 0,.int .i64 0,.int .i64 0,.sl [],.sl []])] []=some (.t (.bool true),[]):=qCy.eq none (fun c hc=>by cases hc)
theorem jA5:xR.fs [.t (.sl []),.t (.sl [])] []=some (.t (.bool true),[]):=qA8 (a:=[]) (b:=[]) ⟨by decide,by decide⟩
theorem qXa (tab:Tab) (gl:Gl) (n1:Nat) (h1:tab.look n1=some xR.fs) (x:Option (List UInt8×List UInt8)) (h:qCy.pre x) :
  (qAt n1).wp tab gl (qE 0 (qCy.as x)) (qE 0 []) (zZ [(4,none)] 0 (fun r o=>r = .t (.bool true)∧o=[])):=by
 cases x with
 | some y=>exact zAb tab gl n1 h1 y.1 y.2 (h y rfl)
 | none=>
  show (qAt n1).wp tab gl (qE 0 [.t (.agg [.int .i64 0,.int .i64 0,.int .i64 0,.sl [],.sl []]),.t (.agg [.int .i64 0,.int .i64 0,.int .i64 0,.sl [],.sl []])]) (qE 0 []) _
  simp (disch:=omega) only [go_sem,seval,qAt,h1,jA5]
theorem zZt:qCx.fs [.t (.sl []),.t (.sl [])] []=some (.t (.bool true),[]):=qV7 (a:=[]) (by exact⟨by decide,by simp⟩)
theorem qNp (tab:Tab) (gl:Gl) (n1 n2 n3:Nat) (h1:tab.look n1=some qCy.fs) (h2:tab.look n2=some xR.fs) (h3:tab.look n3=some qCx.fs) (x:Option Bd) (h:qJs.pre x) :
  (vW n1 n2 n3).wp tab gl (qE 0 (qJs.as x)) (qE 0 []) (zZ [(4,none)] 0 (fun r o=>r = .t (.bool true)∧o=[])):=by
 cases x with
 | some b=>
  obtain⟨hL,hp,hb⟩:=h b rfl
  have e1:=zV6 hL
  have e2:=qA8 (a:=b.prv) (b:=b.prv) ⟨hp,hp⟩
  rw[decide_eq_true rfl] at e2
  have e3:=qV7 hb
  show (vW n1 n2 n3).wp tab gl (qE 0 [.t (bdT b),.t (bdT b)]) (qE 0 []) _
  simp (disch:=omega) only [go_sem,seval,vW,bdT,h1,h2,h3,e1,e2,e3]
 | none=>
  show (vW n1 n2 n3).wp tab gl (qE 0 [.t zBi,.t zBi]) (qE 0 []) _
  simp (disch:=omega) only [go_sem,seval,vW,zBi,h1,h2,h3,jAk,jA5,zZt]
theorem qLh {l:List Im} {act:Int} (h:qGr l=0) (ha:1≤act∧act≤3):qD4 act l=0:=by
 have e0:prE l act=0:=by unfold prE;rw[if_neg (by omega),if_neg (by omega)]
 have eG:prG l act=rpF act (qRl act l):=if_pos e0
 have hS:=(zTn (act:=act) ha (es:=qRl act l)).1
 rw[qD4,pdE,if_pos e0,eG,qM2]
 rw[if_neg (by rintro (h | h)<;>exact zW7 h),if_neg]
 simp only[qDx]
 rintro (⟨h1,h2⟩ | ⟨h1,h2⟩)
 ·by_cases hq:act%2=1
  ·have:=hS.on (a:=0) (by omega) (by simpa using hq)
   rw[this] at h2;cases h2
  ·rw[decide_eq_false hq] at h1;exact h1 rfl
 ·by_cases hq:act/2%2=1
  ·have:=hS.on (a:=1) (by omega) (by simpa using hq)
   rw[this] at h2;cases h2
  ·rw[decide_eq_false hq] at h1;exact h1 rfl
def cw1:List Im:=[(1,[102],0,[]),(3,[107],1,[])]
def cw2:List Im:=[(1,[102],0,[]),(3,[107],2,[])]
theorem zY2:qGr cw1=0:=by decide
theorem zY3:qGr cw2=0:=by decide
def qYq:Ct where
 α:=Unit
 as _:=[]
 ins _:=[]
 pre _:=True
 r _:= .t (.sl ([cw1,cw2].map qAm))
 outs _:=[]
 inj:=fun _ _ _ _=>⟨rfl,rfl⟩
theorem jBj:qYq.fs [] []=some (.t (.sl ([cw1,cw2].map qAm)),[]):=qYq.eq () trivial
theorem zDk (tab:Tab) (gl:Gl):qNy.wp tab gl (qE 0 []) (qE 0 []) (zZ [(0,none)] 0 (fun r o=>r = .t (.sl ([cw1,cw2].map qAm))∧o=[])):=by
 simp (disch:=omega) only [go_sem,seval,qNy]
 exact⟨rfl,rfl⟩
def cwL:List (List Im):=[cw1,cw2]
theorem jDi:zGm cwL 2:=by
 refine⟨?_,by decide,by omega,by omega⟩
 intro l hl
 simp only[cwL,List.mem_cons,List.not_mem_nil,or_false] at hl
 rcases hl with rfl | rfl
 ·refine⟨by simp[cw1],fun x hx=>?_⟩
  simp only[cw1,List.mem_cons,List.not_mem_nil,or_false] at hx
  rcases hx with rfl | rfl
  all_goals exact⟨by simp,by simp,by unfold rI;simp,by unfold rI;simp⟩
 ·refine⟨by simp[cw2],fun x hx=>?_⟩
  simp only[cw2,List.mem_cons,List.not_mem_nil,or_false] at hx
  rcases hx with rfl | rfl
  all_goals exact⟨by simp,by simp,by unfold rI;simp,by unfold rI;simp⟩
theorem qX6 {act:Int} {ls:List (List Im)} (h : ∀ l∈ls,qGr l=0) (ha:1≤act∧act≤3) (hl:1≤ls.length∧ls.length≤8):qEh act ls=0:=by
 rw[qEh,if_neg (by omega)]
 exact qLw (fun j hj=>qLh (by
  rw[List.getD_eq_getElem?_getD,List.getElem?_eq_getElem hj]
  exact h _ (List.getElem_mem hj)) ha)
theorem jCv:qEh 2 cwL=0:=by
 refine qX6 ?_ (by omega) (by decide)
 intro l hl
 simp only[cwL,List.mem_cons,List.not_mem_nil,or_false] at hl
 rcases hl with rfl | rfl
 ·exact zY2
 ·exact zY3
theorem zNb (tab:Tab) (gl:Gl) (n1 n2 n3 n4 n5 n6:Nat) (h1:tab.look n1=some qYq.fs) (h2:tab.look n2=some qDl.fs) (h3:tab.look n3=some qFi.fs) (h4:tab.look n4=some qUu.fs) (h5:tab.look n5=some qGs.fs) (h6:tab.look n6=some xR.fs) :
  (qI8 n1 n2 n3 n4 n5 n6).wp tab gl (qE 0 []) (qE 0 []) (zZ [(0,none)] 0 (fun r o=>r = .t (.bool true)∧o=[])):=by
 have hT:=jBj
 rw[show [cw1,cw2]=cwL from rfl] at hT
 have hB:=qQs jDi
 have hP:=qZl jDi
 have lB:(qIj 2 cwL).length=2:=by rw[qIj,if_pos jCv,List.length_map];rfl
 have lP:=qWi jCv
 rw[jCv] at hB hP
 have hE:=zSr (m:=1) (a:=2) (by omega)
 rw[show ((1:Nat):Int)=1 from rfl] at hE
 have hN:=zSi (m:=1) (act:=2) (mach:=1) (num:=3) (d:=[115]) (ls:=cwL) ⟨by omega,by decide,jDi⟩ (by rw[qOg,if_neg (by decide),if_neg (by rw[jCv];decide),if_neg (by decide)])
 have hS:=qA8 (a:=qG3 2 cwL) (b:=qG3 2 cwL) ⟨by omega,by omega⟩
 rw[decide_eq_true rfl] at hS
 rw[zYi,if_pos (by decide),bdT] at hN
 simp only[qKz,List.map_cons,List.map_nil] at hN
 have lV:32<(zA8 (zIr 1) (qG3 2 cwL) (qO9 (qFm (qIb 1 3 [115])) [115]) [] (qFm (qIb 1 3 [115])) [115]).length:=by
  rw[zA8,qSf,qBo];omega
 generalize zA8 (zIr 1) (qG3 2 cwL) (qO9 (qFm (qIb 1 3 [115])) [115]) [] (qFm (qIb 1 3 [115])) [115]=w at *
 generalize qO9 (qFm (qIb 1 3 [115])) [115]=u at *
 generalize qG3 2 cwL=p at *
 generalize qIj 2 cwL=bl at *
 generalize cwL=ls at *
 generalize qMy 1 2=en at *
 simp (disch:=omega) only [go_sem,seval,qI8,h1,hT,h2,hB,h3,hP,h4,hE,h5,hN,h6,hS,lB,lP,lV]
def qO2 (codes:List UInt8):Nat→Cd→List (List Im)
 | 0,_=>[]
 | n+1,c=>chG (codes.drop (if codes.length<(nx c 100).1 then 0 else (nx c 100).1))::qO2 codes n (nx c 100).2
theorem qOh {codes:List UInt8} : ∀ {n:Nat} {c:Cd},(qO2 codes n c).length=n
 | 0,_=>rfl
 | n+1,c=>by rw[qO2,List.length_cons,qOh]
theorem qX9 {codes:List UInt8} : ∀ {n:Nat} {c:Cd},∀ l∈qO2 codes n c,∃ b,l=chG b
 | 0,c,l,h=>by rw[qO2] at h;exact absurd h (List.not_mem_nil)
 | n+1,c,l,h=>by
  rw[qO2] at h
  rcases List.mem_cons.1 h with h | h
  ·exact⟨_,h⟩
  ·exact qX9 l h
def zEx (codes:List UInt8) (n:Nat):List (List Im):=qO2 codes n (codes.take 120,0)
theorem qRj {codes:List UInt8} {n:Nat}:(zEx codes n).length=n:=qOh
theorem zEy {codes:List UInt8} {n:Nat} {l:List Im} (h:l∈zEx codes n) : ∃ b,l=chG b:=by
 rw[zEx] at h
 exact qX9 l h
theorem zJ1 {codes:List UInt8} {n:Nat} {act:Int} (hn:n≤1000) (ha:1≤act∧act≤3):zGm (zEx codes n) act:=by
 have hl:(zEx codes n).length=n:=qRj
 generalize hd:zEx codes n=ls at *
 refine⟨fun l hl=>?_,by omega,by omega,by omega⟩
 rw[←hd] at hl
 obtain⟨b,hb⟩:=zEy hl
 rw[hb]
 exact zUd
theorem zUm {codes:List UInt8} {n:Nat} : ∀ l∈zEx codes n,qGr l=0:=by
 intro l hl
 obtain⟨b,hb⟩:=zEy hl
 rw[hb]
 exact zJg.1
def qQx:Ct where
 α:=List UInt8×Nat
 as x:=[.t (.sl (x.1.map qA)),.t (.int .i64 x.2)]
 ins _:=[]
 pre x:=x.1.length≤9223372036854775807∧x.2≤100
 r x:= .t (.sl ((zEx x.1 x.2).map qAm))
 outs _:=[]
 inj:=by
  rintro⟨a,b⟩ ⟨c,d⟩ h _
  simp only[List.cons.injEq,V.t.injEq,T.sl.injEq,T.int.injEq,true_and,and_true,qZ,Int.natCast_inj] at h
  obtain⟨rfl,rfl⟩:=h
  exact⟨rfl,rfl⟩
theorem zJk {b:List UInt8} {n:Nat} (h:b.length≤9223372036854775807∧n≤100):qQx.fs [.t (.sl (b.map qA)),.t (.int .i64 n)] []=some (.t (.sl ((zEx b n).map qAm)),[]):=qQx.eq (b,n) h
theorem qTy (tab:Tab) (gl:Gl) (n1 n2 n3:Nat) (h1:tab.look n1=some qJ6.fs) (h2:tab.look n2=some qE2.fs) (h3:tab.look n3=some qQy.fs) (b:List UInt8) (n:Nat) (hb:b.length≤9223372036854775807) (hn:n≤100) :
  (qHa n1 n2 n3).wp tab gl (qE 0 [.t (.sl (b.map qA)),.t (.int .i64 n)]) (qE 0 []) (zZ [(4,none)] 0 (fun r o=>r = .t (.sl ((zEx b n).map qAm))∧o=[])):=by
 have hD:=zJv (b:=b) (n:=120) ⟨hb,by omega⟩
 rw[show ((120:Nat):Int)=120 from rfl] at hD
 have hc0:qEi (b.take 120,0):=⟨Nat.zero_le _,by show (b.take 120).length<_;rw[List.length_take];omega⟩
 obtain⟨P,hP⟩ : ∃ P,zEx b n=P:=⟨_,rfl⟩
 rw[hP]
 simp (disch:=omega) only [go_sem,seval,qHa,h1,hD]
 refine qEm (σ:=Nat×Cd×List (List Im)) (fun s=>qEi s.2.1∧s.1+s.2.2.length=n∧s.2.2++qO2 b s.1 s.2.1=P) (fun s=>s.1)
  (fun s=>[(0,.t (.sl (b.map qA))),(1,.t (.int .i64 (s.1:Nat))),(5,.ref 8208 0 0),(6,.sl 9000 0 s.2.2.length)]) (fun s=>[(9000,.live 1 ((s.2.2.map qAm).map V.t) true false),(8208,cdO s.2.1)]) (n,(b.take 120,0),[]) ⟨hc0,by simp,by rw[←hP];rfl⟩ ?_ (fun s hs=>?_)
 ·refine qI.cv0 (hv:=[(9000,.live 1 [] true false)]) (ho:=[(8208,cdO (b.take 120,0))]) id ?_ ?_ rfl rfl
  all_goals simp (disch:=omega) only [go_sem,seval,id,cdO]
  all_goals rfl
 ·obtain⟨k,c,out⟩:=s
  obtain⟨hc,hk,hq⟩:=hs
  simp only at *
  by_cases hz:k=0
  ·subst hz
   rw[qO2,List.append_nil] at hq
   subst hq
   simp (disch:=omega) only [go_sem,seval,kD]
  ·obtain⟨k',rfl⟩ : ∃ k',k=k'+1:=⟨k-1,by omega⟩
   have hN:=zCp (c:=c) (n:=100) ⟨hc,by omega,by omega⟩
   rw[show ((100:Nat):Int)=100 from rfl] at hN
   have lN:=qV8 (c:=c) (n:=100) (by omega)
   have ok:=qG2 (n:=100) hc
   rw[qO2] at hq
   generalize nx c 100=x at *
   obtain⟨f,c'⟩:=x
   simp only at *
   by_cases hf:b.length<f
   ·rw[if_pos hf] at hq
    have hC:=zEs (b:=b) hb
    rw[List.drop_zero] at hq
    generalize chG b=ch at *
    have hS:List.map V.t (List.map qAm (out++[ch]))=List.map V.t (List.map qAm out)++[V.t (.sl (ch.map imT))]:=by rw[List.map_append,List.map_append];rfl
    have hQ:(out++[ch])++qO2 b k' c'=P:=by rw[←hq,List.append_assoc];rfl
    simp (disch:=omega) only [go_sem,seval,kD,cdO,h2,hN,hf,h3,hC]
    refine zCi.of (k',c',out++[ch]) ⟨ok,by simp only[List.length_append,List.length_cons,List.length_nil];omega,hQ⟩ (by simp only;omega) (qI.rd (fun j=>if j=9000 then 36960 else j) ?_ ?_ rfl)
    all_goals simp (disch:=omega) only [go_sem,seval,id,cdO,hS]
    all_goals first | omega | rfl
   ·rw[if_neg hf] at hq
    have hC:=zEs (b:=b.drop f) (by rw[List.length_drop];omega)
    generalize chG (b.drop f)=ch at *
    have hS:List.map V.t (List.map qAm (out++[ch]))=List.map V.t (List.map qAm out)++[V.t (.sl (ch.map imT))]:=by rw[List.map_append,List.map_append];rfl
    have hQ:(out++[ch])++qO2 b k' c'=P:=by rw[←hq,List.append_assoc];rfl
    have hdp:List.take (b.length-f) (List.drop f b)=List.drop f b:=List.take_of_length_le (by rw[List.length_drop];omega)
    simp (disch:=omega) only [go_sem,seval,kD,cdO,h2,hN,hf,h3,hdp,hC]
    refine zCi.of (k',c',out++[ch]) ⟨ok,by simp only[List.length_append,List.length_cons,List.length_nil];omega,hQ⟩ (by simp only;omega) (qI.rd (fun j=>if j=9000 then 36960 else j) ?_ ?_ rfl)
    all_goals simp (disch:=omega) only [go_sem,seval,id,cdO,hS]
    all_goals first | omega | rfl
def zA5 {α:Type} (f:α→α) (l:List α) (i:Nat):List α:=(l.take i).map f++l.drop i
theorem zPr {α:Type} {f:α→α} {l:List α} {i:Nat}:(zA5 f l i).length=l.length:=by simp[zA5];omega
theorem zZy {α:Type} {f:α→α} {l:List α}:zA5 f l 0=l:=by simp[zA5]
theorem zZz {α:Type} {f:α→α} {l:List α}:zA5 f l l.length=l.map f:=by simp[zA5]
theorem zPq {α:Type} {f:α→α} {l:List α} {i:Nat} {e:α} (h:l[i]?=some e):(zA5 f l i)[i]?=some e:=by
 have hi:i<l.length:=(List.getElem?_eq_some_iff.1 h).1
 rw[zA5,List.getElem?_append_right (by simp;omega)]
 simp[Nat.min_eq_left (Nat.le_of_lt hi),h]
theorem zPs {α:Type} {f:α→α} {l:List α} {i:Nat} {e:α} (h:l[i]?=some e):(zA5 f l i).set i (f e)=zA5 f l (i+1):=by
 have hi:i<l.length:=(List.getElem?_eq_some_iff.1 h).1
 have hd:l.drop i=e::l.drop (i+1):=by
  rw[List.drop_eq_getElem_cons hi]
  congr 1
  have:=List.getElem?_eq_getElem hi
  rw[h] at this
  exact (Option.some.inj this).symm
 rw[zA5,zA5,List.set_append_right _ _ (by simp;omega),qC1 h,hd]
 simp[Nat.min_eq_left (Nat.le_of_lt hi)]
def f80 (x:Im):Im:=(x.1,x.2.1,x.2.2.1,x.2.2.2.take 80)
def fw1 (l:List Im):List Im:=(l.take 10).map f80
def fwL (ls:List (List Im)):List (List Im):=(ls.take 10).map fw1
abbrev lsX (ls:List (List Im)):Prop:=ls.length≤9223372036854775807 ∧ ∀ l∈ls,qKe l
theorem zY8 {ls:List (List Im)} {act:Int} (h:lsX ls) (ha : -1000≤act∧act≤1000):zGm (fwL ls) act:=by
 refine⟨fun l hl=>?_,by rw[fwL,List.length_map,List.length_take];omega,ha.1,ha.2⟩
 obtain⟨x,hx,rfl⟩:=List.mem_map.1 hl
 have hX:=h.2 x (List.mem_of_mem_take hx)
 refine⟨by rw[fw1,List.length_map,List.length_take];omega,fun e he=>?_⟩
 obtain⟨y,hy,rfl⟩:=List.mem_map.1 he
 have hY:=hX.2 y (List.mem_of_mem_take hy)
 exact⟨hY.2.2.1,by show (List.take 80 _).length<_;rw[List.length_take];omega,hY.1,hY.2.1⟩
def qIm:Ct where
 α:=List (List Im)
 as x:=[.t (.sl (x.map qAm))]
 ins _:=[]
 pre x:=lsX x
 r x:= .t (.sl ((fwL x).map qAm))
 outs _:=[]
 inj:=by
  intro a b h _
  simp only[List.cons.injEq,V.t.injEq,T.sl.injEq,and_true] at h
  rw[kJ (fun _ _=>qLj) h]
  exact⟨rfl,rfl⟩
theorem zE4 {ls:List (List Im)} (h:lsX ls):qIm.fs [.t (.sl (ls.map qAm))] []=some (.t (.sl ((fwL ls).map qAm)),[]):=qIm.eq ls h
theorem zSv (tab:Tab) (gl:Gl) (n1:Nat) (h1:tab.look n1=some qLn.fs) (R:List (List Im)) (out:List (List Im)) (k:Nat) (l:List Im) (hl:l.length≤10) (hX : ∀ e∈l,imX e) (fs:Fs) (hs:Hs) (Qx:qD2)
  (hw:qI fs hs [(0,.t (.sl (R.map qAm))),(3,.sl 9000 0 out.length),(4,.t (.int .i64 (k:Nat))),(6,.sl 9001 0 l.length),(7,.t (.int .i64 0))] [(9001,.live 4 ((l.map imT).map V.t) true false),(9000,.live 1 ((out.map qAm).map V.t) true false)])
  (hq:Qx (.exit 2) [(34,.t (.bool false)),(33,.t (.int .i64 l.length)),(32,.sl 9001 0 l.length),(31,.t (.int .i64 l.length)),(0,.t (.sl (R.map qAm))),(3,.sl 9000 0 out.length),(4,.t (.int .i64 (k:Nat))),(6,.sl 9001 0 l.length),(7,.t (.int .i64 l.length))] [(9001,.live 4 (((l.map f80).map imT).map V.t) true false),(9000,.live 1 ((out.map qAm).map V.t) true false)]) :
  qIv tab gl (qAr n1) fs hs Qx:=by
 refine jQ hw ?_
 refine qD l.length (fun i=>[(0,.t (.sl (R.map qAm))),(3,.sl 9000 0 out.length),(4,.t (.int .i64 (k:Nat))),(6,.sl 9001 0 l.length),(7,.t (.int .i64 (i:Nat)))]) (fun i=>[(9001,.live 4 (((zA5 f80 l i).map imT).map V.t) true false),(9000,.live 1 ((out.map qAm).map V.t) true false)]) ?_ (fun i hi=>?_)
 ·simp only[zZy]
  exact qI.refl
 ·have hlen:=zPr (f:=f80) (l:=l) (i:=i)
  by_cases hlt:i<l.length
  ·obtain⟨⟨xa,xs,xv,xp⟩,he⟩ : ∃ e,l[i]?=some e:=⟨l[i],by simp[hlt]⟩
   have hev:=hX _ (List.mem_of_getElem? he)
   have hg:=zPq (f:=f80) he
   have hst:=zPs (f:=f80) he
   have hc:qLn.fs [.t (.sl (xp.map qA)),.t (.int .i64 80)] []=_:=zSo (b:=xp) (n:=80) ⟨hev.2.2.2,by omega⟩
   have hset:List.set ((zA5 f80 l i).map imT) i (.agg [.int .i64 xa,zU xs,.int .i64 xv,.sl ((xp.take 80).map qA)])=(zA5 f80 l (i+1)).map imT:=by
    rw[←hst,List.map_set];rfl
   generalize hL:zA5 f80 l i=L at *
   simp (disch:=omega) only [go_sem,seval,qAr,hg,qN,h1,hc]
   refine⟨hlt,qI.rd id ?_ ?_ rfl⟩
   all_goals simp (disch:=omega) only [go_sem,seval,id,hset]
  ·have e:i=l.length:=by omega
   subst e
   have hn:=zZz (f:=f80) (l:=l)
   rw[hn] at hlen ⊢
   generalize l.map f80=L at *
   simp (disch:=omega) only [go_sem,seval,qAr]
   exact hq
theorem zDj (tab:Tab) (gl:Gl) (n1:Nat) (h1:tab.look n1=some qLn.fs) (ls:List (List Im)) (hx:lsX ls) :
  (qHb n1).wp tab gl (qE 0 [.t (.sl (ls.map qAm))]) (qE 0 []) (zZ [(2,none)] 0 (fun r o=>r = .t (.sl ((fwL ls).map qAm))∧o=[])):=by
 have hlx:=hx.1
 have fin : ∀ (R:List (List Im)),R.length≤10→(∀ l∈R,qKe l)→fwL ls=R.map fw1 → ∀ (fs:Fs) (hs:Hs),qI fs hs [(0,.t (.sl (R.map qAm))),(3,.sl 9000 0 0),(4,.t (.int .i64 0))] [(9000,.live 1 [] true false)]→
   qIv tab gl (kO n1) fs hs (qFe 0 (zMl tab gl ((rG 69632 [mv 51 3,mv 2 51]).seq .ret) (zZ [(2,none)] 0 (fun r o=>r = .t (.sl ((fwL ls).map qAm))∧o=[])))):=by
  intro R hR hRX hf fs hs hw
  refine jQ hw ?_
  rw[hf]
  refine qD R.length (fun k=>[(0,.t (.sl (R.map qAm))),(3,.sl 9000 0 ((R.take k).map fw1).length),(4,.t (.int .i64 (k:Nat)))]) (fun k=>[(9000,.live 1 ((((R.take k).map fw1).map qAm).map V.t) true false)]) ?_ (fun k hk=>?_)
  ·exact qI.refl
  ·by_cases hlt:k<R.length
   ·obtain⟨l,hg⟩ : ∃ l,R[k]?=some l:=⟨_,List.getElem?_eq_getElem hlt⟩
    have hX:=hRX _ (List.mem_of_getElem? hg)
    have hlX:=hX.1
    have hc:qAm l = .sl (l.map imT):=rfl
    have hS:List.map V.t (List.map qAm ((R.take (k+1)).map fw1))=List.map V.t (List.map qAm ((R.take k).map fw1))++[V.t (.sl ((fw1 l).map imT))]:=by rw[qC1 hg,List.map_append,List.map_append];rfl
    have hL:((R.take k).map fw1).length=k:=by rw[List.length_map,List.length_take];omega
    generalize (R.take k).map fw1=out at *
    by_cases h10:10<l.length
    ·have hl10:(l.take 10).length=10:=by rw[List.length_take];omega
     have hfw:fw1 l=(l.take 10).map f80:=rfl
     have hmX : ∀ e∈l.take 10,imX e:=fun e he=>hX.2 e (List.mem_of_mem_take he)
     generalize hQ:l.take 10=Q at *
     simp (disch:=omega) only [go_sem,seval,kO,hlt,hg,Option.map_some,hc,h10,hQ,hl10,zI]
     refine zSv tab gl n1 h1 R out k Q (by omega) hmX _ _ _ (qI.rd (fun j=>if j=9001 then 45088 else j) ?_ ?_ rfl) ?_
     ·simp (disch:=omega) only [go_sem,seval,id,hl10]
     ·simp (disch:=omega) only [go_sem,seval,id,hl10]
     ·rw[←hfw]
      have tF:List.take Q.length (fw1 l)=fw1 l:=List.take_of_length_le (by rw[hfw,List.length_map];omega)
      have lF:(fw1 l).length=Q.length:=by rw[hfw,List.length_map]
      generalize fw1 l=z at *
      simp (disch:=omega) only [go_sem,seval,id]
      refine⟨hlt,qI.cv (hv:=[]) [9001] (fun j=>if j=9000 then 65584 else j) ?_ rfl⟩
      simp (disch:=omega) only [go_sem,seval,hS,tF,lF,hL]
      all_goals rfl
    ·have hfw:fw1 l=l.map f80:=by rw[fw1,List.take_of_length_le (by omega)]
     simp (disch:=omega) only [go_sem,seval,kO,hlt,hg,Option.map_some,hc,h10,zI]
     refine zSv tab gl n1 h1 R out k l (by omega) hX.2 _ _ _ (qI.rd (fun j=>if j=9001 then 45088 else j) ?_ ?_ rfl) ?_
     ·simp (disch:=omega) only [go_sem,seval,id]
     ·simp (disch:=omega) only [go_sem,seval,id]
     ·rw[←hfw]
      have tF:List.take l.length (fw1 l)=fw1 l:=List.take_of_length_le (by rw[hfw,List.length_map];omega)
      have lF:(fw1 l).length=l.length:=by rw[hfw,List.length_map]
      generalize fw1 l=z at *
      simp (disch:=omega) only [go_sem,seval,id]
      refine⟨hlt,qI.cv (hv:=[]) [9001] (fun j=>if j=9000 then 65584 else j) ?_ rfl⟩
      simp (disch:=omega) only [go_sem,seval,hS,tF,lF,hL]
      all_goals rfl
   ·have e:k=R.length:=by omega
    subst e
    rw[List.take_length]
    simp (disch:=omega) only [go_sem,seval,kO]
 by_cases h10:10<ls.length
 ·have hl:(ls.take 10).length=10:=by rw[List.length_take];omega
  have hv : ∀ l∈ls.take 10,qKe l:=fun l hl=>hx.2 l (List.mem_of_mem_take hl)
  generalize hQ:ls.take 10=Q at *
  have hf:fwL ls=Q.map fw1:=by unfold fwL;rw[hQ]
  have zC : ∀ l:List (List Im),qVd 1 (l.map qAm)=true:=fun l=>by simp[qVd,qAm,T.cells]
  simp (disch:=omega) only [go_sem,seval,qHb,h10,hQ,hl,zC]
  refine fin Q (by omega) hv hf _ _ (qI.cv0 (hv:=[(9000,.live 1 [] true false)]) (ho:=[]) id ?_ ?_ rfl rfl)
  all_goals simp (disch:=omega) only [go_sem,seval,id]
 ·have hf:fwL ls=ls.map fw1:=by unfold fwL;rw[List.take_of_length_le (by omega)]
  simp (disch:=omega) only [go_sem,seval,qHb,h10]
  refine fin ls (by omega) hx.2 hf _ _ (qI.cv0 (hv:=[(9000,.live 1 [] true false)]) (ho:=[]) id ?_ ?_ rfl rfl)
  all_goals simp (disch:=omega) only [go_sem,seval,id]
theorem jJc {l:List (List UInt8)} {d:List UInt8}:l.contains d=decide (∃ k,k<l.length∧l.getD k []=d):=by
 rw[Bool.eq_iff_iff,List.contains_iff_mem,decide_eq_true_iff]
 constructor
 ·intro h
  obtain⟨k,hk,he⟩:=List.getElem_of_mem h
  exact⟨k,hk,by rw[List.getD_eq_getElem?_getD,List.getElem?_eq_getElem hk];exact he⟩
 ·rintro⟨k,hk,he⟩
  rw[List.getD_eq_getElem?_getD,List.getElem?_eq_getElem hk] at he
  exact he▸List.getElem_mem hk
def qQ4:Ct where
 α:=List (List UInt8)×List UInt8
 as x:=[.t (.sl (x.1.map bsT)),.t (.sl (x.2.map qA))]
 ins _:=[]
 pre x:=(∀ b∈x.1,b.length<1000000000)∧x.1.length≤1000000∧x.2.length<1000000000
 r x:= .t (.bool (x.1.contains x.2))
 outs _:=[]
 inj:=by
  rintro⟨a,b⟩ ⟨c,d⟩ h _
  simp only[List.cons.injEq,V.t.injEq,T.sl.injEq,and_true,qZ,qA6] at h
  obtain⟨rfl,rfl⟩:=h
  exact⟨rfl,rfl⟩
theorem zLe {l:List (List UInt8)} {d:List UInt8} (h:(∀ b∈l,b.length<1000000000)∧l.length≤1000000∧d.length<1000000000):qQ4.fs [.t (.sl (l.map bsT)),.t (.sl (d.map qA))] []=some (.t (.bool (l.contains d)),[]):=qQ4.eq (l,d) h
theorem qTz (tab:Tab) (gl:Gl) (n1:Nat) (h1:tab.look n1=some xR.fs) (l:List (List UInt8)) (d:List UInt8) (h:(∀ b∈l,b.length<1000000000)∧l.length≤1000000∧d.length<1000000000) :
  (qHc n1).wp tab gl (qE 0 [.t (.sl (l.map bsT)),.t (.sl (d.map qA))]) (qE 0 []) (zZ [(4,none)] 0 (fun r o=>r = .t (.bool (l.contains d))∧o=[])):=by
 obtain⟨hb,hl,hd⟩:=h
 simp (disch:=omega) only [go_sem,seval,qHc]
 refine yO l.length (fun k => ∀ j,j<k→l.getD j []≠d) (fun k=>[(0,.t (.sl (l.map bsT))),(1,.t (.sl (d.map qA))),(5,.t (.int .i64 k))]) (fun _=>[]) (fun j hj=>by omega) ?_ (fun k hk hP=>?_)
 ·refine qI.rd id ?_ ?_ rfl
  all_goals simp (disch:=omega) only [go_sem,seval,id]
  all_goals rfl
 ·by_cases hlt:k<l.length
  ·have hm:(l.getD k []).length<1000000000:=by
    rw[List.getD_eq_getElem?_getD,List.getElem?_eq_getElem hlt]
    exact hb _ (List.getElem_mem hlt)
   have hS:=qA8 (a:=l.getD k []) (b:=d) ⟨hm,hd⟩
   by_cases he:l.getD k []=d
   ·rw[decide_eq_true he] at hS
    have hC:l.contains d=true:=by rw[jJc];exact decide_eq_true ⟨k,hlt,he⟩
    rw[hC]
    simp (disch:=omega) only [go_sem,seval,kE,hlt,h1,hS]
   ·rw[decide_eq_false he] at hS
    have hN : ∀ j,j<k+1→l.getD j []≠d:=fun j hj=>by
     rcases Nat.lt_or_ge j k with h | h
     ·exact hP j h
     ·rw[show j=k by omega];exact he
    simp (disch:=omega) only [go_sem,seval,kE,hlt,h1,hS]
    refine⟨hN,qI.rd id ?_ ?_ rfl⟩
    all_goals simp (disch:=omega) only [go_sem,seval,id]
  ·have e:k=l.length:=by omega
   subst e
   have hC:l.contains d=false:=by rw[jJc];exact decide_eq_false (by rintro⟨j,hj,he⟩;exact hP j hj he)
   rw[hC]
   simp (disch:=omega) only [go_sem,seval,kE]
theorem zV4 {act:Int} {ls:List (List Im)}:(qG3 act ls).length≤32:=by
 rw[qG3];split
 ·rename_i h;rw[zFe (qIk h)];omega
 ·simp
theorem zEo {act:Int} {ls:List (List Im)}:zA6 (qIj act ls):=by
 rw[qIj];split
 ·rename_i h
  have hj:=qIk h
  rw[qIj,if_pos h] at hj
  exact⟨by have:=hj.1.2;omega,fun b hb=>by have:=hj.2 b hb;omega⟩
 ·exact⟨by decide,by simp⟩
theorem zYu {a:Int}:1≤1+qIw a 3∧1+qIw a 3≤3:=by
 have:=qDp (a:=a) (m:=3) (by omega)
 omega
theorem qWz (tab:Tab) (gl:Gl) (n1 n2 n3 n4 n5 n6 n7 n8 n9 n10 n11:Nat) (h1:tab.look n1=some qEj.fs) (h2:tab.look n2=some qM1.fs) (h3:tab.look n3=some qIm.fs) (h4:tab.look n4=some qJp.fs) (h5:tab.look n5=some qQx.fs) (h6:tab.look n6=some qDl.fs) (h7:tab.look n7=some qDl.fs) (h8:tab.look n8=some qFi.fs) (h9:tab.look n9=some qFi.fs) (h10:tab.look n10=some qCx.fs) (h11:tab.look n11=some xR.fs)
  (raw:List (List Im)) (cs:List UInt8) (n a:Int) (hx:lsX raw) (hc:cs.length≤9223372036854775807) (hn : -9223372036854775808≤n∧n<9223372036854775808) (ha : -9223372036854775808≤a∧a<9223372036854775808) :
  (qCr n1 n2 n3 n4 n5 n6 n7 n8 n9 n10 n11).wp tab gl (qE 0 [.t (.sl (raw.map qAm)),.t (.sl (cs.map qA)),.t (.int .i64 n),.t (.int .i64 a)]) (qE 0 []) (zZ [(8,none)] 0 (fun r o=>r = .t (.bool true)∧o=[])):=by
 have hA:=zJu ha
 have rA:=zYu (a:=a)
 generalize 1+qIw a 3=A at *
 have hM:=qH9 (a:=n) (b:=10) ⟨hn,by omega⟩
 have lM:=qDp (a:=n) (m:=10) (by omega)
 generalize qIw n 10=m at *
 obtain⟨k,rfl⟩ : ∃ k:Nat,m=k:=⟨m.toNat,by omega⟩
 have hF:=zE4 hx
 have hC:=zJk (b:=cs) (n:=k) ⟨hc,by omega⟩
 have m1:=zY8 (act:=A) hx (by omega)
 have m2:=zJ1 (codes:=cs) (n:=k) (act:=A) (by omega) rA
 generalize fwL raw=X at *
 generalize zEx cs k=Y at *
 simp (disch:=omega) only [go_sem,seval,qCr,h1,qEg,h2,hA,h3,hF,h4,hM,h5,hC]
 refine qD 2 (fun i=>[(3,.t (.int .i64 A)),(29,.t (.sl [.sl (X.map qAm),.sl (Y.map qAm)])),(30,.t (.int .i64 2)),(31,.t (.int .i64 i))]) (fun _=>[]) ?_ (fun i hi=>?_)
 ·refine qI.cv (hv:=[]) [20576] id ?_ rfl
  simp (disch:=omega) only [go_sem,seval,id]
  all_goals rfl
 ·have step : ∀ Z:List (List Im),zGm Z A→qDl.fs [.t (.sl (Z.map qAm)),.t (.int .i64 A)] []=some (.tup [.t (.sl ((qIj A Z).map bsT)),.t (.int .i64 (qEh A Z))],[])∧qFi.fs [.t (.sl (Z.map qAm)),.t (.int .i64 A)] []=some (.tup [.t (.sl ((qG3 A Z).map qA)),.t (.int .i64 (qEh A Z))],[])∧qCx.fs [.t (.sl ((qIj A Z).map bsT)),.t (.sl ((qIj A Z).map bsT))] []=some (.t (.bool true),[])∧xR.fs [.t (.sl ((qG3 A Z).map qA)),.t (.sl ((qG3 A Z).map qA))] []=some (.t (.bool true),[]):=fun Z hZ=>by
   have lp:=zV4 (act:=A) (ls:=Z)
   have hs:=qA8 (a:=qG3 A Z) (b:=qG3 A Z) ⟨by omega,by omega⟩
   rw[decide_eq_true rfl] at hs
   exact⟨qQs hZ,qZl hZ,qV7 zEo,hs⟩
  rcases (show i=0∨i=1∨i=2 by omega) with rfl | rfl | rfl
  ·obtain⟨s1,s2,s3,s4⟩:=step X m1
   generalize qIj A X=bl at *
   generalize qEh A X=be at *
   generalize qG3 A X=pl at *
   have hb:(be != be)=false:=by simp
   simp (disch:=omega) only [go_sem,seval,vC,h6,h7,h8,h9,h10,h11,s1,s2,s3,s4,hb]
   refine qI.rd id ?_ ?_ rfl
   all_goals simp (disch:=omega) only [go_sem,seval,id]
   all_goals rfl
  ·obtain⟨s1,s2,s3,s4⟩:=step Y m2
   generalize qIj A Y=bl at *
   generalize qEh A Y=be at *
   generalize qG3 A Y=pl at *
   have hb:(be != be)=false:=by simp
   simp (disch:=omega) only [go_sem,seval,vC,h6,h7,h8,h9,h10,h11,s1,s2,s3,s4,hb]
   refine qI.rd id ?_ ?_ rfl
   all_goals simp (disch:=omega) only [go_sem,seval,id]
   all_goals rfl
  ·simp (disch:=omega) only [go_sem,seval,vC]
theorem zLp {A:Int} {L:List (List Im)} {l:List Im} (h:l∈L):(L.map (qBc A)).contains (qBc A l)=true:=by
 rw[List.contains_iff_mem];exact List.mem_map.2 ⟨l,h,rfl⟩
def sme (A:Int) (D:List UInt8) (L:List (List Im)) (k:Nat):Bool:=(L.take k).any fun y=>decide (D=qG5 A y)
theorem jD8 {A:Int} {D:List UInt8} {L:List (List Im)}:sme A D L 0=false:=by simp[sme]
theorem jD9 {A:Int} {D:List UInt8} {L:List (List Im)} {k:Nat} {y:List Im} (h:L[k]?=some y):sme A D L (k+1)=(sme A D L k||decide (D=qG5 A y)):=by
 rw[sme,sme,List.take_add_one,h]
 simp
theorem zXk {A:Int} {x:List Im} {L:List (List Im)} {k:Nat} (h:sme A (qG5 A x) L k=true):(L.map (qBc A)).contains (qBc A x)=true:=by
 rw[sme,List.any_eq_true] at h
 obtain⟨y,hy,he⟩:=h
 have he:=of_decide_eq_true he
 have:qBc A x=qBc A y:=by rw[qBc,qBc,qVu,qVu,he]
 rw[this]
 exact zLp (List.mem_of_mem_take hy)
theorem lbn {n:Nat}:((n:Int) != (n:Int))=false:=by simp
theorem qTq (tab:Tab) (gl:Gl) (n1 n2 n3 n4 n5 n6 n7 n8 n9 n10 n11 n12 n13:Nat) (h1:tab.look n1=some qEj.fs) (h2:tab.look n2=some qM1.fs) (h3:tab.look n3=some qJp.fs) (h4:tab.look n4=some qQx.fs) (h5:tab.look n5=some qFi.fs) (h6:tab.look n6=some qDl.fs) (h7:tab.look n7=some qCs.fs) (h8:tab.look n8=some qCn.fs) (h9:tab.look n9=some qQ4.fs) (h10:tab.look n10=some qF4.fs) (h11:tab.look n11=some xR.fs) (h12:tab.look n12=some qQy.fs) (h13:tab.look n13=some qCs.fs)
  (cs os:List UInt8) (n p a:Int) (hc:cs.length≤9223372036854775807) (ho:os.length≤9223372036854775807) (hn : -9223372036854775808≤n∧n<9223372036854775808) (hp : -9223372036854775808≤p∧p<9223372036854775808) (ha : -9223372036854775808≤a∧a<9223372036854775808) :
  (kN n1 n2 n3 n4 n5 n6 n7 n8 n9 n10 n11 n12 n13).wp tab gl (qE 0 [.t (.sl (cs.map qA)),.t (.sl (os.map qA)),.t (.int .i64 n),.t (.int .i64 p),.t (.int .i64 a)]) (qE 0 []) (zZ [(10,none)] 0 (fun r o=>r = .t (.bool true)∧o=[])):=by
 have hA:=zJu ha
 have rA:=zYu (a:=a)
 generalize 1+qIw a 3=A at *
 have hM:=qH9 (a:=n) (b:=4) ⟨hn,by omega⟩
 have lM:=qDp (a:=n) (m:=4) (by omega)
 generalize qIw n 4=m at *
 obtain⟨k,rfl⟩ : ∃ k:Nat,m=k:=⟨m.toNat,by omega⟩
 have hC:=zJk (b:=cs) (n:=1+k) ⟨hc,by omega⟩
 have mL:=zJ1 (codes:=cs) (n:=1+k) (act:=A) (by omega) rA
 have oL:=zUm (codes:=cs) (n:=1+k)
 have lL:=qRj (codes:=cs) (n:=1+k)
 generalize zEx cs (1+k)=L at *
 have eL:=qX6 (act:=A) oL rA (by omega)
 have hP:=qZl mL
 have hB:=qQs mL
 have jL:=qIk eL
 have bL:qIj A L=L.map (qBc A):=by rw[qIj,if_pos eL]
 have pL:qG3 A L=qIu (L.map (qBc A)):=by rw[qG3,if_pos eL,bL]
 rw[eL] at hP hB
 rw[bL] at hB jL
 rw[pL] at hP
 have hQ:=qH9 (a:=p) (b:=((L.length:Nat):Int)) ⟨hp,by omega⟩
 have lQ:=qDp (a:=p) (m:=((L.length:Nat):Int)) (by omega)
 generalize qIw p ((L.length:Nat):Int)=q at *
 obtain⟨j,rfl⟩ : ∃ j:Nat,q=j:=⟨q.toNat,by omega⟩
 have hj:j<L.length:=by omega
 obtain⟨l,hg⟩ : ∃ l,L[j]?=some l:=⟨_,List.getElem?_eq_getElem hj⟩
 have ml:=List.mem_of_getElem? hg
 have el:=qLh (act:=A) (oL l ml) rA
 have hBl:=qUs ⟨(mL.1 l ml).x,by omega,by omega⟩ el
 have hDl:=qR2 (qQr el)
 rw[show qKa z32 (qVu A l)=qBc A l from rfl] at hDl
 have hMl:=zLe (l:=L.map (qBc A)) (d:=qBc A l) ⟨fun b hb=>by have:=jL.2 b hb;omega,by rw[List.length_map];omega,by rw[qNb];omega⟩
 rw[zLp ml] at hMl
 have hX:=zEs ho
 have ex:=qLh (act:=A) (zJg (b:=os)).1 rA
 have mx:=zUd (b:=os)
 generalize chG os=x at *
 have hBx:=qUs ⟨mx.x,by omega,by omega⟩ ex
 have hDx:=qR2 (qQr ex)
 rw[show qKa z32 (qVu A x)=qBc A x from rfl] at hDx
 have hMx:=zLe (l:=L.map (qBc A)) (d:=qBc A x) ⟨fun b hb=>by have:=jL.2 b hb;omega,by rw[List.length_map];omega,by rw[qNb];omega⟩
 have lx:=qVv ex
 have hcl:qAm l = .sl (l.map imT):=rfl
 have lB:(L.map (qBc A)).length=1+k:=by rw[List.length_map];exact lL
 have fin : ∀ (fs:Fs) (hs:Hs),qI fs hs [(4,.t (.int .i64 A)),(11,.t (.sl (L.map qAm))),(14,.t (.sl ((L.map (qBc A)).map bsT))),(19,.ref 73840 0 0),(21,.t (.sl ((qBc A x).map qA))),(22,.t (.bool false)),(23,.t (.int .i64 0))] [(73840,.live 10 [.t (asT (qVu A x))] true true)]→
   qIv tab gl (jD n13 n11) fs hs (qFe 0 (zMl tab gl ((rG 114688 [mv 129 14,mv 130 21,cL 131 n9 false [.tmp 129,.tmp 130],mv 132 22,oO 133 (.beq false) [.tmp 131,.tmp 132],mv 134 133,mF 135 22 134,oF 136 134 (.un .not) [.tmp 135],oO 137 .pick [.tmp 134,.cst (.t (.bool true)),.tmp 136],mv 10 137]).seq .ret) (zZ [(10,none)] 0 (fun r o=>r = .t (.bool true)∧o=[])))):=by
  intro fs hs hw
  refine jQ hw ?_
  refine qD L.length (fun i=>[(4,.t (.int .i64 A)),(11,.t (.sl (L.map qAm))),(14,.t (.sl ((L.map (qBc A)).map bsT))),(19,.ref 73840 0 0),(21,.t (.sl ((qBc A x).map qA))),(22,.t (.bool (sme A (qG5 A x) L i))),(23,.t (.int .i64 (i:Nat)))]) (fun _=>[(73840,.live 10 [.t (asT (qVu A x))] true true)]) ?_ (fun i hi=>?_)
  ·simp only[jD8]
   exact qI.refl
  ·by_cases hlt:i<L.length
   ·obtain⟨y,hgy⟩ : ∃ y,L[i]?=some y:=⟨_,List.getElem?_eq_getElem hlt⟩
    have my:=List.mem_of_getElem? hgy
    have ey:=qLh (act:=A) (oL y my) rA
    have hBy:=qUs ⟨(mL.1 y my).x,by omega,by omega⟩ ey
    have ly:=qVv ey
    have hcy:qAm y = .sl (y.map imT):=rfl
    have hSy:=qA8 (a:=qG5 A x) (b:=qG5 A y) ⟨by omega,by omega⟩
    have hss:=jD9 (A:=A) (D:=qG5 A x) hgy
    generalize decide (qG5 A x=qG5 A y)=w at *
    simp only[qVu,asT]
    obtain⟨S',hS'⟩ : ∃ S',sme A (qG5 A x) L (i+1)=S':=⟨_,rfl⟩
    rw[hS'] at hss
    generalize qG5 A y=Dy at *
    cases hS:sme A (qG5 A x) L i
    ·rw[hS,Bool.false_or] at hss
     subst hss
     generalize qG5 A x=D at *
     simp (config := { maxSteps:=2000000 }) (disch:=(first | omega | (simp only[wL,wK];omega))) only [go_sem,seval,jD,hlt,hgy,Option.map_some,hcy,h13,hBy,h11,hSy]
     refine qI.rd id ?_ ?_ rfl
     all_goals simp (config := { maxSteps:=2000000 }) (disch:=(first | omega | (simp only[wL,wK];omega))) only [go_sem,seval,id,hS']
    ·rw[hS,Bool.true_or] at hss
     generalize qG5 A x=D at *
     simp (config := { maxSteps:=2000000 }) (disch:=(first | omega | (simp only[wL,wK];omega))) only [go_sem,seval,jD,hlt,hgy,Option.map_some,hcy,h13,hBy]
     refine qI.rd id ?_ ?_ rfl
     all_goals simp (config := { maxSteps:=2000000 }) (disch:=(first | omega | (simp only[wL,wK];omega))) only [go_sem,seval,id,hS',hss]
   ·have e:i=L.length:=by omega
    subst e
    simp only[qVu,asT]
    cases hS:sme A (qG5 A x) L L.length
    ·generalize (L.map (qBc A)).contains (qBc A x)=w at *
     generalize qG5 A x=D at *
     cases w
     all_goals simp (config := { maxSteps:=2000000 }) (disch:=(first | omega | (simp only[wL,wK];omega))) only [go_sem,seval,jD,h9,hMx]
    ·rw[zXk hS] at hMx
     generalize qG5 A x=D at *
     simp (config := { maxSteps:=2000000 }) (disch:=(first | omega | (simp only[wL,wK];omega))) only [go_sem,seval,jD,h9,hMx]
 have hA0:=zCu (d0:=qBc A l) (a:= .alt (L.map (qBc A))) qNb
 by_cases hk:k=0
 ·have hJ:qIu (L.map (qBc A))=qBc A l:=by
   have hj0:j=0:=by omega
   subst hj0
   rw[qIu,if_pos (by omega),List.getD_eq_getElem?_getD,List.getElem?_map,hg]
   rfl
  have hSl:=qA8 (a:=qBc A l) (b:=qBc A l) ⟨by rw[qNb];omega,by rw[qNb];omega⟩
  rw[decide_eq_true rfl] at hSl
  rw[hJ] at hP
  have k1 : ¬ 1<L.length:=by omega
  simp only[qVu,asT] at hDl hDx fin
  generalize qBc A l=d at *
  generalize qBc A x=c at *
  simp (config := { maxSteps:=2000000 }) (disch:=(first | omega | (simp only[wL,wK];omega))) only [go_sem,seval,kN,h1,qEg,h2,hA,h3,hM,h4,hC,h5,hP,h6,hB,lbn,hQ,hg,Option.map_some,hcl,h7,hBl,h8,hDl,h9,hMl,k1,h11,hSl,h12,hX,hBx,hDx]
  refine fin _ _ (qI.rd id ?_ ?_ rfl)
  all_goals simp (config := { maxSteps:=2000000 }) (disch:=(first | omega | (simp only[wL,wK];omega))) only [go_sem,seval,id]
 ·have hJ:qIu (L.map (qBc A))=qKa (qBc A l) (.alt (L.map (qBc A))):=by
   rw[qIu,if_neg (by omega)];rfl
  have hE:=hA0 ⟨by omega,jL.2⟩
  have lE:=qAf (d0:=qBc A l) (a:= .alt (L.map (qBc A)))
  have hSl:=qA8 (a:=qKa (qBc A l) (.alt (L.map (qBc A)))) (b:=qKa (qBc A l) (.alt (L.map (qBc A)))) ⟨by omega,by omega⟩
  rw[decide_eq_true rfl] at hSl
  rw[hJ] at hP
  generalize qKa (qBc A l) (.alt (L.map (qBc A)))=E at *
  have tE:List.take 32 E=E:=List.take_of_length_le (by omega)
  have k1:1<L.length:=by omega
  have lE:E.length=32:=lE
  simp only[qVu,asT] at hDl hDx fin hE
  generalize qBc A l=d at *
  generalize qBc A x=c at *
  simp (config := { maxSteps:=2000000 }) (disch:=(first | omega | (simp only[wL,wK];omega))) only [go_sem,seval,kN,h1,qEg,h2,hA,h3,hM,h4,hC,h5,hP,h6,hB,lbn,hQ,hg,Option.map_some,hcl,h7,hBl,h8,hDl,h9,hMl,k1,h10,hE,lE,tE,h11,hSl,h12,hX,hBx,hDx]
  refine fin _ _ (qI.rd id ?_ ?_ rfl)
  all_goals simp (config := { maxSteps:=2000000 }) (disch:=(first | omega | (simp only[wL,wK];omega))) only [go_sem,seval,id]
theorem jDg {m:Nat} {act mach num:Int} {d:List UInt8} {ls:List (List Im)} (h:qOg m act mach d ls=0) (hd:d.length≤500):bdM (zYi m act mach num d ls):=by
 have hb:qEh act ls=0:=by
  by_cases e1:mach=m
  ·by_cases e2:qEh act ls=0
   ·exact e2
   ·rw[qOg,if_neg (by simpa using e1),if_pos e2] at h;exact absurd h e2
  ·rw[qOg,if_pos e1] at h;exact absurd h (by decide)
 refine⟨⟨qWi hb,qDz⟩,?_,?_⟩
 ·show (zA8 _ _ _ _ _ _).length<_
  rw[zA8,qSf,qBo,qKg]
  have:(qFm (qIb mach num d)).length=32:=yU
  simp only[List.length_nil];omega
 ·show zA6 (if 1<ls.length then qIj act ls else [])
  split
  ·exact zEo
  ·exact⟨by decide,by simp⟩
theorem qVt {m:Nat} {act mach num:Int} {d:List UInt8} {ls:List (List Im)} (h:zT9 m act d ls) : ∃ (b:T) (e:Int) (c0 c1 c2 c3:Int) (c4 c5 c6:List UInt8) (c7:List (List UInt8)),b = .agg [.int .i64 c0,.int .i64 c1,.int .i64 c2,.int .i64 c3,.sl (c4.map qA),.sl (c5.map qA),.sl (c6.map qA),.sl (c7.map bsT)]∧qGs.fs [.t (qMy m act),.t (qKz mach num d ls)] []=some (.tup [.t b,.t (.int .i64 e)],[])∧qJs.fs [.t b,.t b] []=some (.t (.bool true),[]):=by
 by_cases he:qOg m act mach d ls=0
 ·exact⟨_,_,_,3,0,0,_,_,_,_,rfl,zSi h he,jA6 (jDg he h.2.1)⟩
 ·exact⟨zBi,_,0,0,0,0,[],[],[],[],rfl,zUa h he,jD4⟩
theorem jEa {a:Int}:1≤2+qIw a 2∧2+qIw a 2≤3:=by
 have:=qDp (a:=a) (m:=2) (by omega)
 omega
theorem zDf (tab:Tab) (gl:Gl) (n1 n2 n3 n4 n5 n6 n7 n8 n9 n10:Nat) (h1:tab.look n1=some qEj.fs) (h2:tab.look n2=some qJp.fs) (h3:tab.look n3=some qQz.fs) (h4:tab.look n4=some qUu.fs) (h5:tab.look n5=some qLn.fs) (h6:tab.look n6=some qQx.fs) (h7:tab.look n7=some qIm.fs) (h8:tab.look n8=some qGs.fs) (h9:tab.look n9=some qGs.fs) (h10:tab.look n10=some qJs.fs)
  (rm rn:Int) (rd:List UInt8) (rc:List (List Im)) (cs:List UInt8) (ma nu n a:Int) (d:List UInt8) (any:Bool) (hrm:rI rm) (hrn:rI rn) (hrc:lsX rc) (hc:cs.length≤9223372036854775807) (hma:rI ma) (hnu:rI nu) (hn:rI n) (ha:rI a) (hd:d.length≤9223372036854775807) :
  (kC n1 n2 n3 n4 n5 n6 n7 n8 n9 n10).wp tab gl (qE 0 [.t (qKz rm rn rd rc),.t (.sl (cs.map qA)),.t (.int .i64 ma),.t (.int .i64 nu),.t (.int .i64 n),.t (.int .i64 a),.t (.sl (d.map qA)),.t (.bool any)]) (qE 0 []) (zZ [(16,none)] 0 (fun r o=>r = .t (.bool true)∧o=[])):=by
 have hM:=qH9 (a:=ma) (b:=4) ⟨hma,by omega⟩
 have lM:=qDp (a:=ma) (m:=4) (by omega)
 have hN:=qH9 (a:=nu) (b:=4) ⟨hnu,by omega⟩
 have lN:=qDp (a:=nu) (m:=4) (by omega)
 have hK:=qH9 (a:=n) (b:=3) ⟨hn,by omega⟩
 have lK:=qDp (a:=n) (m:=3) (by omega)
 have hS:=zUn ha
 have rA:=jEa (a:=a)
 generalize 2+qIw a 2=A at *
 generalize qIw ma 4=m at *
 obtain⟨m',rfl⟩ : ∃ k:Nat,m=k:=⟨m.toNat,by omega⟩
 generalize qIw nu 4=nn at *
 obtain⟨nn',rfl⟩ : ∃ k:Nat,nn=k:=⟨nn.toNat,by omega⟩
 generalize qIw n 3=kk at *
 obtain⟨k',rfl⟩ : ∃ k:Nat,kk=k:=⟨kk.toNat,by omega⟩
 have hE:=zSr (m:=1+m') (a:=A) (by omega)
 have cu:qLn.fs [.t (.sl (d.map qA)),.t (.int .i64 140)] []=_:=zSo (b:=d) (n:=140) ⟨hd,by omega⟩
 have lD:(d.take 140).length≤140:=by rw[List.length_take];omega
 generalize d.take 140=D at *
 have hC:=zJk (b:=cs) (n:=1+k') ⟨hc,by omega⟩
 have mL:=zJ1 (codes:=cs) (n:=1+k') (act:=A) (by omega) rA
 generalize zEx cs (1+k')=L at *
 cases any
 ·obtain⟨b,e,c0,c1,c2,c3,c4,c5,c6,c7,rfl,hB,hQ⟩:=qVt (m:=1+m') (act:=A) (mach:=((1+m':Nat):Int)) (num:=((1+nn':Nat):Int)) (d:=D) (ls:=L) ⟨by omega,by omega,mL⟩
  simp only[qMy,qKz] at hE hB
  simp (config := { maxSteps:=2000000 }) (disch:=(first | omega | (simp only[wL,wK];omega))) only [go_sem,seval,kC,qKz,h1,qEg,h2,hM,h3,hS,h4,hE,hN,h5,cu,hK,h6,hC,h8,hB,h9,h10,hQ]
  all_goals first | rfl | exact⟨rfl,rfl⟩
 ·have hRm:=qH9 (a:=rm) (b:=65536) ⟨hrm,by omega⟩
  have hRn:=qH9 (a:=rn) (b:=65536) ⟨hrn,by omega⟩
  have hF:=zE4 hrc
  have mF:=zY8 (act:=A) hrc (by omega)
  generalize qIw rm 65536=M at *
  generalize qIw rn 65536=N at *
  generalize fwL rc=F at *
  by_cases hp:rn%2=1
  ·obtain⟨b,e,c0,c1,c2,c3,c4,c5,c6,c7,rfl,hB,hQ⟩:=qVt (m:=1+m') (act:=A) (mach:=((1+m':Nat):Int)) (num:=N) (d:=D) (ls:=F) ⟨by omega,by omega,mF⟩
   have hb:(rn%2==1)=true:=by simpa using hp
   simp only[qMy,qKz] at hE hB
   simp (config := { maxSteps:=2000000 }) (disch:=(first | omega | (simp only[wL,wK];omega))) only [go_sem,seval,kC,qKz,h1,qEg,h2,hM,h3,hS,h4,hE,hN,h5,cu,hK,h6,hC,hRm,hRn,hb,h7,hF,h8,hB,h9,h10,hQ]
   all_goals first | rfl | exact⟨rfl,rfl⟩
  ·obtain⟨b,e,c0,c1,c2,c3,c4,c5,c6,c7,rfl,hB,hQ⟩:=qVt (m:=1+m') (act:=A) (mach:=M) (num:=N) (d:=D) (ls:=F) ⟨by omega,by omega,mF⟩
   have hb:(rn%2==1)=false:=by simpa using hp
   simp only[qMy,qKz] at hE hB
   simp (config := { maxSteps:=2000000 }) (disch:=(first | omega | (simp only[wL,wK];omega))) only [go_sem,seval,kC,qKz,h1,qEg,h2,hM,h3,hS,h4,hE,hN,h5,cu,hK,h6,hC,hRm,hRn,hb,h7,hF,h8,hB,h9,h10,hQ]
   all_goals first | rfl | exact⟨rfl,rfl⟩
theorem qV3 {a b:Int}:qOt .i64 [.int .i64 a,.int .i64 b]=some [a,b]:=rfl
theorem qWy (tab:Tab) (gl:Gl) (n1 n2 n3 n4 n5 n6 n7 n8 n9:Nat) (h1:tab.look n1=some qEj.fs) (h2:tab.look n2=some qJp.fs) (h3:tab.look n3=some qQy.fs) (h4:tab.look n4=some qCs.fs) (h5:tab.look n5=some qCs.fs) (h6:tab.look n6=some xR.fs) (h7:tab.look n7=some qF2.fs) (h8:tab.look n8=some qJq.fs) (h9:tab.look n9=some qCm.fs)
  (raw:List Im) (cs:List UInt8) (a:Int) (hx:qKe raw) (hc:cs.length≤9223372036854775807) (ha : -9223372036854775808≤a∧a<9223372036854775808) :
  (xN n1 n2 n3 n4 n5 n6 n7 n8 n9).wp tab gl (qE 0 [.t (.sl (raw.map imT)),.t (.sl (cs.map qA)),.t (.int .i64 a)]) (qE 0 []) (zZ [(6,none)] 0 (fun r o=>r = .t (.bool true)∧o=[])):=by
 have hM:=qH9 (a:=a) (b:=6) ⟨ha,by omega⟩
 have lM:=qDp (a:=a) (m:=6) (by omega)
 generalize qIw a 6=m at *
 have hC:=zEs hc
 have mY:=(zUd (b:=cs)).x
 generalize chG cs=Y at *
 have hlx:=hx.1
 have step : ∀ Z:List Im,qKe Z→(qD4 (m-1) Z≠0∧qCs.fs [.t (.sl (Z.map imT)),.t (.int .i64 (m-1))] []=some (.tup [.t (.agg [.int .i64 0,.int .i64 0,.int .i64 0,.sl [],.int .i64 0,.int .i64 0,.sl [],.sl [],.sl [],.sl []]),.t (.int .i64 (qD4 (m-1) Z))],[]))∨
   (qCs.fs [.t (.sl (Z.map imT)),.t (.int .i64 (m-1))] []=some (.tup [.t (.agg [.int .i64 1,.int .i64 (qDx (m-1)).1,.int .i64 (qDx (m-1)).2,.sl ((qG5 (m-1) Z).map qA),.int .i64 0,.int .i64 0,.sl [],.sl [],.sl [],.sl []]),.t (.int .i64 0)],[])∧
   qJq.fs [.t (.sl (Z.map imT)),.t (.int .i64 (m-1)),.t (.agg [.int .i64 (qDx (m-1)).1,.int .i64 (qDx (m-1)).2])] []=some (.tup [.t (.sl ((qG5 (m-1) Z).map qA)),.t (.int .i64 0)],[])∧
   qCm.fs [.t (.agg [.int .i64 1,.int .i64 (qDx (m-1)).1,.int .i64 (qDx (m-1)).2,.sl ((qG5 (m-1) Z).map qA),.int .i64 0,.int .i64 0,.sl [],.sl [],.sl [],.sl []])] []=some (.t (.int .i64 0),[])∧
   xR.fs [.t (.sl ((qG5 (m-1) Z).map qA)),.t (.sl ((qG5 (m-1) Z).map qA))] []=some (.t (.bool true),[])):=fun Z hZ=>by
  by_cases he:qD4 (m-1) Z=0
  ·right
   have hd:=zCt (l:=Z) (act:=m-1) (s0:=(qDx (m-1)).1) (s1:=(qDx (m-1)).2) hZ
   change _=some (V.tup [.t (.sl ((qG5 (m-1) Z).map qA)),.t (.int .i64 (qD4 (m-1) Z))],[]) at hd
   rw[he] at hd
   have l:=qVv he
   have hs:=qA8 (a:=qG5 (m-1) Z) (b:=qG5 (m-1) Z) ⟨by omega,by omega⟩
   rw[decide_eq_true rfl] at hs
   exact⟨qUs ⟨hZ,by omega,by omega⟩ he,hd,qWf (qQr he),hs⟩
  ·exact .inl ⟨he,zBn ⟨hZ,by omega,by omega⟩ he⟩
 have s00:=qA8 (a:=[]) (b:=[]) ⟨by decide,by decide⟩
 rw[decide_eq_true rfl] at s00
 simp only[List.map_nil] at s00
 have hE:=zBz (x:=m-1) (by omega)
 have fin : ∀ X:List Im,qKe X → ∀ (fs:Fs) (hs:Hs),qI fs hs [(2,.t (.int .i64 (m-1))),(28,.t (.sl [.sl (X.map imT),.sl (Y.map imT)])),(29,.t (.int .i64 2)),(30,.t (.int .i64 0))] []→
   qIv tab gl (zV n4 n5 n6 n7 n8 n9) fs hs (qFe 0 (zMl tab gl ((rG 77824 [mC 6 (.t (.bool true))]).seq .ret) (zZ [(6,none)] 0 (fun r o=>r = .t (.bool true)∧o=[])))):=by
  intro X mX fs hs hw
  refine jQ hw ?_
  refine qD 2 (fun i=>[(2,.t (.int .i64 (m-1))),(28,.t (.sl [.sl (X.map imT),.sl (Y.map imT)])),(29,.t (.int .i64 2)),(30,.t (.int .i64 (i:Nat)))]) (fun _=>[]) ?_ (fun i hi=>?_)
  ·exact qI.refl
  ·rcases (show i=0∨i=1∨i=2 by omega) with rfl | rfl | rfl
   ·rcases step X mX with⟨he,hB⟩ | ⟨hB,hD,hK,hS⟩
    ·have b1:(qD4 (m-1) X != qD4 (m-1) X)=false:=by simp
     have b2:(qD4 (m-1) X==0)=false:=by simpa using he
     generalize qD4 (m-1) X=e at *
     simp (config := { maxSteps:=2000000 }) (disch:=(first | omega | (simp only[wL,wK];omega))) only [go_sem,seval,zV,h4,h5,hB,b1,b2,qV3,h6,s00]
     refine qI.rd id ?_ ?_ rfl
     all_goals simp (config := { maxSteps:=2000000 }) (disch:=(first | omega | (simp only[wL,wK];omega))) only [go_sem,seval,id]
     all_goals rfl
    ·generalize qG5 (m-1) X=d at *
     generalize (qDx (m-1)).1=x0 at *
     generalize (qDx (m-1)).2=x1 at *
     have b3:([x0,x1]==[x0,x1])=true:=by simp
     simp (config := { maxSteps:=2000000 }) (disch:=(first | omega | (simp only[wL,wK];omega))) only [go_sem,seval,zV,h4,h5,hB,qV3,b3,h6,hS,h7,hE,h8,hD,h9,hK]
     refine qI.rd id ?_ ?_ rfl
     all_goals simp (config := { maxSteps:=2000000 }) (disch:=(first | omega | (simp only[wL,wK];omega))) only [go_sem,seval,id]
     all_goals rfl
   ·rcases step Y mY with⟨he,hB⟩ | ⟨hB,hD,hK,hS⟩
    ·have b1:(qD4 (m-1) Y != qD4 (m-1) Y)=false:=by simp
     have b2:(qD4 (m-1) Y==0)=false:=by simpa using he
     generalize qD4 (m-1) Y=e at *
     simp (config := { maxSteps:=2000000 }) (disch:=(first | omega | (simp only[wL,wK];omega))) only [go_sem,seval,zV,h4,h5,hB,b1,b2,qV3,h6,s00]
     refine qI.rd id ?_ ?_ rfl
     all_goals simp (config := { maxSteps:=2000000 }) (disch:=(first | omega | (simp only[wL,wK];omega))) only [go_sem,seval,id]
     all_goals rfl
    ·generalize qG5 (m-1) Y=d at *
     generalize (qDx (m-1)).1=x0 at *
     generalize (qDx (m-1)).2=x1 at *
     have b3:([x0,x1]==[x0,x1])=true:=by simp
     simp (config := { maxSteps:=2000000 }) (disch:=(first | omega | (simp only[wL,wK];omega))) only [go_sem,seval,zV,h4,h5,hB,qV3,b3,h6,hS,h7,hE,h8,hD,h9,hK]
     refine qI.rd id ?_ ?_ rfl
     all_goals simp (config := { maxSteps:=2000000 }) (disch:=(first | omega | (simp only[wL,wK];omega))) only [go_sem,seval,id]
     all_goals rfl
   ·simp (config := { maxSteps:=2000000 }) (disch:=(first | omega | (simp only[wL,wK];omega))) only [go_sem,seval,zV]
 by_cases h10:10<raw.length
 ·have hl:(raw.take 10).length=10:=by rw[List.length_take];omega
  have mX:qKe (raw.take 10):=⟨by omega,fun x hx'=>hx.2 x (List.mem_of_mem_take hx')⟩
  generalize hQ:raw.take 10=Q at *
  simp (config := { maxSteps:=2000000 }) (disch:=(first | omega | (simp only[wL,wK];omega))) only [go_sem,seval,xN,h1,qEg,h10,hQ,hl,zI,h2,hM,h3,hC]
  refine fin Q mX _ _ (qI.cv (hv:=[]) [28720] id ?_ rfl)
  simp (config := { maxSteps:=2000000 }) (disch:=(first | omega | (simp only[wL,wK];omega))) only [go_sem,seval,id]
  all_goals rfl
 ·simp (config := { maxSteps:=2000000 }) (disch:=(first | omega | (simp only[wL,wK];omega))) only [go_sem,seval,xN,h1,qEg,h10,zI,h2,hM,h3,hC]
  refine fin raw hx _ _ (qI.cv (hv:=[]) [28720] id ?_ rfl)
  simp (config := { maxSteps:=2000000 }) (disch:=(first | omega | (simp only[wL,wK];omega))) only [go_sem,seval,id]
  all_goals rfl
end Go.Eng
end
section
set_option maxRecDepth 20000
namespace Go.Eng
open Go.MuLone
theorem zVu {P:Program} {G:Gl} {f:FuncId} {fn:Func} {c:Code} (hf:P.funcs[f]?=some fn) (hname:(fn.name == "runtime.NumGoroutine")=false) (hb:fn.body=some c)
  (h : ∀ (s:ByteArray) (w:World),Calls P f #[.string s] w fun e w'=>e = .returned (.bool (qAn s.data.toList))∧(w'=w ∨ ∃ pos,w'=w.iter s pos)):FOk P G f qCl.fs:=by
 refine qCl.ok (fun args w=>run_callFunc_enter hf hname hb args w) (fun x _=>?_)
 intro w β F vals env fits hargs
 have hvals:vals = #[.string ⟨List.toArray x⟩]:=by
  obtain⟨l⟩:=vals
  cases hargs with
  | cons h1 h2=>
   cases h2
   cases h1 with
   | t h=>cases h;rfl
 subst hvals
 refine (h _ w).mono fun e w' he=>?_
 obtain⟨rfl,hw⟩:=he
 refine⟨_,β,F,rfl,?_⟩
 have hβ : ∀ k,β k=none:=fun k=>fits.dom k (Nat.zero_le _)
 have hx:qAn (ByteArray.mk (List.toArray x)).data.toList=qAn x:=rfl
 rw[hx]
 have res : ∀ w',qU β F w' (qCl.r x) (.bool (qAn x)):=fun w'=> .t (.bool _)
 have fit : ∀ w',zNt β F w' (qCl.outs x):=fun w'=>⟨fun k o hk=>(by simp[qCl] at hk),fun k _=>hβ k,fun i j bi bj b h1=>(by rw[hβ] at h1;cases h1),fun k bi b h1=>(by rw[hβ] at h1;cases h1)⟩
 rcases hw with rfl | ⟨pos,rfl⟩
 ·exact⟨fit _,res _,fun _ _=>rfl,fun k bi b _ h1=>by (rw[hβ] at h1;cases h1),fun _ _=>Iff.rfl,env.Fw,rfl,rfl,rfl,Nat.le_refl _,fun _ _ _=>rfl⟩
 ·have hsz:(w.iter ⟨List.toArray x⟩ pos).heap.size=w.heap.size+1:=by
   show (w.heap.push _).size=_
   exact Array.size_push _
  have hold : ∀ b,b<w.heap.size→(w.iter ⟨List.toArray x⟩ pos).heap[b]?=w.heap[b]?:=by
   intro b hb
   show (w.heap.push _)[b]?=_
   rw[Array.getElem?_push,if_neg (by omega)]
  exact⟨fit _,res _,fun _ _=>rfl,fun k bi b _ h1=>by (rw[hβ] at h1;cases h1),fun _ _=>Iff.rfl,fun b hb=>by (have:=env.Fw b hb;rw[hsz];omega),rfl,rfl,rfl,by (rw[hsz];omega),fun b hb _=>hold b hb⟩
end Go.Eng
end
section
namespace Go.Eng
def yQ:AC:=
 (.seq
 (rG 12288 [bT 8 .lss 7 6])
 (.seq
 (.cond (.tmp 8)
 .skip
 (.exit 0))
 (.seq
 (.block 1
 (.seq
 (rG 16384 [oO 9 (.iaddr 1) [.tmp 5,.tmp 7],oO 10 (.load 1 false) [.tmp 9],mv 4 10])
 (.seq
 (rG 20480 [mv 11 4,oO 12 (.bin .lss) [.tmp 11,.cst (.t (qA 32))],mv 13 12,mF 14 4 13,oF 15 13 (.bin .gtr) [.tmp 14,.cst (.t (qA 126))],oO 16 .pick [.tmp 13,.cst (.t (.bool true)),.tmp 15]])
 (.cond (.tmp 16)
 (.seq
 (rG 24576 [mC 2 (.t (.bool false))])
 .ret)
 .skip))))
 (rG 28672 [bN 17 .add 7 1,mv 7 17]))))
def qD9:AC:=
 (.seq
 (rG 4096 [mC 2 (.t (.bool false))])
 (.seq
 (.seq
 (rG 8192 [mv 5 0,oO 6 .len [.tmp 5],mC 7 (.t (.int .i64 0))])
 (.block 0
 (.loop yQ)))
 (.seq
 (rG 32768 [mC 2 (.t (.bool true))])
 .ret)))
def yN (n_bytes_IndexByte n_image_printable:Nat):AC:=
 (.seq
 (.seq
 (rG 16384 [mv 8 4,oO 9 .len [.tmp 8],bN 10 .gtr 9 0])
 (.cond (.tmp 10)
 .skip
 (.exit 0)))
 (.block 1
 (.seq
 (rG 20480 [mv 11 4,cL 12 n_bytes_IndexByte false [.tmp 11,.cst (.t (qA 10))],mv 5 12])
 (.seq
 (.seq
 (rG 24576 [mv 13 5,bN 14 .lss 13 1,mv 15 14,mF 16 3 15,oF 17 15 .len [.tmp 16],oF 18 15 (.bin .eql) [.tmp 17,.cst (.t (.int .i64 4))],oO 19 .pick [.tmp 15,.cst (.t (.bool true)),.tmp 18],mv 20 19,mF 21 4 20,mF 22 5 20,oF 23 20 (.slice 1 false true false) [.tmp 21,.tmp 22],cF 24 20 n_image_printable false [.tmp 23],oF 25 20 (.un .not) [.tmp 24],oO 26 .pick [.tmp 20,.cst (.t (.bool true)),.tmp 25]])
 (.cond (.tmp 26)
 (.seq
 (rG 28672 [mC 2 .nil])
 .ret)
 .skip))
 (.seq
 (rG 32768 [mv 27 3,mv 28 4,mv 29 5,mv 30 5,oO 31 (.slice 1 false true true) [.tmp 28,.tmp 29,.tmp 30],oO 32 (.bslice 1 1 .nil [0]) [.tmp 31],oO 33 (.append 1 24) [.tmp 27,.tmp 32],mv 3 33])
 (rG 36864 [mv 34 4,mv 35 5,bN 36 .add 35 1,oO 37 (.slice 1 true false false) [.tmp 34,.tmp 36],mv 4 37]))))))
def qI7 (n_bytes_IndexByte n_image_printable:Nat):AC:=
 (.seq
 (rG 4096 [oO 1 .box [.tmp 0],mC 2 .nil])
 (.seq
 (rG 8192 [mC 3 .nil])
 (.seq
 (.seq
 (rG 12288 [oO 6 (.faddr 3) [.tmp 1],oO 7 (.load 1 false) [.tmp 6],mv 4 7])
 (.block 0
 (.loop (yN n_bytes_IndexByte n_image_printable))))
 (.seq
 (rG 40960 [mv 38 3,mv 2 38])
 .ret))))
def yA (n_image_named n_image_Lines:Nat):AC:=
 (.seq
 (rG 4096 [oO 1 .box [.tmp 0],mC 2 (.t (.int .i64 0))])
 (.seq
 (.block 0
 (.seq
 (rG 8192 [oO 4 (.faddr 0) [.tmp 1],oO 5 (.load 1 false) [.tmp 4],bN 6 .lss 5 1,mv 7 6,oF 8 7 (.faddr 0) [.tmp 1],oF 9 7 (.load 1 false) [.tmp 8],oF 10 7 (.bin .gtr) [.tmp 9,.cst (.t (.int .i64 4))],oO 11 .pick [.tmp 7,.cst (.t (.bool true)),.tmp 10],mv 12 11,oF 13 12 (.faddr 2) [.tmp 1],oF 14 12 (.load 1 false) [.tmp 13],oF 15 12 (.bin .lss) [.tmp 14,.cst (.t (.int .i64 0))],oO 16 .pick [.tmp 12,.cst (.t (.bool true)),.tmp 15],mv 17 16,oF 18 17 (.faddr 2) [.tmp 1],oF 19 17 (.load 1 false) [.tmp 18],oF 20 17 (.bin .gtr) [.tmp 19,.cst (.t (.int .i64 1000000))],oO 21 .pick [.tmp 17,.cst (.t (.bool true)),.tmp 20],mv 3 21])
 (.cond (.tmp 3)
 (.seq
 (rG 12288 [mC 2 (.t (.int .i64 1))])
 .ret)
 (.seq
 (rG 16384 [oO 23 (.faddr 1) [.tmp 1],oO 24 (.load 1 false) [.tmp 23],cL 25 n_image_named false [.tmp 24],oO 26 (.un .not) [.tmp 25],mv 22 26])
 (.cond (.tmp 22)
 (.seq
 (rG 20480 [mC 2 (.t (.int .i64 43))])
 .ret)
 (.seq
 (rG 24576 [oO 28 (.faddr 3) [.tmp 1],oO 29 (.load 1 false) [.tmp 28],oO 30 .len [.tmp 29],bN 31 .gtr 30 64,mv 27 31])
 (.cond (.tmp 27)
 (.seq
 (rG 28672 [mC 2 (.t (.int .i64 4))])
 .ret)
 (.seq
 (rG 32768 [oO 33 (.faddr 0) [.tmp 1],oO 34 (.load 1 false) [.tmp 33],bN 35 .eql 34 4,mv 36 35,oG 37 36 (.load 4 true) [.tmp 1],cG 38 36 n_image_Lines true [.tmp 37],oG 39 36 .len [.tmp 38],oG 40 36 (.bin .eql) [.tmp 39,.cst (.t (.int .i64 0))],oO 41 .pick [.tmp 36,.tmp 40,.cst (.t (.bool false))],mv 32 41])
 (.cond (.tmp 32)
 (.seq
 (rG 36864 [mC 2 (.t (.int .i64 40))])
 .ret)
 .skip)))))))))
 (.seq
 (rG 40960 [mC 2 (.t (.int .i64 0))])
 .ret)))
def qC3 (n_image_Check n_wire_Uint n_wire_Blob:Nat):AC:=
 (.seq
 (rG 4096 [oO 1 .box [.tmp 0],mC 2 .nil])
 (.seq
 (.seq
 (rG 8192 [oO 4 (.load 4 true) [.tmp 1],cL 5 n_image_Check false [.tmp 4],bN 6 .neq 5 0])
 (.cond (.tmp 6)
 (.seq
 (rG 12288 [mC 2 .nil])
 .ret)
 .skip))
 (.seq
 (rG 16384 [oO 7 (.faddr 0) [.tmp 1],oO 8 (.load 1 false) [.tmp 7],cL 9 n_wire_Uint false [.cst .nil,.cst (.t (.int .i64 1)),.tmp 8],mv 3 9])
 (.seq
 (rG 20480 [mv 10 3,oO 11 (.faddr 2) [.tmp 1],oO 12 (.load 1 false) [.tmp 11],cL 13 n_wire_Uint false [.tmp 10,.cst (.t (.int .i64 4)),.tmp 12],mv 3 13])
 (.seq
 (rG 24576 [mv 14 3,oO 15 (.faddr 1) [.tmp 1],oO 16 (.load 1 false) [.tmp 15],oO 17 .s2b [.tmp 16],cL 18 n_wire_Blob false [.tmp 14,.tmp 17],mv 3 18])
 (.seq
 (rG 28672 [mv 19 3,oO 20 (.faddr 3) [.tmp 1],oO 21 (.load 1 false) [.tmp 20],cL 22 n_wire_Blob false [.tmp 19,.tmp 21],mv 2 22])
 .ret))))))
def jE (n_digest_Sum:Nat):AC:=
 (.seq
 (rG 20480 [bT 14 .lss 13 12])
 (.seq
 (.cond (.tmp 14)
 .skip
 (.exit 0))
 (.seq
 (.block 1
 (.seq
 (rG 24576 [mv 15 13,mv 7 15])
 (.seq
 (rG 28672 [mv 16 6,oO 17 .len [.tmp 16],bN 18 .gtr 17 0,mv 19 18,mG 20 1 19,mG 21 7 19,oG 22 19 (.bin .shr) [.tmp 20,.tmp 21],oG 23 19 (.bin .and) [.tmp 22,.cst (.t (.int .i64 1))],oG 24 19 (.bin .eql) [.tmp 23,.cst (.t (.int .i64 1))],oO 25 .pick [.tmp 19,.tmp 24,.cst (.t (.bool false))]])
 (.cond (.tmp 25)
 (rG 32768 [mv 26 5,mv 27 7,mv 28 7,mv 29 6,cL 30 n_digest_Sum false [.tmp 28,.tmp 29],oO 31 (.iaddr 1) [.tmp 26,.tmp 27],oS 1 31 30])
 .skip))))
 (rG 36864 [bN 32 .add 13 1,mv 13 32]))))
def qGk (n_image_Encode n_digest_Sum:Nat):AC:=
 (.seq
 (rG 4096 [oO 2 .box [.tmp 0],mC 4 .nil])
 (.seq
 (rG 8192 [oO 8 (.mkslice 1 24 .nil) [.cst (.t (.int .i64 2)),.cst (.t (.int .i64 2))],mv 5 8])
 (.seq
 (rG 12288 [oO 9 (.load 4 true) [.tmp 2],cL 10 n_image_Encode true [.tmp 9],mv 6 10])
 (.seq
 (.seq
 (rG 16384 [mv 11 5,oO 12 .len [.tmp 11],mC 13 (.t (.int .i64 0))])
 (.block 0
 (.loop (jE n_digest_Sum))))
 (.seq
 (rG 40960 [mv 33 5,mv 4 33])
 .ret)))))
def xA (g_image_measured:Nat):AC:=
 (.seq
 (rG 4096 [mC 2 (.t (.int .i64 0))])
 (.seq
 (.seq
 (rG 8192 [mv 3 0,bN 4 .lss 3 0,mv 5 4,mF 6 0 5,oF 7 5 (.bin .geq) [.tmp 6,.cst (.t (.int .i64 5))],oO 8 .pick [.tmp 5,.cst (.t (.bool true)),.tmp 7]])
 (.cond (.tmp 8)
 (.seq
 (rG 12288 [mC 2 (.t (.int .i64 (-1)))])
 .ret)
 .skip))
 (.seq
 (rG 16384 [mv 9 0,oO 10 (.aaddr 5 1) [.glob g_image_measured,.tmp 9],oO 11 (.load 1 false) [.tmp 10],mv 2 11])
 .ret)))
def qD7 (n_bytealg_IndexByte:Nat):AC:=
 (.seq
 (rG 4096 [mC 4 (.t (.int .i64 0))])
 (.seq
 (rG 8192 [mv 5 0,mv 6 1,cL 7 n_bytealg_IndexByte false [.tmp 5,.tmp 6],mv 4 7])
 .ret))
def xW (n_image_Check n_image_Register n_image_Digests n_strconv_Itoa:Nat):AC:=
 (.seq
 (rG 4096 [oO 2 .box [.tmp 0],oO 4 (.new 4 [(.agg [(.t (.int .i64 0)),(.t (.int .i64 0)),.nil,.nil])]) []])
 (.seq
 (.seq
 (rG 8192 [oO 5 (.load 4 true) [.tmp 2],cL 6 n_image_Check false [.tmp 5],bN 7 .neq 6 0,mv 8 7,oF 9 8 (.faddr 0) [.tmp 2],oF 10 8 (.load 1 false) [.tmp 9],oF 11 8 (.bin .eql) [.tmp 10,.cst (.t (.int .i64 4))],oO 12 .pick [.tmp 8,.cst (.t (.bool true)),.tmp 11]])
 (.cond (.tmp 12)
 (.seq
 (rG 12288 [oO 13 (.build [(.t (.int .i64 0)),(.t (.int .i64 0)),.nil,.nil] []) [],oS 4 4 13])
 .ret)
 .skip))
 (.seq
 (.reg 16384 (some [0,1,3,0,0,31,0,64,192,0,512,1599,4095,8191,16383,32767]) [oO 14 (.faddr 0) [.tmp 2],oO 15 (.load 1 false) [.tmp 14],cL 16 n_image_Register false [.tmp 15],oO 17 (.load 4 true) [.tmp 2],mv 18 1,cL 19 n_image_Digests true [.tmp 17,.tmp 18],oO 20 (.faddr 1) [.tmp 2],oO 21 (.load 1 false) [.tmp 20],oO 22 (.bin .add) [.tmp 21,.cst (.t (zU [32]))],oO 23 (.faddr 2) [.tmp 2],oO 24 (.load 1 false) [.tmp 23],cL 25 n_strconv_Itoa false [.tmp 24],bT 26 .add 22 25,oO 27 .s2b [.tmp 26],oO 28 (.build [(.t (.int .i64 0)),(.t (.int .i64 0)),.nil,.nil] [(0,1),(1,1),(2,1),(3,1)]) [.tmp 16,.cst (.t (.int .i64 1)),.tmp 19,.tmp 27],oS 4 4 28])
 .ret)))
end Go.Eng
end
section
set_option maxRecDepth 20000
set_option maxHeartbeats 64000000
namespace Go.Eng
def ixN (c:UInt8):List UInt8→Nat→Int
 | [],_ => -1
 | x::r,n=>if x=c then (n:Int) else ixN c r (n+1)
theorem zS6 {c:UInt8} : ∀ {b:List UInt8} {n:Nat},c ∉ b→ixN c b n = -1
 | [],_,_=>rfl
 | x::r,n,h=>by
  rw[ixN,if_neg (fun e=>h (by simp[e])),zS6 (fun e=>h (by simp[e]))]
theorem zS5 {c:UInt8} : ∀ {p q:List UInt8} {n:Nat},c ∉ p→ixN c (p++c::q) n=((n+p.length:Nat):Int)
 | [],q,n,_=>by rw[List.nil_append,ixN,if_pos rfl];rfl
 | x::r,q,n,h=>by
  rw[List.cons_append,ixN,if_neg (fun e=>h (by simp[e])),zS5 (fun e=>h (by simp[e]))]
  simp only[List.length_cons];congr 1;omega
theorem zF7 {c:UInt8} : ∀ {b:List UInt8},c∈b → ∃ p q,b=p++c::q∧c ∉ p
 | [],h=>by cases h
 | x::r,h=>by
  by_cases e:x=c
  ·exact⟨[],r,by rw[e];rfl,by simp⟩
  ·have:c∈r:=by
    simp only[List.mem_cons] at h
    rcases h with h | h
    ·exact absurd h.symm e
    ·exact h
   obtain⟨p,q,h1,h2⟩:=zF7 this
   exact⟨x::p,q,by rw[h1];rfl,by simp only[List.mem_cons,not_or];exact⟨fun h=>e h.symm,h2⟩⟩
def qOi:Ct where
 α:=List UInt8×UInt8
 as x:=[.t (.sl (x.1.map qA)),.t (qA x.2)]
 ins _:=[]
 pre x:=0<x.1.length∧x.1.length<1000000000
 r x:= .t (.int .i64 (ixN x.2 x.1 0))
 outs _:=[]
 inj:=by
  rintro⟨a,c⟩ ⟨b,d⟩ h _
  simp only[List.cons.injEq,V.t.injEq,T.sl.injEq,qZ,and_true] at h
  obtain⟨rfl,h⟩:=h
  cases qQt h
  exact⟨rfl,rfl⟩
theorem zSg {b:List UInt8} {c:UInt8} (h:0<b.length∧b.length<1000000000):qOi.fs [.t (.sl (b.map qA)),.t (qA c)] []=some (.t (.int .i64 (ixN c b 0)),[]):=qOi.eq (b,c) h
theorem qNk (tab:Tab) (gl:Gl) (n1:Nat) (h1:tab.look n1=some qOi.fs) (b:List UInt8) (c:UInt8) (h:0<b.length∧b.length<1000000000) :
  (qD7 n1).wp tab gl (qE 0 [.t (.sl (b.map qA)),.t (qA c)]) (qE 0 []) (zZ [(4,none)] 0 (fun r o=>r = .t (.int .i64 (ixN c b 0))∧o=[])):=by
 have hB:=zSg (c:=c) h
 simp (disch:=omega) only [go_sem,seval,qD7,h1,hB]
def qYc:Ct where
 α:=List UInt8
 as x:=[.t (.sl (x.map qA))]
 ins _:=[]
 pre x:=x.length<1000000000
 r x:= .t (.bool (x.all okC))
 outs _:=[]
 inj:=by
  intro a b h _
  simp only[List.cons.injEq,V.t.injEq,T.sl.injEq,qZ,and_true] at h
  subst h;exact⟨rfl,rfl⟩
theorem zZn {b:List UInt8} (h:b.length<1000000000):qYc.fs [.t (.sl (b.map qA))] []=some (.t (.bool (b.all okC)),[]):=qYc.eq b h
theorem qNl (tab:Tab) (gl:Gl) (b:List UInt8) (h:b.length<1000000000) :
  qD9.wp tab gl (qE 0 [.t (.sl (b.map qA))]) (qE 0 []) (zZ [(2,none)] 0 (fun r o=>r = .t (.bool (b.all okC))∧o=[])):=by
 simp (disch:=omega) only [go_sem,seval,qD9]
 refine yO b.length (fun i=>(b.take i).all okC=true) (fun i=>[(5,.t (.sl (b.map qA))),(6,.t (.int .i64 b.length)),(7,.t (.int .i64 (i:Nat)))]) (fun _=>[]) rfl ?_ (fun i hi hP=>?_)
 ·refine qI.rd id ?_ ?_ rfl
  all_goals simp (disch:=omega) only [go_sem,seval,id]
 ·by_cases hlt:i<b.length
  ·obtain⟨c,hc⟩ : ∃ c,b.getD i 0=c:=⟨_,rfl⟩
   have hc':b[i]?=some c:=by
    rw[←hc];simp[List.getD,hlt]
   have hst:(b.take (i+1)).all okC=okC c:=by
    rw[List.take_add_one,hc',List.all_append,hP];simp
   have hall:okC c=false→b.all okC=false:=fun h=>List.all_eq_false.2 ⟨c,List.mem_of_getElem? hc',by simp[h]⟩
   by_cases a1:c.toNat<32
   ·have hk:okC c=false:=by unfold okC;rw[decide_eq_true a1];rfl
    rw[hall hk]
    simp (disch:=omega) only [go_sem,seval,yQ,hc,a1]
   ·by_cases a2:126<c.toNat
    ·have hk:okC c=false:=by unfold okC;rw[decide_eq_true (show c.toNat>126 from a2)];simp
     rw[hall hk]
     simp (disch:=omega) only [go_sem,seval,yQ,hc,a1,a2]
    ·have hk:okC c=true:=by unfold okC;rw[decide_eq_false a1,decide_eq_false (show ¬ c.toNat>126 from a2)];rfl
     rw[hk] at hst
     simp (disch:=omega) only [go_sem,seval,yQ,hc,a1,a2]
     refine⟨hlt,hst,qI.rd id ?_ ?_ rfl⟩
     all_goals simp (disch:=omega) only [go_sem,seval,id]
  ·have e:i=b.length:=by omega
   subst e
   rw[List.take_length] at hP
   simp (disch:=omega) only [go_sem,seval,yQ,hP]
theorem zPh {pre post:List UInt8} (hn:(10:UInt8) ∉ pre) : ∀ {out:List (List UInt8)} {line:List UInt8},lnS out line (pre++10::post)=if pre.all okC=true then (if (line++pre).length=0∨4≤out.length then [] else lnS (out++[line++pre]) [] post) else []:=by
 induction pre with
 | nil=>
  intro out line
  rw[List.nil_append,lnS,if_pos rfl,List.append_nil]
  simp
 | cons c r ih=>
  intro out line
  have hc : ¬ c=10:=fun e=>hn (by simp[e])
  have hr:(10:UInt8) ∉ r:=fun e=>hn (by simp[e])
  rw[List.cons_append,lnS,if_neg hc]
  cases hk:okC c
  ·rw[if_neg (by decide)];simp[hk]
  ·rw[if_pos rfl,ih hr];simp[hk]
theorem zPi {pre:List UInt8} (hn:(10:UInt8) ∉ pre) : ∀ {out:List (List UInt8)} {line:List UInt8},0<(line++pre).length→lnS out line pre=[]:=by
 induction pre with
 | nil=>intro out line h;rw[lnS,if_pos (by simpa using h)]
 | cons c r ih=>
  intro out line h
  have hc : ¬ c=10:=fun e=>hn (by simp[e])
  have hr:(10:UInt8) ∉ r:=fun e=>hn (by simp[e])
  rw[lnS,if_neg hc]
  split
  ·exact ih hr (by simp;omega)
  ·rfl
theorem qW8 (tab:Tab) (gl:Gl) (n1 n2:Nat) (h1:tab.look n1=some qOi.fs) (h2:tab.look n2=some qYc.fs) (x:Im) (hm:imM x) :
  (qI7 n1 n2).wp tab gl (qE 0 [.t (imT x)]) (qE 0 []) (zZ [(2,none)] 0 (fun r o=>r = .t (.sl ((lnL x.2.2.2).map bsT))∧o=[])):=by
 obtain⟨a,s,v,p⟩:=x
 have hp:=hm.2.1
 simp only at hp ⊢
 simp (disch:=omega) only [go_sem,seval,qI7,qN]
 refine qEm (σ:=List UInt8×List (List UInt8)) (fun t=>t.1.length≤p.length∧lnS t.2 [] t.1=lnL p∧t.2.length≤4) (fun t=>t.1.length)
  (fun t=>[(3,.sl 9000 0 t.2.length),(4,.t (.sl (t.1.map qA)))])
  (fun t=>[(9000,.live 1 ((t.2.map bsT).map V.t) true false)]) (p,[]) ⟨Nat.le_refl _,rfl,by simp⟩ ?_ ?_
 ·refine qI.cv0 (hv:=[(9000,.live 1 [] true false)]) (ho:=[]) id ?_ ?_ rfl rfl
  all_goals simp (disch:=omega) only [go_sem,seval,id]
 ·rintro⟨rest,out⟩ ⟨hi,hE,ho⟩
  simp only at hi hE ho ⊢
  by_cases hlt:0<rest.length
  ·have hB:=zSg (b:=rest) (c:=10) ⟨hlt,by omega⟩
   by_cases hn:(10:UInt8)∈rest
   ·obtain⟨pre,post,rfl,hpre⟩:=zF7 hn
    rw[zS5 hpre,Nat.zero_add] at hB
    rw[zPh hpre,List.nil_append] at hE
    simp only[List.length_append,List.length_cons] at hi hlt
    have tk:List.take pre.length (pre++10::post)=pre:=List.take_left' rfl
    have dk:List.drop (pre.length+1) (pre++10::post)=post:=by rw[List.drop_append];simp
    have tl:(pre++(10:UInt8)::post).length=pre.length+1+post.length:=by simp;omega
    by_cases z1:pre.length<1
    ·have hr:lnL p=[]:=by rw[←hE];split;rw[if_pos (.inl (by omega))];rfl
     rw[hr]
     simp (disch:=omega) only [go_sem,seval,yN,tl,h1,hB,z1,List.map_nil]
    ·by_cases z2:out.length=4
     ·have hr:lnL p=[]:=by rw[←hE];split;rw[if_pos (.inr (by omega))];rfl
      rw[hr]
      simp (disch:=omega) only [go_sem,seval,yN,tl,h1,hB,z1,z2,List.map_nil]
     ·have z2b:((out.length:Int)==4)=false:=by simpa using (by omega : ¬ (out.length:Int)=4)
      have hP:=zZn (b:=pre) (by omega)
      cases hk:pre.all okC
      ·rw[hk] at hP hE
       rw[if_neg (by decide)] at hE
       rw[←hE]
       simp (disch:=omega) only [go_sem,seval,yN,tl,h1,hB,z1,z2,z2b,tk,h2,hP,List.map_nil]
      ·rw[hk] at hP hE
       rw[if_pos rfl,if_neg (by omega)] at hE
       simp (disch:=omega) only [go_sem,seval,yN,tl,h1,hB,z1,z2,z2b,tk,h2,hP,dk]
       refine zCi.of (post,out++[pre]) ⟨by simp only;omega,hE,by simp;omega⟩ (by simp only;omega) ?_
       refine qI.cv (hv:=[]) (ho:=[(9000,.live 1 (((out++[pre]).map bsT).map V.t) true false)]) [] (fun j=>if j=9000 then 32864 else j) ?_ rfl
       simp (disch:=omega) only [go_sem,seval,id,List.map_cons,List.map_nil,List.take_length]
       rfl
   ·rw[zS6 hn] at hB
    rw[zPi hn (by simpa using hlt)] at hE
    rw[←hE]
    simp (disch:=omega) only [go_sem,seval,yN,h1,hB,List.map_nil]
  ·have e:rest=[]:=List.length_eq_zero_iff.1 (by omega)
   subst e
   rw[lnS,if_neg (by simp)] at hE
   rw[←hE]
   simp (disch:=omega) only [go_sem,seval,yN,List.take_length]
theorem qW7 (tab:Tab) (gl:Gl) (n1 n2:Nat) (h1:tab.look n1=some qCl.fs) (h2:tab.look n2=some qGt.fs) (x:Im) (hm:imX x) :
  (yA n1 n2).wp tab gl (qE 0 [.t (imT x)]) (qE 0 []) (zZ [(2,none)] 0 (fun r o=>r = .t (.int .i64 (qCw x))∧o=[])):=by
 obtain⟨a,s,v,p⟩:=x
 have hp:=hm.2.2.2
 have hN:=zLf hm.2.2.1
 have hL:=fun h:p.length<1000000000=>zFf (a:=a) (v:=v) (s:=s) (p:=p) ⟨hm.2.2.1,h,hm.1,hm.2.1⟩
 have lL:=qRv (p:=p)
 simp only at hp hN
 have hl2:((lnL p).map bsT).length=(lnL p).length:=List.length_map _
 by_cases hb:zI4 a v
 ·have hr:qCw (a,s,v,p)=1:=if_pos hb
  rw[hr]
  by_cases c1:a<1
  ·simp (disch:=omega) only [go_sem,seval,yA,qN,c1]
  by_cases c2:4<a
  ·simp (disch:=omega) only [go_sem,seval,yA,qN,c1,c2]
  by_cases c3:v<0
  ·simp (disch:=omega) only [go_sem,seval,yA,qN,c1,c2,c3]
  have c4:1000000<v:=by unfold zI4 at hb;omega
  simp (disch:=omega) only [go_sem,seval,yA,qN,c1,c2,c3,c4]
 ·have hb':=hb
  unfold zI4 at hb'
  have c1 : ¬ a<1:=by omega
  have c2 : ¬ 4<a:=by omega
  have c3 : ¬ v<0:=by omega
  have c4 : ¬ 1000000<v:=by omega
  cases hn:qAn s
  ·have hr:qCw (a,s,v,p)=43:=by unfold qCw;rw[if_neg hb,if_pos hn]
   rw[hr]
   rw[hn] at hN
   simp (disch:=omega) only [go_sem,seval,yA,qN,c1,c2,c3,c4,h1,hN]
  ·rw[hn] at hN
   have hn2 : ¬ qAn s=false:=by rw[hn];decide
   by_cases c5:64<p.length
   ·have hr:qCw (a,s,v,p)=4:=by unfold qCw;rw[if_neg hb,if_neg hn2,if_pos c5]
    rw[hr]
    simp (disch:=omega) only [go_sem,seval,yA,qN,c1,c2,c3,c4,h1,hN,c5]
   ·have hr:qCw (a,s,v,p)=if a=4∧(lnL p).length=0 then 40 else 0:=by unfold qCw;rw[if_neg hb,if_neg hn2,if_neg c5]
    rw[hr]
    have hL:=hL (by omega)
    generalize lnL p=L at *
    by_cases c6:a=4
    ·subst c6
     by_cases c7:L.length=0
     ·simp (disch:=omega) only [go_sem,seval,yA,qN,c3,c4,h1,hN,c5,h2,hL,c7]
     ·have c8:((L.length:Int)==0)=false:=by simpa using (by omega : ¬ (L.length:Int)=0)
      simp (disch:=omega) only [go_sem,seval,yA,qN,c3,c4,h1,hN,c5,h2,hL,c7,c8]
    ·have c8:(a==4)=false:=by simpa using c6
     simp (disch:=omega) only [go_sem,seval,yA,qN,c1,c2,c3,c4,h1,hN,c5,c6,c8]
theorem qTx (tab:Tab) (gl:Gl) (n1 n2 n3:Nat) (h1:tab.look n1=some qFh.fs) (h2:tab.look n2=some vT.fs) (h3:tab.look n3=some qA1.fs) (x:Im) (hm:imM x) :
  (qC3 n1 n2 n3).wp tab gl (qE 0 [.t (imT x)]) (qE 0 []) (zZ [(2,none)] 0 (fun r o=>r = .t (.sl ((qCp x).map qA))∧o=[])):=by
 obtain⟨a,s,v,p⟩:=x
 have hC:=zFd hm
 by_cases hz:qCw (a,s,v,p)=0
 ·obtain⟨g1,g2,g3,g4,g5⟩:=xU hz
  have g6:=qDr g3
  simp only at g1 g2 g3 g4 g6
  have hr:qCp (a,s,v,p)=blL (blL (beI 1 a 1++beI 4 v 4) s) p:=if_pos hz
  rw[hr]
  rw[hz] at hC
  have u1:vT.fs [.t (.sl []),.t (.int .i64 1),.t (.int .i64 a)] []=_:=zRr (b:=[]) (k:=1) (n:=a) ⟨by decide,by decide,by decide⟩
  rw[List.nil_append] at u1
  have l1:(beI 1 a 1).length=1:=zJ
  have u2:vT.fs [.t (.sl ((beI 1 a 1).map qA)),.t (.int .i64 4),.t (.int .i64 v)] []=_:=zRr (b:=beI 1 a 1) (k:=4) (n:=v) ⟨by rw[l1];decide,by decide,by decide⟩
  have l2:(beI 1 a 1++beI 4 v 4).length=5:=by rw[List.length_append,zJ,zJ]
  have b1:=wY (b:=beI 1 a 1++beI 4 v 4) (x:=s) ⟨by omega,by omega⟩
  have l3:(blL (beI 1 a 1++beI 4 v 4) s).length=5+2+s.length:=by rw[vD,l2]
  have b2:=wY (b:=blL (beI 1 a 1++beI 4 v 4) s) (x:=p) ⟨by omega,by omega⟩
  have l4:(blL (blL (beI 1 a 1++beI 4 v 4) s) p).length=5+2+s.length+2+p.length:=by rw[vD,l3]
  rw[l1] at u2
  rw[l2] at b1
  rw[l3] at b2
  generalize blL (blL (beI 1 a 1++beI 4 v 4) s) p=B4 at *
  generalize blL (beI 1 a 1++beI 4 v 4) s=B3 at *
  generalize beI 1 a 1++beI 4 v 4=B2 at *
  generalize beI 1 a 1=B1 at *
  have t1:List.take 1 B1=B1:=List.take_of_length_le (by omega)
  have t2:List.take 5 B2=B2:=List.take_of_length_le (by omega)
  have t3:List.take (5+2+s.length) B3=B3:=List.take_of_length_le (by omega)
  have t4:List.take (5+2+s.length+2+p.length) B4=B4:=List.take_of_length_le (by omega)
  simp (disch:=omega) only [go_sem,seval,qC3,qN,h1,hC,h2,u1,l1,t1,u2,l2,t2,h3,b1,l3,t3,b2,l4,t4,List.length_nil,List.map_nil,List.take_length]
 ·have hr:qCp (a,s,v,p)=[]:=if_neg hz
  rw[hr]
  have hz':(qCw (a,s,v,p) != 0)=true:=by simpa using hz
  simp (disch:=omega) only [go_sem,seval,qC3,qN,h1,hC,hz',List.map_nil]
theorem qSs (tab:Tab) (gl:Gl) (n1 n2:Nat) (h1:tab.look n1=some qOj.fs) (h3:tab.look n2=some kA.fs) (x:Im) (act:Int) (hm:imM x) (ha:0≤act∧act<4) :
  (qGk n1 n2).wp tab gl (qE 0 [.t (imT x),.t (.int .i64 act)]) (qE 0 []) (zZ [(4,none)] 0 (fun r o=>r = .t (.sl [bsT (qJt x act 0),bsT (qJt x act 1)])∧o=[])):=by
 have hl:=zEz hm
 have e0:qJt x act 0=if 0<(qCp x).length∧act%2=1 then qJy (qCp x) else []:=by unfold qJt;simp[qX0]
 have e1:qJt x act 1=if 0<(qCp x).length∧act/2%2=1 then zK (qCp x) else []:=by unfold qJt;simp[qX0]
 obtain⟨a,s,v,p⟩:=x
 have hE:=zSq hm
 generalize qCp (a,s,v,p)=B at *
 have s0:=qT (bs:=B) (by omega)
 have s1:=qS (bs:=B) (by omega)
 have l0:(qJy B).length=20:=jV
 have l1:(zK B).length=32:=qM
 have t0:List.take 20 (qJy B)=qJy B:=wW
 have t1:List.take 32 (zK B)=zK B:=yY
 generalize qJy B=S0 at *
 generalize zK B=S1 at *
 simp only[qCj]
 simp (disch:=omega) only [go_sem,seval,qGk,qN,h1,hE]
 repeat refine And.intro rfl ?_
 refine qD 2 (fun i=>[(1,.t (.int .i64 act)),(5,.sl 8192 0 2),(6,.t (.sl (B.map qA))),(12,.t (.int .i64 2)),(13,.t (.int .i64 (i:Nat)))])
  (fun i=>[(8192,.live 1 [.t (.sl ((if 0<i then qJt (a,s,v,p) act 0 else []).map qA)),.t (.sl ((if 1<i then qJt (a,s,v,p) act 1 else []).map qA))] true false)]) ?_ (fun i hi=>?_)
 ·refine qI.rd id ?_ ?_ rfl
  all_goals simp (disch:=omega) only [go_sem,seval,id,List.map_nil,Nat.lt_irrefl,Nat.not_lt_zero]
 ·have f0:Int.fdiv act 1=act:=by rw[Int.fdiv_eq_ediv_of_nonneg _ (by decide),Int.ediv_one]
  have f1:Int.fdiv act 2=act/2:=Int.fdiv_eq_ediv_of_nonneg _ (by decide)
  rcases (show i=0∨i=1∨i=2 by omega) with rfl | rfl | rfl
  ·by_cases z:0<B.length
   ·by_cases b0:act%2=1
    ·rw[if_pos ⟨z,b0⟩] at e0
     have q:(act%2==1)=true:=by simpa using b0
     simp (disch:=omega) only [go_sem,seval,jE,f0,q,z,h3,s0,List.map_nil,Nat.lt_irrefl,Nat.not_lt_zero]
     refine qI.cv (hv:=[]) [32832] id ?_ rfl
     simp (disch:=omega) only [go_sem,seval,id,e0,l0,t0,List.map_nil]
     rfl
    ·rw[if_neg (fun h=>b0 h.2)] at e0
     have q:(act%2==1)=false:=by simpa using b0
     simp (disch:=omega) only [go_sem,seval,jE,f0,q,z,List.map_nil,Nat.lt_irrefl,Nat.not_lt_zero]
     refine qI.rd id ?_ ?_ rfl
     all_goals simp (disch:=omega) only [go_sem,seval,id,e0,List.map_nil,Nat.lt_irrefl]
   ·rw[if_neg (fun h=>z h.1)] at e0
    simp (disch:=omega) only [go_sem,seval,jE,z,List.map_nil,Nat.lt_irrefl,Nat.not_lt_zero]
    refine qI.rd id ?_ ?_ rfl
    all_goals simp (disch:=omega) only [go_sem,seval,id,e0,List.map_nil,Nat.lt_irrefl]
  ·by_cases z:0<B.length
   ·by_cases b0:act/2%2=1
    ·rw[if_pos ⟨z,b0⟩] at e1
     have q:(act/2%2==1)=true:=by simpa using b0
     simp (disch:=omega) only [go_sem,seval,jE,f1,q,z,h3,s1,List.map_nil,Nat.lt_irrefl,Nat.not_lt_zero]
     refine qI.cv (hv:=[]) [32832] id ?_ rfl
     simp (disch:=omega) only [go_sem,seval,id,e1,l1,t1,List.map_nil]
     rfl
    ·rw[if_neg (fun h=>b0 h.2)] at e1
     have q:(act/2%2==1)=false:=by simpa using b0
     simp (disch:=omega) only [go_sem,seval,jE,f1,q,z,List.map_nil,Nat.lt_irrefl,Nat.not_lt_zero]
     refine qI.rd id ?_ ?_ rfl
     all_goals simp (disch:=omega) only [go_sem,seval,id,e1,List.map_nil,Nat.lt_irrefl]
   ·rw[if_neg (fun h=>z h.1)] at e1
    simp (disch:=omega) only [go_sem,seval,jE,z,List.map_nil,Nat.lt_irrefl,Nat.not_lt_zero]
    refine qI.rd id ?_ ?_ rfl
    all_goals simp (disch:=omega) only [go_sem,seval,id,e1,List.map_nil,Nat.lt_irrefl]
  ·simp (disch:=omega) only [go_sem,seval,jE]
def zG4:List T:=[.int .i64 (-1),.int .i64 0,.int .i64 4,.int .i64 8,.int .i64 9]
theorem qPb (tab:Tab) (gl:Gl) (g:Nat) (hg:gl g=some zG4) (a:Int):(xA g).wp tab gl (qE 0 [.t (.int .i64 a)]) (qE 0 []) (zZ [(2,none)] 0 (fun r o=>r = .t (.int .i64 (qR8 a))∧o=[])):=by
 by_cases c0:a<0
 ·have hr:qR8 a = -1:=by unfold qR8;rw[if_neg (by omega),if_neg (by omega),if_neg (by omega),if_neg (by omega)]
  simp (disch:=omega) only [go_sem,seval,xA,c0,hr]
 by_cases c5:5≤a
 ·have hr:qR8 a = -1:=by unfold qR8;rw[if_neg (by omega),if_neg (by omega),if_neg (by omega),if_neg (by omega)]
  simp (disch:=omega) only [go_sem,seval,xA,c0,c5,hr]
 rcases (show a=0∨a=1∨a=2∨a=3∨a=4 by omega) with rfl | rfl | rfl | rfl | rfl
 all_goals simp (disch:=omega) only [go_sem,seval,xA,hg,zG4,qR8]
 all_goals trace_state
def qHt:Ct where
 α:=Int
 as x:=[.t (.int .i64 x)]
 ins _:=[]
 pre x:=0≤x∧x≤1000000
 r x:= .t (zU (zIq x.toNat))
 outs _:=[]
 inj:=by
  intro a b h _
  simp only[List.cons.injEq,V.t.injEq,T.int.injEq,true_and,and_true] at h
  subst h;exact⟨rfl,rfl⟩
theorem zU9 {n:Nat} (h:n≤1000000):qHt.fs [.t (.int .i64 (n:Int))] []=some (.t (zU (zIq n)),[]):=qHt.eq (n:Int) ⟨by omega,by omega⟩
theorem qSr (tab:Tab) (gl:Gl) (n1 n2 n3 n4:Nat) (h1:tab.look n1=some qFh.fs) (h2:tab.look n2=some qJr.fs) (h3:tab.look n3=some qOl.fs) (h4:tab.look n4=some qHt.fs) (x:Im) (act:Int) (hm:imM x) (ha:0≤act∧act<4) :
  (xW n1 n2 n3 n4).wp tab gl (qE 0 [.t (imT x),.t (.int .i64 act)]) (qE 0 []) (zZ [(4,some (4,true))] 0 (fun r o=>r = .t (evT (ofI x act))∧o=[])):=by
 obtain⟨a,s,v,p⟩:=x
 have hC:=zFd hm
 have hD:=zS1 (act:=act) ⟨hm,ha⟩
 have hR:=zLz (a:=a)
 by_cases hz:qCw (a,s,v,p)=0
 ·obtain⟨g1,g2,g3,g4,g5⟩:=xU hz
  have g6:=qDr g3
  simp only at g1 g2 g3 g4 g6
  rw[hz] at hC
  by_cases c4:a=4
  ·subst c4
   have hr:ofI (4,s,v,p) act=(0,0,[],[]):=if_pos (.inr rfl)
   rw[hr]
   simp (disch:=omega) only [go_sem,seval,xW,qN,zP,h1,hC,List.map_nil]
  ·have d4:(a==4)=false:=by simpa using c4
   obtain⟨m,rfl⟩:=Int.eq_ofNat_of_zero_le g2.1
   have hL:=zU9 (n:=m) (by omega)
   have hr:ofI (a,s,(m:Int),p) act=(qR8 a,1,[qJt (a,s,(m:Int),p) act 0,qJt (a,s,(m:Int),p) act 1],zK5 s m):=by
    unfold ofI;rw[if_neg (by simp only;omega)];rfl
   have hlN:(zIq m).length≤8:=qLr.2
   have hlab:zK5 s m=s++[32]++zIq m:=rfl
   rw[hr,hlab]
   generalize qJt (a,s,(m:Int),p) act 0=D0 at *
   generalize qJt (a,s,(m:Int),p) act 1=D1 at *
   generalize zIq m=N at *
   generalize qR8 a=R at *
   have tL:List.take (s.length+1+N.length) (s++[32]++N)=s++[32]++N:=List.take_of_length_le (by simp;omega)
   have tl:(s++[32]++N).length=s.length+1+N.length:=by simp;omega
   have t2:(s++[32]).length=s.length+1:=by simp
   have b1:qIi .add (zU s) (zU [32])=some (zU (s++[32])):=qQo (by simp;omega)
   have b2:qIi .add (zU (s++[32])) (zU N)=some (zU (s++[32]++N)):=qQo (by simp;omega)
   simp (disch:=omega) only [go_sem,seval,xW,qN,zP,h1,hC,d4,h2,hR,h3,hD,b1,h4,hL,b2,tl,tL,List.take_length]
   all_goals rfl
 ·have hr:ofI (a,s,v,p) act=(0,0,[],[]):=if_pos (.inl hz)
  rw[hr]
  have hz':(qCw (a,s,v,p) != 0)=true:=by simpa using hz
  simp (disch:=omega) only [go_sem,seval,xW,qN,zP,h1,hC,hz',List.map_nil]
end Go.Eng
end
section
set_option maxRecDepth 20000
namespace Go.Eng
open Go.MuLone
theorem zEt : ∀ {k n:Nat},n<10^(k+1)→Lib.decDigits n=qPs k n
 | 0,n,h=>by rw[qPs,Lib.decDigits,dif_pos (by omega)]
 | k+1,n,h=>by
  rw[qPs,Lib.decDigits]
  by_cases h10:n<10
  ·rw[if_pos h10,dif_pos h10]
  ·rw[if_neg h10,dif_neg h10,zEt (k:=k) (n:=n/10) (by rw[Nat.pow_succ] at h;omega)]
theorem zK1 {n:Nat} (h:n≤1000000):Lib.itoa (n:Int)=zIq n:=by
 unfold Lib.itoa zIq
 rw[if_neg (by omega),Int.toNat_natCast]
 exact zEt (by have:(10:Nat)^(7+1)=100000000:=(by decide);omega)
def qZm:List T:=Lib.pow10Tab.map (T.int .u64)
theorem jBf {P:Program} {nm:String} {g:Nat} {k:IntKind} {zs:List Int} {F:Nat→Prop} {w:World} (hg:P.globalNamed nm=some g)
  (h:qU (fun _=>none) F w (.ro (zs.map (T.int k))) (.pointer (some ⟨g,0,none⟩))) (hs:GSz w g (zs.map (T.int k)).length):Lib.TabIs P w nm k zs:=by
 obtain⟨c,e,z,hc,hz⟩:=hs
 rw[List.length_map] at hz
 have hv:w.var? P nm=some c:=by
  unfold World.var?
  rw[hg,Option.bind_some,hc]
 unfold Lib.TabIs
 rw[hv]
 congr 1
 cases h with
 | ro _ a news ha hn h1 hF hw h=>
  rw[List.length_map] at hn
  apply Array.ext
  ·simp[hz]
  ·intro i hi1 hi2
   have hi:i<zs.length:=by omega
   have hn2:i<news.length:=by omega
   have hu:news[i]?=some news[i]:=List.getElem?_eq_getElem hn2
   have hr:=h i (.int k zs[i]) news[i] (by rw[List.getElem?_map,List.getElem?_eq_getElem hi];rfl) hu
   have hcell:=hw i _ hu
   have e:(⟨g,0,none⟩:Addr).add i=⟨g,i,none⟩:=by
    unfold Addr.add;split
    ·rename_i h0;rw[h0]
    ·simp
   rw[e] at hcell
   unfold World.cell? at hcell
   simp only[hc] at hcell
   generalize news[i]=u at *
   cases hr
   have h2:c[i]?=some (.int k zs[i]):=by simpa using hcell
   rw[Array.getElem?_eq_getElem hi1] at h2
   rw[Option.some.inj h2]
   simp
theorem zVt {P:Program} {G:Gl} {f:FuncId} {fn:Func} {c:Code} {g:Nat} (hf:P.funcs[f]?=some fn) (hname:(fn.name == "runtime.NumGoroutine")=false) (hb:fn.body=some c) (hG:G g=some qZm)
  (hg:P.globalNamed "internal/strconv.uint64pow10" = some g)
  (h : ∀ (n:Int) (_ : -9223372036854775808≤n) (_:n≤9223372036854775807) (w:World),Lib.TabIs P w "internal/strconv.uint64pow10" .u64 Lib.pow10Tab→Calls P f #[.int .i64 n] w fun e w'=>e = .returned (.string ⟨(Lib.itoa n).toArray⟩) ∧ ∃ k os,w'=Go.Sort.grow (w.drewN k) os):FOk P G f qHt.fs:=by
 refine qHt.ok (fun args w=>run_callFunc_enter hf hname hb args w) (fun (x:Int) hx=>?_)
 intro w β F vals env fits hargs
 have hx1:(0:Int)≤(x:Int):=hx.1
 have hx2:(x:Int)≤(1000000:Int):=hx.2
 have hvals:vals = #[.int .i64 x]:=by
  obtain⟨l⟩:=vals
  cases hargs with
  | cons h1 h2=>
   cases h2
   cases h1 with
   | t h=>cases h;rfl
 subst hvals
 refine (h x (by omega) (by omega) w (jBf hg (env.gl g _ hG) (env.gs g _ hG))).mono fun e w' he=>?_
 obtain⟨rfl,k,os,rfl⟩:=he
 refine⟨_,β,F,rfl,?_⟩
 have hβ : ∀ k,β k=none:=fun k=>fits.dom k (Nat.zero_le _)
 obtain⟨n,rfl⟩:=Int.eq_ofNat_of_zero_le hx1
 have hr:qHt.r (n:Int) = .t (zU (zIq n)):=by
  show V.t (zU (zIq (n:Int).toNat))=_
  rw[Int.toNat_natCast]
 have hL:Lib.itoa (n:Int)=zIq n:=zK1 (by omega)
 have hsz:w.heap.size≤(Go.Sort.grow (w.drewN k) os).heap.size:=by
  show _≤(w.heap++os).size
  rw[Array.size_append];omega
 have hold : ∀ b,b<w.heap.size→(Go.Sort.grow (w.drewN k) os).heap[b]?=w.heap[b]?:=by
  intro b hb
  show (w.heap++os)[b]?=_
  rw[Array.getElem?_append_left hb]
 refine⟨⟨fun k o hk=>(by simp[qHt] at hk),fun k _=>hβ k,fun i j bi bj b h1=>(by rw[hβ] at h1;cases h1),fun k bi b h1=>(by rw[hβ] at h1;cases h1)⟩,?_,fun _ _=>rfl,fun k bi b _ h1=>by (rw[hβ] at h1;cases h1),fun _ _=>Iff.rfl,fun b hb=>Nat.lt_of_lt_of_le (env.Fw b hb) hsz,rfl,rfl,rfl,hsz,fun b hb _=>hold b hb⟩
 rw[hr,hL]
 exact .t (.str _)
end Go.Eng
end
section
set_option maxRecDepth 20000
namespace Go.Eng
theorem jAe {P:Program} {G:Nat→Option (List T)} {f:FuncId} {fn:Func} {ps:Array TypeId} {t e:TypeId} (hf:P.funcs[f]?=some fn) (hname:(fn.name == "runtime.NumGoroutine")=false) (hb:fn.body.isNone=true) (hn:Extern.findNext fn=none)
  (he:Extern.find fn=some (Extern.BytealgMakeNoZero.makeNoZero ps #[t])) (ht:P.underlying t=some (.slice e)):FOk P G f qYi.fs:=by
 intro as ins r outs hs
 have key : ∃ n:Nat,(n=20∨n=32)∧as=[.t (.int .i64 n)]∧ins=[]∧r = .sl 0 0 n∧outs=[.live 1 [] true false]:=by
  unfold Ct.fs at hs
  split at hs
  ·rename_i hx
   cases hs
   have h1:=hx.choose_spec
   generalize hx.choose=y at h1 ⊢
   obtain⟨⟨rfl,rfl⟩,h3⟩:=h1
   have h4:(show Int from y)=20∨(show Int from y)=32:=h3
   rcases h4 with h4 | h4
   ·refine⟨20,.inl rfl,?_⟩
    have h5:y=(20:Int):=h4
    subst h5
    exact⟨rfl,rfl,rfl,rfl⟩
   ·refine⟨32,.inr rfl,?_⟩
    have h5:y=(32:Int):=h4
    subst h5
    exact⟨rfl,rfl,rfl,rfl⟩
  ·cases hs
 obtain⟨n,hn2,rfl,rfl,rfl,rfl⟩:=key
 intro w β F vals env fits hargs
 have hvals:vals = #[.int .i64 n]:=by
  obtain⟨l⟩:=vals
  cases hargs with
  | cons h1 h2=>
   cases h2
   cases h1 with
   | t h=>cases h;rfl
 subst hvals
 obtain⟨cs,hrun,hle,hmx⟩:=Lib.run_makeNoZero (P:=P) w ps t e ht n (by omega)
 refine .inr ⟨.slice (some ⟨w.heap.size,0,none⟩) n cs.size,w.drew.drew.alloc (.cells cs e),?_,.slice (some ⟨w.heap.size,0,none⟩) n cs.size,fun k=>if k=0 then some ⟨some w.heap.size,1,cs.size⟩ else none,F,rfl,?_⟩
 ·rw[run_callFunc_extern hf hname hb hn he,hrun];rfl
 ·have hsz:(w.drew.drew.alloc (.cells cs e)).heap.size=w.heap.size+1:=by
   show (w.heap.push _).size=_
   exact Array.size_push _
  have hnew:(w.drew.drew.alloc (.cells cs e)).heap[w.heap.size]?=some (.cells cs e):=by
   show (w.heap.push _)[w.heap.size]?=_
   simp
  have hold : ∀ b,b<w.heap.size→(w.drew.drew.alloc (.cells cs e)).heap[b]?=w.heap[b]?:=by
   intro b hb
   show (w.heap.push _)[b]?=_
   rw[Array.getElem?_push,if_neg (by omega)]
  have hFb : ¬ F w.heap.size:=fun h=>absurd (env.Fw _ h) (by omega)
  have mx:n≤maxLen:=by have:(32:Nat)≤maxLen:=(by decide);omega
  refine⟨⟨fun k o hk=>?_,fun k hk=>?_,fun i j bi bj b h1 h2 h3 h4=>?_,fun k bi b h1 h2=>?_⟩,?_,fun k hk=>?_,fun k bi b _ h1 h2=>?_,fun b _=>Iff.rfl,fun b hb=>?_,rfl,rfl,rfl,?_,fun b hb _=>hold b hb⟩
  ·cases k with
   | succ k=>simp at hk
   | zero=>
    simp only[List.getElem?_cons_zero,Option.some.injEq] at hk
    subst hk
    refine⟨_,if_pos rfl,⟨rfl,by simp,cs,e,(0,0),hnew,by omega,by simp,by simp,hmx mx,fun i x h=>by simp at h,?_⟩,1,[],false,rfl⟩
    simpa using hFb
  ·have:k≠0:=by simp at hk;omega
   exact if_neg this
  ·split at h1<;>split at h2<;>simp_all
  ·split at h1
   ·cases h1
    cases h2
    exact⟨by rw[hsz];omega,hFb⟩
   ·cases h1
  ·exact .sl 0 0 n cs.size w.heap.size 1 cs.size _ (if_pos rfl) hle (by omega) (fun _=>by simp) rfl
  ·simp at hk
  ·split at h1
   ·cases h1
    cases h2
    exact Nat.le_refl _
   ·cases h1
  ·have:=env.Fw b hb
   rw[hsz];omega
  ·rw[hsz];omega
end Go.Eng
end
section
set_option maxRecDepth 20000
namespace Go.Eng
open Go.ChangeShapes Go.WideShapes Go.RowKit
inductive Ty where
 | int (k:IntKind)
 | bool
 | str
 | sl (e:Ty)
 | st (fs:List Ty)
mutual
def Ty.size:Ty→Nat
 | .st fs=>Ty.sizeL fs
 | _=>1
def Ty.sizeL:List Ty→Nat
 | []=>0
 | f::r=>f.size+Ty.sizeL r
end
def isK (P:Program) (t:TypeId) (k:IntKind):Bool:=match P.underlying t with
 | some (.int k')=>decide (k'=k)
 | _=>false
theorem zS3 {P:Program} {t:TypeId} {k:IntKind} (h:isK P t k=true):P.underlying t=some (.int k):=by
 unfold isK at h
 split at h
 ·rename_i h1;rw[h1,of_decide_eq_true h]
 ·cases h
mutual
def Ty.ok (P:Program):Ty→TypeId→Bool
 | .int k,t=>isK P t k
 | .bool,t=>match P.underlying t with | some .bool=>true | _=>false
 | .str,t=>match P.underlying t with | some .string=>true | _=>false
 | .sl e,t=>match P.underlying t with | some (.slice te)=>e.ok P te&&Nat.beq (P.cellsOf te) e.size&&Nat.ble 1 e.size | _=>false
 | .st fs,t=>Nat.beq (P.cellsOf t) (Ty.sizeL fs)&&match P.underlying t with
  | some (.struct gs)=>Ty.okF P fs gs.toList 0
  | some (.array n te)=>Nat.beq fs.length n&&Ty.okA P fs te
  | _=>false
def Ty.okF (P:Program):List Ty→List Field→Nat→Bool
 | [],[],_=>true
 | f::r,g::gs,off=>Nat.beq g.offset off&&Nat.beq (P.cellsOf g.type) f.size&&f.ok P g.type&&Ty.okF P r gs (off+f.size)
 | _,_,_=>false
def Ty.okA (P:Program):List Ty→TypeId→Bool
 | [],_=>true
 | f::r,te=>f.ok P te&&Nat.beq (P.cellsOf te) f.size&&Ty.okA P r te
end
mutual
def Ty.is:Ty→T→Prop
 | .int k,x => ∃ n,(Lit.int k n).wf=true∧x = .int k n
 | .bool,x => ∃ b,x = .bool b
 | .str,x => ∃ s:ByteArray,s.size≤maxLen∧x = .str s
 | .sl e,x => ∃ es:List T,es.length≤maxLen∧(∀ y∈es,e.is y)∧x = .sl es
 | .st fs,x => ∃ cs,Ty.isL fs cs∧x = .agg cs
def Ty.isL:List Ty→List T→Prop
 | [],cs=>cs=[]
 | f::r,cs => ∃ x rest,f.is x∧Ty.isL r rest∧cs=x.cells++rest
end
mutual
theorem Ty.is_size : ∀ (ty:Ty) (x:T),ty.is x→x.cells.length=ty.size
 | .int k,x,h=>by obtain⟨n,_,rfl⟩:=h;rfl
 | .bool,x,h=>by obtain⟨n,rfl⟩:=h;rfl
 | .str,x,h=>by obtain⟨n,_,rfl⟩:=h;rfl
 | .sl e,x,h=>by obtain⟨es,_,_,rfl⟩:=h;rfl
 | .st fs,x,h=>by
  obtain⟨cs,h1,rfl⟩:=h
  show cs.length=Ty.sizeL fs
  exact Ty.isL_size fs cs h1
theorem Ty.isL_size : ∀ (fs:List Ty) (cs:List T),Ty.isL fs cs→cs.length=Ty.sizeL fs
 | [],cs,h=>by cases h;rfl
 | f::r,cs,h=>by
  obtain⟨x,rest,h1,h2,rfl⟩:=h
  rw[List.length_append,Ty.is_size f x h1,Ty.isL_size r rest h2,Ty.sizeL]
end
theorem qZk {α:Type} {Q:Nat→α→Prop} : ∀ (n:Nat),(∀ i,i<n → ∃ y,Q i y) → ∃ l:List α,l.length=n ∧ ∀ i y,l[i]?=some y→Q i y
 | 0,_=>⟨[],rfl,by simp⟩
 | n+1,h=>by
  obtain⟨l,hl,hq⟩:=qZk n (fun i hi=>h i (by omega))
  obtain⟨y,hy⟩:=h n (by omega)
  refine⟨l++[y],by simp[hl],fun i z hz=>?_⟩
  rw[List.getElem?_append] at hz
  split at hz
  ·exact hq i z hz
  ·have h1:i-l.length=0:=by
    rcases Nat.eq_zero_or_pos (i-l.length) with h | h
    ·exact h
    ·rw[List.getElem?_eq_none (by simp;omega)] at hz;cases hz
   rw[h1] at hz
   simp only[List.getElem?_cons_zero,Option.some.injEq] at hz
   subst hz
   have:i=n:=by omega
   subst this;exact hy
theorem qX8 {w:World} {a:Addr} {u:Value} (h:w.cell? a=some u):a.block<w.heap.size∧a.spot=none:=by
 unfold World.cell? at h
 split at h
 ·rename_i hb
  refine⟨(Array.getElem?_eq_some_iff.1 hb).1,?_⟩
  split at h
  ·cases h
  ·rename_i hs
   simpa using hs
 ·cases h
section
variable {H:Type} {enc:TypeId×Value→H} {P:Program} {w:World} {base:Nat} {sp:Nat→Bool} {held:Bool}
structure qG6 (w:World) (ds:List T) (cs:List Value):Prop where
 len:ds.length=cs.length
 one : ∀ u∈cs,u.oneCell'=true
 rep : ∀ (i:Nat) (c:T) (u:Value),ds[i]?=some c→cs[i]?=some u→Rep (fun b=>b<w.heap.size) w c u
theorem qG6.one1 {x:T} {c:Value} (hc:c.oneCell'=true) (h:Rep (fun b=>b<w.heap.size) w x c):qG6 w [x] [c]:=
 ⟨rfl,by simpa using hc,fun i d u hd hu=>by
  cases i with
  | zero=>simp only[List.getElem?_cons_zero,Option.some.injEq] at hd hu;subst hd;subst hu;exact h
  | succ i=>simp at hd⟩
theorem qG6.app {ds es:List T} {cs vs:List Value} (h:qG6 w ds cs) (h2:qG6 w es vs):qG6 w (ds++es) (cs++vs):=by
 refine⟨by rw[List.length_append,List.length_append,h.len,h2.len],fun u hu=>?_,fun i c u hc hu=>?_⟩
 ·rcases List.mem_append.1 hu with h3 | h3
  ·exact h.one u h3
  ·exact h2.one u h3
 ·rw[List.getElem?_append] at hc hu
  rw[h.len] at hc
  split at hc
  ·rename_i hl;rw[if_pos hl] at hu;exact h.rep i c u hc hu
  ·rename_i hl;rw[if_neg hl] at hu;exact h2.rep _ c u hc hu
theorem qG6.nil:qG6 w [] []:=⟨rfl,by simp,fun i c u hc=>by simp at hc⟩
theorem qRy (n:Nat) (IH : ∀ (ty:Ty) (t:TypeId) (cs:List Value) (x:DataW H×List MemPlace),ty.ok P t=true→cs.length=ty.size→DataW.trod enc P w base sp held n t cs=some x → ∃ y:T,ty.is y∧qG6 w y.cells cs) {cs:List Value} :
  ∀ (fs:List Ty) (gs:List Field) (off:Nat),Ty.okF P fs gs off=true→off+Ty.sizeL fs=cs.length→(∀ g∈gs,∃ x,DataW.trod enc P w base sp held n g.type ((cs.drop g.offset).take (P.cellsOf g.type))=some x)→
   ∃ ds,Ty.isL fs ds∧qG6 w ds (cs.drop off)
 | [],[],off,_,hl,_=>⟨[],rfl,by
   have:cs.drop off=[]:=List.drop_eq_nil_of_le (by simp only[Ty.sizeL] at hl;omega)
   rw[this];exact qG6.nil⟩
 | [],_::_,_,h,_,_=>by simp[Ty.okF] at h
 | _::_,[],_,h,_,_=>by simp[Ty.okF] at h
 | f::r,g::gs,off,h,hl,hg=>by
  simp only[Ty.okF,Bool.and_eq_true] at h
  obtain⟨⟨⟨h1,h2⟩,h3⟩,h4⟩:=h
  have e1:=Nat.eq_of_beq_eq_true h1
  have e2:=Nat.eq_of_beq_eq_true h2
  simp only[Ty.sizeL] at hl
  obtain⟨ds,hd1,hd2⟩:=qRy n IH r gs (off+f.size) h4 (by omega) (fun g' hg'=>hg g' (.tail _ hg'))
  obtain⟨x,hx⟩:=hg g (.head _)
  rw[e1,e2] at hx
  obtain⟨y,hy1,hy2⟩:=IH f g.type _ x h3 (by simp;omega) hx
  refine⟨y.cells++ds,⟨y,ds,hy1,hd1,rfl⟩,?_⟩
  have e3:cs.drop off=(cs.drop off).take f.size++cs.drop (off+f.size):=by
   rw[←List.drop_drop,List.take_append_drop]
  rw[e3]
  exact hy2.app hd2
theorem qU1 (n:Nat) (IH : ∀ (ty:Ty) (t:TypeId) (cs:List Value) (x:DataW H×List MemPlace),ty.ok P t=true→cs.length=ty.size→DataW.trod enc P w base sp held n t cs=some x → ∃ y:T,ty.is y∧qG6 w y.cells cs) {cs:List Value} {te:TypeId} :
  ∀ (fs:List Ty) (i:Nat),Ty.okA P fs te=true→i*P.cellsOf te+Ty.sizeL fs=cs.length→(∀ j,j<fs.length → ∃ x,DataW.trod enc P w base sp held n te ((cs.drop ((i+j)*P.cellsOf te)).take (P.cellsOf te))=some x)→
   ∃ ds,Ty.isL fs ds∧qG6 w ds (cs.drop (i*P.cellsOf te))
 | [],i,_,hl,_=>⟨[],rfl,by
   have:cs.drop (i*P.cellsOf te)=[]:=List.drop_eq_nil_of_le (by simp only[Ty.sizeL] at hl;omega)
   rw[this];exact qG6.nil⟩
 | f::r,i,h,hl,hg=>by
  simp only[Ty.okA,Bool.and_eq_true] at h
  obtain⟨⟨h3,h2⟩,h4⟩:=h
  have e2:=Nat.eq_of_beq_eq_true h2
  simp only[Ty.sizeL] at hl
  have e4:(i+1)*P.cellsOf te=i*P.cellsOf te+f.size:=by rw[Nat.add_mul,Nat.one_mul,e2]
  obtain⟨ds,hd1,hd2⟩:=qU1 n IH (cs:=cs) r (i+1) h4 (by rw[e4];omega) (fun j hj=>by
   have:=hg (j+1) (by simp;omega)
   rw[show i+1+j=i+(j+1) by omega];exact this)
  obtain⟨x,hx⟩:=hg 0 (by simp)
  rw[Nat.add_zero,e2,←e2] at hx
  obtain⟨y,hy1,hy2⟩:=IH f te _ x h3 (by rw[e2] at hl ⊢;rw[List.length_take,List.length_drop];omega) hx
  refine⟨y.cells++ds,⟨y,ds,hy1,hd1,rfl⟩,?_⟩
  have e3:cs.drop (i*P.cellsOf te)=(cs.drop (i*P.cellsOf te)).take (P.cellsOf te)++cs.drop ((i+1)*P.cellsOf te):=by
   rw[e4,←e2,←List.drop_drop,List.take_append_drop]
  rw[e3]
  exact hy2.app hd2
theorem qU2 : ∀ (n:Nat) (ty:Ty) (t:TypeId) (cs:List Value) (x:DataW H×List MemPlace),ty.ok P t=true→cs.length=ty.size→DataW.trod enc P w base sp held n t cs=some x → ∃ y:T,ty.is y∧qG6 w y.cells cs:=by
 intro n
 induction n with
 | zero=>intro ty t cs x _ _ h;simp[DataW.trod] at h
 | succ n IH=>
  intro ty t cs x hty hlen h
  cases ty with
  | int k=>
   obtain⟨m,rfl,_,hw⟩:=DataW.trod_int (zS3 hty) h
   exact⟨.int k m,⟨m,hw,rfl⟩,.one1 rfl (.int k m)⟩
  | bool=>
   simp only[Ty.ok] at hty
   split at hty
   ·rename_i hu
    obtain⟨b,rfl,_⟩:=DataW.trod_bool hu h
    exact⟨.bool b,⟨b,rfl⟩,.one1 rfl (.bool b)⟩
   ·cases hty
  | str=>
   simp only[Ty.ok] at hty
   split at hty
   ·rename_i hu
    obtain⟨s,rfl,_,hs⟩:=DataW.trod_string hu h
    exact⟨.str s,⟨s,hs,rfl⟩,.one1 rfl (.str s)⟩
   ·cases hty
  | sl e=>
   simp only[Ty.ok] at hty
   split at hty
   ·rename_i te hu
    simp only[Bool.and_eq_true] at hty
    obtain⟨⟨h1,h2⟩,h3⟩:=hty
    have e2:=Nat.eq_of_beq_eq_true h2
    have e3:=Nat.le_of_ble_eq_true h3
    rcases DataW.trod_slice hu h with⟨rfl,_⟩ | ⟨a,len,cap,elems,rest,m,hm,rfl,_,_,hlc,hcm,hel,hget,_,_⟩
    ·exact⟨.sl [],⟨[],by simp,by simp,rfl⟩,.one1 rfl .nil⟩
    ·cases hm
     have hcells : ∀ i,i<len → ∃ y:T,e.is y ∧ ∃ cs',qG6 w y.cells cs'∧cs'.length=e.size ∧ ∀ j,j<e.size→w.cell? ((a.add (i*e.size)).add j)=cs'[j]?:=by
      intro i hi
      have hg:=hget i hi
      have:elems[i]?=some elems[i]:=List.getElem?_eq_getElem (by omega)
      rw[this,Option.bind_eq_some_iff] at hg
      obtain⟨cs',hc,ht⟩:=hg
      obtain⟨_,hl,hcell⟩:=World.cells?_some hc
      rw[e2] at hl hcell
      obtain⟨y,hy1,hy2⟩:=IH e te cs' _ h1 hl ht
      exact⟨y,hy1,cs',hy2,hl,hcell⟩
     obtain⟨es,hes,hq⟩:=qZk len hcells
     have hz : ∀ y∈es,y.cells.length=e.size:=fun y hy=>by
      obtain⟨i,hi⟩:=List.getElem?_of_mem hy
      exact e.is_size y (hq i y hi).1
     have hcellk : ∀ k,k<len*e.size → ∃ (i j:Nat) (y:T) (cs':List Value) (u:Value),k=i*e.size+j∧j<e.size∧es[i]?=some y∧qG6 w y.cells cs'∧cs'[j]?=some u∧w.cell? (a.add k)=some u:=by
      intro k hk
      have hi:k/e.size<len:=(Nat.div_lt_iff_lt_mul (by omega)).2 hk
      have hj:k%e.size<e.size:=Nat.mod_lt _ (by omega)
      have hy:es[k/e.size]?=some es[k/e.size]:=List.getElem?_eq_getElem (by omega)
      obtain⟨_,cs',hr,hl,hc⟩:=hq _ _ hy
      have hu:cs'[k%e.size]?=some cs'[k%e.size]:=List.getElem?_eq_getElem (by omega)
      have ek:k=k/e.size*e.size+k%e.size:=by rw[Nat.mul_comm];exact (Nat.div_add_mod k e.size).symm
      refine⟨_,_,_,cs',_,ek,hj,hy,hr,hu,?_⟩
      rw[←hu,←hc _ hj,Addr.add_add,←ek]
     refine⟨.sl es,⟨es,by omega,fun y hy=>?_,rfl⟩,.one1 rfl ?_⟩
     ·obtain⟨i,hi⟩:=List.getElem?_of_mem hy
      exact (hq i y hi).1
     ·have hnl:((List.range (len*e.size)).map fun k=>(w.cell? (a.add k)).getD default).length=len*e.size:=by simp
      have hnews : ∀ k u,((List.range (len*e.size)).map fun k=>(w.cell? (a.add k)).getD default)[k]?=some u→k<len*e.size∧w.cell? (a.add k)=some u:=by
       intro k u hu
       have hk:k<len*e.size:=by
        rcases Nat.lt_or_ge k (len*e.size) with h | h
        ·exact h
        ·rw[List.getElem?_eq_none (by omega)] at hu;cases hu
       obtain⟨_,_,_,_,u',_,_,_,_,_,hc⟩:=hcellk k hk
       rw[List.getElem?_map,List.getElem?_range hk,Option.map_some,hc,Option.getD_some,Option.some.injEq] at hu
       subst hu
       exact⟨hk,hc⟩
      have h0:es≠[]→a.block<w.heap.size∧a.spot=none:=by
       intro hne
       have hlp:0<len:=by
        rw[←hes];exact List.length_pos_iff.2 hne
       obtain⟨_,_,_,_,u',_,_,_,_,_,hc⟩:=hcellk 0 (Nat.mul_pos hlp (by omega))
       have e9:a.add 0=a:=by simp[Addr.add]
       rw[e9] at hc
       exact qX8 hc
      have key:=Rep.sl (F:=fun b=>b<w.heap.size) (w:=w) es a cap e.size _ (fun hne=>(h0 hne).2) (by omega) (by rw[hes];exact hnl) (fun u hu=>by
       obtain⟨k,hk⟩:=List.getElem?_of_mem hu
       obtain⟨hk1,hk2⟩:=hnews k u hk
       obtain⟨_,_,_,cs',u',_,_,_,hr,hcu,hc⟩:=hcellk k hk1
       rw[hk2] at hc;cases hc
       exact hr.one u (List.mem_of_getElem? hcu)) (fun hne=>(h0 hne).1) (fun k u hk=>(hnews k u hk).2) hz
       (fun i y j c u hy hc hu=>by
        obtain⟨hk1,hk2⟩:=hnews _ u hu
        obtain⟨i',j',y',cs',u',e1,hj',hy',hr,hcu,hc'⟩:=hcellk _ hk1
        rw[hk2] at hc';cases hc'
        have hj:j<e.size:=by rw[←hz y (List.mem_of_getElem? hy)];exact (List.getElem?_eq_some_iff.1 hc).1
        have ei:i=i'∧j=j':=by
         have h5:=congrArg (· / e.size) e1
         have h6:=congrArg (· % e.size) e1
         simp only[Nat.mul_comm _ e.size,Nat.mul_add_div (show 0<e.size by omega),Nat.mul_add_mod,Nat.div_eq_of_lt hj,Nat.div_eq_of_lt hj',Nat.mod_eq_of_lt hj,Nat.mod_eq_of_lt hj'] at h5 h6
         exact⟨by omega,h6⟩
        obtain⟨rfl,rfl⟩:=ei
        rw[hy] at hy';cases hy'
        exact hr.rep j c u hc hcu)
      rw[hes] at key
      exact key
   ·cases hty
  | st fs=>
   simp only[Ty.ok,Bool.and_eq_true] at hty
   obtain⟨h0,hty⟩:=hty
   have e0:=Nat.eq_of_beq_eq_true h0
   split at hty
   ·rename_i gs hu
    obtain⟨xs,m,hm,_,hl,hxl,hget⟩:=DataW.trod_struct hu h
    cases hm
    obtain⟨ds,hd1,hd2⟩:=qRy n IH (cs:=cs) fs gs.toList 0 hty (by omega) (fun g hg=>by
     obtain⟨i,hi⟩:=List.getElem?_of_mem hg
     have hi':gs[i]?=some g:=by simpa using hi
     have hlt:i<xs.length:=by rw[hxl];exact (Array.getElem?_eq_some_iff.1 hi').1
     exact⟨xs[i],by rw[hget i g hi'];exact List.getElem?_eq_getElem hlt⟩)
    rw[List.drop_zero] at hd2
    exact⟨.agg ds,⟨ds,hd1,rfl⟩,hd2⟩
   ·rename_i m te hu
    simp only[Bool.and_eq_true] at hty
    have e5:=Nat.eq_of_beq_eq_true hty.1
    obtain⟨xs,m',hm,_,hl,hxl,hget⟩:=DataW.trod_array hu h
    cases hm
    obtain⟨ds,hd1,hd2⟩:=qU1 n IH (cs:=cs) fs 0 hty.2 (by omega) (fun j hj=>by
     have hlt:j<xs.length:=by omega
     rw[Nat.zero_add]
     exact⟨xs[j],by rw[hget j (by omega)];exact List.getElem?_eq_getElem hlt⟩)
    rw[Nat.zero_mul,List.drop_zero] at hd2
    exact⟨.agg ds,⟨ds,hd1,rfl⟩,hd2⟩
   ·cases hty
theorem zG6 {ty:Ty} {t:TypeId} {v:Value} {d:DataW H} {ps:List MemPlace} {b0:Nat} (hty:ty.ok P t=true) (hval:Value.okWide P w .any b0 t v) (h:DataW.Trod enc P w base sp held t v d ps) :
  ∃ y:T,ty.is y∧Rep (fun b=>b<w.heap.size) w y v:=by
 obtain⟨n,hn⟩:=h
 have scalar : ∀ c,v=c→c.cells = #[c]→ty.size=1→(∀ y:T,ty.is y→y.cells=[y]) → ∃ y:T,ty.is y∧Rep (fun b=>b<w.heap.size) w y v:=by
  intro c hv hc hs hy
  subst hv
  rw[hc] at hn
  obtain⟨y,h1,h2⟩:=qU2 n ty t _ _ hty (by rw[hs];rfl) hn
  rw[hy y h1] at h2
  exact⟨y,h1,h2.rep 0 y v rfl rfl⟩
 cases ty with
 | int k=>
  obtain⟨m,hv⟩:=okWide_int (zS3 hty) hval
  exact scalar _ hv rfl rfl (fun y hy=>by obtain⟨_,_,rfl⟩:=hy;rfl)
 | bool=>
  simp only[Ty.ok] at hty
  split at hty
  ·rename_i hu
   obtain⟨m,hv⟩:=okWide_bool hu hval
   exact scalar _ hv rfl rfl (fun y hy=>by obtain⟨_,rfl⟩:=hy;rfl)
  ·cases hty
 | str=>
  simp only[Ty.ok] at hty
  split at hty
  ·rename_i hu
   obtain⟨m,hv⟩:=okWide_string hu hval
   exact scalar _ hv rfl rfl (fun y hy=>by obtain⟨_,_,rfl⟩:=hy;rfl)
  ·cases hty
 | sl e=>
  have hty':=hty
  simp only[Ty.ok] at hty'
  split at hty'
  ·rename_i te hu
   obtain⟨a,l,c,hv⟩:=okWide_slice hu hval
   exact scalar _ hv rfl rfl (fun y hy=>by obtain⟨_,_,_,rfl⟩:=hy;rfl)
  ·cases hty'
 | st fs=>
  have hagg : ∃ cs,v = .agg cs∧cs.size=P.cellsOf t:=by
   have hty':=hty
   simp only[Ty.ok,Bool.and_eq_true] at hty'
   obtain⟨_,h2⟩:=hty'
   unfold Value.okWide at hval
   split at h2
   ·rename_i hu;rw[hu] at hval;obtain⟨cs,h3,h4,_⟩:=hval;exact⟨cs,h3,h4⟩
   ·rename_i hu;rw[hu] at hval;obtain⟨cs,h3,h4,_⟩:=hval;exact⟨cs,h3,h4⟩
   ·cases h2
  obtain⟨cs,rfl,hsz⟩:=hagg
  have hsz2:cs.size=Ty.sizeL fs:=by
   simp only[Ty.ok,Bool.and_eq_true] at hty
   rw[hsz];exact Nat.eq_of_beq_eq_true hty.1
  obtain⟨y,h1,h2⟩:=qU2 n (.st fs) t _ _ hty (by show cs.toList.length=Ty.sizeL fs;simpa using hsz2) hn
  obtain⟨ds,h3,rfl⟩:=h1
  refine⟨.agg ds,⟨ds,h3,rfl⟩,.agg ds cs ?_ ?_ ?_⟩
  ·have:=h2.len;simpa [Value.cells,T.cells] using this.symm
  ·intro u hu;exact h2.one u (by simpa [Value.cells] using hu)
  ·intro i c u hc hu;exact h2.rep i c u hc (by simpa [Value.cells] using hu)
theorem qZh : ∀ {tys:List Ty} {ts:List TypeId} {vs:List Value} {ds:List (DataW H)} {ps:List MemPlace} {b0:Nat},qAl (fun (ty:Ty) (t:TypeId)=>ty.ok P t=true) tys ts→
  (∀ (j:Nat) t v,ts[j]?=some t→vs[j]?=some v→Value.okWide P w .any b0 t v)→DataW.TrodAll enc P w base sp held ts vs ds ps→
  ∃ ys:List T,qAl (fun (ty:Ty) (y:T)=>ty.is y) tys ys∧qAl (qU (fun _=>none) (fun b=>b<w.heap.size) w) (ys.map V.t) vs
 | [],ts,vs,ds,ps,b0,h,hv,hd=>by
  cases h
  obtain⟨rfl,_,_⟩:=trodAll_nil hd
  exact⟨[],.nil,.nil⟩
 | ty::tys,ts,vs,ds,ps,b0,h,hv,hd=>by
  cases h with
  | cons h1 h2=>
   obtain⟨v,vs',d,ds',p,q,rfl,rfl,rfl,hd1,hd2⟩:=trodAll_cons hd
   obtain⟨y,hy1,hy2⟩:=zG6 h1 (hv 0 _ v rfl rfl) hd1
   obtain⟨ys,h3,h4⟩:=qZh h2 (fun j t v' ht hv'=>hv (j+1) t v' ht hv') hd2
   exact⟨y::ys,.cons hy1 h3,.cons (.t hy2) h4⟩
end
end Go.Eng
end
section
set_option maxRecDepth 20000
namespace Go.Eng
open Go.ChangeShapes Go.WideShapes Go.RowKit Go.WideElems
section
variable {H:Type} {enc:TypeId×Value→H} {P:Program}
theorem zCz {W W':World} (hfr : ∀ b,b<W.heap.size→W'.heap[b]?=W.heap[b]?) {p:MemPlace} (hp:p.block<W.heap.size):W.sameAt W' p:=by
 cases p with
 | cell b off=>exact World.cell?_of_block (hfr b hp)
 | map b=>exact hfr b hp
theorem qX4 (hl:laidOutB P=true) {W W':World} (hfr : ∀ b,b<W.heap.size→W'.heap[b]?=W.heap[b]?) {sp:Nat→Bool} :
  ∀ {ts:List TypeId} {vs:List Value} {ds:List (DataW H)} {ps:List MemPlace},(∀ t∈ts,P.readableRec t=true∧t<P.types.size)→(∀ p∈ps,p.block<W.heap.size∧sp p.block=true)→
   DataW.TrodAll enc P W 0 (fun _=>true) true ts vs ds ps→DataW.TrodAll enc P W' 0 sp true ts vs ds ps
 | [],vs,ds,ps,_,_,h=>by
  obtain⟨rfl,rfl,rfl⟩:=trodAll_nil h
  exact trodAll_mk0
 | t::ts,vs,ds,ps,ht,hp,h=>by
  obtain⟨v,vs',d,ds',p,q,rfl,rfl,rfl,h1,h2⟩:=trodAll_cons h
  obtain⟨hr,hrow⟩:=ht t (.head _)
  exact⟨p,q,Trod_stays hl hr hrow h1 (fun x hx=>zCz hfr (hp x (List.mem_append_left _ hx)).1) (fun x hx=>(hp x (List.mem_append_left _ hx)).2),
   qX4 hl hfr (fun t' ht'=>ht t' (.tail _ ht')) (fun x hx=>hp x (List.mem_append_right _ hx)) h2,rfl⟩
theorem zPf {fn:Func} {s:ChangeSpec} {tb:TypeId} {apart fresh handsOn again:Bool} {W W':World} {args:Array Value} {ds gs:List (DataW H)} {before:List MemPlace}
  (hl:laidOutB P=true) (hts : ∀ t∈fn.params.toList,P.readableRec t=true∧t<P.types.size) (hrt:fn.resultTypes = #[tb]) (hb:P.underlying tb=some .bool) (hsv:s.vars=[])
  (hfn:(s.fn H (ds++gs)).results=[.lit (.bool true)]∧(s.fn H (ds++gs)).args=ds∧(s.fn H (ds++gs)).vars=[])
  (hW:DataW.Whole enc P fn.params.toList s.vars apart W args.toList ds gs before)
  (hos:W'.os=W.os) (hout:W'.output=W.output) (hfr : ∀ b,b<W.heap.size→W'.heap[b]?=W.heap[b]?) :
  s.post enc P fn apart fresh handsOn again W args (.bool true) W':=by
 have hlt : ∀ p∈before,p.block<W.heap.size:=fun p hp=>hW.lt p hp
 have hW':=hW
 obtain⟨p,q,hA,hV,rfl,hz,hn⟩:=hW'
 rw[hsv] at hV
 obtain⟨rfl,rfl⟩:=trodVars_none hV
 have hres : ∀ (b:Nat) (sp:Nat→Bool) (hd:Bool),DataW.TrodAll enc P W' b sp hd fn.resultTypes.toList ((Value.bool true).resultList fn.resultTypes.size) (s.fn H (ds++[])).results []:=by
  intro b sp hd
  rw[hrt,hfn.1]
  exact trodAll_mk1 (shut_bool hb true)
 have hargs : ∀ sp:Nat→Bool,(∀ x∈p++[],sp x.block=true)→DataW.TrodAll enc P W' 0 sp true fn.params.toList args.toList (s.fn H (ds++[])).args p:=by
  intro sp hsp
  rw[hfn.2.1]
  exact qX4 hl hfr hts (fun x hx=>⟨hlt x (by simpa using hx),hsp x (by simpa using hx)⟩) hA
 have hvars : ∀ sp:Nat→Bool,DataW.TrodVars enc P W' sp s.vars (s.fn H (ds++[])).vars []:=by
  intro sp
  rw[hsv,hfn.2.2]
  rfl
 refine⟨ds,[],_,[],p,[],hW,hres _ _ _,hargs _ (fun x hx=>by simpa using hlt x hx),hvars _,⟨hos,hout,fun i hi=>?_⟩,fun _=>?_⟩
 ·have e:=hfr i hi
  revert e
  generalize W'.heap[i]?=o'
  intro e
  subst e
  split
  ·rename_i h1 h2
   rw[h1] at h2
   cases h2
   exact⟨rfl,rfl,rfl,fun _ _=>rfl⟩
  ·rename_i h1 h2
   rw[h1] at h2
   cases h2
   exact .inr ⟨rfl,rfl⟩
  ·rfl
 ·refine⟨ok_one hrt rfl (okWide_bool_mk hb _),_,_,([]++p)++[],⟨[]++p,[],trodAll_append (hargs _ (fun _ _=>rfl)) (hres _ _ _),hvars _,rfl,?_,?_⟩,?_⟩
  ·intro b off hx
   have hx':MemPlace.cell b off∈p++[]:=by simpa using hx
   have e:W'.frozen? ⟨b,off,none⟩=W.frozen? ⟨b,off,none⟩:=by
    unfold World.frozen?
    rw[hfr b (hlt _ hx')]
   rw[e]
   exact hz b off hx'
  ·intro ha
   have:=hn ha
   simpa using this
  ·intro x hx _
   simpa using hx
theorem qL0 {w:World} : ∀ {laid:List (String×DataW Unit)} {ps:List MemPlace},DataW.LaidVars P w laid ps → ∀ x∈laid,∃ g t cs fuel p,P.globalNamed x.1=some g∧(P.globals[g]?).map (·.type)=some t∧w.var? P x.1=some cs∧
   DataW.trod (fun _=>()) P w 0 (fun _=>true) false fuel t cs.toList=some (x.2,p)
 | [],_,_,x,hx=>by cases hx
 | y::r,ps,h,x,hx=>by
  obtain⟨g,t,cs,fuel,p,q,h1,h2,h3,h4,h5,_⟩:=h
  rcases List.mem_cons.1 hx with rfl | hx
  ·exact⟨g,t,cs,fuel,p,h1,h2,h3,h4⟩
  ·exact qL0 h5 x hx
theorem zCy {w:World} {nm:String} {g t e n:Nat} {k:IntKind} {ns:List Int} {cs:Array Value} {fuel:Nat} {p:List MemPlace} {F:Nat→Prop} (hg:P.globalNamed nm=some g) (hv:w.var? P nm=some cs)
  (ht:P.underlying t=some (.array n e)) (he:P.underlying e=some (.int k)) (hc:P.cellsOf e=1) (hct:P.cellsOf t=n) (hn:0<ns.length)
  (h:DataW.trod (fun _=>()) P w 0 (fun _=>true) false fuel t cs.toList=some (.agg (ns.map fun m=> .lit (.int k m)),p)) (hF:g<w.heap.size→F g) :
  qU (fun _=>none) F w (.ro (ns.map (T.int k))) (.pointer (some ⟨g,0,none⟩)):=by
 obtain⟨xs,m,_,hx,hl,hxl,hget⟩:=DataW.trod_array ht h
 simp only[Prod.mk.injEq,DataW.agg.injEq] at hx
 have hlen:ns.length=n:=by
  have:=congrArg List.length hx.1
  simp only[List.length_map] at this
  omega
 have hcl:cs.toList.length=n:=by rw[hl,hct]
 have hcell : ∀ i,i<n→cs.toList[i]?=some (.int k (ns.getD i 0)):=by
  intro i hi
  have h1:=hget i hi
  have h2:xs[i]?=some xs[i]:=List.getElem?_eq_getElem (by omega)
  rw[h2,hc,Nat.mul_one] at h1
  obtain⟨z,hz1,hz2,_⟩:=DataW.trod_int he h1
  have h3:cs.toList[i]?=some (.int k z):=by
   have h4:=congrArg (fun l=>l[0]?) hz1
   simp only[List.getElem?_take,List.getElem?_drop,Nat.add_zero,List.getElem?_cons_zero] at h4
   simpa using h4
  have h5:=congrArg (fun l=>l[i]?) hx.1
  simp only[List.getElem?_map,h2,Option.map_some,hz2] at h5
  have h6:ns[i]?=some ns[i]:=List.getElem?_eq_getElem (by omega)
  rw[h6] at h5
  simp only[Option.map_some,Option.some.injEq,DataW.lit.injEq,Lit.int.injEq,true_and] at h5
  rw[h3,List.getD_eq_getElem?_getD,h6,h5];rfl
 have hw : ∀ j,w.cell? ((⟨g,0,none⟩:Addr).add j)=cs.toList[j]?:=by
  intro j
  have e:(⟨g,0,none⟩:Addr).add j=⟨g,j,none⟩:=by
   unfold Addr.add;split
   ·rename_i h0;rw[h0]
   ·simp
  rw[e,World.var?_cell hg hv j,Array.getElem?_toList]
 refine .ro (ns.map (T.int k)) ⟨g,0,none⟩ cs.toList rfl (by rw[hcl,List.length_map,hlen]) ?_ (hF ?_) (fun j u hu=>(hw j).trans hu) ?_
 ·intro u hu
  obtain⟨i,hi⟩:=List.getElem?_of_mem hu
  rw[hcell i (by rw[←hcl];exact (List.getElem?_eq_some_iff.1 hi).1)] at hi
  cases hi;rfl
 ·have h0:=hw 0
  rw[hcell 0 (by omega)] at h0
  have:=(qX8 h0).1
  rw[qDg] at this
  exact this
 ·intro j c u hcj hu
  rw[List.getElem?_map,Option.map_eq_some_iff] at hcj
  obtain⟨z,hz,rfl⟩:=hcj
  rw[hcell j (by rw[←hlen];exact (List.getElem?_eq_some_iff.1 hz).1)] at hu
  cases hu
  rw[List.getD_eq_getElem?_getD,hz]
  exact .int k z
theorem zCa {w:World} {nm:String} {g t e n:Nat} {k:IntKind} {ns:List Int} {cs:Array Value} {fuel:Nat} {p:List MemPlace} (hg:P.globalNamed nm=some g) (hv:w.var? P nm=some cs)
  (ht:P.underlying t=some (.array n e)) (hct:P.cellsOf t=n)
  (h:DataW.trod (fun _=>()) P w 0 (fun _=>true) false fuel t cs.toList=some (.agg (ns.map fun m=> .lit (.int k m)),p)):GSz w g (ns.map (T.int k)).length:=by
 obtain⟨xs,m,_,hx,hl,hxl,hget⟩:=DataW.trod_array ht h
 simp only[Prod.mk.injEq,DataW.agg.injEq] at hx
 have hlen:ns.length=n:=by
  have:=congrArg List.length hx.1
  simp only[List.length_map] at this
  omega
 have hcl:cs.toList.length=n:=by rw[hl,hct]
 unfold World.var? at hv
 rw[hg,Option.bind_some] at hv
 split at hv
 ·rename_i c e z hc
  cases hv
  exact⟨_,e,z,hc,by rw[List.length_map,hlen,←hcl];simp⟩
 ·cases hv
theorem qJz {w:World} {base:Nat} {sp:Nat→Bool} {held:Bool} : ∀ {ts:List TypeId} {vs:List Value} {ds:List (DataW H)} {ps:List MemPlace},DataW.TrodAll enc P w base sp held ts vs ds ps→ds.length=ts.length
 | [],_,_,_,h=>by obtain⟨rfl,rfl,rfl⟩:=trodAll_nil h;rfl
 | _::_,_,_,_,h=>by
  obtain⟨_,_,_,_,_,_,rfl,rfl,rfl,_,h2⟩:=trodAll_cons h
  simp[qJz h2]
end
theorem qIp {H:Type} {enc:TypeId×Value→H} {C:Checked} {os:Os} {f:FuncId} {fn:Func} {s:ChangeSpec} {laid:List (String×DataW Unit)} {tys:List Ty} {G:Nat→Option (List T)} {tb:TypeId} {apart fresh handsOn again:Bool}
  (own:ownKnob C.prog.godebug=none) (started:os.Started) (noInit:C.prog.inits.idxOf? f=none) (hfn:C.prog.funcs[f]?=some fn)
  (witness : ∃ (w:World) (tape:Tape) (i:Input),w.os=os∧(w.forCall tape i).Shaped C.prog∧i.vars=[]∧Input.okWide C.prog (w.forCall tape i) .any w.heap.size f i∧
   ((s.pre enc C.prog fn [] apart (w.forCall tape i).memory i.args∧laidMetH C.prog laid (w.forCall tape i).memory)∧sizedMet enc C.prog fn (OpenSpec.ofChange s) apart (w.forCall tape i).memory i.args)∧({}:Assume).holds C.prog (lone (Frame.enter C.prog f i.args .normal) [] (w.forCall tape i)))
  (hl:laidOutB C.prog=true) (hts:fn.params.toList.all (fun t=>C.prog.readableRec t&&Nat.blt t C.prog.types.size)=true) (hrt:fn.resultTypes = #[tb]) (hb:C.prog.underlying tb=some .bool) (hsv:s.vars=[])
  (hspec : ∀ ds:List (DataW H),ds.length=tys.length→(s.fn H ds).results=[.lit (.bool true)]∧(s.fn H ds).args=ds∧(s.fn H ds).vars=[])
  (htys:qAl (fun (ty:Ty) (t:TypeId)=>ty.ok C.prog t=true) tys fn.params.toList)
  (henv : ∀ W,laidMetH C.prog laid W→zIt G (fun b=>b<W.heap.size) W)
  (hlaw : ∀ ys,qAl (fun (ty:Ty) (y:T)=>ty.is y) tys ys→qX2 C.prog G f (ys.map V.t) [] (.t (.bool true)) []) :
  ReturnsInHanded {} C os f .any (fun w args=>(s.pre enc C.prog fn [] apart w args∧laidMetH C.prog laid w)∧sizedMet enc C.prog fn (OpenSpec.ofChange s) apart w args) (s.post enc C.prog fn apart fresh handsOn again):=by
 have hts' : ∀ t∈fn.params.toList,C.prog.readableRec t=true∧t<C.prog.types.size:=by
  intro t ht
  have:=List.all_eq_true.1 hts t ht
  rw[Bool.and_eq_true] at this
  exact⟨this.1,by simpa [Nat.blt_eq] using this.2⟩
 refine returnsInHanded_of_change_and (C:=C) (X:=fun w _=>laidMetH C.prog laid w) (fun _ _ _ hh h=>laidMetH.of_heap hh h) own started noInit hfn witness ?_
 intro W base args ds gs before hval hW _ _ hL _
 have hW':=hW
 obtain⟨p,q,hA,hV,rfl,_,_⟩:=hW'
 rw[hsv] at hV
 obtain⟨rfl,rfl⟩:=trodVars_none hV
 obtain⟨ys,hys,hreps⟩:=qZh htys (fun j t v ht hv=>hval j t v (by simpa using ht) (by simpa using hv)) hA
 have hlen:ds.length=tys.length:=by rw[qJz hA,htys.length]
 have hcall:=hlaw ys hys W (fun _=>none) (fun b=>b<W.heap.size) args (henv W hL)
  ⟨fun k o h=>by simp at h,fun _ _=>rfl,fun _ _ _ _ _ h=>by simp at h,fun _ _ _ h=>by simp at h⟩ hreps
 refine hcall.mono fun e W' ⟨x,β',F',he,hp⟩=>?_
 subst he
 have hx:x = .bool true:=by
  have:=hp.res
  cases this with
  | t h=>cases h;rfl
 subst hx
 exact⟨_,rfl,zPf hl hts' hrt hb hsv (by rw[List.append_nil];exact hspec ds hlen) hW hp.os hp.output (fun b hb=>hp.frame b hb (fun _ _ h=>by simp at h))⟩
end Go.Eng
end
section
set_option maxRecDepth 20000
namespace Go.Eng
theorem qBb {y:T} (h:(Ty.int .i64).is y) : ∃ n:Int,(-9223372036854775808≤n∧n<9223372036854775808)∧y = .int .i64 n:=by
 obtain⟨n,hw,rfl⟩:=h
 refine⟨n,?_,rfl⟩
 simp only[Lit.wf,Bool.and_eq_true,decide_eq_true_eq] at hw
 obtain⟨h1,h2⟩:=hw
 have e1:IntKind.i64.min = -9223372036854775808:=by decide
 have e2:IntKind.i64.max=9223372036854775807:=by decide
 rw[e1] at h1
 rw[e2] at h2
 omega
theorem jDs {y:T} (h:(Ty.int .u8).is y) : ∃ b:UInt8,y=qA b:=by
 obtain⟨n,hw,rfl⟩:=h
 simp only[Lit.wf,Bool.and_eq_true,decide_eq_true_eq] at hw
 obtain⟨h1,h2⟩:=hw
 have e1:IntKind.u8.min=0:=by decide
 have e2:IntKind.u8.max=255:=by decide
 rw[e1] at h1
 rw[e2] at h2
 refine⟨UInt8.ofNat n.toNat,?_⟩
 unfold qA
 congr 1
 rw[UInt8.toNat_ofNat']
 omega
theorem zU7 {y:T} (h:Ty.bool.is y) : ∃ b:Bool,y = .bool b:=h
theorem qV6 {α:Type} {f:α→T} {es:List T} (h : ∀ y∈es,∃ a,y=f a) : ∃ l:List α,es=l.map f:=by
 induction es with
 | nil=>exact⟨[],rfl⟩
 | cons y r ih=>
  obtain⟨a,rfl⟩:=h y (.head _)
  obtain⟨l,rfl⟩:=ih (fun z hz=>h z (.tail _ hz))
  exact⟨a::l,rfl⟩
theorem mx:maxLen=9223372036854775807:=by decide
theorem qA3 {y:T} (h:(Ty.sl (.int .u8)).is y) : ∃ bs:List UInt8,bs.length≤9223372036854775807∧y = .sl (bs.map qA):=by
 obtain⟨es,hl,he,rfl⟩:=h
 obtain⟨bs,rfl⟩:=qV6 (f:=qA) (fun y hy=>jDs (he y hy))
 rw[List.length_map,mx] at hl
 exact⟨bs,hl,rfl⟩
theorem zU8 {y:T} (h:(Ty.sl (.sl (.int .u8))).is y) : ∃ l:List (List UInt8),l.length≤9223372036854775807∧(∀ d∈l,d.length<9223372036854775808)∧y = .sl (l.map bsT):=by
 obtain⟨es,hl,he,rfl⟩:=h
 obtain⟨l,hl2⟩:=qV6 (f:=bsT) (es:=es) (fun y hy=>by
  obtain⟨bs,_,h2⟩:=qA3 (he y hy)
  exact⟨bs,h2⟩)
 subst hl2
 rw[List.length_map,mx] at hl
 refine⟨l,hl,fun d hd=>?_,rfl⟩
 obtain⟨bs,hb,h2⟩:=qA3 (he (bsT d) (List.mem_map_of_mem hd))
 have h3:d.map qA=bs.map qA:=by
  have:T.sl (d.map qA)=T.sl (bs.map qA):=h2
  exact T.sl.inj this
 have h4:=congrArg List.length h3
 simp only[List.length_map] at h4
 omega
theorem jDr {y:T} (h:(Ty.st [.int .i64,.int .i64]).is y) : ∃ a b:Int,(-9223372036854775808≤a∧a<9223372036854775808)∧(-9223372036854775808≤b∧b<9223372036854775808)∧y = .agg [.int .i64 a,.int .i64 b]:=by
 obtain⟨cs,hc,rfl⟩:=h
 obtain⟨x,r,hx,hr,rfl⟩:=hc
 obtain⟨x2,r2,hx2,hr2,rfl⟩:=hr
 cases hr2
 obtain⟨a,ha,rfl⟩:=qBb hx
 obtain⟨b,hb,rfl⟩:=qBb hx2
 exact⟨a,b,ha,hb,rfl⟩
theorem zPa {y:T} (h:(Ty.sl (.sl (.int .u8))).is y) : ∃ l:List (List UInt8),l.length≤9223372036854775807∧(∀ d∈l,d.length≤9223372036854775807)∧y = .sl (l.map bsT):=by
 obtain⟨l,h1,h2,h3⟩:=zU8 h
 exact⟨l,h1,fun d hd=>by have:=h2 d hd;omega,h3⟩
theorem jJ3 {y:T} (h:(Ty.st [.int .i64,.int .i64,.sl (.sl (.int .u8)),.sl (.int .u8)]).is y) : ∃ (a b:Int) (l:List (List UInt8)) (d:List UInt8),(l.length≤9223372036854775807∧(∀ d∈l,d.length≤9223372036854775807)∧d.length≤9223372036854775807)∧y = .agg [.int .i64 a,.int .i64 b,.sl (l.map bsT),.sl (d.map qA)]:=by
 obtain⟨cs,hc,rfl⟩:=h
 obtain⟨x,r,hx,hr,rfl⟩:=hc
 obtain⟨x2,r2,hx2,hr2,rfl⟩:=hr
 obtain⟨x3,r3,hx3,hr3,rfl⟩:=hr2
 obtain⟨x4,r4,hx4,hr4,rfl⟩:=hr3
 cases hr4
 obtain⟨a,_,rfl⟩:=qBb hx
 obtain⟨b,_,rfl⟩:=qBb hx2
 obtain⟨l,h1,h2,rfl⟩:=zPa hx3
 obtain⟨d,h3,rfl⟩:=qA3 hx4
 exact⟨a,b,l,d,⟨h1,h2,h3⟩,rfl⟩
end Go.Eng
end
section
set_option maxRecDepth 20000
namespace Go.Eng
theorem zZp {y:T} (h:Ty.str.is y) : ∃ s:List UInt8,s.length≤9223372036854775807∧y=zU s:=by
 obtain⟨⟨⟨s⟩⟩,hs,rfl⟩:=h
 rw[mx] at hs
 exact⟨s,hs,rfl⟩
theorem jDq {y:T} (h:(Ty.st [.int .i64,.str,.int .i64,.sl (.int .u8)]).is y) : ∃ (a v:Int) (s p:List UInt8),rI a∧rI v∧s.length≤9223372036854775807∧p.length≤9223372036854775807∧y=imT (a,s,v,p):=by
 obtain⟨cs,hc,rfl⟩:=h
 obtain⟨x,r,hx,hr,rfl⟩:=hc
 obtain⟨x2,r2,hx2,hr2,rfl⟩:=hr
 obtain⟨x3,r3,hx3,hr3,rfl⟩:=hr2
 obtain⟨x4,r4,hx4,hr4,rfl⟩:=hr3
 cases hr4
 obtain⟨a,ha,rfl⟩:=qBb hx
 obtain⟨s,hs,rfl⟩:=zZp hx2
 obtain⟨v,hv,rfl⟩:=qBb hx3
 obtain⟨p,hp,rfl⟩:=qA3 hx4
 exact⟨a,v,s,p,ha,hv,hs,hp,rfl⟩
end Go.Eng
end
section
set_option maxRecDepth 20000
namespace Go.Eng
open Go.MuLone
theorem zS7 {c:UInt8} : ∀ {b:List UInt8} {n:Nat},ixN c b n=if Lib.indexByte b c = -1 then -1 else (n:Int)+Lib.indexByte b c
 | [],n=>rfl
 | x::r,n=>by
  have hg:=Lib.indexByte_ge r c
  unfold ixN Lib.indexByte
  by_cases h:x=c
  ·subst h;simp
  ·rw[if_neg h,zS7]
   have hb:(x==c)=false:=by simpa using h
   rw[hb]
   by_cases h2:Lib.indexByte r c = -1
   ·simp[h2]
   ·have h2b:(Lib.indexByte r c == -1)=false:=by simpa using h2
    rw[h2b,if_neg h2]
    simp only[Bool.false_eq_true,if_false]
    rw[if_neg (by omega)]
    push_cast;omega
theorem jAd {P:Program} {G:Nat→Option (List T)} {f:FuncId} {fn:Func} (hf:P.funcs[f]?=some fn) (hname:(fn.name == "runtime.NumGoroutine")=false) (hb:fn.body.isNone=true) (hn:Extern.findNext fn=none)
  (he:Extern.find fn=some Extern.BytealgIndexByte.indexByte):FOk P G f qOi.fs:=by
 intro as ins r outs hs
 have key : ∃ (b:List UInt8) (c:UInt8),0<b.length∧as=[.t (.sl (b.map qA)),.t (qA c)]∧ins=[]∧r = .t (.int .i64 (ixN c b 0))∧outs=[]:=by
  unfold Ct.fs at hs
  split at hs
  ·rename_i hx
   cases hs
   have h1:=hx.choose_spec
   generalize hx.choose=y at h1 ⊢
   obtain⟨⟨rfl,rfl⟩,h3⟩:=h1
   exact⟨y.1,y.2,h3.1,rfl,rfl,rfl,rfl⟩
  ·cases hs
 obtain⟨b,c,hpos,rfl,rfl,rfl,rfl⟩:=key
 intro w β F vals env fits hargs
 have hβ : ∀ k,β k=none:=fun k=>fits.dom k (Nat.zero_le _)
 have hvals : ∃ (blk off cap:Nat),vals = #[.slice (some ⟨blk,off,none⟩) b.length cap,.int .u8 c.toNat] ∧ ∀ i,i<b.length→w.cell? ⟨blk,off+i,none⟩=some (.int .u8 ((b.map fun x=>(x.toNat:Int)).getD i 0)):=by
  obtain⟨l⟩:=vals
  cases hargs with
  | cons h1 h2=>
   cases h2 with
   | cons h2 h3=>
    cases h3
    cases h1 with
    | t h1=>
     cases h2 with
     | t h2=>
      generalize hes:b.map qA=es at h1
      have hlen:es.length=b.length:=by rw[←hes];simp
      cases h2
      cases h1 with
      | nil=>simp at hlen;omega
      | sl _ ad cap sz news ha hc hn h1 hF hw hz h=>
       have hne:es≠[]:=by intro e;rw[e] at hlen;simp at hlen;omega
       have hsp:=ha hne
       have hsz:sz=1:=by
        have hm:qA b[0]∈es:=by rw[←hes];exact List.mem_map.2 ⟨_,List.getElem_mem hpos,rfl⟩
        exact (hz _ hm).symm
       subst hsz
       obtain⟨blk,off,sp⟩:=ad
       simp only at hsp
       subst hsp
       refine⟨blk,off,cap,by rw[hlen],fun i hi=>?_⟩
       have hi2:i<news.length:=by omega
       have hu:news[i]?=some news[i]:=List.getElem?_eq_getElem hi2
       have hr:Rep F w (qA b[i]) news[i]:=h i (qA b[i]) 0 (qA b[i]) _ (by rw[←hes];simp[hi]) rfl (by rw[Nat.mul_one,Nat.add_zero];exact hu)
       have hc:=hw i _ hu
       have e:(⟨blk,off,none⟩:Addr).add i=⟨blk,off+i,none⟩:=by unfold Addr.add;split<;>simp_all
       rw[e] at hc
       rw[hc]
       generalize news[i]=u at *
       cases hr
       simp[hi]
 obtain⟨blk,off,cap,rfl,hc⟩:=hvals
 have hrun:=Lib.run_indexByteSlice (P:=P) w blk off b.length cap (b.map fun x=>(x.toNat:Int)) (by simp) hc c.toNat
 have hbs:Lib.bytesOf (b.map fun x=>(x.toNat:Int))=b:=by
  unfold Lib.bytesOf
  rw[List.map_map]
  refine (List.map_congr_left (fun x _=>?_)).trans (List.map_id b)
  simp
 have hcc:((c.toNat:Int).toNat).toUInt8=c:=by simp
 rw[hbs,hcc] at hrun
 have hres:ixN c b 0=Lib.indexByte b c:=by
  rw[zS7]
  split
  ·rename_i h;rw[h]
  ·simp
 refine .inr ⟨.int .i64 (Lib.indexByte b c),w,?_,.int .i64 (Lib.indexByte b c),β,F,rfl,?_⟩
 ·rw[run_callFunc_extern hf hname hb hn he,hrun];rfl
 ·rw[hres]
  exact⟨⟨fun k o hk=>(by simp at hk),fun k _=>hβ k,fun i j bi bj b h1=>(by rw[hβ] at h1;cases h1),fun k bi b h1=>(by rw[hβ] at h1;cases h1)⟩,.t (.int _ _),fun _ _=>rfl,fun k bi b _ h1=>(by rw[hβ] at h1;cases h1),fun _ _=>Iff.rfl,env.Fw,rfl,rfl,rfl,Nat.le_refl _,fun _ _ _=>rfl⟩
end Go.Eng
end
