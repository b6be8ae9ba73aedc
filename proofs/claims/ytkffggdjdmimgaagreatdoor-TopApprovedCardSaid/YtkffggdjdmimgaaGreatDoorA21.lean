/- A part of an abstract machine, its walks, their tie. -/
import Derived.Test.YtkffggdjdmimgaaGreatDoorA20
import Derived.Test.YtkffggdjdmimgaaGreatDoorA16
import Derived.Test.YtkffggdjdmimgaaGreatDoorA18
set_option linter.all false
section
set_option maxHeartbeats 64000000
set_option maxRecDepth 20000
namespace Go.Eng
open List
variable (tab:Tab) (gl:Gl)
def qLd:Ct where
 α:=List zB×Int
 aS x:=[.t (zY x.1 x.2)]
 ins _:=[]
 pre x:=RM x.1
 r x:= .t (zY (zD0 x.1) x.2)
 outs _:=[]
 inj:=by
  rintro⟨a,u⟩ ⟨b,v⟩ h _;simp only[List.cons.injEq,V.t.injEq,and_true] at h;obtain⟨rfl,rfl⟩:=qA0 h;exact⟨rfl,rfl⟩
theorem jOw {bk:List zB}{u:Int}(h:RM bk):qLd.fs [.t (zY bk u)] []=some (.t (zY (zD0 bk) u),[]):=qLd.eq (bk,u) h
theorem zIw (h1:LkC tab 49 qHd)(x:jP.α)(hx:jP.pre x) :
  qBh.1.wp tab gl (qE 0 (jP.aS x)) (qE 0 (jP.ins x)) (kG [] [(2,some (2,true))] (jP.ins x).length (fun r o=>r=jP.r x∧o=jP.outs x)):=by
 obtain⟨bk,u⟩:=x;obtain⟨hk,hm⟩:=hx;have hk':RK bk:=hk;clear hk;cases hk' with
 | nil=>exact zIo tab gl u
 | two b0 b1 h0 h1'=>exact zIp tab gl h1 b0 b1 u (hm b0 (.head _)) (hm b1 (.tail _ (.head _)))
theorem qRd (h1:LkC tab 264 jP)(h2:LkC tab 198 xB)(h3:LkC tab 262 kE)(x:qLd.α)(hx:qLd.pre x) :
  yM.1.wp tab gl (qE 0 (qLd.aS x)) (qE 0 (qLd.ins x)) (qV [(2,some (2,true))] (qLd.ins x).length (fun r o=>r=qLd.r x∧o=qLd.outs x)):=by
 obtain⟨bk,u⟩:=x;have hk:RM bk:=hx;have hk2:=hk.1;clear hx;cases hk2 with
 | nil=>exact qQ8 tab gl h1 u
 | two b0 b1 _ _=>exact qQ9 tab gl h1 h2 h3 b0 b1 u hk
theorem RV.of2 {b0 b1:zB}(h0:qWn b0)(h1:qWn b1)(m0 : ∀ x∈b0,x.length≤64)(m1 : ∀ x∈b1,x.length≤64):RV [b0,b1]:=by
 refine⟨.two _ _ h0 h1,fun b hb=>?_⟩;simp only[mem_cons,not_mem_nil,or_false] at hb;rcases hb with rfl | rfl
 ·exact m0
 ·exact m1
theorem qGc {b c:zB}(h:qWn b)(hl:List.length c=List.length b):qWn c:=by
 rcases h with h | h
 ·exact .inl (by rw[hl,h])
 ·exact .inr (by rw[hl,h])
theorem zVy {b:zB}{i:Nat}{y:List UInt8}(h : ∀ x∈b,x.length≤64)(hy:y.length≤64) : ∀ x∈b.set i y,x.length≤64:=by
 intro x hx;rcases mem_or_eq_of_mem_set hx with h1 | rfl
 ·exact h x h1
 ·exact hy
theorem RV.cases {bk:List zB}(h:RV bk):bk=[] ∨ ∃ b0 b1,bk=[b0,b1]∧qWn b0∧qWn b1∧(∀ x∈b0,x.length≤64)∧(∀ x∈b1,x.length≤64):=by
 obtain⟨hk,hm⟩:=h;cases hk with
 | nil=>exact .inl rfl
 | two b0 b1 h0 h1=>exact .inr ⟨b0,b1,rfl,h0,h1,hm b0 (.head _),hm b1 (.tail _ (.head _))⟩
theorem zSu {a:Nat}(ha:a<2){b:zB}{i:Nat}{d:List UInt8}(h : ∀ x∈b,x.length≤64) : ∀ x∈vX a b i d,x.length≤64:=by
 unfold vX;split
 ·refine zVy h ?_;have:a=0∨a=1:=oM;rcases this with rfl | rfl
  ·rw[zEb,zP];omega
  ·rw[zEc,qH];omega
 ·exact h
theorem zU9 {a:Nat}(ha:a<2){b:zB}{i:Nat}(h : ∀ x∈b,x.length≤64) : ∀ x∈qYl a b i,x.length≤64:=by
 unfold qYl;split
 ·refine zVy h ?_;rw[length_replicate];have:a=0∨a=1:=oM;rcases this with rfl | rfl<;>decide
 ·exact h
theorem zV7 {y:List UInt8}{b:zB}(hy:y.length≤64)(h : ∀ x∈b,x.length≤64) : ∀ k,∀ x∈stN y b k,x.length≤64
 | 0=>h
 | k+1=>zVy (zV7 hy h k) hy
theorem RV.ext {bk:List zB}(h:RV bk)(i:Nat)(ds:List (List UInt8)):RV (qKd bk i ds):=by
 rcases h.cases with rfl | ⟨b0,b1,rfl,h0,h1,m0,m1⟩
 ·exact h
 ·exact .of2 (qGc h0 qK) (qGc h1 qK) (zSu oM m0) (zSu oM m1)
theorem RV.rst {bk:List zB}(h:RV bk)(i:Nat):RV (zKs bk i):=by
 rcases h.cases with rfl | ⟨b0,b1,rfl,h0,h1,m0,m1⟩
 ·exact h
 ·exact .of2 (qGc h0 jV) (qGc h1 jV) (zU9 oM m0) (zU9 oM m1)
theorem RV.res {bk:List zB}(h:RV bk):RV (zD0 bk):=by
 rcases h.cases with rfl | ⟨b0,b1,rfl,h0,h1,m0,m1⟩
 ·exact h
 ·exact .of2 (qGc h0 qC4) (qGc h1 qC4) (zV7 (by rw[length_replicate];omega) m0 4) (zV7 (by rw[length_replicate];omega) m1 4)
structure Sb where
 sd:List (List UInt8)
 au:List (List UInt8)
 en:List UInt8
 act:Int
 res:Int
 rst:Int
 clk:Int
 ord:Bool
 bk:List zB
 u:Int
 mc:Int
 l1:Int
 l2:Int
 l3:Int
 l4:Int
 l5:Int
 l6:Int
def yEe (s:Sb):List T:=[.sl (s.sd.map bsT),.sl (s.au.map bsT),.sl (s.en.map qA),.int .i64 s.act,.int .i64 s.res,.int .i64 s.rst,.int .i64 s.clk,.bool s.ord,.sl (s.bk.map vS),.int .i64 s.u,.int .i64 s.mc,.sl [],.int .i64 s.l1,.int .i64 s.l2,.int .i64 s.l3,.int .i64 s.l4,.int .i64 s.l5,.int .i64 s.l6,.sl []]
def jSm (s:Sb):T:= .agg (yEe s)
def sb0:Sb:=⟨[],[],[],0,0,0,0,false,[],0,0,0,0,0,0,0,0⟩
def zHz (en:List UInt8)(act:Int):Sb:=if en.length≠32∨act<0∨3<act then sb0 else ⟨[drv en [115,101,101,100] [0] 32,drv en [115,101,101,100] [1] 32,drv en [115,101,101,100] [2] 32],[[],[],[],[]],drv en [101,110,116,114,111,112,121] [] 32,act,0,0,0,true,[],0,0,0,5,100,0,0,1000⟩
def zK5 (en:List UInt8)(act:Int):Int:=if en.length≠32∨act<0∨3<act then 1 else 0
def jT3:T:= .agg [.int .i64 0,.int .i64 5,.int .i64 100,.int .i64 0,.int .i64 0,.int .i64 1000]
def zMw:Ct where
 α:=Unit
 aS _:=[]
 ins _:=[]
 pre _:=True
 r _:= .t jT3
 outs _:=[]
 inj:=fun _ _ _ _=>⟨rfl,rfl⟩
theorem jNd:zMw.fs [] []=some (.t (.agg [.int .i64 0,.int .i64 5,.int .i64 100,.int .i64 0,.int .i64 0,.int .i64 1000]),[]):=zMw.eq () trivial
theorem zFe:qGv.1.wp tab gl (qE 0 []) (qE 0 []) (qV [(0,some (6,true))] 0 (fun r o=>r = .t jT3∧o=[])):=by
 simp(maxSteps:=9^9)(disch:=try exact dS)only[go_sem,qGv,jT3]
theorem qNe {en:List UInt8}{act:Int}(h:en.length≠32∨act<0∨3<act):zHz en act=sb0∧zK5 en act=1:=⟨if_pos h,if_pos h⟩
def jU3 (en:List UInt8)(i:Nat):List UInt8:=drv en [115,101,101,100] [UInt8.ofNat i] 32
theorem jJd {en:List UInt8}{act:Int}(h : ¬ (en.length≠32∨act<0∨3<act)):zHz en act=⟨(List.range 3).map (jU3 en),[[],[],[],[]],drv en [101,110,116,114,111,112,121] [] 32,act,0,0,0,true,[],0,0,0,5,100,0,0,1000⟩∧zK5 en act=0:=⟨if_neg h,if_neg h⟩
theorem zLz (h1:LkC tab 95 zMw)(h2:LkC tab 96 qH2)(en:List UInt8)(act:Int)(hl:en.length≤9223372036854775807) :
  qBi.1.wp tab gl (qE 0 [.t (.sl (en.map qA)),.t (.int .i64 act)]) (qE 0 []) (qV [(4,some (19,true)),(5,none)] 0 (fun r o=>r = .tup [.t (jSm (zHz en act)),.t (.int .i64 (zK5 en act))]∧o=[])):=by
 by_cases c1:en.length=32
 ·by_cases c2:act<0
  ·rw[(qNe (en:=en) (.inr (.inl c2))).1,(qNe (en:=en) (.inr (.inl c2))).2];simp(maxSteps:=9^9)(disch:=try exact dS)only[go_sem,qBi,c1,c2];all_goals rfl
  ·by_cases c3:3<act
   ·rw[(qNe (en:=en) (.inr (.inr c3))).1,(qNe (en:=en) (.inr (.inr c3))).2];simp(maxSteps:=9^9)(disch:=try exact dS)only[go_sem,qBi,c1,c2,c3];all_goals rfl
   ·have ok:=jJd (en:=en) (act:=act) oM;rw[ok.1,ok.2];simp(maxSteps:=9^9)(disch:=try exact dS)only[go_sem,qBi,c1,c2,c3,h1,h2,jNd];refine And.intro rfl ?_;refine qB 3 (fun k=>[(0,.t (.sl (en.map qA))),(4,.ref 4096 0 0),(6,.ref 16448 0 0),(24,.t (.int .i64 (k:Nat)))]) (fun k=>[(9000,.live 1 ((((List.range k).map (jU3 en)).map bsT).map V.t) true false),
     (16448,.live 19 [.agg [.sl 9000 0 k,.sl 16384 0 4,.nil,.t (.int .i64 act),.t (.int .i64 0),.t (.int .i64 0),.t (.int .i64 0),.t (.bool true),.nil,.t (.int .i64 0),.t (.int .i64 0),.nil,.t (.int .i64 0),.t (.int .i64 5),.t (.int .i64 100),.t (.int .i64 0),.t (.int .i64 0),.t (.int .i64 1000),.nil]] true true),
     (16384,.live 1 [.nil,.nil,.nil,.nil] true false),(4096,.live 19 [.agg [.nil,.nil,.nil,.t (.int .i64 0),.t (.int .i64 0),.t (.int .i64 0),.t (.int .i64 0),.t (.bool false),.nil,.t (.int .i64 0),.t (.int .i64 0),.nil,.t (.int .i64 0),.t (.int .i64 0),.t (.int .i64 0),.t (.int .i64 0),.t (.int .i64 0),.t (.int .i64 0),.nil]] true true)]) ?_ (fun k hk'=>?_)
    ·refine qJ.cv0 (hv:=[(9000,.live 1 [] true false)]) (ho:=[(16448,.live 19 [.agg [.sl 9000 0 0,.sl 16384 0 4,.nil,.t (.int .i64 act),.t (.int .i64 0),.t (.int .i64 0),.t (.int .i64 0),.t (.bool true),.nil,.t (.int .i64 0),.t (.int .i64 0),.nil,.t (.int .i64 0),.t (.int .i64 5),.t (.int .i64 100),.t (.int .i64 0),.t (.int .i64 0),.t (.int .i64 1000),.nil]] true true),
     (16384,.live 1 [.nil,.nil,.nil,.nil] true false),(4096,.live 19 [.agg [.nil,.nil,.nil,.t (.int .i64 0),.t (.int .i64 0),.t (.int .i64 0),.t (.int .i64 0),.t (.bool false),.nil,.t (.int .i64 0),.t (.int .i64 0),.nil,.t (.int .i64 0),.t (.int .i64 0),.t (.int .i64 0),.t (.int .i64 0),.t (.int .i64 0),.t (.int .i64 0),.nil]] true true)]) id ?_ ?_ rfl rfl
     all_goals simp(maxSteps:=9^9)(disch:=try exact dS)only[go_sem,id]
     all_goals rfl
    ·by_cases hlt:k<3
     ·have hD:=qXt (k:=en) (l:=[115,101,101,100]) (c:=[UInt8.ofNat k]) (n:=32) ⟨oM,sM,sM,oM,oM⟩;rw[show ((32:Nat):Int)=32 from rfl] at hD;simp only[mcn] at hD;rw[show drv en [115,101,101,100] [UInt8.ofNat k] 32=jU3 en k from rfl] at hD;have lr:(List.range k).length=k:=length_range;simp(maxSteps:=9^9)(disch:=try exact dS)only[go_sem,h2,hD,lr,mcn];refine⟨rfl,hlt,qJ.rd (fun j=>if j=9000 then 32896 else j) ?_ ?_ rfl⟩;all_goals simp(maxSteps:=9^9)(disch:=try exact dS)only[go_sem,id]
      all_goals first | omega | rfl
     ·have e:k=3:=oM;subst e;have hD:=qXt (k:=en) (l:=[101,110,116,114,111,112,121]) (c:=[]) (n:=32) ⟨oM,sM,sM,oM,oM⟩;rw[show ((32:Nat):Int)=32 from rfl] at hD;simp only[map_nil] at hD;simp(maxSteps:=9^9)(disch:=try exact dS)only[go_sem,h2,hD];all_goals rfl
 ·rw[(qNe (act:=act) (.inl c1)).1,(qNe (act:=act) (.inl c1)).2];simp(maxSteps:=9^9)(disch:=try exact dS)only[go_sem,qBi,c1];all_goals rfl
def zDf:Ct where
 α:=List UInt8×Int
 aS x:=[.t (.sl (x.1.map qA)),.t (.int .i64 x.2)]
 ins _:=[]
 pre x:=x.1.length≤9223372036854775807
 r x:= .tup [.t (jSm (zHz x.1 x.2)),.t (.int .i64 (zK5 x.1 x.2))]
 outs _:=[]
 inj:=by
  rintro⟨a,b⟩ ⟨c,d⟩ h _;simp only[List.cons.injEq,V.t.injEq,T.int.injEq,T.sl.injEq,true_and,and_true,zN] at h;obtain⟨rfl,rfl⟩:=h;exact⟨rfl,rfl⟩
theorem jJc {en:List UInt8}{act:Int}(h:en.length≤9223372036854775807):zDf.fs [.t (.sl (en.map qA)),.t (.int .i64 act)] []=some (.tup [.t (jSm (zHz en act)),.t (.int .i64 (zK5 en act))],[]):=zDf.eq (en,act) h
def dgx (a:Nat)(b:List UInt8):List UInt8:=List.take (szA a) b++List.replicate (szA a-min (szA a) b.length) 0
def dg1 (a:Nat)(b:List UInt8):List UInt8:=(dgx a b).set (szA a-1) ((dgx a b).getD (szA a-1) 0 ^^^ UInt8.ofNat a)
def dgb (s:Int)(a:Nat)(b:List UInt8):List UInt8:=if s/(2^a:Nat)%2=1 then dg1 a b else []
def dgB (s:Int)(b:List UInt8):List (List UInt8):=[dgb s 0 b,dgb s 1 b]
def jGr (x:List zB×Int)(l i:Int)(ds:List (List UInt8)):List zB×Int:=if qBd x.1 l i ds=0 then (qKd x.1 i.toNat ds,x.2+1) else x
def evP (x:List zB×Int)(l i:Int)(d:List UInt8):List zB×Int:=if 128<d.length then x else jGr x l i (qKh x.1 d)
def jUu (x:List zB×Int)(l i:Int):List zB×Int:=if zVb l i=0 then (zKs x.1 i.toNat,x.2+1) else x
def Ans (x:List zB×Int)(v:V)(y:List zB×Int):Prop := ∃ (bk:List zB) (u e:Int),v = .tup [.t (.agg [.sl (bk.map vS),.int .i64 u]),.t (.int .i64 e)]∧((e=0∧y=(bk,u))∨(e≠0∧y=x))
def RS (n:Nat)(x:List zB×Int):Prop:=RV x.1∧0≤x.2∧x.2≤n
theorem RS.up {n m:Nat}{x:List zB×Int}(h:RS n x)(hm:n≤m):RS m x:=⟨h.1,h.2.1,by have:=h.2.2;omega⟩
theorem RS.ext {n:Nat}{x:List zB×Int}(h:RS n x)(l i:Int)(ds:List (List UInt8)):RS (n+1) (jGr x l i ds):=by
 unfold jGr;split
 ·exact⟨h.1.ext _ _,by have:=h.2.1;simp only;omega,by have:=h.2.2;simp only;omega⟩
 ·exact h.up oM
theorem RS.ev {n:Nat}{x:List zB×Int}(h:RS n x)(l i:Int)(d:List UInt8):RS (n+1) (evP x l i d):=by
 unfold evP;split
 ·exact h.up oM
 ·exact h.ext _ _ _
theorem RS.rst {n:Nat}{x:List zB×Int}(h:RS n x)(l i:Int):RS (n+1) (jUu x l i):=by
 unfold jUu;split
 ·exact⟨h.1.rst _,by have:=h.2.1;simp only;omega,by have:=h.2.2;simp only;omega⟩
 ·exact h.up oM
theorem RS.rsm {n:Nat}{x:List zB×Int}(h:RS n x):RS (n+1) (zD0 x.1,x.2):=⟨h.1.res,h.2.1,by have:=h.2.2;simp only;omega⟩
def drS (s:Int)(i k:Nat)(x:List zB×Int):List zB×Int:=
 if k%8<3 then evP x 4 (k/8%16:Nat) [UInt8.ofNat k,UInt8.ofNat i]
 else if k%8<6 then jGr x 4 (k/8%16:Nat) (dgB s [UInt8.ofNat k,UInt8.ofNat i])
 else if k%8=6 then jUu x 4 (12+k/8%4:Nat)
 else (zD0 x.1,x.2)
def drN (s:Int)(cs:List UInt8):Nat→List zB×Int
 | 0=>(yV s,0)
 | i+1=>drS s i (cs.getD i 0).toNat (drN s cs i)
theorem RS.dr {s:Int}{i k n:Nat}{x:List zB×Int}(h:RS n x):RS (n+1) (drS s i k x):=by
 unfold drS;split
 ·exact h.ev _ _ _
 ·split
  ·exact h.ext _ _ _
  ·split
   ·exact h.rst _ _
   ·exact h.rsm
def dr (s:Int)(cs:List UInt8):List zB×Int:=drN s cs (min cs.length 12)
theorem Ans.rv {x:List zB×Int}{v:V}{y:List zB×Int}(h:Ans x v y)(hv : ∃ bk' u' e,v = .tup [.t (zY bk' u'),.t (.int .i64 e)]∧RV bk'∧(e=0→u'=x.2+1)) : ∃ bk' u' e,v = .tup [.t (.agg [.sl (bk'.map vS),.int .i64 u']),.t (.int .i64 e)]∧RM bk':=by
 obtain⟨bk',u',e,h1,h2,_⟩:=hv;exact⟨bk',u',e,h1,h2.rm⟩
def evB (bk:List zB)(n:Nat)(data:List UInt8):List zB:=qKd bk n (qKh bk data)
theorem RK.cases {bk:List zB}(h:RK bk):bk=[] ∨ ∃ b0 b1,bk=[b0,b1]∧qWn b0∧qWn b1:=by
 cases h with
 | nil=>exact .inl rfl
 | two b0 b1 h0 h1=>exact .inr ⟨b0,b1,rfl,h0,h1⟩
theorem zSh {bk:List zB}{data:List UInt8}:((qKh bk data).getD 0 []).length=if (bk.getD 0 []).length=16 then 20 else 0:=by
 show (if onB bk 0 then qVh data else []).length=_;unfold onB;by_cases h:(bk.getD 0 []).length=16
 ·rw[if_pos h,decide_eq_true h,if_pos rfl,zP]
 ·rw[if_neg h,decide_eq_false h];rfl
theorem zSi {bk:List zB}{data:List UInt8}:((qKh bk data).getD 1 []).length=if (bk.getD 1 []).length=16 then 32 else 0:=by
 show (if onB bk 1 then zT data else []).length=_;unfold onB;by_cases h:(bk.getD 1 []).length=16
 ·rw[if_pos h,decide_eq_true h,if_pos rfl,qH]
 ·rw[if_neg h,decide_eq_false h];rfl
theorem jTn {bk:List zB}{u i:Int}{data:List UInt8}(hi:0≤i∧i<16)(hd:data.length≤128):evR bk u 4 i data = .tup [.t (zY (evB bk i.toNat data) (u+1)),.t (.int .i64 0)]:=by
 have hl:yR i false≤3:=by unfold yR;split<;>(try split)<;>(try split)<;>simp_all
 have he:qBc (bk.getD 0 []).length (bk.getD 1 []).length 4 i (qKh bk data).length ((qKh bk data).getD 0 []).length ((qKh bk data).getD 1 []).length=0:=by
  rw[zSh,zSi];have h2:(qKh bk data).length=2:=rfl;rw[h2];unfold qBc;rw[if_neg oM,if_neg oM,if_neg (by rintro (⟨h1,h2⟩ | ⟨h1,h2⟩)<;>(rw[if_neg h1] at h2;omega)),if_neg (by rintro (⟨h1,h2⟩ | ⟨h1,h2⟩)<;>exact h2 (if_pos h1))]
 rw[evR,if_neg oM,qHy,if_pos he];rfl
theorem zGn {b0 b1:zB}{i:Nat}{ds:List (List UInt8)}:qKd [b0,b1] i ds=[vX 0 b0 i (ds.getD 0 []),vX 1 b1 i (ds.getD 1 [])]:=rfl
theorem jDm {bk:List zB}{u i:Int}{data:List UInt8}(hv:RV bk)(hu:0≤u∧u<1000000000)(hi:0≤i∧i<16)(hd:data.length≤128):zJu.fs [.t (.agg [.sl (bk.map vS),.int .i64 u]),.t (.int .i64 4),.t (.int .i64 i),.t (.sl (data.map qA))] []=some (.tup [.t (.agg [.sl ((evB bk i.toNat data).map vS),.int .i64 (u+1)]),.t (.int .i64 0)],[]):=by
 have hE:=zJu.eq (bk,u,4,i,data) ⟨hv,hu,by show data.length<1000000000;omega⟩;have hE2:zJu.fs [.t (.agg [.sl (bk.map vS),.int .i64 u]),.t (.int .i64 4),.t (.int .i64 i),.t (.sl (data.map qA))] []=some (evR bk u 4 i data,[]):=hE;rw[hE2,jTn hi hd];rfl
theorem RV.ev {bk:List zB}(h:RV bk)(n:Nat)(d:List UInt8):RV (evB bk n d):=h.ext _ _
def vB:Ct where
 α:=List UInt8×Nat×Int
 aS x:=[.t (.sl (x.1.map qA)),.t (.int .i64 x.2.1),.t (.int .i64 x.2.2)]
 ins _:=[]
 pre x:=x.1.length<1000000000∧1≤x.2.1∧x.2.1≤8
 r x:= .sl 0 0 (x.1.length+x.2.1)
 outs x:=[.live 1 (((x.1++beI x.2.1 x.2.2 x.2.1).map qA).map V.t) true false]
 inj:=by
  rintro⟨a,s,n⟩ ⟨c,t,m⟩ h _;simp only[List.cons.injEq,V.t.injEq,T.sl.injEq,T.int.injEq,true_and,and_true,zN,Int.natCast_inj] at h;obtain⟨rfl,rfl,rfl⟩:=h;exact⟨rfl,rfl⟩
theorem qM2 {b:List UInt8}{n:Int}(hb:b.length<1000000000):vB.fs [.t (.sl (b.map qA)),.t (.int .i64 2),.t (.int .i64 n)] []=some (.sl 0 0 (b.length+2),[.live 1 (((b++beI 2 n 2).map qA).map V.t) true false]):=vB.eq (b,2,n) ⟨hb,by show 1≤2;omega,by show 2≤8;omega⟩
theorem qU {s k:Nat}{n:Int}:(beI s n k).length=k:=by simp[beI]
def qDm (bk:List zB)(a:Nat)(s:Int):Nat→List UInt8
 | 0=>[]
 | i+1=>if s/2^i%2=1 then qDm bk a s i++zJa bk a i else qDm bk a s i
theorem qAy {n:Nat}:(zW1 n).length=4:=rfl
theorem qVf {bk:List zB}{a:Nat}{s:Int}:qDm bk a s 0=[]:=rfl
theorem qWy {bk:List zB}{a i:Nat}{s:Int}(h:s/2^i%2=1):qDm bk a s (i+1)=qDm bk a s i++zJa bk a i:=if_pos h
theorem qGk {bk:List zB}{a i:Nat}{s:Int}(h : ¬ s/2^i%2=1):qDm bk a s (i+1)=qDm bk a s i:=if_neg h
def PD (A B:Prop)(k:Nat):Prop:=(1≤k→A)∧(2≤k→B)
def zFt (s:Int):Prop:=s<0∨65535<s
instance {s:Int}:Decidable (zFt s):=inferInstanceAs (Decidable (_∨_))
def qDf (s0 s1:Int):List UInt8:=beI 2 s0 2++beI 2 s1 2
def zJb (bk:List zB)(s0 s1:Int):List UInt8:=qDm bk 0 s0 16++qDm bk 1 s1 16
def qTn (bk:List zB)(s0 s1:Int):Int:=if zFt s0∨zFt s1 then 1 else if (s0≠0∧onB bk 0=false)∨(s1≠0∧onB bk 1=false) then 27 else 0
def zJx (bk:List zB)(s0 s1:Int):V:=if qTn bk s0 s1=0 then .tup [.sl 0 0 32,.t (.int .i64 0)] else .tup [.nil,.t (.int .i64 (qTn bk s0 s1))]
def zJw (bk:List zB)(s0 s1:Int):List Ob:=if qTn bk s0 s1=0 then [.live 1 (((vW 5 [qDf s0 s1,zJb bk s0 s1]).map qA).map V.t) true false] else []
theorem wV {bk:List zB}(h:RV bk)(a:Nat)(s:Int) : ∀ i,(qDm bk a s i).length≤64*i
 | 0=>by simp[qDm]
 | i+1=>by
  have ih:=wV h a s i;have hv:(zJa bk a i).length≤64:=by
   unfold zJa;rcases h.cases with rfl | ⟨b0,b1,rfl,_,_,m0,m1⟩
   ·simp
   ·match a with
    | 0=>exact qJq m0
    | 1=>exact qJq m1
    | a+2=>simp
  unfold qDm;split
  ·rw[length_append];omega
  ·omega
def jL:Ct where
 α:=Nat×List (List UInt8)
 aS x:=[.t (.int .i64 x.1),.t (.sl (x.2.map bsT))]
 ins _:=[]
 pre x:=x.1<256∧(qZ x.1 x.2).length<1000000000
 r _:= .sl 0 0 32
 outs x:=[.live 1 (((vW x.1 x.2).map qA).map V.t) true false]
 inj:=by
  rintro⟨a,b⟩ ⟨c,d⟩ h _;simp[qDg,Int.natCast_inj] at h;obtain⟨rfl,rfl⟩:=h;exact⟨rfl,rfl⟩
theorem zNh {x y:List UInt8}(h:(qZ 5 [x,y]).length<1000000000):jL.fs [.t (.int .i64 5),.t (.sl [.sl (x.map qA),.sl (y.map qA)])] []=some (.sl 0 0 32,[.live 1 (((vW 5 [x,y]).map qA).map V.t) true false]):=jL.eq (5,[x,y]) ⟨by show 5<256;omega,h⟩
theorem qS0 (h1:LkC tab 98 vB)(h2:LkC tab 266 qKc)(h3:LkC tab 123 jL)(bk:List zB)(u s0 s1:Int)(hv:RV bk) :
  qA3.1.wp tab gl (qE 0 [.t (zY bk u),.t (.agg [.int .i64 s0,.int .i64 s1])]) (qE 0 []) (kG [] [(4,none),(5,none)] 0 (fun r o=>r=zJx bk s0 s1∧o=zJw bk s0 s1)):=by
 simp(disch:=omega)only[go_sem,qA3];have t2:List.take 2 (beI 2 s0 2)=beI 2 s0 2:=take_of_length_le (by rw[qU];exact Nat.le_refl _);have t4:List.take 4 (beI 2 s0 2++beI 2 s1 2)=beI 2 s0 2++beI 2 s1 2:=take_of_length_le (by rw[length_append,qU,qU];exact Nat.le_refl _);by_cases b0:zFt s0
 ·have hE:qTn bk s0 s1=1:=by unfold qTn;rw[if_pos (.inl b0)]
  rw[zJx,zJw,hE];unfold zFt at b0;refine qG 1 ?_;by_cases c0:s0<0
  ·simp(disch:=omega)only[go_sem,qD,c0]
  ·simp(disch:=omega)only[go_sem,qD,c0]
 have hb0 : ¬ s0<0 ∧ ¬ 65535<s0:=by unfold zFt at b0;omega
 obtain⟨c0,d0⟩:=hb0;have hm:=hv.rm;have hu:=qM2 (b:=[]) (n:=s0) (by decide);simp only[map_nil,length_nil,nil_append] at hu;by_cases b1:zFt s1
 ·have hE:qTn bk s0 s1=1:=by unfold qTn;rw[if_pos (.inr b1)]
  rw[zJx,zJw,hE];unfold zFt at b1;refine qG 2 ?_;by_cases c1:s1<0
  ·simp(disch:=omega)only[go_sem,qD,c0,d0,c1,h1,hu,map_nil]
  ·simp(disch:=omega)only[go_sem,qD,c0,d0,c1,h1,hu,map_nil]
 have hb1 : ¬ s1<0 ∧ ¬ 65535<s1:=by unfold zFt at b1;omega
 obtain⟨c1,d1⟩:=hb1;refine qB 2 (fun k=>match k with
  | 0=>[(2,.ref 4096 0 0),(3,.ref 4112 0 0),(6,.t (.sl (([]:List UInt8).map qA))),(7,.nil),(13,.t (.agg [.int .i64 s0,.int .i64 s1])),(14,.t (.int .i64 0))]
  | 1=>[(2,.ref 4096 0 0),(3,.ref 4112 0 0),(6,.t (.sl ((beI 2 s0 2).map qA))),(7,.nil),(13,.t (.agg [.int .i64 s0,.int .i64 s1])),(14,.t (.int .i64 1))]
  | _=>[(2,.ref 4096 0 0),(3,.ref 4112 0 0),(6,.t (.sl ((qDf s0 s1).map qA))),(7,.nil),(13,.t (.agg [.int .i64 s0,.int .i64 s1])),(14,.t (.int .i64 2))])
  (fun _=>[(4112,.live 1 [.t (.int .i64 s0),.t (.int .i64 s1)] true true),(4096,.live 2 [.t (zY bk u)] true true)]) ?_ (fun k hk=>?_)
 ·refine qJ.rd id ?_ ?_ rfl;all_goals simp(disch:=omega)only[go_sem,id,map_nil]
 ·rcases (show k=0∨k=1∨k=2 by omega) with rfl | rfl | rfl
  ·simp(disch:=omega)only[go_sem,c0,d0,h1,hu,map_nil];refine qJ.cv (hv:=[]) [32800] id ?_ rfl;simp(disch:=omega)only[go_sem,id,qU,t2];rfl
  ·have hu:=qM2 (b:=beI 2 s0 2) (n:=s1) (by rw[qU];omega);rw[qU] at hu;simp(disch:=omega)only[go_sem,c1,d1,h1,hu];refine qJ.cv (hv:=[]) [32800] id ?_ rfl;simp(disch:=omega)only[go_sem,id,qU,qDf,t4];rfl
  ·simp(disch:=omega)only[go_sem];refine qTx 2 (PD (s0=0∨onB bk 0=true) (s1=0∨onB bk 1=true)) (fun k=>match k with | 0=>[(2,.ref 4096 0 0),(6,.t (.sl ((qDf s0 s1).map qA))),(7,.sl 9100 0 (List.length ([]:List UInt8))),(27,.t (.agg [.int .i64 s0,.int .i64 s1])),(28,.t (.int .i64 0))] | 1=>[(2,.ref 4096 0 0),(6,.t (.sl ((qDf s0 s1).map qA))),(7,.sl 9100 0 (List.length (qDm bk 0 s0 16))),(27,.t (.agg [.int .i64 s0,.int .i64 s1])),(28,.t (.int .i64 1))] | _=>[(2,.ref 4096 0 0),(6,.t (.sl ((qDf s0 s1).map qA))),(7,.sl 9100 0 (List.length (qDm bk 0 s0 16++qDm bk 1 s1 16))),(27,.t (.agg [.int .i64 s0,.int .i64 s1])),(28,.t (.int .i64 2))]) (fun k=>match k with | 0=>[(9100,.live 1 ((([]:List UInt8).map qA).map V.t) true false),(4096,.live 2 [.t (zY bk u)] true true)] | 1=>[(9100,.live 1 (((qDm bk 0 s0 16).map qA).map V.t) true false),(4096,.live 2 [.t (zY bk u)] true true)] | _=>[(9100,.live 1 (((qDm bk 0 s0 16++qDm bk 1 s1 16).map qA).map V.t) true false),(4096,.live 2 [.t (zY bk u)] true true)]) ⟨fun h=>absurd h oM,fun h=>absurd h oM⟩ ?_ (fun k hk hP=>?_)
   ·refine qJ.cv0 (hv:=[(9100,.live 1 [] true false)]) (ho:=[(4096,.live 2 [.t (zY bk u)] true true)]) id ?_ ?_ rfl rfl;all_goals simp(disch:=omega)only[go_sem,id,mcn,length_nil]
   ·rcases (show k=0∨k=1∨k=2 by omega) with rfl | rfl | rfl
    ·by_cases z:s0=0
     ·have zz:(s0==0)=true:=by simpa using z
      simp(disch:=omega)only[go_sem,zz];refine qB 16 (fun i=>[(2,.ref 4096 0 0),(6,.t (.sl ((qDf s0 s1).map qA))),(7,.sl 9100 0 (List.length (qDm bk 0 s0 i))),(10,.t (.int .i64 0)),(11,.t (.int .i64 s0)),(27,.t (.agg [.int .i64 s0,.int .i64 s1])),(28,.t (.int .i64 0)),(40,.t (.int .i64 (i:Nat)))]) (fun i=>[(9100,.live 1 (((qDm bk 0 s0 i).map qA).map V.t) true false),(4096,.live 2 [.t (zY bk u)] true true)]) ?_ (fun i hi=>?_)
      ·refine qJ.rd id ?_ ?_ rfl;all_goals simp(disch:=omega)only[go_sem,id,qVf,append_nil]
      ·have l0:=wV hv 0 s0 16;have l1:=wV hv 0 s0 i;by_cases hlt:i<16
       ·have hsh:s0.fdiv (2^i)=s0/2^i:=Int.fdiv_eq_ediv_of_nonneg _ (Int.le_of_lt (Int.pow_pos (by decide)));have hb : ¬ s0/2^i%2=1:=by rw[z];simp
        simp(disch:=omega)only[go_sem,hsh,hb];refine⟨hlt,qJ.rd id ?_ ?_ rfl⟩;all_goals simp(disch:=omega)only[go_sem,id,qGk (bk:=bk) (a:=0) hb]
       ·have e:i=16:=oM;subst e;simp(disch:=omega)only[go_sem];refine⟨⟨fun _=> .inl z,fun h=>absurd h oM⟩,qJ.rd id ?_ ?_ rfl⟩;all_goals simp(disch:=omega)only[go_sem,id]
     ·have zz:(s0==0)=false:=by simpa using z
      have c0:=zUd (u:=u) (a:=0) hv.1 oM;rw[show ((0:Nat):Int)=0 from rfl] at c0;cases ho:onB bk 0
      ·rw[ho] at c0;have hE:qTn bk s0 s1=27:=by
        unfold qTn;rw[if_neg (by rintro (h | h);exact b0 h;exact b1 h),if_pos (.inl ⟨z,ho⟩)]
       rw[zJx,zJw,hE];simp(disch:=omega)only[go_sem,zz,h2,c0]
      ·rw[ho] at c0;have hbl:=hv.1.len ho;have hbn:List.length (bk.getD 0 [])=16:=by simpa [onB] using ho
       simp(disch:=omega)only[go_sem,zz,h2,c0];refine qB 16 (fun i=>[(2,.ref 4096 0 0),(6,.t (.sl ((qDf s0 s1).map qA))),(7,.sl 9100 0 (List.length (qDm bk 0 s0 i))),(10,.t (.int .i64 0)),(11,.t (.int .i64 s0)),(27,.t (.agg [.int .i64 s0,.int .i64 s1])),(28,.t (.int .i64 0)),(40,.t (.int .i64 (i:Nat)))]) (fun i=>[(9100,.live 1 (((qDm bk 0 s0 i).map qA).map V.t) true false),(4096,.live 2 [.t (zY bk u)] true true)]) ?_ (fun i hi=>?_)
       ·refine qJ.rd id ?_ ?_ rfl;all_goals simp(disch:=omega)only[go_sem,id,qVf,append_nil]
       ·have l0:=wV hv 0 s0 16;have l1:=wV hv 0 s0 i;by_cases hlt:i<16
        ·have hsh:s0.fdiv (2^i)=s0/2^i:=Int.fdiv_eq_ediv_of_nonneg _ (Int.le_of_lt (Int.pow_pos (by decide)));by_cases hb:s0/2^i%2=1
         ·have hvl:=hm.val 0 i;have hx:(bk.getD 0 []).getD i []=zJa bk 0 i:=rfl;simp(disch:=omega)only[go_sem,hsh,hb,hx];refine⟨hlt,qJ.rd (fun j=>if j=9100 then 77968 else j) ?_ ?_ rfl⟩;all_goals simp(disch:=omega)only[go_sem,qWy (bk:=bk) (a:=0) hb,append_assoc]
          all_goals try omega
         ·simp(disch:=omega)only[go_sem,hsh,hb];refine⟨hlt,qJ.rd id ?_ ?_ rfl⟩;all_goals simp(disch:=omega)only[go_sem,id,qGk (bk:=bk) (a:=0) hb]
        ·have e:i=16:=oM;subst e;simp(disch:=omega)only[go_sem];refine⟨⟨fun _=>(by first | exact .inr ho | trivial),fun h=>absurd h oM⟩,qJ.rd id ?_ ?_ rfl⟩;all_goals simp(disch:=omega)only[go_sem,id]
    ·by_cases z:s1=0
     ·have zz:(s1==0)=true:=by simpa using z
      simp(disch:=omega)only[go_sem,zz];refine qB 16 (fun i=>[(2,.ref 4096 0 0),(6,.t (.sl ((qDf s0 s1).map qA))),(7,.sl 9100 0 (List.length (qDm bk 0 s0 16++qDm bk 1 s1 i))),(10,.t (.int .i64 1)),(11,.t (.int .i64 s1)),(27,.t (.agg [.int .i64 s0,.int .i64 s1])),(28,.t (.int .i64 1)),(40,.t (.int .i64 (i:Nat)))]) (fun i=>[(9100,.live 1 (((qDm bk 0 s0 16++qDm bk 1 s1 i).map qA).map V.t) true false),(4096,.live 2 [.t (zY bk u)] true true)]) ?_ (fun i hi=>?_)
      ·refine qJ.rd id ?_ ?_ rfl;all_goals simp(disch:=omega)only[go_sem,id,qVf,append_nil]
      ·have l0:=wV hv 0 s0 16;have l1:=wV hv 1 s1 i;by_cases hlt:i<16
       ·have hsh:s1.fdiv (2^i)=s1/2^i:=Int.fdiv_eq_ediv_of_nonneg _ (Int.le_of_lt (Int.pow_pos (by decide)));have hb : ¬ s1/2^i%2=1:=by rw[z];simp
        simp(disch:=omega)only[go_sem,hsh,hb];refine⟨hlt,qJ.rd id ?_ ?_ rfl⟩;all_goals simp(disch:=omega)only[go_sem,id,qGk (bk:=bk) (a:=1) hb]
       ·have e:i=16:=oM;subst e;simp(disch:=omega)only[go_sem];refine⟨⟨fun _=>hP.1 oM,fun _=> .inl z⟩,qJ.rd id ?_ ?_ rfl⟩;all_goals simp(disch:=omega)only[go_sem,id]
     ·have zz:(s1==0)=false:=by simpa using z
      have c1:=zUd (u:=u) (a:=1) hv.1 oM;rw[show ((1:Nat):Int)=1 from rfl] at c1;cases ho:onB bk 1
      ·rw[ho] at c1;have hE:qTn bk s0 s1=27:=by
        unfold qTn;rw[if_neg (by rintro (h | h);exact b0 h;exact b1 h),if_pos (.inr ⟨z,ho⟩)]
       rw[zJx,zJw,hE];simp(disch:=omega)only[go_sem,zz,h2,c1]
      ·rw[ho] at c1;have hbl:=hv.1.len ho;have hbn:List.length (bk.getD 1 [])=16:=by simpa [onB] using ho
       simp(disch:=omega)only[go_sem,zz,h2,c1];refine qB 16 (fun i=>[(2,.ref 4096 0 0),(6,.t (.sl ((qDf s0 s1).map qA))),(7,.sl 9100 0 (List.length (qDm bk 0 s0 16++qDm bk 1 s1 i))),(10,.t (.int .i64 1)),(11,.t (.int .i64 s1)),(27,.t (.agg [.int .i64 s0,.int .i64 s1])),(28,.t (.int .i64 1)),(40,.t (.int .i64 (i:Nat)))]) (fun i=>[(9100,.live 1 (((qDm bk 0 s0 16++qDm bk 1 s1 i).map qA).map V.t) true false),(4096,.live 2 [.t (zY bk u)] true true)]) ?_ (fun i hi=>?_)
       ·refine qJ.rd id ?_ ?_ rfl;all_goals simp(disch:=omega)only[go_sem,id,qVf,append_nil]
       ·have l0:=wV hv 0 s0 16;have l1:=wV hv 1 s1 i;by_cases hlt:i<16
        ·have hsh:s1.fdiv (2^i)=s1/2^i:=Int.fdiv_eq_ediv_of_nonneg _ (Int.le_of_lt (Int.pow_pos (by decide)));by_cases hb:s1/2^i%2=1
         ·have hvl:=hm.val 1 i;have hx:(bk.getD 1 []).getD i []=zJa bk 1 i:=rfl;simp(disch:=omega)only[go_sem,hsh,hb,hx];refine⟨hlt,qJ.rd (fun j=>if j=9100 then 77968 else j) ?_ ?_ rfl⟩;all_goals simp(disch:=omega)only[go_sem,qWy (bk:=bk) (a:=1) hb,append_assoc]
          all_goals try omega
         ·simp(disch:=omega)only[go_sem,hsh,hb];refine⟨hlt,qJ.rd id ?_ ?_ rfl⟩;all_goals simp(disch:=omega)only[go_sem,id,qGk (bk:=bk) (a:=1) hb]
        ·have e:i=16:=oM;subst e;simp(disch:=omega)only[go_sem];refine⟨⟨fun _=>hP.1 oM,fun _=>by first | exact .inr ho | trivial⟩,qJ.rd id ?_ ?_ rfl⟩;all_goals simp(disch:=omega)only[go_sem,id]
    ·have l0:=wV hv 0 s0 16;have l1:=wV hv 1 s1 16;have p0:=hP.1 oM;have p1:=hP.2 oM;have hE:qTn bk s0 s1=0:=by
      unfold qTn;rw[if_neg (by rintro (h | h);exact b0 h;exact b1 h),if_neg];rintro (⟨h1,h2⟩ | ⟨h1,h2⟩)
      ·rcases p0 with h | h
       ·exact h1 h
       ·rw[h] at h2;cases h2
      ·rcases p1 with h | h
       ·exact h1 h
       ·rw[h] at h2;cases h2
     have hv2:(zJb bk s0 s1).length≤2048:=by unfold zJb;rw[length_append];omega
     have hh2:(qDf s0 s1).length=4:=by unfold qDf;rw[length_append,qU,qU]
     have hvs:qDm bk 0 s0 16++qDm bk 1 s1 16=zJb bk s0 s1:=rfl;rw[zJx,zJw,if_pos hE,if_pos hE];have hf:(qZ 5 [qDf s0 s1,zJb bk s0 s1]).length<1000000000:=by
      simp only[qZ,flatMap_cons,flatMap_nil,length_cons,length_append,length_nil,qAy];omega
     have hq:=zNh hf;have tv:List.take (zJb bk s0 s1).length (zJb bk s0 s1)=zJb bk s0 s1:=take_of_length_le (Nat.le_refl _);simp(disch:=omega)only[go_sem,hvs,h3,hq,tv]
def zRd (bk:List zB)(u:Int):List UInt8:=UInt8.ofNat (zBq bk).toNat::beI 8 u 8
theorem qRr {bk:List zB}{u:Int}:(zRd bk u).length=9:=by simp[zRd,beI]
def qEb (bk:List zB)(u:Int):List UInt8:=zRd bk u++bk.flatten.flatten
theorem qQj {b:zB}(h : ∀ x∈b,x.length≤64) : ∀ i,(List.take i b).flatten.length≤64*i
 | 0=>sM
 | i+1=>by
  have ih:=qQj h i;by_cases hi:i<List.length b
  ·rw[qEe (d:=[]) hi,flatten_append,length_append];have:=qJq (n:=i) h;simp only[flatten_cons,flatten_nil,append_nil];omega
  ·rw[take_of_length_le oM,←take_of_length_le (l:=b) (i:=i) oM];omega
theorem zH1 {b:zB}{i:Nat}(h:i<List.length b):(List.take (i+1) b).flatten=(List.take i b).flatten++b.getD i []:=by
 rw[qEe (d:=[]) h,flatten_append];simp
theorem qVt {b:List UInt8}{n:Int}(hb:b.length<1000000000):vB.fs [.t (.sl (b.map qA)),.t (.int .i64 8),.t (.int .i64 n)] []=some (.sl 0 0 (b.length+8),[.live 1 (((b++beI 8 n 8).map qA).map V.t) true false]):=vB.eq (b,8,n) ⟨hb,by show 1≤8;omega,by show 8≤8;omega⟩
theorem zRn {bk:List zB}(hk:RK bk):0≤zBq bk∧zBq bk<4:=by
 rcases hk.cases with rfl | ⟨b0,b1,rfl,h0,h1⟩
 ·exact⟨by decide,by decide⟩
 ·show 0≤zFs b0 b1∧zFs b0 b1<4;unfold zFs;split<;>split<;>decide
theorem qS1 (h1:LkC tab 126 kT)(h2:LkC tab 98 vB)(bk:List zB)(u:Int)(hv:RV bk) :
  kN.1.wp tab gl (qE 0 [.t (zY bk u)]) (qE 0 []) (kG [] [(2,none)] 0 (fun r o=>r = .sl 0 0 (qEb bk u).length∧o=[.live 1 (((qEb bk u).map qA).map V.t) true false])):=by
 have ha:=zFx (u:=u) hv.1;have hact:=zRn hv.1;obtain⟨m,hm⟩:=Int.eq_ofNat_of_zero_le hact.1;have hu:=qVt (b:=[UInt8.ofNat m]) (n:=u) sM;simp only[mcn] at hu;rw[hm] at ha;have hbk:UInt8.ofNat m::beI 8 u 8=zRd bk u:=by unfold zRd;rw[hm];rfl
 rcases hv.cases with rfl | ⟨b0,b1,rfl,g0,g1,m0,m1⟩
 ·rw[map_nil] at ha;simp(disch:=omega)only[go_sem,kN,h1,h2,ha,hu,map_nil];repeat refine And.intro rfl ?_
  refine qG 1 ?_;simp(disch:=omega)only[go_sem,qD];have e1:qEb [] u=zRd [] u:=by simp[qEb]
  rw[e1];refine⟨qRr.symm,?_⟩;rw[←hbk];rfl
 ·simp only[mcn,zF1] at ha;have q0:List.length b0≤16:=by rcases g0 with h | h<;>omega
  have q1:List.length b1≤16:=by rcases g1 with h | h<;>omega
  have f0:b0.flatten.length≤1024:=by have:=qQj m0 16;rw[take_of_length_le q0] at this;omega
  have f1:b1.flatten.length≤1024:=by have:=qQj m1 16;rw[take_of_length_le q1] at this;omega
  have hl9:=qRr (bk:=[b0,b1]) (u:=u);generalize hH:zRd [b0,b1] u=H at *;simp(disch:=omega)only[go_sem,kN,h1,h2,ha,hu,mcn];repeat refine And.intro rfl ?_
  refine qB 2 (fun k=>match k with | 0=>[(1,.ref 4096 0 0),(3,.sl 9100 0 (List.length (H))),(16,.t (.int .i64 2)),(17,.t (.int .i64 0))] | 1=>[(1,.ref 4096 0 0),(3,.sl 9100 0 (List.length (H++b0.flatten))),(16,.t (.int .i64 2)),(17,.t (.int .i64 1))] | _=>[(1,.ref 4096 0 0),(3,.sl 9100 0 (List.length (H++b0.flatten++b1.flatten))),(16,.t (.int .i64 2)),(17,.t (.int .i64 2))]) (fun k=>match k with | 0=>[(9100,.live 1 (((H).map qA).map V.t) true false),(4096,.live 2 [.t (zY [b0,b1] u)] true true)] | 1=>[(9100,.live 1 (((H++b0.flatten).map qA).map V.t) true false),(4096,.live 2 [.t (zY [b0,b1] u)] true true)] | _=>[(9100,.live 1 (((H++b0.flatten++b1.flatten).map qA).map V.t) true false),(4096,.live 2 [.t (zY [b0,b1] u)] true true)]) ?_ (fun k hk=>?_)
  ·refine qJ.rd (fun j=>if j=9100 then 8288 else j) ?_ ?_ rfl;all_goals simp(disch:=omega)only[go_sem,mcn]
   ·exact hl9.symm
   ·rw[←hbk];rfl
  ·rcases (show k=0∨k=1∨k=2 by omega) with rfl | rfl | rfl
   ·simp(disch:=omega)only[go_sem,mcn];refine qB (List.length b0) (fun i=>[(1,.ref 4096 0 0),(3,.sl 9100 0 (List.length (H++(List.take i b0).flatten))),(16,.t (.int .i64 2)),(17,.t (.int .i64 0)),(24,.t (.sl (b0.map bsT))),(25,.t (.int .i64 (List.length b0))),(26,.t (.int .i64 (i:Nat)))]) (fun i=>[(9100,.live 1 (((H++(List.take i b0).flatten).map qA).map V.t) true false),(4096,.live 2 [.t (zY [b0,b1] u)] true true)]) ?_ (fun i hi=>?_)
    ·refine qJ.rd id ?_ ?_ rfl;all_goals simp(disch:=omega)only[go_sem,id,take_zero,flatten_nil,append_nil,mcn]
    ·have hfl:=qQj m0 i;by_cases hlt:i<List.length b0
     ·have hg:=qJq (n:=i) m0;have hts:=zH1 (b:=b0) hlt;simp(disch:=omega)only[go_sem,mcn];refine⟨hlt,qJ.rd (fun j=>if j=9100 then 36896 else j) ?_ ?_ rfl⟩;all_goals simp(disch:=omega)only[go_sem,hts,append_assoc]
      all_goals try omega
     ·have e:i=List.length b0:=oM;subst e;simp(disch:=omega)only[go_sem,mcn,take_length];refine qJ.rd id ?_ ?_ rfl;all_goals simp(disch:=omega)only[go_sem,id,take_length]
   ·simp(disch:=omega)only[go_sem,mcn];refine qB (List.length b1) (fun i=>[(1,.ref 4096 0 0),(3,.sl 9100 0 (List.length (H++b0.flatten++(List.take i b1).flatten))),(16,.t (.int .i64 2)),(17,.t (.int .i64 1)),(24,.t (.sl (b1.map bsT))),(25,.t (.int .i64 (List.length b1))),(26,.t (.int .i64 (i:Nat)))]) (fun i=>[(9100,.live 1 (((H++b0.flatten++(List.take i b1).flatten).map qA).map V.t) true false),(4096,.live 2 [.t (zY [b0,b1] u)] true true)]) ?_ (fun i hi=>?_)
    ·refine qJ.rd id ?_ ?_ rfl;all_goals simp(disch:=omega)only[go_sem,id,take_zero,flatten_nil,append_nil,mcn]
    ·have hfl:=qQj m1 i;by_cases hlt:i<List.length b1
     ·have hg:=qJq (n:=i) m1;have hts:=zH1 (b:=b1) hlt;simp(disch:=omega)only[go_sem,mcn];refine⟨hlt,qJ.rd (fun j=>if j=9100 then 36896 else j) ?_ ?_ rfl⟩;all_goals simp(disch:=omega)only[go_sem,hts,append_assoc]
      all_goals try omega
     ·have e:i=List.length b1:=oM;subst e;simp(disch:=omega)only[go_sem,mcn,take_length];refine qJ.rd id ?_ ?_ rfl;all_goals simp(disch:=omega)only[go_sem,id,take_length]
   ·simp(disch:=omega)only[go_sem,mcn];have e1:qEb [b0,b1] u=H++List.flatten b0++List.flatten b1:=by rw[qEb,hH];simp
    rw[e1,length_append,length_append];exact⟨rfl,rfl⟩
abbrev rdO (s:Rd):Ob:= .live 3 [.t (.agg [.sl (s.1.map qA),.int .i64 (s.2.1:Int),.int .i64 s.2.2])] true true
def qFr:Ct where
 α:=List UInt8
 aS x:=[.t (.sl (x.map qA))]
 ins _:=[]
 pre x:=x.length<1000000000
 r _:= .ref 0 0 0
 outs x:=[vD (x,0,0)]
 inj:=by
  intro a b h _;simp only[List.cons.injEq,V.t.injEq,T.sl.injEq,and_true,zN] at h;subst h;exact⟨rfl,rfl⟩
theorem qJu {b:List UInt8}(h:b.length<1000000000):qFr.fs [.t (.sl (b.map qA))] []=some (.ref 0 0 0,[rdO (b,0,0)]):=qFr.eq b h
def qFp:Ct where
 α:=Rd×Nat
 aS x:=[.ref 0 0 0,.t (.int .i64 x.2)]
 ins x:=[vD x.1]
 pre x:=qEo x.1∧1≤x.2∧x.2≤8
 r x:= .t (.int .i64 (qQ x.1 x.2).1)
 outs x:=[vD (qQ x.1 x.2).2]
 inj:=by
  rintro⟨s,a⟩ ⟨t,c⟩ h1 h2;simp only[List.cons.injEq,V.t.injEq,T.int.injEq,true_and,and_true,Int.natCast_inj] at h1;simp only[List.cons.injEq,and_true] at h2;subst h1;cases kC h2;exact⟨rfl,rfl⟩
theorem wU {s:Rd}{k:Nat}(h:qEo s∧1≤k∧k≤8):qFp.fs [.ref 0 0 0,.t (.int .i64 k)] [rdO s]=some (.t (.int .i64 (qQ s k).1),[rdO (qQ s k).2]):=qFp.eq (s,k) h
def qXs:Ct where
 α:=Rd×Nat
 aS x:=[.ref 0 0 0,.t (.int .i64 x.2)]
 ins x:=[vD x.1]
 pre x:=qEo x.1∧x.2≤1000000000
 r x:= .t (.sl ((qDh x.1 x.2).1.map qA))
 outs x:=[vD (qDh x.1 x.2).2]
 inj:=by
  rintro⟨s,a⟩ ⟨t,c⟩ h1 h2;simp only[List.cons.injEq,V.t.injEq,T.int.injEq,true_and,and_true,Int.natCast_inj] at h1;simp only[List.cons.injEq,and_true] at h2;subst h1;cases kC h2;exact⟨rfl,rfl⟩
theorem qMy {s:Rd}{k:Nat}(h:qEo s∧k≤1000000000):qXs.fs [.ref 0 0 0,.t (.int .i64 k)] [rdO s]=some (.t (.sl ((qDh s k).1.map qA)),[rdO (qDh s k).2]):=qXs.eq (s,k) h
def qLc:Ct where
 α:=Rd
 aS _:=[.ref 0 0 0]
 ins x:=[vD x]
 pre x:=qEo x
 r x:= .t (.int .i64 x.2.2)
 outs x:=[vD x]
 inj:=by
  intro s t _ h2;simp only[List.cons.injEq,and_true] at h2;cases kC h2;exact⟨rfl,rfl⟩
theorem qQu {s:Rd}(h:qEo s):qLc.fs [.ref 0 0 0] [rdO s]=some (.t (.int .i64 s.2.2),[rdO s]):=qLc.eq s h
def qI5:Ct where
 α:=Rd
 aS _:=[.ref 0 0 0]
 ins x:=[vD x]
 pre x:=qEo x
 r x:= .t (.int .i64 (kF x))
 outs x:=[vD x]
 inj:=by
  intro s t _ h2;simp only[List.cons.injEq,and_true] at h2;cases kC h2;exact⟨rfl,rfl⟩
theorem qQt {s:Rd}(h:qEo s):qI5.fs [.ref 0 0 0] [rdO s]=some (.t (.int .i64 (kF s)),[rdO s]):=qI5.eq s h
theorem qYi {s:Rd}{k:Nat}(h:qEo s):qEo (qQ s k).2:=by
 unfold qQ qEo at *;split
 ·exact h
 ·split
  ·exact h
  ·split
   ·exact h
   ·exact⟨by simp only;omega,h.2⟩
theorem jAg {s:Rd}{k:Nat}(h:qEo s):qEo (qDh s k).2:=by
 unfold qDh qEo at *;split
 ·exact h
 ·split
  ·exact h
  ·exact⟨by simp only;omega,h.2⟩
theorem jAf {s:Rd}{k:Nat}:(qDh s k).1.length≤k:=by
 unfold qDh;split
 ·simp
 ·split
  ·simp
  ·simp only[length_take];omega
def jQ (s:Rd)(z:Nat):Nat→List (List UInt8)×Rd
 | 0=>([],s)
 | n+1=>((jQ s z n).1++[(qDh (jQ s z n).2 z).1],(qDh (jQ s z n).2 z).2)
theorem qFx {s:Rd}{z:Nat}(h:qEo s) : ∀ n,qEo (jQ s z n).2
 | 0=>h
 | n+1=>jAg (qFx h n)
theorem yP {s:Rd}{z:Nat} : ∀ n,(jQ s z n).1.length=n
 | 0=>rfl
 | n+1=>by simp[jQ,yP n]
theorem zPp (s:Int):(yV s=[]∧kH.fs [.t (.int .i64 s)] []=some (.agg [.nil,.t (.int .i64 0)],[])) ∨ ∃ b0 b1:zB,yV s=[b0,b1]∧qWn b0∧qWn b1∧kH.fs [.t (.int .i64 s)] []=some (.agg [.sl 0 0 2,.t (.int .i64 0)],[.live 1 [.sl 1 0 b0.length,.sl 2 0 b1.length] true false,.live 1 ((b0.map bsT).map V.t) true false,.live 1 ((b1.map bsT).map V.t) true false]):=by
 have h:=kH.eq s trivial;rcases (zNv (s:=s)).cases with e | ⟨b0,b1,e,h0,h1,_,_⟩
 ·refine .inl ⟨e,h.trans ?_⟩;show some (twR (yV s) 0,twO (yV s))=_;rw[e];rfl
 ·refine .inr ⟨b0,b1,e,h0,h1,h.trans ?_⟩;show some (twR (yV s) 0,twO (yV s))=_;rw[e];rfl
def zM5 (bk:List zB)(s:Rd):List zB×Rd:=match bk with
 | [b0,b1]=>([(jQ s 20 (List.length b0)).1,(jQ (jQ s 20 (List.length b0)).2 32 (List.length b1)).1],(jQ (jQ s 20 (List.length b0)).2 32 (List.length b1)).2)
 | _=>([],s)
def qTm (s:Rd):Int:=(qQ s 1).1
def dcU (s:Rd):Int:=(qQ (qQ s 1).2 8).1
def dcB (s:Rd):List zB×Rd:=zM5 (yV (qTm s)) (qQ (qQ s 1).2 8).2
def dcR (b:List UInt8):V:=
 let s:Rd:=(b,0,0)
 if (qQ s 1).2.2.2=0∧4≤qTm s then .tup [.t (zY [] 0),.t (.int .i64 1)]
 else if kF (dcB s).2≠0 then .tup [.t (zY [] 0),.t (.int .i64 (kF (dcB s).2))]
 else .tup [.t (zY (dcB s).1 (dcU s)),.t (.int .i64 0)]
theorem qWw {s:Rd}{z i:Nat}{c:List (List UInt8)}(h:i<List.length c):((jQ s z i).1++List.drop i c).set i (qDh (jQ s z i).2 z).1=(jQ s z (i+1)).1++List.drop (i+1) c:=by
 rw[set_append_right _ _ (by rw[yP];exact Nat.le_refl _),yP,Nat.sub_self];have e:List.drop i c=c[i]::List.drop (i+1) c:=drop_eq_getElem_cons h;rw[e,set_cons_zero];simp[jQ]
theorem zM4 {b:List UInt8}{bk:List zB}{s:Rd}{u:Int}(h : ¬ ((qQ (b,0,0) 1).2.2.2=0∧4≤qTm (b,0,0)))(hB:dcB (b,0,0)=(bk,s))(hU:dcU (b,0,0)=u):dcR b=if kF s≠0 then .tup [.t (zY [] 0),.t (.int .i64 (kF s))] else .tup [.t (zY bk u),.t (.int .i64 0)]:=by
 unfold dcR;simp only[hB,hU];rw[if_neg h]
theorem qSz (h1:LkC tab 129 qFr)(h2:LkC tab 141 qFp)(h3:LkC tab 143 qLc)(h4:LkC tab 197 kH)(h5:LkC tab 198 xB)(h6:LkC tab 157 qXs)(h7:LkC tab 137 qI5)(b:List UInt8)(hb:b.length<1000000000) :
  zU.1.wp tab gl (qE 0 [.t (.sl (b.map qA))]) (qE 0 []) (qV [(2,some (2,true)),(3,none)] 0 (fun r o=>r=dcR b∧o=[])):=by
 have ok0:qEo (b,0,0):=⟨Nat.zero_le _,hb⟩;have hN:=qJu hb;obtain⟨⟨set,b1,a1,e1⟩,hU1⟩ : ∃ x,qQ (b,0,0) 1=x:=⟨_,rfl⟩;have hI1:=wU (k:=1) ⟨ok0,oM,oM⟩;have ok1:qEo (b1,a1,e1):=by have:=qYi (k:=1) ok0;rw[hU1] at this;exact this
 rw[hU1] at hI1;have hE1:=qQu ok1;simp only[rdO,Int.natCast_zero,Int.natCast_one] at hN hI1 hE1;by_cases hbad:e1=0∧4≤set
 ·have hr:dcR b = .tup [.t (zY [] 0),.t (.int .i64 1)]:=by
   unfold dcR qTm;simp only[hU1];rw[if_pos hbad]
  rw[hr];obtain⟨rfl,hset⟩:=hbad;simp(disch:=omega)only[go_sem,zU,h1,h2,h3,hN,hI1,hE1,hset,map_nil]
 ·have hbad' : ¬ ((qQ (b,0,0) 1).2.2.2=0∧4≤qTm (b,0,0)):=by unfold qTm;simp only[hU1];exact hbad
  have hgo:(e1==0)=false∨((e1==0)=true∧set<4):=by
   by_cases h:e1=0
   ·exact .inr ⟨by simpa using h,oM⟩
   ·exact .inl (by simpa using h)
  obtain⟨⟨u,b2,a2,e2⟩,hU2⟩ : ∃ x,qQ (b1,a1,e1) 8=x:=⟨_,rfl⟩;have hI2:=wU (k:=8) ⟨ok1,oM,oM⟩;have ok2:qEo (b2,a2,e2):=by have:=qYi (k:=8) ok1;rw[hU2] at this;exact this
  rw[hU2] at hI2;have k8:((8:Nat):Int)=8:=rfl;simp only[rdO,k8] at hI2;rcases zPp set with⟨en,hn⟩ | ⟨c0,c1,en,g0,g1,hn⟩
  ·have hB:dcB (b,0,0)=([],(b2,a2,e2)):=by
    unfold dcB qTm;simp only[hU1,hU2,en];rfl
   have hU:dcU (b,0,0)=u:=by unfold dcU;simp only[hU1,hU2]
   have hr:=zM4 (b:=b) hbad' hB hU;have hend:=qQt ok2;simp only[rdO] at hend;rw[hr];by_cases hz:kF (b2,a2,e2)=0
   ·rw[if_neg (by simp[hz])];rw[hz] at hend;rcases hgo with hgo | ⟨hgo,hlt⟩
    ·simp(disch:=omega)only[go_sem,zU,h1,h2,h3,h4,hN,hI1,hE1,hgo,hn,hI2,map_nil];refine qG 1 ?_;simp(disch:=omega)only[go_sem,qD,h7,hend,map_nil]
    ·simp(disch:=omega)only[go_sem,zU,h1,h2,h3,h4,hN,hI1,hE1,hgo,hlt,hn,hI2,map_nil];refine qG 1 ?_;simp(disch:=omega)only[go_sem,qD,h7,hend,map_nil]
   ·rw[if_pos hz];have hz2:(kF (b2,a2,e2)==0)=false:=by simpa using hz
    rcases hgo with hgo | ⟨hgo,hlt⟩
    ·simp(disch:=omega)only[go_sem,zU,h1,h2,h3,h4,hN,hI1,hE1,hgo,hn,hI2,map_nil];refine qG 1 ?_;simp(disch:=omega)only[go_sem,qD,h7,hend,hz2,map_nil]
    ·simp(disch:=omega)only[go_sem,zU,h1,h2,h3,h4,hN,hI1,hE1,hgo,hlt,hn,hI2,map_nil];refine qG 1 ?_;simp(disch:=omega)only[go_sem,qD,h7,hend,hz2,map_nil]
  ·have q0:List.length c0≤16:=by rcases g0 with h | h<;>omega
   have q1:List.length c1≤16:=by rcases g1 with h | h<;>omega
   obtain⟨⟨B0,S1⟩,hS1⟩ : ∃ x,jQ (b2,a2,e2) 20 (List.length c0)=x:=⟨_,rfl⟩;have okS1:qEo S1:=by have:=qFx (z:=20) ok2 (List.length c0);rw[hS1] at this;exact this
   have lB0:List.length B0=List.length c0:=by have:=yP (s:=(b2,a2,e2)) (z:=20) (List.length c0);rw[hS1] at this;exact this
   obtain⟨⟨B1,S2⟩,hS2⟩ : ∃ x,jQ S1 32 (List.length c1)=x:=⟨_,rfl⟩;have okS2:qEo S2:=by have:=qFx (z:=32) okS1 (List.length c1);rw[hS2] at this;exact this
   have lB1:List.length B1=List.length c1:=by have:=yP (s:=S1) (z:=32) (List.length c1);rw[hS2] at this;exact this
   have hB:dcB (b,0,0)=([B0,B1],S2):=by
    unfold dcB qTm;simp only[hU1,hU2,en,zM5,hS1,hS2]
   have hU:dcU (b,0,0)=u:=by unfold dcU;simp only[hU1,hU2]
   have hr:=zM4 (b:=b) hbad' hB hU;have hend:=qQt okS2;rw[hr];rcases hgo with hgo | ⟨hgo,hlt⟩;all_goals first | simp(disch:=omega)only[go_sem,zU,h1,h2,h3,h4,hN,hI1,hE1,hgo,hlt,hn,hI2,map_nil] | simp(disch:=omega)only[go_sem,zU,h1,h2,h3,h4,hN,hI1,hE1,hgo,hn,hI2,map_nil]
   all_goals refine qB 2 (fun k=>match k with | 0=>[(2,.ref 4096 0 0),(4,.ref 8208 0 0),(6,.ref 24608 0 0),(29,.t (.int .i64 2)),(30,.t (.int .i64 0))] | 1=>[(2,.ref 4096 0 0),(4,.ref 8208 0 0),(6,.ref 24608 0 0),(29,.t (.int .i64 2)),(30,.t (.int .i64 1))] | _=>[(2,.ref 4096 0 0),(4,.ref 8208 0 0),(6,.ref 24608 0 0),(29,.t (.int .i64 2)),(30,.t (.int .i64 2))]) (fun k=>match k with | 0=>[(24608,.live 2 [.agg [.sl 24592 0 2,.t (.int .i64 u)]] true true),(24592,.live 1 [.sl 24593 0 (List.length c0),.sl 24594 0 (List.length c1)] true false),(24593,.live 1 ((c0.map bsT).map V.t) true false),(24594,.live 1 ((c1.map bsT).map V.t) true false),(8208,rdO (b2,a2,e2)),(4096,.live 2 [.agg [.nil,.t (.int .i64 0)]] true true)] | 1=>[(24608,.live 2 [.agg [.sl 24592 0 2,.t (.int .i64 u)]] true true),(24592,.live 1 [.sl 24593 0 (List.length c0),.sl 24594 0 (List.length c1)] true false),(24593,.live 1 ((B0.map bsT).map V.t) true false),(24594,.live 1 ((c1.map bsT).map V.t) true false),(8208,rdO S1),(4096,.live 2 [.agg [.nil,.t (.int .i64 0)]] true true)] | _=>[(24608,.live 2 [.agg [.sl 24592 0 2,.t (.int .i64 u)]] true true),(24592,.live 1 [.sl 24593 0 (List.length c0),.sl 24594 0 (List.length c1)] true false),(24593,.live 1 ((B0.map bsT).map V.t) true false),(24594,.live 1 ((B1.map bsT).map V.t) true false),(8208,rdO S2),(4096,.live 2 [.agg [.nil,.t (.int .i64 0)]] true true)]) ?_ (fun k hk=>?_)
   all_goals first
    | (refine qJ.rd id ?_ ?_ rfl;all_goals simp(disch:=omega)only[go_sem,id,rdO])
    | skip
   all_goals rcases (show k=0∨k=1∨k=2 by omega) with rfl | rfl | rfl
   ·simp(disch:=omega)only[go_sem,map_nil,lB0];refine qB (List.length c0) (fun i=>[(2,.ref 4096 0 0),(4,.ref 8208 0 0),(6,.ref 24608 0 0),(7,.t (.int .i64 0)),(29,.t (.int .i64 2)),(30,.t (.int .i64 0)),(38,.t (.int .i64 (List.length c0))),(39,.t (.int .i64 (i:Nat)))]) (fun i=>[(24608,.live 2 [.agg [.sl 24592 0 2,.t (.int .i64 u)]] true true),(24592,.live 1 [.sl 24593 0 (List.length c0),.sl 24594 0 (List.length c1)] true false),(24593,.live 1 ((((jQ (b2,a2,e2) 20 i).1++List.drop i c0).map bsT).map V.t) true false),(24594,.live 1 ((c1.map bsT).map V.t) true false),(8208,rdO (jQ (b2,a2,e2) 20 i).2),(4096,.live 2 [.agg [.nil,.t (.int .i64 0)]] true true)]) ?_ (fun i hi=>?_)
    ·refine qJ.rd id ?_ ?_ rfl;all_goals simp(disch:=omega)only[go_sem,id,rdO,jQ,drop_zero,nil_append]
    ·have oki:=qFx (z:=20) ok2 i;have hln:=yP (s:=(b2,a2,e2)) (z:=20) i;by_cases hlt2:i<List.length c0
     ·have hraw:=qMy (k:=20) ⟨oki,oM⟩;have hset:=qWw (s:=(b2,a2,e2)) (z:=20) hlt2;have hstep:(jQ (b2,a2,e2) 20 (i+1)).2=(qDh (jQ (b2,a2,e2) 20 i).2 20).2:=rfl;have kz:((20:Nat):Int)=20:=rfl;have hl1:=yP (s:=(b2,a2,e2)) (z:=20) (i+1);simp only[rdO,kz] at hraw;simp(maxSteps:=9^9)(disch:=try exact dS)only[go_sem,rdO,h5,qM,h6,hraw,hset,hln,hl1,lB0];refine⟨rfl,hlt2,qJ.rd id ?_ ?_ rfl⟩;all_goals simp(disch:=omega)only[go_sem,id,rdO,hstep]
     ·have e:i=List.length c0:=oM;subst e;simp(disch:=omega)only[go_sem,rdO,hS1,drop_length,append_nil];refine qJ.rd id ?_ ?_ rfl;all_goals simp(disch:=omega)only[go_sem,id,rdO,hS1,drop_length,append_nil,lB0]
   ·simp(disch:=omega)only[go_sem,map_nil,lB0];refine qB (List.length c1) (fun i=>[(2,.ref 4096 0 0),(4,.ref 8208 0 0),(6,.ref 24608 0 0),(7,.t (.int .i64 1)),(29,.t (.int .i64 2)),(30,.t (.int .i64 1)),(38,.t (.int .i64 (List.length c1))),(39,.t (.int .i64 (i:Nat)))]) (fun i=>[(24608,.live 2 [.agg [.sl 24592 0 2,.t (.int .i64 u)]] true true),(24592,.live 1 [.sl 24593 0 (List.length c0),.sl 24594 0 (List.length c1)] true false),(24593,.live 1 ((B0.map bsT).map V.t) true false),(24594,.live 1 ((((jQ S1 32 i).1++List.drop i c1).map bsT).map V.t) true false),(8208,rdO (jQ S1 32 i).2),(4096,.live 2 [.agg [.nil,.t (.int .i64 0)]] true true)]) ?_ (fun i hi=>?_)
    ·refine qJ.rd id ?_ ?_ rfl;all_goals simp(disch:=omega)only[go_sem,id,rdO,jQ,drop_zero,nil_append]
    ·have oki:=qFx (z:=32) okS1 i;have hln:=yP (s:=S1) (z:=32) i;by_cases hlt2:i<List.length c1
     ·have hraw:=qMy (k:=32) ⟨oki,oM⟩;have hset:=qWw (s:=S1) (z:=32) hlt2;have hstep:(jQ S1 32 (i+1)).2=(qDh (jQ S1 32 i).2 32).2:=rfl;have kz:((32:Nat):Int)=32:=rfl;have hl1:=yP (s:=S1) (z:=32) (i+1);simp only[rdO,kz] at hraw;simp(maxSteps:=9^9)(disch:=try exact dS)only[go_sem,rdO,h5,qN,h6,hraw,hset,hln,hl1,lB0];refine⟨rfl,hlt2,qJ.rd id ?_ ?_ rfl⟩;all_goals simp(disch:=omega)only[go_sem,id,rdO,hstep]
     ·have e:i=List.length c1:=oM;subst e;simp(disch:=omega)only[go_sem,rdO,hS2,drop_length,append_nil];refine qJ.rd id ?_ ?_ rfl;all_goals simp(disch:=omega)only[go_sem,id,rdO,hS2,drop_length,append_nil,lB0,lB1]
   ·simp only[rdO] at hend;have tB0:List.take (List.length c0) B0=B0:=take_of_length_le oM;have tB1:List.take (List.length c1) B1=B1:=take_of_length_le oM;by_cases hz:kF S2=0
    ·rw[if_neg (by simp[hz])];rw[hz] at hend;simp(disch:=omega)only[go_sem,rdO,h7,hend,mcn,lB0,lB1,tB0,tB1]
    ·rw[if_pos hz];have hz2:(kF S2==0)=false:=by simpa using hz
     simp(disch:=omega)only[go_sem,rdO,h7,hend,hz2,map_nil,lB0,lB1,tB0,tB1]
   ·simp(disch:=omega)only[go_sem,map_nil,lB0];refine qB (List.length c0) (fun i=>[(2,.ref 4096 0 0),(4,.ref 8208 0 0),(6,.ref 24608 0 0),(7,.t (.int .i64 0)),(29,.t (.int .i64 2)),(30,.t (.int .i64 0)),(38,.t (.int .i64 (List.length c0))),(39,.t (.int .i64 (i:Nat)))]) (fun i=>[(24608,.live 2 [.agg [.sl 24592 0 2,.t (.int .i64 u)]] true true),(24592,.live 1 [.sl 24593 0 (List.length c0),.sl 24594 0 (List.length c1)] true false),(24593,.live 1 ((((jQ (b2,a2,e2) 20 i).1++List.drop i c0).map bsT).map V.t) true false),(24594,.live 1 ((c1.map bsT).map V.t) true false),(8208,rdO (jQ (b2,a2,e2) 20 i).2),(4096,.live 2 [.agg [.nil,.t (.int .i64 0)]] true true)]) ?_ (fun i hi=>?_)
    ·refine qJ.rd id ?_ ?_ rfl;all_goals simp(disch:=omega)only[go_sem,id,rdO,jQ,drop_zero,nil_append]
    ·have oki:=qFx (z:=20) ok2 i;have hln:=yP (s:=(b2,a2,e2)) (z:=20) i;by_cases hlt2:i<List.length c0
     ·have hraw:=qMy (k:=20) ⟨oki,oM⟩;have hset:=qWw (s:=(b2,a2,e2)) (z:=20) hlt2;have hstep:(jQ (b2,a2,e2) 20 (i+1)).2=(qDh (jQ (b2,a2,e2) 20 i).2 20).2:=rfl;have kz:((20:Nat):Int)=20:=rfl;have hl1:=yP (s:=(b2,a2,e2)) (z:=20) (i+1);simp only[rdO,kz] at hraw;simp(maxSteps:=9^9)(disch:=try exact dS)only[go_sem,rdO,h5,qM,h6,hraw,hset,hln,hl1,lB0];refine⟨rfl,hlt2,qJ.rd id ?_ ?_ rfl⟩;all_goals simp(disch:=omega)only[go_sem,id,rdO,hstep]
     ·have e:i=List.length c0:=oM;subst e;simp(disch:=omega)only[go_sem,rdO,hS1,drop_length,append_nil];refine qJ.rd id ?_ ?_ rfl;all_goals simp(disch:=omega)only[go_sem,id,rdO,hS1,drop_length,append_nil,lB0]
   ·simp(disch:=omega)only[go_sem,map_nil,lB0];refine qB (List.length c1) (fun i=>[(2,.ref 4096 0 0),(4,.ref 8208 0 0),(6,.ref 24608 0 0),(7,.t (.int .i64 1)),(29,.t (.int .i64 2)),(30,.t (.int .i64 1)),(38,.t (.int .i64 (List.length c1))),(39,.t (.int .i64 (i:Nat)))]) (fun i=>[(24608,.live 2 [.agg [.sl 24592 0 2,.t (.int .i64 u)]] true true),(24592,.live 1 [.sl 24593 0 (List.length c0),.sl 24594 0 (List.length c1)] true false),(24593,.live 1 ((B0.map bsT).map V.t) true false),(24594,.live 1 ((((jQ S1 32 i).1++List.drop i c1).map bsT).map V.t) true false),(8208,rdO (jQ S1 32 i).2),(4096,.live 2 [.agg [.nil,.t (.int .i64 0)]] true true)]) ?_ (fun i hi=>?_)
    ·refine qJ.rd id ?_ ?_ rfl;all_goals simp(disch:=omega)only[go_sem,id,rdO,jQ,drop_zero,nil_append]
    ·have oki:=qFx (z:=32) okS1 i;have hln:=yP (s:=S1) (z:=32) i;by_cases hlt2:i<List.length c1
     ·have hraw:=qMy (k:=32) ⟨oki,oM⟩;have hset:=qWw (s:=S1) (z:=32) hlt2;have hstep:(jQ S1 32 (i+1)).2=(qDh (jQ S1 32 i).2 32).2:=rfl;have kz:((32:Nat):Int)=32:=rfl;have hl1:=yP (s:=S1) (z:=32) (i+1);simp only[rdO,kz] at hraw;simp(maxSteps:=9^9)(disch:=try exact dS)only[go_sem,rdO,h5,qN,h6,hraw,hset,hln,hl1,lB0];refine⟨rfl,hlt2,qJ.rd id ?_ ?_ rfl⟩;all_goals simp(disch:=omega)only[go_sem,id,rdO,hstep]
     ·have e:i=List.length c1:=oM;subst e;simp(disch:=omega)only[go_sem,rdO,hS2,drop_length,append_nil];refine qJ.rd id ?_ ?_ rfl;all_goals simp(disch:=omega)only[go_sem,id,rdO,hS2,drop_length,append_nil,lB0,lB1]
   ·simp only[rdO] at hend;have tB0:List.take (List.length c0) B0=B0:=take_of_length_le oM;have tB1:List.take (List.length c1) B1=B1:=take_of_length_le oM;by_cases hz:kF S2=0
    ·rw[if_neg (by simp[hz])];rw[hz] at hend;simp(disch:=omega)only[go_sem,rdO,h7,hend,mcn,lB0,lB1,tB0,tB1]
    ·rw[if_pos hz];have hz2:(kF S2==0)=false:=by simpa using hz
     simp(disch:=omega)only[go_sem,rdO,h7,hend,hz2,map_nil,lB0,lB1,tB0,tB1]
def jUp (s:Rd):Prop:=(qQ s 1).2.2.2=0∧4≤qTm s
instance {s:Rd}:Decidable (jUp s):=inferInstanceAs (Decidable (_∧_))
theorem zVa {b0 b1:zB}{i:Nat}:zKs [b0,b1] i=[qYl 0 b0 i,qYl 1 b1 i]:=rfl
def jC0 (bk:List zB)(a:Nat):Nat:=(bk.getD a []).length
end Go.Eng
end
