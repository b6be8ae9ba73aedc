/- A part of an abstract machine, its walks, their tie. -/
import Derived.Test.YtpolalhffkhimaaGreatDoorE17
import Derived.Test.YtpolalhffkhimaaGreatDoorE19
set_option linter.all false
section
set_option maxHeartbeats 64000000
set_option maxRecDepth 20000
namespace Go.Eng
variable (tab:Tab) (gl:Gl)
structure Sb where
 sd:List (List UInt8)
 au:List (List UInt8)
 en:List UInt8
 act:Int
 res:Int
 rst:Int
 clk:Int
 ord:Bool
 bk:List qX
 u:Int
 mc:Int
 l1:Int
 l2:Int
 l3:Int
 l4:Int
 l5:Int
 l6:Int
def jTz (s:Sb):List T:=[.sl (s.sd.map bsT),.sl (s.au.map bsT),.sl (s.en.map qA),.int .i64 s.act,.int .i64 s.res,.int .i64 s.rst,.int .i64 s.clk,.bool s.ord,.sl (s.bk.map wY),.int .i64 s.u,.int .i64 s.mc,.sl [],.int .i64 s.l1,.int .i64 s.l2,.int .i64 s.l3,.int .i64 s.l4,.int .i64 s.l5,.int .i64 s.l6,.sl []]
def jJp (s:Sb):T:= .agg (jTz s)
def sb0:Sb:=⟨[],[],[],0,0,0,0,false,[],0,0,0,0,0,0,0,0⟩
def zB5 (en:List UInt8)(act:Int):Sb:=if en.length≠32∨act<0∨3<act then sb0 else ⟨[drv en [115,101,101,100] [0] 32,drv en [115,101,101,100] [1] 32,drv en [115,101,101,100] [2] 32],[[],[],[],[]],drv en [101,110,116,114,111,112,121] [] 32,act,0,0,0,true,[],0,0,0,5,100,0,0,1000⟩
def zEq (en:List UInt8)(act:Int):Int:=if en.length≠32∨act<0∨3<act then 1 else 0
def jK5:T:= .agg [.int .i64 0,.int .i64 5,.int .i64 100,.int .i64 0,.int .i64 0,.int .i64 1000]
def zF8:Ct where
 α:=Unit
 aS _:=[]
 ins _:=[]
 pre _:=True
 r _:= .t jK5
 outs _:=[]
 inj:=fun _ _ _ _=>⟨rfl,rfl⟩
theorem jEz:zF8.fs [] []=some (.t (.agg [.int .i64 0,.int .i64 5,.int .i64 100,.int .i64 0,.int .i64 0,.int .i64 1000]),[]):=zF8.eq () trivial
theorem qZy:qEt.1.wp tab gl (qE 0 []) (qE 0 []) (zA [(0,some (6,true))] 0 (fun r o=>r = .t jK5∧o=[])):=by
 simp(maxSteps:=9^9)(disch:=try exact dS)only[go_sem,qEt,jK5]
theorem qJ2 {en:List UInt8}{act:Int}(h:en.length≠32∨act<0∨3<act):zB5 en act=sb0∧zEq en act=1:=⟨if_pos h,if_pos h⟩
def jL5 (en:List UInt8)(i:Nat):List UInt8:=drv en [115,101,101,100] [UInt8.ofNat i] 32
theorem jA3 {en:List UInt8}{act:Int}(h : ¬ (en.length≠32∨act<0∨3<act)):zB5 en act=⟨(List.range 3).map (jL5 en),[[],[],[],[]],drv en [101,110,116,114,111,112,121] [] 32,act,0,0,0,true,[],0,0,0,5,100,0,0,1000⟩∧zEq en act=0:=⟨if_neg h,if_neg h⟩
theorem zFd (h1:LkC tab 60 zF8)(h2:LkC tab 61 qTh)(en:List UInt8)(act:Int)(hl:en.length≤9223372036854775807) :
  xQ.1.wp tab gl (qE 0 [.t (.sl (en.map qA)),.t (.int .i64 act)]) (qE 0 []) (zA [(4,some (19,true)),(5,none)] 0 (fun r o=>r = .tup [.t (jJp (zB5 en act)),.t (.int .i64 (zEq en act))]∧o=[])):=by
 by_cases c1:en.length=32
 ·by_cases c2:act<0
  ·rw[(qJ2 (en:=en) (.inr (.inl c2))).1,(qJ2 (en:=en) (.inr (.inl c2))).2];simp(maxSteps:=9^9)(disch:=try exact dS)only[go_sem,xQ,c1,c2];all_goals rfl
  ·by_cases c3:3<act
   ·rw[(qJ2 (en:=en) (.inr (.inr c3))).1,(qJ2 (en:=en) (.inr (.inr c3))).2];simp(maxSteps:=9^9)(disch:=try exact dS)only[go_sem,xQ,c1,c2,c3];all_goals rfl
   ·have ok:=jA3 (en:=en) (act:=act) oM;rw[ok.1,ok.2];simp(maxSteps:=9^9)(disch:=try exact dS)only[go_sem,xQ,c1,c2,c3,h1,h2,jEz];refine And.intro rfl ?_;refine qB 3 (fun k=>[(0,.t (.sl (en.map qA))),(4,.ref 4096 0 0),(6,.ref 16448 0 0),(24,.t (.int .i64 (k:Nat)))]) (fun k=>[(9000,.live 1 ((((List.range k).map (jL5 en)).map bsT).map V.t) true false),
     (16448,.live 19 [.agg [.sl 9000 0 k,.sl 16384 0 4,.nil,.t (.int .i64 act),.t (.int .i64 0),.t (.int .i64 0),.t (.int .i64 0),.t (.bool true),.nil,.t (.int .i64 0),.t (.int .i64 0),.nil,.t (.int .i64 0),.t (.int .i64 5),.t (.int .i64 100),.t (.int .i64 0),.t (.int .i64 0),.t (.int .i64 1000),.nil]] true true),
     (16384,.live 1 [.nil,.nil,.nil,.nil] true false),(4096,.live 19 [.agg [.nil,.nil,.nil,.t (.int .i64 0),.t (.int .i64 0),.t (.int .i64 0),.t (.int .i64 0),.t (.bool false),.nil,.t (.int .i64 0),.t (.int .i64 0),.nil,.t (.int .i64 0),.t (.int .i64 0),.t (.int .i64 0),.t (.int .i64 0),.t (.int .i64 0),.t (.int .i64 0),.nil]] true true)]) ?_ (fun k hk'=>?_)
    ·refine qK.cv0 (hv:=[(9000,.live 1 [] true false)]) (ho:=[(16448,.live 19 [.agg [.sl 9000 0 0,.sl 16384 0 4,.nil,.t (.int .i64 act),.t (.int .i64 0),.t (.int .i64 0),.t (.int .i64 0),.t (.bool true),.nil,.t (.int .i64 0),.t (.int .i64 0),.nil,.t (.int .i64 0),.t (.int .i64 5),.t (.int .i64 100),.t (.int .i64 0),.t (.int .i64 0),.t (.int .i64 1000),.nil]] true true),
     (16384,.live 1 [.nil,.nil,.nil,.nil] true false),(4096,.live 19 [.agg [.nil,.nil,.nil,.t (.int .i64 0),.t (.int .i64 0),.t (.int .i64 0),.t (.int .i64 0),.t (.bool false),.nil,.t (.int .i64 0),.t (.int .i64 0),.nil,.t (.int .i64 0),.t (.int .i64 0),.t (.int .i64 0),.t (.int .i64 0),.t (.int .i64 0),.t (.int .i64 0),.nil]] true true)]) id ?_ ?_ rfl rfl
     all_goals simp(maxSteps:=9^9)(disch:=try exact dS)only[go_sem,id]
     all_goals rfl
    ·by_cases hlt:k<3
     ·have hD:=zGk (k:=en) (l:=[115,101,101,100]) (c:=[UInt8.ofNat k]) (n:=32) ⟨oM,sM,sM,oM,oM⟩;rw[show ((32:Nat):Int)=32 from rfl] at hD;simp only[mcn] at hD;rw[show drv en [115,101,101,100] [UInt8.ofNat k] 32=jL5 en k from rfl] at hD;have lr:(List.range k).length=k:=List.length_range;simp(maxSteps:=9^9)(disch:=try exact dS)only[go_sem,h2,hD,lr,mcn];refine⟨rfl,hlt,qK.rd (fun j=>if j=9000 then 32896 else j) ?_ ?_ rfl⟩;all_goals simp(maxSteps:=9^9)(disch:=try exact dS)only[go_sem,id]
      all_goals first | omega | rfl
     ·have e:k=3:=oM;subst e;have hD:=zGk (k:=en) (l:=[101,110,116,114,111,112,121]) (c:=[]) (n:=32) ⟨oM,sM,sM,oM,oM⟩;rw[show ((32:Nat):Int)=32 from rfl] at hD;simp only[List.map_nil] at hD;simp(maxSteps:=9^9)(disch:=try exact dS)only[go_sem,h2,hD];all_goals rfl
 ·rw[(qJ2 (act:=act) (.inl c1)).1,(qJ2 (act:=act) (.inl c1)).2];simp(maxSteps:=9^9)(disch:=try exact dS)only[go_sem,xQ,c1];all_goals rfl
def qYa:Ct where
 α:=List UInt8×Int
 aS x:=[.t (.sl (x.1.map qA)),.t (.int .i64 x.2)]
 ins _:=[]
 pre x:=x.1.length≤9223372036854775807
 r x:= .tup [.t (jJp (zB5 x.1 x.2)),.t (.int .i64 (zEq x.1 x.2))]
 outs _:=[]
 inj:=by
  rintro⟨a,b⟩ ⟨c,d⟩ h _;simp only[List.cons.injEq,V.t.injEq,T.int.injEq,T.sl.injEq,true_and,and_true,jC] at h;obtain⟨rfl,rfl⟩:=h;exact⟨rfl,rfl⟩
theorem jA2 {en:List UInt8}{act:Int}(h:en.length≤9223372036854775807):qYa.fs [.t (.sl (en.map qA)),.t (.int .i64 act)] []=some (.tup [.t (jJp (zB5 en act)),.t (.int .i64 (zEq en act))],[]):=qYa.eq (en,act) h
def dgx (a:Nat)(b:List UInt8):List UInt8:=List.take (szA a) b++List.replicate (szA a-min (szA a) b.length) 0
def dg1 (a:Nat)(b:List UInt8):List UInt8:=(dgx a b).set (szA a-1) ((dgx a b).getD (szA a-1) 0 ^^^ UInt8.ofNat a)
def dgb (s:Int)(a:Nat)(b:List UInt8):List UInt8:=if s/(2^a:Nat)%2=1 then dg1 a b else []
def dgB (s:Int)(b:List UInt8):List (List UInt8):=[dgb s 0 b,dgb s 1 b]
def zYh (x:List qX×Int)(l i:Int)(ds:List (List UInt8)):List qX×Int:=if qJ8 x.1 l i ds=0 then (qRg x.1 i.toNat ds,x.2+1) else x
def evP (x:List qX×Int)(l i:Int)(d:List UInt8):List qX×Int:=if 128<d.length then x else zYh x l i (qTk x.1 d)
def jLw (x:List qX×Int)(l i:Int):List qX×Int:=if zNn l i=0 then (zIr x.1 i.toNat,x.2+1) else x
def Ans (x:List qX×Int)(v:V)(y:List qX×Int):Prop := ∃ (bk:List qX) (u e:Int),v = .tup [.t (.agg [.sl (bk.map wY),.int .i64 u]),.t (.int .i64 e)]∧((e=0∧y=(bk,u))∨(e≠0∧y=x))
def RS (n:Nat)(x:List qX×Int):Prop:=RV x.1∧0≤x.2∧x.2≤n
theorem RS.up {n m:Nat}{x:List qX×Int}(h:RS n x)(hm:n≤m):RS m x:=⟨h.1,h.2.1,by have:=h.2.2;omega⟩
theorem RS.ext {n:Nat}{x:List qX×Int}(h:RS n x)(l i:Int)(ds:List (List UInt8)):RS (n+1) (zYh x l i ds):=by
 unfold zYh;split
 ·exact⟨h.1.ext _ _,by have:=h.2.1;simp only;omega,by have:=h.2.2;simp only;omega⟩
 ·exact h.up oM
theorem RS.ev {n:Nat}{x:List qX×Int}(h:RS n x)(l i:Int)(d:List UInt8):RS (n+1) (evP x l i d):=by
 unfold evP;split
 ·exact h.up oM
 ·exact h.ext _ _ _
theorem RS.rst {n:Nat}{x:List qX×Int}(h:RS n x)(l i:Int):RS (n+1) (jLw x l i):=by
 unfold jLw;split
 ·exact⟨h.1.rst _,by have:=h.2.1;simp only;omega,by have:=h.2.2;simp only;omega⟩
 ·exact h.up oM
theorem RS.rsm {n:Nat}{x:List qX×Int}(h:RS n x):RS (n+1) (zEd x.1,x.2):=⟨h.1.res,h.2.1,by have:=h.2.2;simp only;omega⟩
def drS (s:Int)(i k:Nat)(x:List qX×Int):List qX×Int:=
 if k%8<3 then evP x 4 (k/8%16:Nat) [UInt8.ofNat k,UInt8.ofNat i]
 else if k%8<6 then zYh x 4 (k/8%16:Nat) (dgB s [UInt8.ofNat k,UInt8.ofNat i])
 else if k%8=6 then jLw x 4 (12+k/8%4:Nat)
 else (zEd x.1,x.2)
def drN (s:Int)(cs:List UInt8):Nat→List qX×Int
 | 0=>(yK s,0)
 | i+1=>drS s i (cs.getD i 0).toNat (drN s cs i)
theorem RS.dr {s:Int}{i k n:Nat}{x:List qX×Int}(h:RS n x):RS (n+1) (drS s i k x):=by
 unfold drS;split
 ·exact h.ev _ _ _
 ·split
  ·exact h.ext _ _ _
  ·split
   ·exact h.rst _ _
   ·exact h.rsm
def dr (s:Int)(cs:List UInt8):List qX×Int:=drN s cs (min cs.length 12)
theorem Ans.rv {x:List qX×Int}{v:V}{y:List qX×Int}(h:Ans x v y)(hv : ∃ bk' u' e,v = .tup [.t (jT bk' u'),.t (.int .i64 e)]∧RV bk'∧(e=0→u'=x.2+1)) : ∃ bk' u' e,v = .tup [.t (.agg [.sl (bk'.map wY),.int .i64 u']),.t (.int .i64 e)]∧RM bk':=by
 obtain⟨bk',u',e,h1,h2,_⟩:=hv;exact⟨bk',u',e,h1,h2.rm⟩
def evB (bk:List qX)(n:Nat)(data:List UInt8):List qX:=qRg bk n (qTk bk data)
theorem RK.cases {bk:List qX}(h:RK bk):bk=[] ∨ ∃ b0 b1,bk=[b0,b1]∧qVm b0∧qVm b1:=by
 cases h with
 | nil=>exact .inl rfl
 | two b0 b1 h0 h1=>exact .inr ⟨b0,b1,rfl,h0,h1⟩
theorem zK0 {bk:List qX}{data:List UInt8}:((qTk bk data).getD 0 []).length=if (bk.getD 0 []).length=16 then 20 else 0:=by
 show (if onB bk 0 then zC1 data else []).length=_;unfold onB;by_cases h:(bk.getD 0 []).length=16
 ·rw[if_pos h,decide_eq_true h,if_pos rfl,yC]
 ·rw[if_neg h,decide_eq_false h];rfl
theorem zK1 {bk:List qX}{data:List UInt8}:((qTk bk data).getD 1 []).length=if (bk.getD 1 []).length=16 then 32 else 0:=by
 show (if onB bk 1 then jQ data else []).length=_;unfold onB;by_cases h:(bk.getD 1 []).length=16
 ·rw[if_pos h,decide_eq_true h,if_pos rfl,qM]
 ·rw[if_neg h,decide_eq_false h];rfl
theorem jKq {bk:List qX}{u i:Int}{data:List UInt8}(hi:0≤i∧i<16)(hd:data.length≤128):evR bk u 4 i data = .tup [.t (jT (evB bk i.toNat data) (u+1)),.t (.int .i64 0)]:=by
 have hl:qBr i false≤3:=by unfold qBr;split<;>(try split)<;>(try split)<;>simp_all
 have he:qJi (bk.getD 0 []).length (bk.getD 1 []).length 4 i (qTk bk data).length ((qTk bk data).getD 0 []).length ((qTk bk data).getD 1 []).length=0:=by
  rw[zK0,zK1];have h2:(qTk bk data).length=2:=rfl;rw[h2];unfold qJi;rw[if_neg oM,if_neg oM,if_neg (by rintro (⟨h1,h2⟩ | ⟨h1,h2⟩)<;>(rw[if_neg h1] at h2;omega)),if_neg (by rintro (⟨h1,h2⟩ | ⟨h1,h2⟩)<;>exact h2 (if_pos h1))]
 rw[evR,if_neg oM,qRh,if_pos he];rfl
theorem zAx {b0 b1:qX}{i:Nat}{ds:List (List UInt8)}:qRg [b0,b1] i ds=[qBz 0 b0 i (ds.getD 0 []),qBz 1 b1 i (ds.getD 1 [])]:=rfl
theorem jDv {bk:List qX}{u i:Int}{data:List UInt8}(hv:RV bk)(hu:0≤u∧u<1000000000)(hi:0≤i∧i<16)(hd:data.length≤128):zKx.fs [.t (.agg [.sl (bk.map wY),.int .i64 u]),.t (.int .i64 4),.t (.int .i64 i),.t (.sl (data.map qA))] []=some (.tup [.t (.agg [.sl ((evB bk i.toNat data).map wY),.int .i64 (u+1)]),.t (.int .i64 0)],[]):=by
 have hE:=zKx.eq (bk,u,4,i,data) ⟨hv,hu,by show data.length<1000000000;omega⟩;have hE2:zKx.fs [.t (.agg [.sl (bk.map wY),.int .i64 u]),.t (.int .i64 4),.t (.int .i64 i),.t (.sl (data.map qA))] []=some (evR bk u 4 i data,[]):=hE;rw[hE2,jKq hi hd];rfl
theorem RV.ev {bk:List qX}(h:RV bk)(n:Nat)(d:List UInt8):RV (evB bk n d):=h.ext _ _
def yY:Ct where
 α:=List UInt8×Nat×Int
 aS x:=[.t (.sl (x.1.map qA)),.t (.int .i64 x.2.1),.t (.int .i64 x.2.2)]
 ins _:=[]
 pre x:=x.1.length<1000000000∧1≤x.2.1∧x.2.1≤8
 r x:= .sl 0 0 (x.1.length+x.2.1)
 outs x:=[.live 1 (((x.1++beI x.2.1 x.2.2 x.2.1).map qA).map V.t) true false]
 inj:=by
  rintro⟨a,s,n⟩ ⟨c,t,m⟩ h _;simp only[List.cons.injEq,V.t.injEq,T.sl.injEq,T.int.injEq,true_and,and_true,jC,Int.natCast_inj] at h;obtain⟨rfl,rfl,rfl⟩:=h;exact⟨rfl,rfl⟩
theorem qM7 {b:List UInt8}{n:Int}(hb:b.length<1000000000):yY.fs [.t (.sl (b.map qA)),.t (.int .i64 2),.t (.int .i64 n)] []=some (.sl 0 0 (b.length+2),[.live 1 (((b++beI 2 n 2).map qA).map V.t) true false]):=yY.eq (b,2,n) ⟨hb,by show 1≤2;omega,by show 2≤8;omega⟩
theorem qR {s k:Nat}{n:Int}:(beI s n k).length=k:=by simp[beI]
def qB1 (bk:List qX)(a:Nat)(s:Int):Nat→List UInt8
 | 0=>[]
 | i+1=>if s/2^i%2=1 then qB1 bk a s i++zC2 bk a i else qB1 bk a s i
theorem qAl {n:Nat}:(zPc n).length=4:=rfl
theorem qRa {bk:List qX}{a:Nat}{s:Int}:qB1 bk a s 0=[]:=rfl
theorem qSm {bk:List qX}{a i:Nat}{s:Int}(h:s/2^i%2=1):qB1 bk a s (i+1)=qB1 bk a s i++zC2 bk a i:=if_pos h
theorem qEi {bk:List qX}{a i:Nat}{s:Int}(h : ¬ s/2^i%2=1):qB1 bk a s (i+1)=qB1 bk a s i:=if_neg h
def PD (A B:Prop)(k:Nat):Prop:=(1≤k→A)∧(2≤k→B)
def qZ8 (s:Int):Prop:=s<0∨65535<s
instance {s:Int}:Decidable (qZ8 s):=inferInstanceAs (Decidable (_∨_))
def qCv (s0 s1:Int):List UInt8:=beI 2 s0 2++beI 2 s1 2
def zC3 (bk:List qX)(s0 s1:Int):List UInt8:=qB1 bk 0 s0 16++qB1 bk 1 s1 16
def qPo (bk:List qX)(s0 s1:Int):Int:=if qZ8 s0∨qZ8 s1 then 1 else if (s0≠0∧onB bk 0=false)∨(s1≠0∧onB bk 1=false) then 27 else 0
def zDp (bk:List qX)(s0 s1:Int):V:=if qPo bk s0 s1=0 then .tup [.sl 0 0 32,.t (.int .i64 0)] else .tup [.nil,.t (.int .i64 (qPo bk s0 s1))]
def zDo (bk:List qX)(s0 s1:Int):List Ob:=if qPo bk s0 s1=0 then [.live 1 (((qCu 5 [qCv s0 s1,zC3 bk s0 s1]).map qA).map V.t) true false] else []
theorem vN {bk:List qX}(h:RV bk)(a:Nat)(s:Int) : ∀ i,(qB1 bk a s i).length≤64*i
 | 0=>by simp[qB1]
 | i+1=>by
  have ih:=vN h a s i;have hv:(zC2 bk a i).length≤64:=by
   unfold zC2;rcases h.cases with rfl | ⟨b0,b1,rfl,_,_,m0,m1⟩
   ·simp
   ·match a with
    | 0=>exact qMw m0
    | 1=>exact qMw m1
    | a+2=>simp
  unfold qB1;split
  ·rw[List.length_append];omega
  ·omega
def wC:Ct where
 α:=Nat×List (List UInt8)
 aS x:=[.t (.int .i64 x.1),.t (.sl (x.2.map bsT))]
 ins _:=[]
 pre x:=x.1<256∧(qY x.1 x.2).length<1000000000
 r _:= .sl 0 0 32
 outs x:=[.live 1 (((qCu x.1 x.2).map qA).map V.t) true false]
 inj:=by
  rintro⟨a,b⟩ ⟨c,d⟩ h _;simp[qBs,Int.natCast_inj] at h;obtain⟨rfl,rfl⟩:=h;exact⟨rfl,rfl⟩
theorem zGp {x y:List UInt8}(h:(qY 5 [x,y]).length<1000000000):wC.fs [.t (.int .i64 5),.t (.sl [.sl (x.map qA),.sl (y.map qA)])] []=some (.sl 0 0 32,[.live 1 (((qCu 5 [x,y]).map qA).map V.t) true false]):=wC.eq (5,[x,y]) ⟨by show 5<256;omega,h⟩
theorem qO0 (h1:LkC tab 63 yY)(h2:LkC tab 235 qHr)(h3:LkC tab 103 wC)(bk:List qX)(u s0 s1:Int)(hv:RV bk) :
  xH.1.wp tab gl (qE 0 [.t (jT bk u),.t (.agg [.int .i64 s0,.int .i64 s1])]) (qE 0 []) (kN [] [(4,none),(5,none)] 0 (fun r o=>r=zDp bk s0 s1∧o=zDo bk s0 s1)):=by
 simp(disch:=omega)only[go_sem,xH];have t2:List.take 2 (beI 2 s0 2)=beI 2 s0 2:=List.take_of_length_le (by rw[qR];exact Nat.le_refl _);have t4:List.take 4 (beI 2 s0 2++beI 2 s1 2)=beI 2 s0 2++beI 2 s1 2:=List.take_of_length_le (by rw[List.length_append,qR,qR];exact Nat.le_refl _);by_cases b0:qZ8 s0
 ·have hE:qPo bk s0 s1=1:=by unfold qPo;rw[if_pos (.inl b0)]
  rw[zDp,zDo,hE];unfold qZ8 at b0;refine qJ 1 ?_;by_cases c0:s0<0
  ·simp(disch:=omega)only[go_sem,qF,c0]
  ·simp(disch:=omega)only[go_sem,qF,c0]
 have hb0 : ¬ s0<0 ∧ ¬ 65535<s0:=by unfold qZ8 at b0;omega
 obtain⟨c0,d0⟩:=hb0;have hm:=hv.rm;have hu:=qM7 (b:=[]) (n:=s0) (by decide);simp only[List.map_nil,List.length_nil,List.nil_append] at hu;by_cases b1:qZ8 s1
 ·have hE:qPo bk s0 s1=1:=by unfold qPo;rw[if_pos (.inr b1)]
  rw[zDp,zDo,hE];unfold qZ8 at b1;refine qJ 2 ?_;by_cases c1:s1<0
  ·simp(disch:=omega)only[go_sem,qF,c0,d0,c1,h1,hu,List.map_nil]
  ·simp(disch:=omega)only[go_sem,qF,c0,d0,c1,h1,hu,List.map_nil]
 have hb1 : ¬ s1<0 ∧ ¬ 65535<s1:=by unfold qZ8 at b1;omega
 obtain⟨c1,d1⟩:=hb1;refine qB 2 (fun k=>match k with
  | 0=>[(2,.ref 4096 0 0),(3,.ref 4112 0 0),(6,.t (.sl (([]:List UInt8).map qA))),(7,.nil),(13,.t (.agg [.int .i64 s0,.int .i64 s1])),(14,.t (.int .i64 0))]
  | 1=>[(2,.ref 4096 0 0),(3,.ref 4112 0 0),(6,.t (.sl ((beI 2 s0 2).map qA))),(7,.nil),(13,.t (.agg [.int .i64 s0,.int .i64 s1])),(14,.t (.int .i64 1))]
  | _=>[(2,.ref 4096 0 0),(3,.ref 4112 0 0),(6,.t (.sl ((qCv s0 s1).map qA))),(7,.nil),(13,.t (.agg [.int .i64 s0,.int .i64 s1])),(14,.t (.int .i64 2))])
  (fun _=>[(4112,.live 1 [.t (.int .i64 s0),.t (.int .i64 s1)] true true),(4096,.live 2 [.t (jT bk u)] true true)]) ?_ (fun k hk=>?_)
 ·refine qK.rd id ?_ ?_ rfl;all_goals simp(disch:=omega)only[go_sem,id,List.map_nil]
 ·rcases (show k=0∨k=1∨k=2 by omega) with rfl | rfl | rfl
  ·simp(disch:=omega)only[go_sem,c0,d0,h1,hu,List.map_nil];refine qK.cv (hv:=[]) [32800] id ?_ rfl;simp(disch:=omega)only[go_sem,id,qR,t2];rfl
  ·have hu:=qM7 (b:=beI 2 s0 2) (n:=s1) (by rw[qR];omega);rw[qR] at hu;simp(disch:=omega)only[go_sem,c1,d1,h1,hu];refine qK.cv (hv:=[]) [32800] id ?_ rfl;simp(disch:=omega)only[go_sem,id,qR,qCv,t4];rfl
  ·simp(disch:=omega)only[go_sem];refine qPz 2 (PD (s0=0∨onB bk 0=true) (s1=0∨onB bk 1=true)) (fun k=>match k with | 0=>[(2,.ref 4096 0 0),(6,.t (.sl ((qCv s0 s1).map qA))),(7,.sl 9100 0 (List.length ([]:List UInt8))),(27,.t (.agg [.int .i64 s0,.int .i64 s1])),(28,.t (.int .i64 0))] | 1=>[(2,.ref 4096 0 0),(6,.t (.sl ((qCv s0 s1).map qA))),(7,.sl 9100 0 (List.length (qB1 bk 0 s0 16))),(27,.t (.agg [.int .i64 s0,.int .i64 s1])),(28,.t (.int .i64 1))] | _=>[(2,.ref 4096 0 0),(6,.t (.sl ((qCv s0 s1).map qA))),(7,.sl 9100 0 (List.length (qB1 bk 0 s0 16++qB1 bk 1 s1 16))),(27,.t (.agg [.int .i64 s0,.int .i64 s1])),(28,.t (.int .i64 2))]) (fun k=>match k with | 0=>[(9100,.live 1 ((([]:List UInt8).map qA).map V.t) true false),(4096,.live 2 [.t (jT bk u)] true true)] | 1=>[(9100,.live 1 (((qB1 bk 0 s0 16).map qA).map V.t) true false),(4096,.live 2 [.t (jT bk u)] true true)] | _=>[(9100,.live 1 (((qB1 bk 0 s0 16++qB1 bk 1 s1 16).map qA).map V.t) true false),(4096,.live 2 [.t (jT bk u)] true true)]) ⟨fun h=>absurd h oM,fun h=>absurd h oM⟩ ?_ (fun k hk hP=>?_)
   ·refine qK.cv0 (hv:=[(9100,.live 1 [] true false)]) (ho:=[(4096,.live 2 [.t (jT bk u)] true true)]) id ?_ ?_ rfl rfl;all_goals simp(disch:=omega)only[go_sem,id,mcn,List.length_nil]
   ·rcases (show k=0∨k=1∨k=2 by omega) with rfl | rfl | rfl
    ·by_cases z:s0=0
     ·have zz:(s0==0)=true:=by simpa using z
      simp(disch:=omega)only[go_sem,zz];refine qB 16 (fun i=>[(2,.ref 4096 0 0),(6,.t (.sl ((qCv s0 s1).map qA))),(7,.sl 9100 0 (List.length (qB1 bk 0 s0 i))),(10,.t (.int .i64 0)),(11,.t (.int .i64 s0)),(27,.t (.agg [.int .i64 s0,.int .i64 s1])),(28,.t (.int .i64 0)),(40,.t (.int .i64 (i:Nat)))]) (fun i=>[(9100,.live 1 (((qB1 bk 0 s0 i).map qA).map V.t) true false),(4096,.live 2 [.t (jT bk u)] true true)]) ?_ (fun i hi=>?_)
      ·refine qK.rd id ?_ ?_ rfl;all_goals simp(disch:=omega)only[go_sem,id,qRa,List.append_nil]
      ·have l0:=vN hv 0 s0 16;have l1:=vN hv 0 s0 i;by_cases hlt:i<16
       ·have hsh:s0.fdiv (2^i)=s0/2^i:=Int.fdiv_eq_ediv_of_nonneg _ (Int.le_of_lt (Int.pow_pos (by decide)));have hb : ¬ s0/2^i%2=1:=by rw[z];simp
        simp(disch:=omega)only[go_sem,hsh,hb];refine⟨hlt,qK.rd id ?_ ?_ rfl⟩;all_goals simp(disch:=omega)only[go_sem,id,qEi (bk:=bk) (a:=0) hb]
       ·have e:i=16:=oM;subst e;simp(disch:=omega)only[go_sem];refine⟨⟨fun _=> .inl z,fun h=>absurd h oM⟩,qK.rd id ?_ ?_ rfl⟩;all_goals simp(disch:=omega)only[go_sem,id]
     ·have zz:(s0==0)=false:=by simpa using z
      have c0:=zMv (u:=u) (a:=0) hv.1 oM;rw[show ((0:Nat):Int)=0 from rfl] at c0;cases ho:onB bk 0
      ·rw[ho] at c0;have hE:qPo bk s0 s1=27:=by
        unfold qPo;rw[if_neg (by rintro (h | h);exact b0 h;exact b1 h),if_pos (.inl ⟨z,ho⟩)]
       rw[zDp,zDo,hE];simp(disch:=omega)only[go_sem,zz,h2,c0]
      ·rw[ho] at c0;have hbl:=hv.1.len ho;have hbn:List.length (bk.getD 0 [])=16:=by simpa [onB] using ho
       simp(disch:=omega)only[go_sem,zz,h2,c0];refine qB 16 (fun i=>[(2,.ref 4096 0 0),(6,.t (.sl ((qCv s0 s1).map qA))),(7,.sl 9100 0 (List.length (qB1 bk 0 s0 i))),(10,.t (.int .i64 0)),(11,.t (.int .i64 s0)),(27,.t (.agg [.int .i64 s0,.int .i64 s1])),(28,.t (.int .i64 0)),(40,.t (.int .i64 (i:Nat)))]) (fun i=>[(9100,.live 1 (((qB1 bk 0 s0 i).map qA).map V.t) true false),(4096,.live 2 [.t (jT bk u)] true true)]) ?_ (fun i hi=>?_)
       ·refine qK.rd id ?_ ?_ rfl;all_goals simp(disch:=omega)only[go_sem,id,qRa,List.append_nil]
       ·have l0:=vN hv 0 s0 16;have l1:=vN hv 0 s0 i;by_cases hlt:i<16
        ·have hsh:s0.fdiv (2^i)=s0/2^i:=Int.fdiv_eq_ediv_of_nonneg _ (Int.le_of_lt (Int.pow_pos (by decide)));by_cases hb:s0/2^i%2=1
         ·have hvl:=hm.val 0 i;have hx:(bk.getD 0 []).getD i []=zC2 bk 0 i:=rfl;simp(disch:=omega)only[go_sem,hsh,hb,hx];refine⟨hlt,qK.rd (fun j=>if j=9100 then 77968 else j) ?_ ?_ rfl⟩;all_goals simp(disch:=omega)only[go_sem,qSm (bk:=bk) (a:=0) hb,List.append_assoc]
          all_goals try omega
         ·simp(disch:=omega)only[go_sem,hsh,hb];refine⟨hlt,qK.rd id ?_ ?_ rfl⟩;all_goals simp(disch:=omega)only[go_sem,id,qEi (bk:=bk) (a:=0) hb]
        ·have e:i=16:=oM;subst e;simp(disch:=omega)only[go_sem];refine⟨⟨fun _=>(by first | exact .inr ho | trivial),fun h=>absurd h oM⟩,qK.rd id ?_ ?_ rfl⟩;all_goals simp(disch:=omega)only[go_sem,id]
    ·by_cases z:s1=0
     ·have zz:(s1==0)=true:=by simpa using z
      simp(disch:=omega)only[go_sem,zz];refine qB 16 (fun i=>[(2,.ref 4096 0 0),(6,.t (.sl ((qCv s0 s1).map qA))),(7,.sl 9100 0 (List.length (qB1 bk 0 s0 16++qB1 bk 1 s1 i))),(10,.t (.int .i64 1)),(11,.t (.int .i64 s1)),(27,.t (.agg [.int .i64 s0,.int .i64 s1])),(28,.t (.int .i64 1)),(40,.t (.int .i64 (i:Nat)))]) (fun i=>[(9100,.live 1 (((qB1 bk 0 s0 16++qB1 bk 1 s1 i).map qA).map V.t) true false),(4096,.live 2 [.t (jT bk u)] true true)]) ?_ (fun i hi=>?_)
      ·refine qK.rd id ?_ ?_ rfl;all_goals simp(disch:=omega)only[go_sem,id,qRa,List.append_nil]
      ·have l0:=vN hv 0 s0 16;have l1:=vN hv 1 s1 i;by_cases hlt:i<16
       ·have hsh:s1.fdiv (2^i)=s1/2^i:=Int.fdiv_eq_ediv_of_nonneg _ (Int.le_of_lt (Int.pow_pos (by decide)));have hb : ¬ s1/2^i%2=1:=by rw[z];simp
        simp(disch:=omega)only[go_sem,hsh,hb];refine⟨hlt,qK.rd id ?_ ?_ rfl⟩;all_goals simp(disch:=omega)only[go_sem,id,qEi (bk:=bk) (a:=1) hb]
       ·have e:i=16:=oM;subst e;simp(disch:=omega)only[go_sem];refine⟨⟨fun _=>hP.1 oM,fun _=> .inl z⟩,qK.rd id ?_ ?_ rfl⟩;all_goals simp(disch:=omega)only[go_sem,id]
     ·have zz:(s1==0)=false:=by simpa using z
      have c1:=zMv (u:=u) (a:=1) hv.1 oM;rw[show ((1:Nat):Int)=1 from rfl] at c1;cases ho:onB bk 1
      ·rw[ho] at c1;have hE:qPo bk s0 s1=27:=by
        unfold qPo;rw[if_neg (by rintro (h | h);exact b0 h;exact b1 h),if_pos (.inr ⟨z,ho⟩)]
       rw[zDp,zDo,hE];simp(disch:=omega)only[go_sem,zz,h2,c1]
      ·rw[ho] at c1;have hbl:=hv.1.len ho;have hbn:List.length (bk.getD 1 [])=16:=by simpa [onB] using ho
       simp(disch:=omega)only[go_sem,zz,h2,c1];refine qB 16 (fun i=>[(2,.ref 4096 0 0),(6,.t (.sl ((qCv s0 s1).map qA))),(7,.sl 9100 0 (List.length (qB1 bk 0 s0 16++qB1 bk 1 s1 i))),(10,.t (.int .i64 1)),(11,.t (.int .i64 s1)),(27,.t (.agg [.int .i64 s0,.int .i64 s1])),(28,.t (.int .i64 1)),(40,.t (.int .i64 (i:Nat)))]) (fun i=>[(9100,.live 1 (((qB1 bk 0 s0 16++qB1 bk 1 s1 i).map qA).map V.t) true false),(4096,.live 2 [.t (jT bk u)] true true)]) ?_ (fun i hi=>?_)
       ·refine qK.rd id ?_ ?_ rfl;all_goals simp(disch:=omega)only[go_sem,id,qRa,List.append_nil]
       ·have l0:=vN hv 0 s0 16;have l1:=vN hv 1 s1 i;by_cases hlt:i<16
        ·have hsh:s1.fdiv (2^i)=s1/2^i:=Int.fdiv_eq_ediv_of_nonneg _ (Int.le_of_lt (Int.pow_pos (by decide)));by_cases hb:s1/2^i%2=1
         ·have hvl:=hm.val 1 i;have hx:(bk.getD 1 []).getD i []=zC2 bk 1 i:=rfl;simp(disch:=omega)only[go_sem,hsh,hb,hx];refine⟨hlt,qK.rd (fun j=>if j=9100 then 77968 else j) ?_ ?_ rfl⟩;all_goals simp(disch:=omega)only[go_sem,qSm (bk:=bk) (a:=1) hb,List.append_assoc]
          all_goals try omega
         ·simp(disch:=omega)only[go_sem,hsh,hb];refine⟨hlt,qK.rd id ?_ ?_ rfl⟩;all_goals simp(disch:=omega)only[go_sem,id,qEi (bk:=bk) (a:=1) hb]
        ·have e:i=16:=oM;subst e;simp(disch:=omega)only[go_sem];refine⟨⟨fun _=>hP.1 oM,fun _=>by first | exact .inr ho | trivial⟩,qK.rd id ?_ ?_ rfl⟩;all_goals simp(disch:=omega)only[go_sem,id]
    ·have l0:=vN hv 0 s0 16;have l1:=vN hv 1 s1 16;have p0:=hP.1 oM;have p1:=hP.2 oM;have hE:qPo bk s0 s1=0:=by
      unfold qPo;rw[if_neg (by rintro (h | h);exact b0 h;exact b1 h),if_neg];rintro (⟨h1,h2⟩ | ⟨h1,h2⟩)
      ·rcases p0 with h | h
       ·exact h1 h
       ·rw[h] at h2;cases h2
      ·rcases p1 with h | h
       ·exact h1 h
       ·rw[h] at h2;cases h2
     have hv2:(zC3 bk s0 s1).length≤2048:=by unfold zC3;rw[List.length_append];omega
     have hh2:(qCv s0 s1).length=4:=by unfold qCv;rw[List.length_append,qR,qR]
     have hvs:qB1 bk 0 s0 16++qB1 bk 1 s1 16=zC3 bk s0 s1:=rfl;rw[zDp,zDo,if_pos hE,if_pos hE];have hf:(qY 5 [qCv s0 s1,zC3 bk s0 s1]).length<1000000000:=by
      simp only[qY,List.flatMap_cons,List.flatMap_nil,List.length_cons,List.length_append,List.length_nil,qAl];omega
     have hq:=zGp hf;have tv:List.take (zC3 bk s0 s1).length (zC3 bk s0 s1)=zC3 bk s0 s1:=List.take_of_length_le (Nat.le_refl _);simp(disch:=omega)only[go_sem,hvs,h3,hq,tv]
def zJ3 (bk:List qX)(u:Int):List UInt8:=UInt8.ofNat (qWy bk).toNat::beI 8 u 8
theorem qNw {bk:List qX}{u:Int}:(zJ3 bk u).length=9:=by simp[zJ3,beI]
def qEb (bk:List qX)(u:Int):List UInt8:=zJ3 bk u++bk.flatten.flatten
theorem qMt {b:qX}(h : ∀ x∈b,x.length≤64) : ∀ i,(List.take i b).flatten.length≤64*i
 | 0=>sM
 | i+1=>by
  have ih:=qMt h i;by_cases hi:i<List.length b
  ·rw[qF5 (d:=[]) hi,List.flatten_append,List.length_append];have:=qMw (n:=i) h;simp only[List.flatten_cons,List.flatten_nil,List.append_nil];omega
  ·rw[List.take_of_length_le oM,←List.take_of_length_le (l:=b) (i:=i) oM];omega
theorem zB7 {b:qX}{i:Nat}(h:i<List.length b):(List.take (i+1) b).flatten=(List.take i b).flatten++b.getD i []:=by
 rw[qF5 (d:=[]) h,List.flatten_append];simp
theorem zB8 {b:List UInt8}{n:Int}(hb:b.length<1000000000):yY.fs [.t (.sl (b.map qA)),.t (.int .i64 8),.t (.int .i64 n)] []=some (.sl 0 0 (b.length+8),[.live 1 (((b++beI 8 n 8).map qA).map V.t) true false]):=yY.eq (b,8,n) ⟨hb,by show 1≤8;omega,by show 8≤8;omega⟩
theorem zJ8 {bk:List qX}(hk:RK bk):0≤qWy bk∧qWy bk<4:=by
 rcases hk.cases with rfl | ⟨b0,b1,rfl,h0,h1⟩
 ·exact⟨by decide,by decide⟩
 ·show 0≤qZ7 b0 b1∧qZ7 b0 b1<4;unfold qZ7;split<;>split<;>decide
theorem qO1 (h1:LkC tab 106 wI)(h2:LkC tab 63 yY)(bk:List qX)(u:Int)(hv:RV bk) :
  vZ.1.wp tab gl (qE 0 [.t (jT bk u)]) (qE 0 []) (kN [] [(2,none)] 0 (fun r o=>r = .sl 0 0 (qEb bk u).length∧o=[.live 1 (((qEb bk u).map qA).map V.t) true false])):=by
 have ha:=zAc (u:=u) hv.1;have hact:=zJ8 hv.1;obtain⟨m,hm⟩:=Int.eq_ofNat_of_zero_le hact.1;have hu:=zB8 (b:=[UInt8.ofNat m]) (n:=u) sM;simp only[mcn] at hu;rw[hm] at ha;have hbk:UInt8.ofNat m::beI 8 u 8=zJ3 bk u:=by unfold zJ3;rw[hm];rfl
 rcases hv.cases with rfl | ⟨b0,b1,rfl,g0,g1,m0,m1⟩
 ·rw[List.map_nil] at ha;simp(disch:=omega)only[go_sem,vZ,h1,h2,ha,hu,List.map_nil];repeat refine And.intro rfl ?_
  refine qJ 1 ?_;simp(disch:=omega)only[go_sem,qF];have e1:qEb [] u=zJ3 [] u:=by simp[qEb]
  rw[e1];refine⟨qNw.symm,?_⟩;rw[←hbk];rfl
 ·simp only[mcn,zAg] at ha;have q0:List.length b0≤16:=by rcases g0 with h | h<;>omega
  have q1:List.length b1≤16:=by rcases g1 with h | h<;>omega
  have f0:b0.flatten.length≤1024:=by have:=qMt m0 16;rw[List.take_of_length_le q0] at this;omega
  have f1:b1.flatten.length≤1024:=by have:=qMt m1 16;rw[List.take_of_length_le q1] at this;omega
  have hl9:=qNw (bk:=[b0,b1]) (u:=u);generalize hH:zJ3 [b0,b1] u=H at *;simp(disch:=omega)only[go_sem,vZ,h1,h2,ha,hu,mcn];repeat refine And.intro rfl ?_
  refine qB 2 (fun k=>match k with | 0=>[(1,.ref 4096 0 0),(3,.sl 9100 0 (List.length (H))),(16,.t (.int .i64 2)),(17,.t (.int .i64 0))] | 1=>[(1,.ref 4096 0 0),(3,.sl 9100 0 (List.length (H++b0.flatten))),(16,.t (.int .i64 2)),(17,.t (.int .i64 1))] | _=>[(1,.ref 4096 0 0),(3,.sl 9100 0 (List.length (H++b0.flatten++b1.flatten))),(16,.t (.int .i64 2)),(17,.t (.int .i64 2))]) (fun k=>match k with | 0=>[(9100,.live 1 (((H).map qA).map V.t) true false),(4096,.live 2 [.t (jT [b0,b1] u)] true true)] | 1=>[(9100,.live 1 (((H++b0.flatten).map qA).map V.t) true false),(4096,.live 2 [.t (jT [b0,b1] u)] true true)] | _=>[(9100,.live 1 (((H++b0.flatten++b1.flatten).map qA).map V.t) true false),(4096,.live 2 [.t (jT [b0,b1] u)] true true)]) ?_ (fun k hk=>?_)
  ·refine qK.rd (fun j=>if j=9100 then 8288 else j) ?_ ?_ rfl;all_goals simp(disch:=omega)only[go_sem,mcn]
   ·exact hl9.symm
   ·rw[←hbk];rfl
  ·rcases (show k=0∨k=1∨k=2 by omega) with rfl | rfl | rfl
   ·simp(disch:=omega)only[go_sem,mcn];refine qB (List.length b0) (fun i=>[(1,.ref 4096 0 0),(3,.sl 9100 0 (List.length (H++(List.take i b0).flatten))),(16,.t (.int .i64 2)),(17,.t (.int .i64 0)),(24,.t (.sl (b0.map bsT))),(25,.t (.int .i64 (List.length b0))),(26,.t (.int .i64 (i:Nat)))]) (fun i=>[(9100,.live 1 (((H++(List.take i b0).flatten).map qA).map V.t) true false),(4096,.live 2 [.t (jT [b0,b1] u)] true true)]) ?_ (fun i hi=>?_)
    ·refine qK.rd id ?_ ?_ rfl;all_goals simp(disch:=omega)only[go_sem,id,List.take_zero,List.flatten_nil,List.append_nil,mcn]
    ·have hfl:=qMt m0 i;by_cases hlt:i<List.length b0
     ·have hg:=qMw (n:=i) m0;have hts:=zB7 (b:=b0) hlt;simp(disch:=omega)only[go_sem,mcn];refine⟨hlt,qK.rd (fun j=>if j=9100 then 36896 else j) ?_ ?_ rfl⟩;all_goals simp(disch:=omega)only[go_sem,hts,List.append_assoc]
      all_goals try omega
     ·have e:i=List.length b0:=oM;subst e;simp(disch:=omega)only[go_sem,mcn,List.take_length];refine qK.rd id ?_ ?_ rfl;all_goals simp(disch:=omega)only[go_sem,id,List.take_length]
   ·simp(disch:=omega)only[go_sem,mcn];refine qB (List.length b1) (fun i=>[(1,.ref 4096 0 0),(3,.sl 9100 0 (List.length (H++b0.flatten++(List.take i b1).flatten))),(16,.t (.int .i64 2)),(17,.t (.int .i64 1)),(24,.t (.sl (b1.map bsT))),(25,.t (.int .i64 (List.length b1))),(26,.t (.int .i64 (i:Nat)))]) (fun i=>[(9100,.live 1 (((H++b0.flatten++(List.take i b1).flatten).map qA).map V.t) true false),(4096,.live 2 [.t (jT [b0,b1] u)] true true)]) ?_ (fun i hi=>?_)
    ·refine qK.rd id ?_ ?_ rfl;all_goals simp(disch:=omega)only[go_sem,id,List.take_zero,List.flatten_nil,List.append_nil,mcn]
    ·have hfl:=qMt m1 i;by_cases hlt:i<List.length b1
     ·have hg:=qMw (n:=i) m1;have hts:=zB7 (b:=b1) hlt;simp(disch:=omega)only[go_sem,mcn];refine⟨hlt,qK.rd (fun j=>if j=9100 then 36896 else j) ?_ ?_ rfl⟩;all_goals simp(disch:=omega)only[go_sem,hts,List.append_assoc]
      all_goals try omega
     ·have e:i=List.length b1:=oM;subst e;simp(disch:=omega)only[go_sem,mcn,List.take_length];refine qK.rd id ?_ ?_ rfl;all_goals simp(disch:=omega)only[go_sem,id,List.take_length]
   ·simp(disch:=omega)only[go_sem,mcn];have e1:qEb [b0,b1] u=H++List.flatten b0++List.flatten b1:=by rw[qEb,hH];simp
    rw[e1,List.length_append,List.length_append];exact⟨rfl,rfl⟩
abbrev rdO (s:Rd):Ob:= .live 3 [.t (.agg [.sl (s.1.map qA),.int .i64 (s.2.1:Int),.int .i64 s.2.2])] true true
def qFa:Ct where
 α:=List UInt8
 aS x:=[.t (.sl (x.map qA))]
 ins _:=[]
 pre x:=x.length<1000000000
 r _:= .ref 0 0 0
 outs x:=[kH (x,0,0)]
 inj:=by
  intro a b h _;simp only[List.cons.injEq,V.t.injEq,T.sl.injEq,and_true,jC] at h;subst h;exact⟨rfl,rfl⟩
theorem qJr {b:List UInt8}(h:b.length<1000000000):qFa.fs [.t (.sl (b.map qA))] []=some (.ref 0 0 0,[rdO (b,0,0)]):=qFa.eq b h
def qE9:Ct where
 α:=Rd×Nat
 aS x:=[.ref 0 0 0,.t (.int .i64 x.2)]
 ins x:=[kH x.1]
 pre x:=qD2 x.1∧1≤x.2∧x.2≤8
 r x:= .t (.int .i64 (qQ x.1 x.2).1)
 outs x:=[kH (qQ x.1 x.2).2]
 inj:=by
  rintro⟨s,a⟩ ⟨t,c⟩ h1 h2;simp only[List.cons.injEq,V.t.injEq,T.int.injEq,true_and,and_true,Int.natCast_inj] at h1;simp only[List.cons.injEq,and_true] at h2;subst h1;cases qCy h2;exact⟨rfl,rfl⟩
theorem vU {s:Rd}{k:Nat}(h:qD2 s∧1≤k∧k≤8):qE9.fs [.ref 0 0 0,.t (.int .i64 k)] [rdO s]=some (.t (.int .i64 (qQ s k).1),[rdO (qQ s k).2]):=qE9.eq (s,k) h
def qTj:Ct where
 α:=Rd×Nat
 aS x:=[.ref 0 0 0,.t (.int .i64 x.2)]
 ins x:=[kH x.1]
 pre x:=qD2 x.1∧x.2≤1000000000
 r x:= .t (.sl ((qBt x.1 x.2).1.map qA))
 outs x:=[kH (qBt x.1 x.2).2]
 inj:=by
  rintro⟨s,a⟩ ⟨t,c⟩ h1 h2;simp only[List.cons.injEq,V.t.injEq,T.int.injEq,true_and,and_true,Int.natCast_inj] at h1;simp only[List.cons.injEq,and_true] at h2;subst h1;cases qCy h2;exact⟨rfl,rfl⟩
theorem qJs {s:Rd}{k:Nat}(h:qD2 s∧k≤1000000000):qTj.fs [.ref 0 0 0,.t (.int .i64 k)] [rdO s]=some (.t (.sl ((qBt s k).1.map qA)),[rdO (qBt s k).2]):=qTj.eq (s,k) h
def qPk:Ct where
 α:=Rd
 aS _:=[.ref 0 0 0]
 ins x:=[kH x]
 pre x:=qD2 x
 r x:= .t (.int .i64 x.2.2)
 outs x:=[kH x]
 inj:=by
  intro s t _ h2;simp only[List.cons.injEq,and_true] at h2;cases qCy h2;exact⟨rfl,rfl⟩
theorem qUc {s:Rd}(h:qD2 s):qPk.fs [.ref 0 0 0] [rdO s]=some (.t (.int .i64 s.2.2),[rdO s]):=qPk.eq s h
def qIe:Ct where
 α:=Rd
 aS _:=[.ref 0 0 0]
 ins x:=[kH x]
 pre x:=qD2 x
 r x:= .t (.int .i64 (xO x))
 outs x:=[kH x]
 inj:=by
  intro s t _ h2;simp only[List.cons.injEq,and_true] at h2;cases qCy h2;exact⟨rfl,rfl⟩
theorem qP5 {s:Rd}(h:qD2 s):qIe.fs [.ref 0 0 0] [rdO s]=some (.t (.int .i64 (xO s)),[rdO s]):=qIe.eq s h
theorem zBp {s:Rd}{k:Nat}(h:qD2 s):qD2 (qQ s k).2:=by
 unfold qQ qD2 at *;split
 ·exact h
 ·split
  ·exact h
  ·split
   ·exact h
   ·exact⟨by simp only;omega,h.2⟩
theorem zSv {s:Rd}{k:Nat}(h:qD2 s):qD2 (qBt s k).2:=by
 unfold qBt qD2 at *;split
 ·exact h
 ·split
  ·exact h
  ·exact⟨by simp only;omega,h.2⟩
theorem zSu {s:Rd}{k:Nat}:(qBt s k).1.length≤k:=by
 unfold qBt;split
 ·simp
 ·split
  ·simp
  ·simp only[List.length_take];omega
def jH (s:Rd)(z:Nat):Nat→List (List UInt8)×Rd
 | 0=>([],s)
 | n+1=>((jH s z n).1++[(qBt (jH s z n).2 z).1],(qBt (jH s z n).2 z).2)
theorem qDt {s:Rd}{z:Nat}(h:qD2 s) : ∀ n,qD2 (jH s z n).2
 | 0=>h
 | n+1=>zSv (qDt h n)
theorem jZ {s:Rd}{z:Nat} : ∀ n,(jH s z n).1.length=n
 | 0=>rfl
 | n+1=>by simp[jH,jZ n]
theorem zIj (s:Int):(yK s=[]∧kM.fs [.t (.int .i64 s)] []=some (.agg [.nil,.t (.int .i64 0)],[])) ∨ ∃ b0 b1:qX,yK s=[b0,b1]∧qVm b0∧qVm b1∧kM.fs [.t (.int .i64 s)] []=some (.agg [.sl 0 0 2,.t (.int .i64 0)],[.live 1 [.sl 1 0 b0.length,.sl 2 0 b1.length] true false,.live 1 ((b0.map bsT).map V.t) true false,.live 1 ((b1.map bsT).map V.t) true false]):=by
 have h:=kM.eq s trivial;rcases (zG2 (s:=s)).cases with e | ⟨b0,b1,e,h0,h1,_,_⟩
 ·refine .inl ⟨e,h.trans ?_⟩;show some (twR (yK s) 0,twO (yK s))=_;rw[e];rfl
 ·refine .inr ⟨b0,b1,e,h0,h1,h.trans ?_⟩;show some (twR (yK s) 0,twO (yK s))=_;rw[e];rfl
def zGh (bk:List qX)(s:Rd):List qX×Rd:=match bk with
 | [b0,b1]=>([(jH s 20 (List.length b0)).1,(jH (jH s 20 (List.length b0)).2 32 (List.length b1)).1],(jH (jH s 20 (List.length b0)).2 32 (List.length b1)).2)
 | _=>([],s)
def qPn (s:Rd):Int:=(qQ s 1).1
def dcU (s:Rd):Int:=(qQ (qQ s 1).2 8).1
def dcB (s:Rd):List qX×Rd:=zGh (yK (qPn s)) (qQ (qQ s 1).2 8).2
def dcR (b:List UInt8):V:=
 let s:Rd:=(b,0,0)
 if (qQ s 1).2.2.2=0∧4≤qPn s then .tup [.t (jT [] 0),.t (.int .i64 1)]
 else if xO (dcB s).2≠0 then .tup [.t (jT [] 0),.t (.int .i64 (xO (dcB s).2))]
 else .tup [.t (jT (dcB s).1 (dcU s)),.t (.int .i64 0)]
theorem qSk {s:Rd}{z i:Nat}{c:List (List UInt8)}(h:i<List.length c):((jH s z i).1++List.drop i c).set i (qBt (jH s z i).2 z).1=(jH s z (i+1)).1++List.drop (i+1) c:=by
 rw[List.set_append_right _ _ (by rw[jZ];exact Nat.le_refl _),jZ,Nat.sub_self];have e:List.drop i c=c[i]::List.drop (i+1) c:=List.drop_eq_getElem_cons h;rw[e,List.set_cons_zero];simp[jH]
theorem zGg {b:List UInt8}{bk:List qX}{s:Rd}{u:Int}(h : ¬ ((qQ (b,0,0) 1).2.2.2=0∧4≤qPn (b,0,0)))(hB:dcB (b,0,0)=(bk,s))(hU:dcU (b,0,0)=u):dcR b=if xO s≠0 then .tup [.t (jT [] 0),.t (.int .i64 (xO s))] else .tup [.t (jT bk u),.t (.int .i64 0)]:=by
 unfold dcR;simp only[hB,hU];rw[if_neg h]
theorem qOz (h1:LkC tab 82 qFa)(h2:LkC tab 109 qE9)(h3:LkC tab 110 qPk)(h4:LkC tab 130 kM)(h5:LkC tab 131 kQ)(h6:LkC tab 108 qTj)(h7:LkC tab 90 qIe)(b:List UInt8)(hb:b.length<1000000000) :
  zO.1.wp tab gl (qE 0 [.t (.sl (b.map qA))]) (qE 0 []) (zA [(2,some (2,true)),(3,none)] 0 (fun r o=>r=dcR b∧o=[])):=by
 have ok0:qD2 (b,0,0):=⟨Nat.zero_le _,hb⟩;have hN:=qJr hb;obtain⟨⟨set,b1,a1,e1⟩,hU1⟩ : ∃ x,qQ (b,0,0) 1=x:=⟨_,rfl⟩;have hI1:=vU (k:=1) ⟨ok0,oM,oM⟩;have ok1:qD2 (b1,a1,e1):=by have:=zBp (k:=1) ok0;rw[hU1] at this;exact this
 rw[hU1] at hI1;have hE1:=qUc ok1;simp only[rdO,Int.natCast_zero,Int.natCast_one] at hN hI1 hE1;by_cases hbad:e1=0∧4≤set
 ·have hr:dcR b = .tup [.t (jT [] 0),.t (.int .i64 1)]:=by
   unfold dcR qPn;simp only[hU1];rw[if_pos hbad]
  rw[hr];obtain⟨rfl,hset⟩:=hbad;simp(disch:=omega)only[go_sem,zO,h1,h2,h3,hN,hI1,hE1,hset,List.map_nil]
 ·have hbad' : ¬ ((qQ (b,0,0) 1).2.2.2=0∧4≤qPn (b,0,0)):=by unfold qPn;simp only[hU1];exact hbad
  have hgo:(e1==0)=false∨((e1==0)=true∧set<4):=by
   by_cases h:e1=0
   ·exact .inr ⟨by simpa using h,oM⟩
   ·exact .inl (by simpa using h)
  obtain⟨⟨u,b2,a2,e2⟩,hU2⟩ : ∃ x,qQ (b1,a1,e1) 8=x:=⟨_,rfl⟩;have hI2:=vU (k:=8) ⟨ok1,oM,oM⟩;have ok2:qD2 (b2,a2,e2):=by have:=zBp (k:=8) ok1;rw[hU2] at this;exact this
  rw[hU2] at hI2;have k8:((8:Nat):Int)=8:=rfl;simp only[rdO,k8] at hI2;rcases zIj set with⟨en,hn⟩ | ⟨c0,c1,en,g0,g1,hn⟩
  ·have hB:dcB (b,0,0)=([],(b2,a2,e2)):=by
    unfold dcB qPn;simp only[hU1,hU2,en];rfl
   have hU:dcU (b,0,0)=u:=by unfold dcU;simp only[hU1,hU2]
   have hr:=zGg (b:=b) hbad' hB hU;have hend:=qP5 ok2;simp only[rdO] at hend;rw[hr];by_cases hz:xO (b2,a2,e2)=0
   ·rw[if_neg (by simp[hz])];rw[hz] at hend;rcases hgo with hgo | ⟨hgo,hlt⟩
    ·simp(disch:=omega)only[go_sem,zO,h1,h2,h3,h4,hN,hI1,hE1,hgo,hn,hI2,List.map_nil];refine qJ 1 ?_;simp(disch:=omega)only[go_sem,qF,h7,hend,List.map_nil]
    ·simp(disch:=omega)only[go_sem,zO,h1,h2,h3,h4,hN,hI1,hE1,hgo,hlt,hn,hI2,List.map_nil];refine qJ 1 ?_;simp(disch:=omega)only[go_sem,qF,h7,hend,List.map_nil]
   ·rw[if_pos hz];have hz2:(xO (b2,a2,e2)==0)=false:=by simpa using hz
    rcases hgo with hgo | ⟨hgo,hlt⟩
    ·simp(disch:=omega)only[go_sem,zO,h1,h2,h3,h4,hN,hI1,hE1,hgo,hn,hI2,List.map_nil];refine qJ 1 ?_;simp(disch:=omega)only[go_sem,qF,h7,hend,hz2,List.map_nil]
    ·simp(disch:=omega)only[go_sem,zO,h1,h2,h3,h4,hN,hI1,hE1,hgo,hlt,hn,hI2,List.map_nil];refine qJ 1 ?_;simp(disch:=omega)only[go_sem,qF,h7,hend,hz2,List.map_nil]
  ·have q0:List.length c0≤16:=by rcases g0 with h | h<;>omega
   have q1:List.length c1≤16:=by rcases g1 with h | h<;>omega
   obtain⟨⟨B0,S1⟩,hS1⟩ : ∃ x,jH (b2,a2,e2) 20 (List.length c0)=x:=⟨_,rfl⟩;have okS1:qD2 S1:=by have:=qDt (z:=20) ok2 (List.length c0);rw[hS1] at this;exact this
   have lB0:List.length B0=List.length c0:=by have:=jZ (s:=(b2,a2,e2)) (z:=20) (List.length c0);rw[hS1] at this;exact this
   obtain⟨⟨B1,S2⟩,hS2⟩ : ∃ x,jH S1 32 (List.length c1)=x:=⟨_,rfl⟩;have okS2:qD2 S2:=by have:=qDt (z:=32) okS1 (List.length c1);rw[hS2] at this;exact this
   have lB1:List.length B1=List.length c1:=by have:=jZ (s:=S1) (z:=32) (List.length c1);rw[hS2] at this;exact this
   have hB:dcB (b,0,0)=([B0,B1],S2):=by
    unfold dcB qPn;simp only[hU1,hU2,en,zGh,hS1,hS2]
   have hU:dcU (b,0,0)=u:=by unfold dcU;simp only[hU1,hU2]
   have hr:=zGg (b:=b) hbad' hB hU;have hend:=qP5 okS2;rw[hr];rcases hgo with hgo | ⟨hgo,hlt⟩;all_goals first | simp(disch:=omega)only[go_sem,zO,h1,h2,h3,h4,hN,hI1,hE1,hgo,hlt,hn,hI2,List.map_nil] | simp(disch:=omega)only[go_sem,zO,h1,h2,h3,h4,hN,hI1,hE1,hgo,hn,hI2,List.map_nil]
   all_goals refine qB 2 (fun k=>match k with | 0=>[(2,.ref 4096 0 0),(4,.ref 8208 0 0),(6,.ref 24608 0 0),(29,.t (.int .i64 2)),(30,.t (.int .i64 0))] | 1=>[(2,.ref 4096 0 0),(4,.ref 8208 0 0),(6,.ref 24608 0 0),(29,.t (.int .i64 2)),(30,.t (.int .i64 1))] | _=>[(2,.ref 4096 0 0),(4,.ref 8208 0 0),(6,.ref 24608 0 0),(29,.t (.int .i64 2)),(30,.t (.int .i64 2))]) (fun k=>match k with | 0=>[(24608,.live 2 [.agg [.sl 24592 0 2,.t (.int .i64 u)]] true true),(24592,.live 1 [.sl 24593 0 (List.length c0),.sl 24594 0 (List.length c1)] true false),(24593,.live 1 ((c0.map bsT).map V.t) true false),(24594,.live 1 ((c1.map bsT).map V.t) true false),(8208,rdO (b2,a2,e2)),(4096,.live 2 [.agg [.nil,.t (.int .i64 0)]] true true)] | 1=>[(24608,.live 2 [.agg [.sl 24592 0 2,.t (.int .i64 u)]] true true),(24592,.live 1 [.sl 24593 0 (List.length c0),.sl 24594 0 (List.length c1)] true false),(24593,.live 1 ((B0.map bsT).map V.t) true false),(24594,.live 1 ((c1.map bsT).map V.t) true false),(8208,rdO S1),(4096,.live 2 [.agg [.nil,.t (.int .i64 0)]] true true)] | _=>[(24608,.live 2 [.agg [.sl 24592 0 2,.t (.int .i64 u)]] true true),(24592,.live 1 [.sl 24593 0 (List.length c0),.sl 24594 0 (List.length c1)] true false),(24593,.live 1 ((B0.map bsT).map V.t) true false),(24594,.live 1 ((B1.map bsT).map V.t) true false),(8208,rdO S2),(4096,.live 2 [.agg [.nil,.t (.int .i64 0)]] true true)]) ?_ (fun k hk=>?_)
   all_goals first
    | (refine qK.rd id ?_ ?_ rfl;all_goals simp(disch:=omega)only[go_sem,id,rdO])
    | skip
   all_goals rcases (show k=0∨k=1∨k=2 by omega) with rfl | rfl | rfl
   ·simp(disch:=omega)only[go_sem,List.map_nil,lB0];refine qB (List.length c0) (fun i=>[(2,.ref 4096 0 0),(4,.ref 8208 0 0),(6,.ref 24608 0 0),(7,.t (.int .i64 0)),(29,.t (.int .i64 2)),(30,.t (.int .i64 0)),(38,.t (.int .i64 (List.length c0))),(39,.t (.int .i64 (i:Nat)))]) (fun i=>[(24608,.live 2 [.agg [.sl 24592 0 2,.t (.int .i64 u)]] true true),(24592,.live 1 [.sl 24593 0 (List.length c0),.sl 24594 0 (List.length c1)] true false),(24593,.live 1 ((((jH (b2,a2,e2) 20 i).1++List.drop i c0).map bsT).map V.t) true false),(24594,.live 1 ((c1.map bsT).map V.t) true false),(8208,rdO (jH (b2,a2,e2) 20 i).2),(4096,.live 2 [.agg [.nil,.t (.int .i64 0)]] true true)]) ?_ (fun i hi=>?_)
    ·refine qK.rd id ?_ ?_ rfl;all_goals simp(disch:=omega)only[go_sem,id,rdO,jH,List.drop_zero,List.nil_append]
    ·have oki:=qDt (z:=20) ok2 i;have hln:=jZ (s:=(b2,a2,e2)) (z:=20) i;by_cases hlt2:i<List.length c0
     ·have hraw:=qJs (k:=20) ⟨oki,oM⟩;have hset:=qSk (s:=(b2,a2,e2)) (z:=20) hlt2;have hstep:(jH (b2,a2,e2) 20 (i+1)).2=(qBt (jH (b2,a2,e2) 20 i).2 20).2:=rfl;have kz:((20:Nat):Int)=20:=rfl;have hl1:=jZ (s:=(b2,a2,e2)) (z:=20) (i+1);simp only[rdO,kz] at hraw;simp(maxSteps:=9^9)(disch:=try exact dS)only[go_sem,rdO,h5,qO,h6,hraw,hset,hln,hl1,lB0];refine⟨rfl,hlt2,qK.rd id ?_ ?_ rfl⟩;all_goals simp(disch:=omega)only[go_sem,id,rdO,hstep]
     ·have e:i=List.length c0:=oM;subst e;simp(disch:=omega)only[go_sem,rdO,hS1,List.drop_length,List.append_nil];refine qK.rd id ?_ ?_ rfl;all_goals simp(disch:=omega)only[go_sem,id,rdO,hS1,List.drop_length,List.append_nil,lB0]
   ·simp(disch:=omega)only[go_sem,List.map_nil,lB0];refine qB (List.length c1) (fun i=>[(2,.ref 4096 0 0),(4,.ref 8208 0 0),(6,.ref 24608 0 0),(7,.t (.int .i64 1)),(29,.t (.int .i64 2)),(30,.t (.int .i64 1)),(38,.t (.int .i64 (List.length c1))),(39,.t (.int .i64 (i:Nat)))]) (fun i=>[(24608,.live 2 [.agg [.sl 24592 0 2,.t (.int .i64 u)]] true true),(24592,.live 1 [.sl 24593 0 (List.length c0),.sl 24594 0 (List.length c1)] true false),(24593,.live 1 ((B0.map bsT).map V.t) true false),(24594,.live 1 ((((jH S1 32 i).1++List.drop i c1).map bsT).map V.t) true false),(8208,rdO (jH S1 32 i).2),(4096,.live 2 [.agg [.nil,.t (.int .i64 0)]] true true)]) ?_ (fun i hi=>?_)
    ·refine qK.rd id ?_ ?_ rfl;all_goals simp(disch:=omega)only[go_sem,id,rdO,jH,List.drop_zero,List.nil_append]
    ·have oki:=qDt (z:=32) okS1 i;have hln:=jZ (s:=S1) (z:=32) i;by_cases hlt2:i<List.length c1
     ·have hraw:=qJs (k:=32) ⟨oki,oM⟩;have hset:=qSk (s:=S1) (z:=32) hlt2;have hstep:(jH S1 32 (i+1)).2=(qBt (jH S1 32 i).2 32).2:=rfl;have kz:((32:Nat):Int)=32:=rfl;have hl1:=jZ (s:=S1) (z:=32) (i+1);simp only[rdO,kz] at hraw;simp(maxSteps:=9^9)(disch:=try exact dS)only[go_sem,rdO,h5,qP,h6,hraw,hset,hln,hl1,lB0];refine⟨rfl,hlt2,qK.rd id ?_ ?_ rfl⟩;all_goals simp(disch:=omega)only[go_sem,id,rdO,hstep]
     ·have e:i=List.length c1:=oM;subst e;simp(disch:=omega)only[go_sem,rdO,hS2,List.drop_length,List.append_nil];refine qK.rd id ?_ ?_ rfl;all_goals simp(disch:=omega)only[go_sem,id,rdO,hS2,List.drop_length,List.append_nil,lB0,lB1]
   ·simp only[rdO] at hend;have tB0:List.take (List.length c0) B0=B0:=List.take_of_length_le oM;have tB1:List.take (List.length c1) B1=B1:=List.take_of_length_le oM;by_cases hz:xO S2=0
    ·rw[if_neg (by simp[hz])];rw[hz] at hend;simp(disch:=omega)only[go_sem,rdO,h7,hend,mcn,lB0,lB1,tB0,tB1]
    ·rw[if_pos hz];have hz2:(xO S2==0)=false:=by simpa using hz
     simp(disch:=omega)only[go_sem,rdO,h7,hend,hz2,List.map_nil,lB0,lB1,tB0,tB1]
   ·simp(disch:=omega)only[go_sem,List.map_nil,lB0];refine qB (List.length c0) (fun i=>[(2,.ref 4096 0 0),(4,.ref 8208 0 0),(6,.ref 24608 0 0),(7,.t (.int .i64 0)),(29,.t (.int .i64 2)),(30,.t (.int .i64 0)),(38,.t (.int .i64 (List.length c0))),(39,.t (.int .i64 (i:Nat)))]) (fun i=>[(24608,.live 2 [.agg [.sl 24592 0 2,.t (.int .i64 u)]] true true),(24592,.live 1 [.sl 24593 0 (List.length c0),.sl 24594 0 (List.length c1)] true false),(24593,.live 1 ((((jH (b2,a2,e2) 20 i).1++List.drop i c0).map bsT).map V.t) true false),(24594,.live 1 ((c1.map bsT).map V.t) true false),(8208,rdO (jH (b2,a2,e2) 20 i).2),(4096,.live 2 [.agg [.nil,.t (.int .i64 0)]] true true)]) ?_ (fun i hi=>?_)
    ·refine qK.rd id ?_ ?_ rfl;all_goals simp(disch:=omega)only[go_sem,id,rdO,jH,List.drop_zero,List.nil_append]
    ·have oki:=qDt (z:=20) ok2 i;have hln:=jZ (s:=(b2,a2,e2)) (z:=20) i;by_cases hlt2:i<List.length c0
     ·have hraw:=qJs (k:=20) ⟨oki,oM⟩;have hset:=qSk (s:=(b2,a2,e2)) (z:=20) hlt2;have hstep:(jH (b2,a2,e2) 20 (i+1)).2=(qBt (jH (b2,a2,e2) 20 i).2 20).2:=rfl;have kz:((20:Nat):Int)=20:=rfl;have hl1:=jZ (s:=(b2,a2,e2)) (z:=20) (i+1);simp only[rdO,kz] at hraw;simp(maxSteps:=9^9)(disch:=try exact dS)only[go_sem,rdO,h5,qO,h6,hraw,hset,hln,hl1,lB0];refine⟨rfl,hlt2,qK.rd id ?_ ?_ rfl⟩;all_goals simp(disch:=omega)only[go_sem,id,rdO,hstep]
     ·have e:i=List.length c0:=oM;subst e;simp(disch:=omega)only[go_sem,rdO,hS1,List.drop_length,List.append_nil];refine qK.rd id ?_ ?_ rfl;all_goals simp(disch:=omega)only[go_sem,id,rdO,hS1,List.drop_length,List.append_nil,lB0]
   ·simp(disch:=omega)only[go_sem,List.map_nil,lB0];refine qB (List.length c1) (fun i=>[(2,.ref 4096 0 0),(4,.ref 8208 0 0),(6,.ref 24608 0 0),(7,.t (.int .i64 1)),(29,.t (.int .i64 2)),(30,.t (.int .i64 1)),(38,.t (.int .i64 (List.length c1))),(39,.t (.int .i64 (i:Nat)))]) (fun i=>[(24608,.live 2 [.agg [.sl 24592 0 2,.t (.int .i64 u)]] true true),(24592,.live 1 [.sl 24593 0 (List.length c0),.sl 24594 0 (List.length c1)] true false),(24593,.live 1 ((B0.map bsT).map V.t) true false),(24594,.live 1 ((((jH S1 32 i).1++List.drop i c1).map bsT).map V.t) true false),(8208,rdO (jH S1 32 i).2),(4096,.live 2 [.agg [.nil,.t (.int .i64 0)]] true true)]) ?_ (fun i hi=>?_)
    ·refine qK.rd id ?_ ?_ rfl;all_goals simp(disch:=omega)only[go_sem,id,rdO,jH,List.drop_zero,List.nil_append]
    ·have oki:=qDt (z:=32) okS1 i;have hln:=jZ (s:=S1) (z:=32) i;by_cases hlt2:i<List.length c1
     ·have hraw:=qJs (k:=32) ⟨oki,oM⟩;have hset:=qSk (s:=S1) (z:=32) hlt2;have hstep:(jH S1 32 (i+1)).2=(qBt (jH S1 32 i).2 32).2:=rfl;have kz:((32:Nat):Int)=32:=rfl;have hl1:=jZ (s:=S1) (z:=32) (i+1);simp only[rdO,kz] at hraw;simp(maxSteps:=9^9)(disch:=try exact dS)only[go_sem,rdO,h5,qP,h6,hraw,hset,hln,hl1,lB0];refine⟨rfl,hlt2,qK.rd id ?_ ?_ rfl⟩;all_goals simp(disch:=omega)only[go_sem,id,rdO,hstep]
     ·have e:i=List.length c1:=oM;subst e;simp(disch:=omega)only[go_sem,rdO,hS2,List.drop_length,List.append_nil];refine qK.rd id ?_ ?_ rfl;all_goals simp(disch:=omega)only[go_sem,id,rdO,hS2,List.drop_length,List.append_nil,lB0,lB1]
   ·simp only[rdO] at hend;have tB0:List.take (List.length c0) B0=B0:=List.take_of_length_le oM;have tB1:List.take (List.length c1) B1=B1:=List.take_of_length_le oM;by_cases hz:xO S2=0
    ·rw[if_neg (by simp[hz])];rw[hz] at hend;simp(disch:=omega)only[go_sem,rdO,h7,hend,mcn,lB0,lB1,tB0,tB1]
    ·rw[if_pos hz];have hz2:(xO S2==0)=false:=by simpa using hz
     simp(disch:=omega)only[go_sem,rdO,h7,hend,hz2,List.map_nil,lB0,lB1,tB0,tB1]
def jLs (s:Rd):Prop:=(qQ s 1).2.2.2=0∧4≤qPn s
instance {s:Rd}:Decidable (jLs s):=inferInstanceAs (Decidable (_∧_))
theorem zNm {b0 b1:qX}{i:Nat}:zIr [b0,b1] i=[qVx 0 b0 i,qVx 1 b1 i]:=rfl
def zU8 (bk:List qX)(a:Nat):Nat:=(bk.getD a []).length
def RZ (bk:List qX):Prop := ∀ a,a<2 → ∀ x∈bk.getD a [],x.length=szA a
theorem zEl {b:qX}{i z:Nat}{y:List UInt8}(h : ∀ x∈b,x.length=z)(hy:y.length=z) : ∀ x∈b.set i y,x.length=z:=by
 intro x hx;rcases List.mem_or_eq_of_mem_set hx with h1 | rfl
 ·exact h x h1
 ·exact hy
theorem jA5 {y:List UInt8}{b:qX}{z:Nat}(hy:y.length=z)(h : ∀ x∈b,x.length=z) : ∀ k,∀ x∈stN y b k,x.length=z
 | 0=>h
 | k+1=>zEl (jA5 hy h k) hy
theorem RZ.two {b0 b1:qX}(h0 : ∀ x∈b0,x.length=20)(h1 : ∀ x∈b1,x.length=32):RZ [b0,b1]:=by
 intro a ha
 match a,ha with
 | 0,_=>exact h0
 | 1,_=>exact h1
theorem RZ.nil:RZ []:=by
 intro a ha x hx;simp at hx
theorem RZ.ext {bk:List qX}{i:Nat}{ds:List (List UInt8)}(hv:RV bk)(h:RZ bk):RZ (qRg bk i ds):=by
 rcases hv.1.cases with rfl | ⟨b0,b1,rfl,g0,g1⟩
 ·exact RZ.nil
 ·rw[zAx];refine RZ.two ?_ ?_
  ·unfold qBz;split
   ·exact zEl (h 0 oM) (qHa (a:=0))
   ·exact h 0 oM
  ·unfold qBz;split
   ·exact zEl (h 1 oM) (qHa (a:=1))
   ·exact h 1 oM
theorem RZ.rst {bk:List qX}{i:Nat}(hv:RV bk)(h:RZ bk):RZ (zIr bk i):=by
 rcases hv.1.cases with rfl | ⟨b0,b1,rfl,g0,g1⟩
 ·exact RZ.nil
 ·rw[zNm];refine RZ.two ?_ ?_
  ·unfold qVx;split
   ·exact zEl (h 0 oM) List.length_replicate
   ·exact h 0 oM
  ·unfold qVx;split
   ·exact zEl (h 1 oM) List.length_replicate
   ·exact h 1 oM
theorem RZ.res {bk:List qX}(hv:RV bk)(h:RZ bk):RZ (zEd bk):=by
 rcases hv.1.cases with rfl | ⟨b0,b1,rfl,g0,g1⟩
 ·exact RZ.nil
 ·exact RZ.two (jA5 List.length_replicate (h 0 oM) 4) (jA5 List.length_replicate (h 1 oM) 4)
theorem zG1 {a:Nat} : ∀ x∈qAw a,x.length=szA a:=by
 intro x hx;unfold qAw at hx;obtain⟨i,_,rfl⟩:=List.mem_map.1 hx;exact List.length_replicate
theorem RZ.new {s:Int}:RZ (yK s):=by
 unfold yK;split
 ·exact RZ.nil
 ·refine RZ.two ?_ ?_
  ·split
   ·exact zG1 (a:=0)
   ·intro x hx;simp at hx
  ·split
   ·exact zG1 (a:=1)
   ·intro x hx;simp at hx
def Shp (s:Int)(bk:List qX):Prop:=bk.length=(yK s).length∧zU8 bk=zU8 (yK s)∧RZ bk
theorem zOd {s:Int}{bk:List qX}(hv:RV bk)(h:Shp s bk):(bk=[]∧yK (qWy bk)=[]) ∨ ∃ b0 b1 c0 c1:qX,bk=[b0,b1]∧yK (qWy bk)=[c0,c1]∧List.length c0=List.length b0∧List.length c1=List.length b1:=by
 obtain⟨hl,hb,_⟩:=h;rcases hv.1.cases with rfl | ⟨b0,b1,rfl,g0,g1⟩
 ·exact .inl ⟨rfl,rfl⟩
 ·refine .inr ?_;have hs : ¬ s%4=0:=by
   intro e;unfold yK at hl;rw[if_pos e] at hl;simp at hl
  rw[qCx hs] at hb;have e0:List.length b0=List.length (if s%2=1 then qAw 0 else []):=congrFun hb 0;have e1:List.length b1=List.length (if s/2%2=1 then qAw 1 else []):=congrFun hb 1;have n0:=qI (a:=0);have n1:=qI (a:=1);by_cases q0:s%2=1<;>by_cases q1:s/2%2=1
  ·rw[if_pos q0,n0] at e0;rw[if_pos q1,n1] at e1;have ea:qWy [b0,b1]=3:=by show qZ7 b0 b1=3;unfold qZ7;rw[if_pos e0,if_pos e1];rfl
   exact⟨b0,b1,qAw 0,qAw 1,rfl,by rw[ea];rfl,by rw[n0,e0],by rw[n1,e1]⟩
  ·rw[if_pos q0,n0] at e0;rw[if_neg q1] at e1;have ea:qWy [b0,b1]=1:=by show qZ7 b0 b1=1;unfold qZ7;rw[if_pos e0,if_neg (by rw[e1];decide)];rfl
   exact⟨b0,b1,qAw 0,[],rfl,by rw[ea];rfl,by rw[n0,e0],by rw[e1]⟩
  ·rw[if_neg q0] at e0;rw[if_pos q1,n1] at e1;have ea:qWy [b0,b1]=2:=by show qZ7 b0 b1=2;unfold qZ7;rw[if_neg (by rw[e0];decide),if_pos e1];rfl
   exact⟨b0,b1,[],qAw 1,rfl,by rw[ea];rfl,by rw[e0],by rw[n1,e1]⟩
  ·exfalso;omega
theorem qSr {α:Type}{b p q t:List α}{k:Nat}(hb:b=p++q++t)(hq:q.length=k):List.take k (List.drop p.length b)=q:=by
 subst hb;subst hq;rw[List.append_assoc,List.drop_left,List.take_left]
theorem qOb {b p q t:List UInt8}{k:Nat}(hb:b=p++q++t)(hq:q.length=k)(hv:beV q<9223372036854775808):qQ (b,p.length,0) k=(((beV q:Nat):Int),(b,p.length+k,0)):=by
 have h1:=qSr hb hq;have h2:b.length=p.length+k+t.length:=by rw[hb];simp only[List.length_append,hq]
 unfold qQ;simp only[h1];rw[if_neg sM,if_neg oM,if_neg oM]
theorem qYo {b p q t:List UInt8}{k:Nat}(hb:b=p++q++t)(hq:q.length=k):qBt (b,p.length,0) k=(q,(b,p.length+k,0)):=by
 have h1:=qSr hb hq;have h2:b.length=p.length+k+t.length:=by rw[hb];simp only[List.length_append,hq]
 unfold qBt;simp only[h1];rw[if_neg sM,if_neg oM]
theorem zH6 {b:List (List UInt8)}{i:Nat}(h:i<b.length):b.flatten=(b.take i).flatten++b.getD i []++(b.drop (i+1)).flatten:=by
 conv=>lhs;rw[←List.take_append_drop (i+1) b,qF5 (d:=[]) h]
 simp
theorem qUb {b p t:List UInt8}{rows:List (List UInt8)}{z:Nat}(hb:b=p++rows.flatten++t)(hz : ∀ x∈rows,x.length=z) : ∀ i,i≤rows.length→jH (b,p.length,0) z i=(rows.take i,(b,(p++(rows.take i).flatten).length,0))
 | 0,_=>by simp[jH]
 | i+1,h=>by
  have ih:=qUb hb hz i oM;have hg:(rows.getD i []).length=z:=by
   have e:rows.getD i []=rows[i]:=by simp[List.getD,show i<rows.length by omega]
   rw[e];exact hz _ (List.getElem_mem _)
  have hb2:b=(p++(rows.take i).flatten)++rows.getD i []++((rows.drop (i+1)).flatten++t):=by
   rw[hb,zH6 (i:=i) oM];simp only[List.append_assoc]
  have hr:=qYo hb2 hg;simp only[jH,ih,hr];rw[qF5 (d:=[]) oM];simp only[List.flatten_append,List.flatten_cons,List.flatten_nil,List.append_nil,List.length_append,hg,Nat.add_assoc]
theorem zXn {l:List UInt8}{x:UInt8}:beV (l++[x])=256*beV l+x.toNat:=by simp[beV]
theorem zKe {size:Nat}{n:Int} : ∀ k,k≤size→beV (beI size n k)=m64 n/2^(8*(size-k))%256^k
 | 0,_=>by simp[beI,beV,Nat.mod_one]
 | k+1,h=>by
  have ih:=zKe (size:=size) (n:=n) k oM;rw[qXz,zXn,ih];have e1:8*(size-k)=8*(size-1-k)+8:=oM;have e2:size-(k+1)=size-1-k:=oM;rw[e1,e2,Nat.pow_add,←Nat.div_div_eq_div_mul];generalize m64 n/2^(8*(size-1-k))=q;have e3:(UInt8.ofNat q).toNat=q%256:=by rw[UInt8.toNat_ofNat']
  have e4:q/2^8=q/256:=rfl;have e5:256^(k+1)=256*256^k:=by rw[Nat.pow_succ,Nat.mul_comm]
  rw[e3,e4,e5,Nat.mod_mul,Nat.add_comm]
theorem qK6 {size:Nat}{n:Int}:beV (beI size n size)=m64 n%256^size:=by
 rw[zKe size (Nat.le_refl _)];simp
theorem qN7 {n:Int}(h:0≤n∧n<18446744073709551616):((m64 n:Nat):Int)=n:=by unfold m64;omega
theorem zX5 {s u:Int}{bk:List qX}(hv:RV bk)(hs:Shp s bk)(hu:0≤u∧u<9223372036854775808):dcR (qEb bk u) = .tup [.t (jT bk u),.t (.int .i64 0)]:=by
 have hact:=zJ8 hv.1;obtain⟨m,hm⟩:=Int.eq_ofNat_of_zero_le hact.1;have hm4:m<4:=oM;have hE:qEb bk u=[UInt8.ofNat m]++beI 8 u 8++bk.flatten.flatten:=by unfold qEb zJ3;rw[hm];rfl
 have v1:beV [UInt8.ofNat m]=m:=by
  rcases (show m=0∨m=1∨m=2∨m=3 by omega) with rfl | rfl | rfl | rfl<;>rfl
 have v8:((beV (beI 8 u 8):Nat):Int)=u:=by
  rw[qK6];have:=qN7 (n:=u) oM;have e:(256:Nat)^8=18446744073709551616:=by decide
  rw[e];omega
 have h1:qQ (qEb bk u,0,0) 1=(((m:Nat):Int),(qEb bk u,1,0)):=by
  have:=qOb (b:=qEb bk u) (p:=[]) (q:=[UInt8.ofNat m]) (t:=beI 8 u 8++bk.flatten.flatten) (k:=1) (by rw[hE];simp) rfl (by rw[v1];omega);rw[v1] at this;exact this
 have h2:qQ (qEb bk u,1,0) 8=(u,(qEb bk u,9,0)):=by
  have:=qOb (b:=qEb bk u) (p:=[UInt8.ofNat m]) (q:=beI 8 u 8) (t:=bk.flatten.flatten) (k:=8) hE qPh oM;rw[v8] at this;exact this
 have hset:qPn (qEb bk u,0,0)=qWy bk:=by unfold qPn;rw[h1,hm]
 have hU:dcU (qEb bk u,0,0)=u:=by unfold dcU;rw[h1];simp only;rw[h2]
 have hbad : ¬ ((qQ (qEb bk u,0,0) 1).2.2.2=0∧4≤qPn (qEb bk u,0,0)):=by rw[hset];omega
 have hend : ∀ b:List UInt8,xO (b,b.length,0)=0:=fun b=>by unfold xO;rw[if_neg sM]
 rcases zOd hv hs with⟨rfl,hn⟩ | ⟨b0,b1,c0,c1,rfl,hn,l0,l1⟩
 ·have hB:dcB (qEb [] u,0,0)=([],(qEb [] u,(qEb [] u).length,0)):=by
   unfold dcB;rw[hset,hn,h1];simp only;rw[h2];have e:(qEb [] u).length=9:=by unfold qEb;simp[qNw]
   rw[e];rfl
  rw[zGg hbad hB hU,hend,if_neg sM]
 ·have hz:=hs.2.2;have z0 : ∀ x∈b0,x.length=20:=hz 0 oM;have z1 : ∀ x∈b1,x.length=32:=hz 1 oM;have hE2:qEb [b0,b1] u=zJ3 [b0,b1] u++b0.flatten++b1.flatten:=by unfold qEb;simp
  have r0:=qUb (b:=qEb [b0,b1] u) (p:=zJ3 [b0,b1] u) (t:=b1.flatten) hE2 z0 (List.length b0) (Nat.le_refl _);rw[List.take_length,qNw] at r0;have r1:=qUb (b:=qEb [b0,b1] u) (p:=zJ3 [b0,b1] u++b0.flatten) (t:=[]) (by rw[hE2];simp) z1 (List.length b1) (Nat.le_refl _);rw[List.take_length] at r1;have hB:dcB (qEb [b0,b1] u,0,0)=([b0,b1],(qEb [b0,b1] u,(qEb [b0,b1] u).length,0)):=by
   unfold dcB;rw[hset,hn,h1];simp only;rw[h2];have hLen:(qEb [b0,b1] u).length=(zJ3 [b0,b1] u++List.flatten b0++List.flatten b1).length:=by rw[←hE2]
   simp only[zGh,l0,l1,r0,r1,hLen]
  rw[zGg hbad hB hU,hend,if_neg sM]
def zX2:Ct where
 α:=List qX×Int
 aS x:=[.t (jT x.1 x.2)]
 ins _:=[]
 pre x:=RV x.1
 r x:= .sl 0 0 (qEb x.1 x.2).length
 outs x:=[.live 1 (((qEb x.1 x.2).map qA).map V.t) true false]
 inj:=by
  rintro⟨a,u⟩ ⟨b,v⟩ h _;simp only[List.cons.injEq,V.t.injEq,and_true] at h;obtain⟨rfl,rfl⟩:=qAr h;exact⟨rfl,rfl⟩
theorem jWs {bk:List qX}{u:Int}(h:RV bk):zX2.fs [.t (.agg [.sl (bk.map wY),.int .i64 u])] []=some (.sl 0 0 (qEb bk u).length,[.live 1 (((qEb bk u).map qA).map V.t) true false]):=zX2.eq (bk,u) h
def zX1:Ct where
 α:=List UInt8
 aS x:=[.t (.sl (x.map qA))]
 ins _:=[]
 pre x:=x.length<1000000000
 r x:=dcR x
 outs _:=[]
 inj:=by
  intro a b h _;simp only[List.cons.injEq,V.t.injEq,T.sl.injEq,and_true,jC] at h;subst h;exact⟨rfl,rfl⟩
theorem qUa {s:Rd}{z:Nat} : ∀ n,∀ x∈(jH s z n).1,x.length≤z
 | 0=>by intro x hx;simp[jH] at hx
 | n+1=>by
  intro x hx;simp only[jH,List.mem_append,List.mem_singleton] at hx;rcases hx with hx | rfl
  ·exact qUa n x hx
  ·exact zSu
theorem qNt {b:List UInt8} : ∃ bk u e,dcR b = .tup [.t (.agg [.sl (bk.map wY),.int .i64 u]),.t (.int .i64 e)]∧RV bk:=by
 have hnil:RV []:=⟨.nil,sM⟩;unfold dcR;simp only;split
 ·exact⟨[],0,1,rfl,hnil⟩
 ·split
  ·exact⟨[],0,_,rfl,hnil⟩
  ·refine⟨_,_,0,rfl,?_⟩;unfold dcB zGh;split
   ·rename_i b0 b1 h;have hn:=zG2 (s:=qPn (b,0,0));rw[h] at hn;rcases hn.cases with h | ⟨c0,c1,h,g0,g1,_,_⟩
    ·simp at h
    ·obtain⟨rfl,rfl⟩:b0=c0∧b1=c1:=by simpa using h
     refine RV.of2 (qD9 g0 (jZ _)) (qD9 g1 (jZ _)) ?_ ?_
     ·intro x hx;have:=qUa _ x hx;omega
     ·intro x hx;have:=qUa _ x hx;omega
   ·exact hnil
end Go.Eng
end
