/- A part of an abstract machine, its walks, their tie. -/
import Derived.Test.YtekghmfbgbhobaaGreatDoorD28
import Derived.Test.YtekghmfbgbhobaaGreatDoorD16
import Derived.Test.YtekghmfbgbhobaaGreatDoorD25
import Derived.Test.YtekghmfbgbhobaaGreatDoorD26
set_option linter.all false
section
set_option maxHeartbeats 64000000
set_option maxRecDepth 20000
namespace Go.Eng
variable (tab:Tab) (gl:Gl)
variable {vv:V} {oo:List Ob}
theorem jNy {n:Int}(h:0≤n∧n≤255):T.int .u8 (IntKind.u8.wrap n)=qA (UInt8.ofNat (m64 n)):=by
 have e:m64 n=n.toNat:=by unfold m64;omega
 rw[qL2,e];unfold qA;rw[UInt8.toNat_ofNat'];congr 1;omega
theorem Sa.Ok.clk' {a:Sa}(h:a.Ok){c:Int}(hc:0≤c∧c≤1099511627776):Sa.Ok { a with clk:=c }:=⟨h.sd,h.au,h.en,h.act,h.res,h.rst,hc,h.bk,h.u,h.mc,h.ix,h.lk,h.ks⟩
theorem St.Ok.tick {t:St}(h:t.Ok){c k:Int}{b:Bool}(hc:0≤c∧c≤1099511627776)(hk:0≤k∧k≤1099511627776):St.Ok { t with clk:=c,safe:=b,a := { t.a with clk:=k } }:=⟨h.a.clk' hk,h.bk,h.u,hc,h.dr,h.ses,h.obs⟩
theorem zIr {g1}(h1:LkE tab 73 qLp g1){g2}(h2:LkE tab 93 qPa g2){g3}(h3:LkE tab 95 qFg g3){g4}(h4:LkE tab 94 qNm g4)(s:St)(k n m:Int)(b:List UInt8)(hp:(s.Ok∧s.cn 100000)∧((0≤k∧k≤255)∧(0≤n∧n≤255)∧0≤m∧m≤255)∧b.length≤3000000000) :
  qC3.1.wp tab gl (qE 0 [.t (stA s),.t (.int .i64 k),.t (.int .i64 n),.t (.int .i64 m),.t (.sl (b.map qA))]) (qE 0 []) (qX [(10,(some (30,true)))] 0 (qO8.K (s,k,n,m,b))):=by
 obtain⟨⟨hs,hc⟩,⟨hk,hn,hm⟩,hb⟩:=hp;obtain⟨t,⟨hgo,hon⟩,e1⟩:=jA6 (g:=g1) (s:=s) ⟨hs,hc.le oM⟩;have ht:=hgo.1;have htc:=hgo.2 _ hc;have k16:k.tmod 16=k%16:=Int.tmod_eq_emod_of_nonneg hk.1;have kd:k.tdiv 16=k/16:=Int.tdiv_eq_ediv_of_nonneg hk.1;have m5:m.tmod 5=m%5:=Int.tmod_eq_emod_of_nonneg hm.1;simp only[stA] at e1;by_cases c:k%16=15
 ·obtain⟨y,e,he,e2⟩:=jLw (g:=g2) (s:=t) (n:=1+n) ht.clk;simp only[stA] at e2;by_cases z:e=0
  ·obtain⟨cc,b',kk,h1',h2',rfl⟩:=he z;simp(maxSteps:=9^9)(disch:=try exact dS)only[go_sem,qC3,stA,h1,h2,e1,e2,k16,c,z];repeat refine aiG ?_
   refine jFe { t with clk:=cc,safe:=b',a := { t.a with clk:=kk } } ⟨ht.tick h1' ?_,?_⟩ rfl rfl
   ·rcases h2' with rfl | rfl
    ·exact h1'
    ·exact ht.a.clk
   ·intro i hi;have:=hgo.2 i hi;unfold St.cn at *;simp only at *;omega
  ·simp(maxSteps:=9^9)(disch:=try exact dS)only[go_sem,qC3,stA,h1,h2,e1,e2,k16,c,z];repeat refine aiG ?_
   exact jFe t ⟨ht,hgo.2.le oM⟩ rfl rfl
 ·have w:=jNy hn;obtain⟨q,hq,e3⟩:=jKt (g:=g3) (s:=t) (k:=k/16*7+k) (n:=7*n+m) (m:=m) (b:=UInt8.ofNat (m64 n)::b) ⟨ht,⟨⟨oM,oM⟩,⟨oM,oM⟩,⟨oM,oM⟩⟩,by simp only[List.length_cons];omega⟩;obtain⟨v,r,hv,e4⟩:=jHv (g:=g4) (s:=t) (lo:=m%5) (q:=q) ⟨⟨ht,htc.le oM⟩,hq⟩;have tk:List.take (1+b.length) (qA (UInt8.ofNat (m64 n))::b.map qA)=qA (UInt8.ofNat (m64 n))::b.map qA:=List.take_of_length_le soM;have tk':List.take (1+b.length) (UInt8.ofNat (m64 n)::b)=UInt8.ofNat (m64 n)::b:=List.take_of_length_le soM;simp only[stA,rqA,rsA,List.map_cons] at e3 e4;generalize UInt8.ofNat (m64 n)=x at *;simp(maxSteps:=9^9)(disch:=try exact dS)only[go_sem,qC3,stA,rqA,rsA,h1,h3,h4,e1,e3,e4,k16,kd,m5,c,w,tk,tk',mcn];repeat refine aiG ?_
  exact jFe v ⟨hv.1,fun i hi=>(hv.2 _ (hgo.2 i hi)).le oM⟩ rfl rfl
theorem zIq {g1}(h1:LkE tab 72 qO8 g1){g2}(h2:LkE tab 73 qLp g2)(s:St)(cs b:List UInt8)(n:Int)(hp:(s.Ok∧s.cn 10)∧cs.length≤9223372036854775807∧b.length≤3000000000∧(0≤n∧n≤100)) :
  qJv.1.wp tab gl (qE 0 [.t (stA s),.t (.sl (cs.map qA)),.t (.sl (b.map qA)),.t (.int .i64 n)]) (qE 0 []) (qX [(8,(some (30,true)))] 0 (qOs.K (s,cs,b,n))):=by
 obtain⟨⟨hs,hc⟩,hl,hb,hn⟩:=hp;simp(maxSteps:=9^9)(disch:=try exact dS)only[go_sem,qJv,stA];repeat refine aiG ?_
 refine zD (σ:=Nat×St) (fun t=>(t.1≤302∧(t.1:Int)≤302)∧t.2.Ok∧t.2.cn (10+2*t.1)) (fun t=>303-t.1) (fun t=>[(1,.t (.sl (cs.map qA))),(2,.t (.sl (b.map qA))),(3,.t (.int .i64 n)),(4,.ref 4096 0 0),(8,.ref 4112 0 0),(9,.t (.int .i64 t.1))]) (fun t=>[(4096,.live 30 [.t (stA t.2)] true true),(4112,.live 30 [.agg [.nil,.nil,.nil,(.t (.int .i64 0)),(.t (.int .i64 0)),(.t (.int .i64 0)),(.t (.int .i64 0)),(.t (.bool false)),.nil,(.t (.int .i64 0)),(.t (.int .i64 0)),.nil,(.t (.int .i64 0)),(.t (.int .i64 0)),(.t (.int .i64 0)),(.t (.int .i64 0)),(.t (.int .i64 0)),(.t (.int .i64 0)),.nil,(.t (.bool false)),(.t (.bool false)),.nil,(.t (.int .i64 0)),(.t (.int .i64 0)),(.t (.bool false)),(.t (.int .i64 0)),.nil,.nil,.nil,.nil]] true true)]) (0,s) ⟨⟨sM,sM⟩,hs,by simpa using hc⟩ ?_ ?_
 ·refine qI.rd id ?_ ?_ rfl;all_goals simp(maxSteps:=9^9)(disch:=try exact dS)only[go_sem,id,stA]
 rintro⟨i,t⟩ ⟨⟨hi,hi2⟩,ht,htc⟩;simp only at hi hi2 ht htc;by_cases c:i+2<cs.length∧(i:Int)<3*n
 ·obtain⟨c1,c2⟩:=c;have c3:i+1<cs.length:=oM;have c4:i<cs.length:=oM;have c5:((i:Int)+2<cs.length):=oM;have u1:=(cs.getD i 0).toNat_lt;have u2:=(cs.getD (i+1) 0).toNat_lt;have u3:=(cs.getD (i+2) 0).toNat_lt;obtain⟨v,hv,e1⟩:=jLp (g:=g1) (s:=t) (k:=(cs.getD i 0).toNat) (n:=(cs.getD (i+1) 0).toNat) (m:=(cs.getD (i+2) 0).toNat) (b:=b) ⟨⟨ht,htc.le oM⟩,⟨oM,oM,oM⟩,hb⟩;have hvc:=hv.2 _ htc;simp only[stA] at e1;simp(maxSteps:=9^9)(disch:=try exact dS)only[go_sem,stA,c1,c2,c3,c4,c5,h1,e1];repeat refine aiG ?_
  refine qDd.of (i+3,v) ⟨⟨by show i+3≤302;omega,by show ((i+3:Nat):Int)≤302;omega⟩,hv.1,by show v.cn (10+2*((i+3:Nat):Int));exact hvc.le oM⟩ (by show 303-(i+3)<303-i;omega) (qI.rd id ?_ ?_ rfl);all_goals simp(maxSteps:=9^9)(disch:=try exact dS)only[go_sem,id,stA]
 ·obtain⟨v,⟨hgo,hon⟩,e2⟩:=jA6 (g:=g2) (s:=t) ⟨ht,htc.le oM⟩;have hvc:=hgo.2 _ htc;simp only[stA] at e2;by_cases c1:i+2<cs.length
  ·have c2 : ¬ ((i:Int)<3*n):=fun h=>c ⟨c1,h⟩
   have c5:((i:Int)+2<cs.length):=oM;simp(maxSteps:=9^9)(disch:=try exact dS)only[go_sem,stA,c1,c2,c5,h2,e2];repeat refine aiG ?_
   exact jJ3 v ⟨⟨hgo.1,hvc.le oM⟩,hon⟩ rfl rfl
  ·have c5 : ¬ ((i:Int)+2<cs.length):=oM;simp(maxSteps:=9^9)(disch:=try exact dS)only[go_sem,stA,c1,c5,h2,e2];repeat refine aiG ?_
   exact jJ3 v ⟨⟨hgo.1,hvc.le oM⟩,hon⟩ rfl rfl
def qV5 (en:List UInt8)(r:Int):Sa:=⟨[drv en [115,101,101,100] [0] 32,drv en [115,101,101,100] [1] 32,drv en [115,101,101,100] [2] 32],[[],[],[],[]],drv en [101,110,116,114,111,112,121] [] 32,r,0,0,0,true,[],0,0,[],⟨0,5,100,0,0,1000⟩,[]⟩
theorem zA7 {en:List UInt8}{r:Int}(h:en.length=32∧0≤r∧r≤3):jGc (zFb en r)=saA (qV5 en r)∧zIm en r=0:=by
 have hn : ¬ (en.length≠32∨r<0∨3<r):=oM;refine⟨?_,if_neg hn⟩;rw[zFb,if_neg hn];simp only[jGc,jVy,saA,qV5,lkA,List.map_nil]
theorem zQ8 {en:List UInt8}{r:Int}(h:0≤r∧r≤3):(qV5 en r).Ok:=by
 have l : ∀ {a b:List UInt8},(drv en a b 32).length=32:=qEc;refine⟨⟨rfl,?_⟩,⟨rfl,?_⟩,l,h,by simp[qV5],by simp[qV5],by simp[qV5],.inl rfl,by simp[qV5],by simp[qV5],⟨by simp[qV5],by simp[qV5]⟩,by simp[qV5,Lk.Ok],⟨by simp[qV5],by simp[qV5]⟩⟩
 ·intro x hx;simp only[qV5,List.mem_cons,List.not_mem_nil,or_false] at hx;rcases hx with rfl | rfl | rfl<;>exact Nat.le_of_eq l
 ·intro x hx;simp only[qV5,List.mem_cons,List.not_mem_nil,or_false] at hx;rcases hx with rfl | rfl | rfl | rfl<;>simp
theorem zKi {a:Sa}(h:a.Ok):(qAf a).Ok:=by
 refine⟨h,.inl rfl,?_,?_,?_,⟨rfl,?_⟩,⟨rfl,?_⟩⟩
 ·show (0:Int)≤0;omega
 ·show (0:Int)≤0∧(0:Int)≤1099511627776;omega
 ·show (0:Int)≤0;omega
 ·intro x hx;simp only[qAf,List.mem_cons,List.not_mem_nil,or_false] at hx;rcases hx with rfl | rfl | rfl<;>exact Ses.ok0
 ·intro x hx;simp only[qAf,List.mem_cons,List.not_mem_nil,or_false] at hx;rcases hx with rfl | rfl | rfl<;>exact Obj.ok0
theorem zLx (a:Sa):qRe (qAf a) 0=(zIp (qAf a),0):=by simp[qRe,qAf]
def sd7:List UInt8:=[7].take 32++List.replicate (32-[(7:UInt8)].length) 0
theorem zFd (h1:LkC tab 29 qM6)(h2:LkC tab 28 qSb){g3}(h3:LkE tab 11 qDm g3){g4}(h4:LkE tab 16 qDp g4){g5}(h5:LkE tab 30 qOs g5)(a:Int)(cs b:List UInt8)(hp:cs.length≤9223372036854775807∧b.length≤3000000000) :
  qHu.1.wp tab gl (qE 0 [.t (.int .i64 a),.t (.sl (cs.map qA)),.t (.sl (b.map qA))]) (qE 0 []) (qX [(6,(some (30,true)))] 0 (qKz.K (a,cs,b))):=by
 obtain⟨hl,hb⟩:=hp;have e1:=qWv (b:=[7]) sM;rw[show [(7:UInt8)].take 32++List.replicate (32-[(7:UInt8)].length) 0=sd7 from rfl] at e1;have ls:sd7.length=32:=rfl;have ts:List.take 32 sd7=sd7:=rfl;generalize sd7=sd at *;obtain⟨r,hr⟩ : ∃ r:Int,a%4=r:=⟨_,rfl⟩;have ha:0≤r∧r≤3:=oM;have e2:=zS4 (en:=sd) (act:=r) oM;rw[(zA7 ⟨ls,ha⟩).1,(zA7 ⟨ls,ha⟩).2] at e2;have hA:=zQ8 (en:=sd) ha;have hz:(qV5 sd r).res=0∧(qV5 sd r).rst=0∧(qV5 sd r).u=0:=⟨rfl,rfl,rfl⟩;generalize qV5 sd r=A at *;have e3 := @zDp g3 A;have hB:=zKi hA;have hBc:(qAf A).cn 0:=by unfold St.cn;simp only[qAf,List.length_nil];omega
 obtain⟨t,e,⟨h5,h6⟩,e4⟩:=zLu (g:=g4) (s:=qAf A) (m:=0) ⟨hB.a,hBc.le oM⟩;rw[zLx] at h5 h6;simp only at h5 h6;have hg:=zBr hB;rw[←h5] at hg;subst h6;have htc:=hg.2 _ hBc;clear h5;obtain⟨v,hv,e5⟩:=jJ4 (g:=g5) (s:=t) (cs:=cs) (b:=b) (n:=10) ⟨⟨hg.1,htc.le oM⟩,hl,hb,oM,oM⟩;simp only[stA,saA,qAf,mcn] at e1 e2 e3 e4 e5;simp(maxSteps:=9^9)(disch:=try exact dS)only[go_sem,qHu,stA,saA,h1,h2,h3,h4,h5,e1,e2,e3,e4,e5,hr,ts,ls,mcn];repeat refine aiG ?_
 exact jOa v hv rfl rfl
def qKs:ECt where
 α:=Unit
 β:=Bool
 aS:=fun _=>[]
 pre:=fun _=>True
 r:=fun r'=> .t (.bool r')
 R:=fun _ r'=>r'=true
 inj:=fun _ _ _ _=>rfl
theorem zYz {g:EF qKs}  : qKs.fs g [] []=some (.t (.bool (true)),[]):=fnQ qKs () trivial
theorem jNr  (hV:vv = .t (.bool (true)))(hO:oo=[]):qKs.K () vv oo:=⟨_,rfl,hV,hO⟩
theorem zB1 (h1:LkC tab 27 qSb){g2}(h2:LkE tab 14 qDm g2){g3}(h3:LkE tab 15 qDp g3)  :
  qGd.1.wp tab gl (qE 0 []) (qE 0 []) (qX [(0,none)] 0 (qKs.K ())):=by
 obtain⟨en,z32⟩ : ∃ en:List UInt8,List.take 32 (List.replicate 32 (0:UInt8))=en:=⟨_,rfl⟩;have ls:en.length=32:=by rw[←z32];rfl
 have e1:=zS4 (en:=en) (act:=2) oM;rw[(zA7 (r:=2) ⟨ls,oM,oM⟩).1,(zA7 (r:=2) ⟨ls,oM,oM⟩).2] at e1;have hA:=zQ8 (en:=en) (r:=2) oM;have hz:(qV5 en 2).res=0∧(qV5 en 2).rst=0∧(qV5 en 2).u=0:=⟨rfl,rfl,rfl⟩;generalize qV5 en 2=A at *;have e2 := @zDp g2 A;have hB:=zKi hA;have hBc:(qAf A).cn 100:=by unfold St.cn;simp only[qAf,List.length_nil];omega
 obtain⟨t,e,⟨h5,h6⟩,e3⟩:=zLu (g:=g3) (s:=qAf A) (m:=0) ⟨hB.a,hBc.le oM⟩;rw[zLx] at h5 h6;simp only at h5 h6;subst h6;have t1:t.on=true:=by rw[h5];rfl
 have t2:t.a.res=1:=by rw[h5];show A.res+1=1;omega
 have t3:t.ses.length=3:=by rw[h5];rfl
 clear h5;simp only[stA,saA,qAf,mcn] at e1 e2 e3;simp(maxSteps:=9^9)(disch:=try exact dS)only[go_sem,qGd,stA,saA,h1,h2,h3,e1,e2,e3,z32,ls,t1,t2,t3,mcn];repeat refine aiG ?_
 exact jNr rfl rfl
def qAu (n_ref6_join:Nat):AC:=
 (.seq
 (.seq
 (rG 24576 [mv 26 8,mv 27 2,oO 28 .len [.tmp 27],bT 29 .lss 26 28])
 (.cond (.tmp 29)
 .skip
 (.exit 0)))
 (.seq
 (.block 1
 (.seq
 (.seq
 (rG 32768 [mv 32 1,bN 33 .rem 32 2,bN 34 .eql 33 0])
 (.cond (.tmp 34)
 (rG 36864 [mv 35 8,mv 36 1,bN 37 .quo 36 2,mv 38 7,mv 39 2,mv 40 8,oO 41 (.iaddr 1) [.tmp 39,.tmp 40],oO 42 (.load 1 false) [.tmp 41],cL 43 n_ref6_join true [.tmp 35,.tmp 37,.tmp 38,.tmp 42],mv 7 43])
 (rG 40960 [mv 44 8,mv 45 1,bN 46 .quo 45 2,mv 47 2,mv 48 8,oO 49 (.iaddr 1) [.tmp 47,.tmp 48],oO 50 (.load 1 false) [.tmp 49],mv 51 7,cL 52 n_ref6_join true [.tmp 44,.tmp 46,.tmp 50,.tmp 51],mv 7 52])))
 (rG 45056 [mv 53 1,bN 54 .quo 53 2,mv 1 54])))
 (rG 28672 [mv 30 8,bN 31 .add 30 1,mv 8 31])))
def qHa (n_ref5_Public:Nat):AC:=
 (.seq
 (.seq
 (rG 20480 [mv 11 7,mv 12 1,oO 13 (.conv .u64) [.tmp 12],oO 14 (.bin .shl) [.cst (.t (.int .i64 1)),.tmp 13],bT 15 .lss 11 14])
 (.cond (.tmp 15)
 .skip
 (.exit 0)))
 (.seq
 (.block 1
 (rG 28672 [mv 18 5,mv 19 6,mv 20 7,cL 21 n_ref5_Public true [.tmp 19,.tmp 20],oO 22 (.bslice 1 1 .nil [0]) [.tmp 21],oO 23 (.append 1 24) [.tmp 18,.tmp 22],mv 5 23]))
 (rG 24576 [mv 16 7,bN 17 .add 16 1,mv 7 17])))
def qEv:AC:=
 (.seq
 (.seq
 (rG 28672 [mv 44 11,mv 45 10,oO 46 .len [.tmp 45],bT 47 .lss 44 46])
 (.cond (.tmp 47)
 .skip
 (.exit 0)))
 (.seq
 (.block 1
 (rG 36864 [mv 50 9,mv 51 10,mv 52 11,oO 53 (.iaddr 1) [.tmp 51,.tmp 52],oO 54 (.load 1 false) [.tmp 53],oO 55 (.append 1 1) [.tmp 50,.tmp 54],mv 9 55]))
 (rG 32768 [mv 48 11,bN 49 .add 48 1,mv 11 49])))
theorem zL6 {a:UInt8}:qGy .shr (qA a) (.int .u64 4)=some (qA (a >>> 4)):=by
 change (if (4:Int)<0 then none else some (T.int .u8 ((a.toNat:Int).fdiv (2^min (4:Int).toNat 8))))=_;rw[if_neg (by decide)];unfold qA;rw[UInt8.toNat_shiftRight,Nat.shiftRight_eq_div_pow];congr 2;rw[Int.fdiv_eq_ediv_of_nonneg _ (by decide)];rfl
theorem jFb {a:UInt8}:(a >>> 4).toNat≤15:=by
 have:=a.toNat_lt;rw[UInt8.toNat_shiftRight];simp[Nat.shiftRight_eq_div_pow];omega
theorem zT9 {a:UInt8}:(a &&& 15).toNat≤15:=by
 rw[UInt8.toNat_and];exact Nat.and_le_right
theorem zCq (h1:LkC tab 231 qA8)(m:List UInt8)(hp:m.length≤100000) :
  qGs.1.wp tab gl (qE 0 [.t (.sl (m.map qA))]) (qE 0 []) (qX [(2,none)] 0 (qKy.K m)):=by
 obtain⟨y,hy,e⟩:=qQn (t:=4) (fs:=[m]) oM sM soM;simp only[mcn,bsT] at e;rw[show ((4:Nat):Int)=4 from rfl] at e;have ly:(y.take 16).length=16:=by simp[hy]
 have lt:List.take 16 (List.map qA y)=(y.take 16).map qA:=by rw[List.map_take]
 simp(maxSteps:=9^9)(disch:=try exact dS)only[go_sem,qGs,h1,e,hy];refine zD (σ:=Nat×List Int×Int) (fun s=>s.1≤16∧s.2.1.length=2*s.1∧(∀ x∈s.2.1,0≤x∧x≤15)∧0≤s.2.2∧s.2.2≤30*s.1) (fun s=>16-s.1)
  (fun s=>[(3,.t (.sl ((y.take 16).map qA))),(4,.sl 9000 0 s.2.1.length),(5,.t (.int .i64 s.2.2)),(6,.t (.int .i64 s.1))])
  (fun s=>[(9000,.live 1 ((s.2.1.map iT).map V.t) true false)]) (0,[],0) ⟨sM,rfl,sM,sM,sM⟩ ?_ ?_
 ·refine qI.cv (hv:=[(9000,.live 1 [] true false)]) (ho:=[]) [8224] id ?_ rfl;simp only[id];simp(maxSteps:=9^9)(disch:=try exact dS)only[go_sem,hy];all_goals rfl
 ·rintro⟨k,d,n⟩ ⟨hk,hl,hd,hn0,hn⟩;simp only at hk hl hd hn0 hn;by_cases hlt:k<16
  ·generalize (y.take 16)=w at *;have b1 := @jFb (w.getD k 0);have b2 := @zT9 (w.getD k 0);simp(maxSteps:=9^9)(disch:=try exact dS)only[go_sem,hlt,ly,hl,zL6,zOv];generalize (w.getD k 0 >>> 4).toNat=u at *;generalize (w.getD k 0 &&& 15).toNat=v at *;repeat refine aiG ?_
   refine qDd.of (k+1,d++[(u:Int),(v:Int)],n+(30-u-v)) ⟨by show k+1≤16;omega,by simp[hl];omega,?_,by simp only;omega,by simp only;omega⟩ (by show 16-(k+1)<16-k;omega) (qI.rd (fun j=>if j=9000 then 32992 else j) ?_ ?_ rfl)
   ·intro x hx;simp only[List.mem_append,List.mem_cons,List.not_mem_nil,or_false] at hx;rcases hx with hx | rfl | rfl
    ·exact hd x hx
    ·omega
    ·omega
   all_goals simp(maxSteps:=9^9)(disch:=try exact dS)only[go_sem,id,hl]
   all_goals first | omega | rfl | simp[iT]
  ·have e:k=16:=oM;subst e;have q1:n.tdiv 256=n/256:=Int.tdiv_eq_ediv_of_nonneg hn0;have q2:n.tdiv 16=n/16:=Int.tdiv_eq_ediv_of_nonneg hn0;have q3:(n/16).tmod 16=n/16%16:=Int.tmod_eq_emod_of_nonneg oM;have q4:n.tmod 16=n%16:=Int.tmod_eq_emod_of_nonneg hn0;simp(maxSteps:=9^9)(disch:=try exact dS)only[go_sem,ly,hl,q1,q2,q3,q4];refine jN8 (d++[n/256,n/16%16,n%16]) ⟨by simp[hl],?_⟩ ?_ rfl
   ·intro x hx;simp only[List.mem_append,List.mem_cons,List.not_mem_nil,or_false] at hx;rcases hx with hx | rfl | rfl | rfl
    ·exact hd x hx
    all_goals omega
   ·simp only[iT,List.map_append,mcn,List.append_assoc,List.cons_append,List.nil_append];rw[List.take_of_length_le (by simp[hl])]
theorem zF4 (h1:LkC tab 231 qA8)(l c a b:Int)(x:List UInt8)(hp:x.length=16∧0≤a∧b≤15) :
  qIc.1.wp tab gl (qE 0 [.t (.int .i64 l),.t (.int .i64 c),.t (.int .i64 a),.t (.int .i64 b),.t (.sl (x.map qA))]) (qE 0 []) (qX [(10,none)] 0 (qD7.K (l,c,a,b,x))):=by
 obtain⟨hx,ha,hb⟩:=hp;simp(maxSteps:=9^9)(disch:=try exact dS)only[go_sem,qIc];refine zD (σ:=Int×List UInt8) (fun s=>0≤s.1∧s.2.length=16) (fun s=>(15-s.1).toNat)
  (fun s=>[(0,.t (.int .i64 l)),(1,.t (.int .i64 c)),(3,.t (.int .i64 b)),(4,.t (.sl (s.2.map qA))),(11,.t (.int .i64 s.1))])
  (fun _=>[]) (a,x) ⟨ha,hx⟩ ?_ ?_
 ·refine qI.rd id ?_ ?_ rfl;all_goals simp(maxSteps:=9^9)(disch:=try exact dS)only[go_sem,id]
 ·rintro⟨p,z⟩ ⟨hp0,hz⟩;simp only at hp0 hz;by_cases hlt:p<b
  ·obtain⟨y,hy,e⟩:=qQn (t:=1) (fs:=[[u8I l,u8I c,u8I p],z]) oM sM (by intro x hx;simp only[List.mem_cons,List.not_mem_nil,or_false] at hx;rcases hx with rfl | rfl;simp;omega);simp only[mcn,bsT] at e;rw[show ((1:Nat):Int)=1 from rfl] at e;simp(maxSteps:=9^9)(disch:=try exact dS)only[go_sem,hlt,h1,e,hy,u8w];repeat refine aiG ?_
   refine qDd.of (p+1,y.take 16) ⟨by show 0≤p+1;omega,by simp[hy]⟩ (by show (15-(p+1)).toNat<(15-p).toNat;omega) (qI.cv (hv:=[]) [20624] id ?_ rfl);simp(maxSteps:=9^9)(disch:=try exact dS)only[go_sem,id];rfl
  ·simp(maxSteps:=9^9)(disch:=try exact dS)only[go_sem,hlt];exact jLo z hz rfl rfl
theorem zF3 (h1:LkC tab 43 qB1)(s:List UInt8)(l c:Int)(hp:s.length≤64) :
  qIb.1.wp tab gl (qE 0 [.t (.sl (s.map qA)),.t (.int .i64 l),.t (.int .i64 c)]) (qE 0 []) (qX [(6,none)] 0 (qLj.K (s,l,c))):=by
 obtain⟨y,hy,e⟩:=zMf (k:=s) (l:=[99,104,97,105,110]) (c:=[u8I l,u8I c]) (n:=16) ⟨hp,sM,sM,oM,oM⟩;simp only[mcn] at e;rw[show ((16:Nat):Int)=16 from rfl] at e;simp(maxSteps:=9^9)(disch:=try exact dS)only[go_sem,qIb,h1,e,u8w];exact jQd y hy rfl rfl
theorem zF5 (h1:LkC tab 231 qA8)(l:Int)(e:List UInt8)(hp:e.length≤1000) :
  qId.1.wp tab gl (qE 0 [.t (.int .i64 l),.t (.sl (e.map qA))]) (qE 0 []) (qX [(4,none)] 0 (qK9.K (l,e))):=by
 obtain⟨y,hy,h⟩:=qQn (t:=2) (fs:=[[u8I l],e]) oM sM (by intro x hx;simp only[List.mem_cons,List.not_mem_nil,or_false] at hx;rcases hx with rfl | rfl;simp;omega);simp only[mcn,bsT] at h;rw[show ((2:Nat):Int)=2 from rfl] at h;simp(maxSteps:=9^9)(disch:=try exact dS)only[go_sem,qId,h1,h,hy,u8w];exact jPa _ (by simp[hy]) rfl rfl
theorem zCr {g1}(h1:LkE tab 262 qLj g1){g2}(h2:LkE tab 261 qD7 g2){g3}(h3:LkE tab 279 qK9 g3)(s:List UInt8)(l:Int)(hp:s.length≤64) :
  qAr.1.wp tab gl (qE 0 [.t (.sl (s.map qA)),.t (.int .i64 l)]) (qE 0 []) (qX [(4,none)] 0 (qOm.K (s,l))):=by
 by_cases k1:l<0
 ·simp(maxSteps:=9^9)(disch:=try exact dS)only[go_sem,qAr,k1];exact jDj [] sM rfl rfl
 by_cases k2:255<l
 ·simp(maxSteps:=9^9)(disch:=try exact dS)only[go_sem,qAr,k1,k2];exact jDj [] sM rfl rfl
 simp(maxSteps:=9^9)(disch:=try exact dS)only[go_sem,qAr,k1,k2];refine zD (σ:=Nat×List UInt8) (fun t=>t.1≤35∧t.2.length=16*t.1) (fun t=>35-t.1) (fun t=>[(0,.t (.sl (s.map qA))),(1,.t (.int .i64 l)),(5,.sl 9000 0 t.2.length),(6,.t (.int .i64 t.1))]) (fun t=>[(9000,.live 1 ((t.2.map qA).map V.t) true false)]) (0,[]) ⟨sM,rfl⟩ ?_ ?_
 ·refine qI.cv0 (hv:=[(9000,.live 1 [] true false)]) (ho:=[]) id ?_ ?_ rfl rfl;all_goals simp(maxSteps:=9^9)(disch:=try exact dS)only[go_sem,id]
  all_goals rfl
 ·rintro⟨c,r⟩ ⟨hc,hr⟩;simp only at hc hr;by_cases hlt:c<35
  ·obtain⟨x,hx,e1⟩:=jAw (g:=g1) (l:=l) (c:=c) hp;obtain⟨y,hy,e2⟩:=zIo (g:=g2) (l:=l) (c:=c) (a:=0) (b:=15) ⟨hx,oM,oM⟩;simp(maxSteps:=9^9)(disch:=try exact dS)only[go_sem,hlt,h1,h2,e1,e2,hr,hy];repeat refine aiG ?_
   refine qDd.of (c+1,r++y) ⟨by show c+1≤35;omega,by simp[hr,hy];omega⟩ (by show 35-(c+1)<35-c;omega) (qI.rd (fun j=>if j=9000 then 32896 else j) ?_ ?_ rfl);all_goals simp(maxSteps:=9^9)(disch:=try exact dS)only[go_sem,id,hr,hy]
   all_goals first | omega | rfl
  ·obtain⟨y,hy,e⟩:=zZ7 (g:=g3) (l:=l) (e:=r) oM;have t:List.take (16*c) r=r:=List.take_of_length_le oM;simp(maxSteps:=9^9)(disch:=try exact dS)only[go_sem,hlt,h3,e,hr,t];exact jDj y oM rfl rfl
theorem zI4 {g1}(h1:LkE tab 260 qKy g1){g2}(h2:LkE tab 262 qLj g2){g3}(h3:LkE tab 261 qD7 g3)(s:List UInt8)(l:Int)(m:List UInt8)(hp:s.length≤64∧m.length≤100000) :
  qC5.1.wp tab gl (qE 0 [.t (.sl (s.map qA)),.t (.int .i64 l),.t (.sl (m.map qA))]) (qE 0 []) (qX [(6,none)] 0 (qOr.K (s,l,m))):=by
 obtain⟨q1,q2⟩:=hp;by_cases k1:l<0
 ·simp(maxSteps:=9^9)(disch:=try exact dS)only[go_sem,qC5,k1];exact jDn [] sM rfl rfl
 by_cases k2:255<l
 ·simp(maxSteps:=9^9)(disch:=try exact dS)only[go_sem,qC5,k1,k2];exact jDn [] sM rfl rfl
 obtain⟨d,⟨ld,hd⟩,e0⟩:=zZb (g:=g1) q2;simp(maxSteps:=9^9)(disch:=try exact dS)only[go_sem,qC5,k1,k2,h1,e0];refine zD (σ:=Nat×List UInt8) (fun t=>t.1≤35∧t.2.length=16*t.1) (fun t=>35-t.1) (fun t=>[(0,.t (.sl (s.map qA))),(1,.t (.int .i64 l)),(7,.t (.sl (d.map iT))),(8,.sl 9000 0 t.2.length),(9,.t (.int .i64 t.1))]) (fun t=>[(9000,.live 1 ((t.2.map qA).map V.t) true false)]) (0,[]) ⟨sM,rfl⟩ ?_ ?_
 ·refine qI.cv0 (hv:=[(9000,.live 1 [] true false)]) (ho:=[]) id ?_ ?_ rfl rfl;all_goals simp(maxSteps:=9^9)(disch:=try exact dS)only[go_sem,id]
  all_goals rfl
 ·rintro⟨c,r⟩ ⟨hc,hr⟩;simp only at hc hr;by_cases hlt:c<35
  ·obtain⟨v,hg,hm,_⟩:=qN (l:=d) (k:=c) oM;have hv:=hd v hm;obtain⟨x,hx,e1⟩:=jAw (g:=g2) (l:=l) (c:=c) q1;obtain⟨y,hy,e2⟩:=zIo (g:=g3) (l:=l) (c:=c) (a:=0) (b:=v) ⟨hx,oM,oM⟩;simp(maxSteps:=9^9)(disch:=try exact dS)only[go_sem,hlt,h2,h3,e1,e2,hr,hy,hg,ld,oms,iT];repeat refine aiG ?_
   refine qDd.of (c+1,r++y) ⟨by show c+1≤35;omega,by simp[hr,hy];omega⟩ (by show 35-(c+1)<35-c;omega) (qI.rd (fun j=>if j=9000 then 37056 else j) ?_ ?_ rfl);all_goals simp(maxSteps:=9^9)(disch:=try exact dS)only[go_sem,id,hr,hy]
   all_goals first | omega | rfl
  ·simp(maxSteps:=9^9)(disch:=try exact dS)only[go_sem,hlt,hr];exact jDn r oM (by rw[List.take_of_length_le oM]) rfl
theorem qY0 {g1}(h1:LkE tab 260 qKy g1){g2}(h2:LkE tab 261 qD7 g2){g3}(h3:LkE tab 279 qK9 g3)(l:Int)(m sg:List UInt8)(hp:m.length≤100000∧sg.length≤100000) :
  wO.1.wp tab gl (qE 0 [.t (.int .i64 l),.t (.sl (m.map qA)),.t (.sl (sg.map qA))]) (qE 0 []) (qX [(6,none),(7,none)] 0 (qOq.K (l,m,sg))):=by
 obtain⟨q1,q2⟩:=hp;by_cases k1:l<0
 ·simp(maxSteps:=9^9)(disch:=try exact dS)only[go_sem,wO,k1];exact zWd [] false sM rfl rfl
 by_cases k2:255<l
 ·simp(maxSteps:=9^9)(disch:=try exact dS)only[go_sem,wO,k1,k2];exact zWd [] false sM rfl rfl
 by_cases k3:sg.length=560
 rotate_left
 ·simp(maxSteps:=9^9)(disch:=try exact dS)only[go_sem,wO,k1,k2,k3];exact zWd [] false sM rfl rfl
 obtain⟨d,⟨ld,hd⟩,e0⟩:=zZb (g:=g1) q1;simp(maxSteps:=9^9)(disch:=try exact dS)only[go_sem,wO,k1,k2,k3,h1,e0];refine zD (σ:=Nat×List UInt8) (fun t=>t.1≤35∧t.2.length=16*t.1) (fun t=>35-t.1) (fun t=>[(0,.t (.int .i64 l)),(2,.t (.sl (sg.map qA))),(8,.t (.sl (d.map iT))),(9,.sl 9000 0 t.2.length),(10,.t (.int .i64 t.1))]) (fun t=>[(9000,.live 1 ((t.2.map qA).map V.t) true false)]) (0,[]) ⟨sM,rfl⟩ ?_ ?_
 ·refine qI.cv0 (hv:=[(9000,.live 1 [] true false)]) (ho:=[]) id ?_ ?_ rfl rfl;all_goals simp(maxSteps:=9^9)(disch:=try exact dS)only[go_sem,id]
  all_goals rfl
 ·rintro⟨c,r⟩ ⟨hc,hr⟩;simp only at hc hr;by_cases hlt:c<35
  ·obtain⟨v,hg,hm,_⟩:=qN (l:=d) (k:=c) oM;have hv:=hd v hm;obtain⟨x,hx⟩ : ∃ x,(sg.drop (16*c)).take 16=x:=⟨_,rfl⟩;have lx:x.length=16:=by rw[←hx];simp;omega
   obtain⟨y,hy,e2⟩:=zIo (g:=g2) (l:=l) (c:=c) (a:=v) (b:=15) ⟨lx,oM,oM⟩;simp(maxSteps:=9^9)(disch:=try exact dS)only[go_sem,hlt,h2,e2,hr,hy,hg,ld,oms,iT,k3,hx];repeat refine aiG ?_
   refine qDd.of (c+1,r++y) ⟨by show c+1≤35;omega,by simp[hr,hy];omega⟩ (by show 35-(c+1)<35-c;omega) (qI.rd (fun j=>if j=9000 then 37104 else j) ?_ ?_ rfl);all_goals simp(maxSteps:=9^9)(disch:=try exact dS)only[go_sem,id,hr,hy]
   all_goals first | omega | rfl
  ·obtain⟨y,hy,e⟩:=zZ7 (g:=g3) (l:=l) (e:=r) oM;have t:List.take (16*c) r=r:=List.take_of_length_le oM;simp(maxSteps:=9^9)(disch:=try exact dS)only[go_sem,hlt,hr,h3,e,t];exact zWd y true oM rfl rfl
theorem zI7  (n:Int) :
  xI.1.wp tab gl (qE 0 [.t (.int .i64 n)]) (qE 0 []) (qX [(2,none)] 0 (qK0.K n)):=by
 by_cases c1:n=1
 ·subst c1;simp(maxSteps:=9^9)(disch:=try exact dS)only[go_sem,xI];exact zP0 rfl rfl
 by_cases c2:n=2
 ·subst c2;simp(maxSteps:=9^9)(disch:=try exact dS)only[go_sem,xI];exact zP0 rfl rfl
 by_cases c3:n=4
 ·subst c3;simp(maxSteps:=9^9)(disch:=try exact dS)only[go_sem,xI];exact zP0 rfl rfl
 by_cases c4:n=8
 ·subst c4;simp(maxSteps:=9^9)(disch:=try exact dS)only[go_sem,xI];exact zP0 rfl rfl
 simp(maxSteps:=9^9)(disch:=try exact dS)only[go_sem,xI,c1,c2,c3,c4];exact zP0 (by simp[c1,c2,c3,c4]) rfl
theorem zI8 (h1:LkC tab 231 qA8)(h i:Int)(x y:List UInt8)(hp:x.length≤1000∧y.length≤1000) :
  qKg.1.wp tab gl (qE 0 [.t (.int .i64 h),.t (.int .i64 i),.t (.sl (x.map qA)),.t (.sl (y.map qA))]) (qE 0 []) (qX [(8,none)] 0 (qK4.K (h,i,x,y))):=by
 obtain⟨z,hz,e⟩:=qQn (t:=3) (fs:=[[u8I h,u8I i],x,y]) oM sM (by intro w hw;simp only[List.mem_cons,List.not_mem_nil,or_false] at hw;rcases hw with rfl | rfl | rfl;simp;omega;omega);simp only[mcn,bsT] at e;rw[show ((3:Nat):Int)=3 from rfl] at e;simp(maxSteps:=9^9)(disch:=try exact dS)only[go_sem,qKg,h1,e,hz,u8w];exact jOq _ (by simp[hz]) rfl rfl
theorem zTj {g1}(h1:LkE tab 278 qK4 g1)(h:Int)(l:List (List UInt8))(hp:l.length≤8 ∧ ∀ x∈l,x.length≤16) :
  qR1.1.wp tab gl (qE 0 [.t (.int .i64 h),.t (.sl (l.map bsT))]) (qE 0 []) (qX [(4,none)] 0 (qLl.K (h,l))):=by
 obtain⟨q1,q2⟩:=hp;simp(maxSteps:=9^9)(disch:=try exact dS)only[go_sem,qR1];refine zD (σ:=Nat×List (List UInt8)) (fun t=>2*t.1≤l.length∧t.2.length=t.1 ∧ ∀ x∈t.2,x.length≤16) (fun t=>l.length-t.1) (fun t=>[(0,.t (.int .i64 h)),(1,.t (.sl (l.map bsT))),(5,.sl 9000 0 t.2.length),(6,.t (.int .i64 t.1))]) (fun t=>[(9000,.live 1 ((t.2.map bsT).map V.t) true false)]) (0,[]) ⟨sM,rfl,sM⟩ ?_ ?_
 ·refine qI.cv0 (hv:=[(9000,.live 1 [] true false)]) (ho:=[]) id ?_ ?_ rfl rfl;all_goals simp(maxSteps:=9^9)(disch:=try exact dS)only[go_sem,id]
  all_goals rfl
 ·rintro⟨k,r⟩ ⟨hk,hr,hx⟩;simp only at hk hr hx;by_cases hlt:2*k+1<l.length
  ·obtain⟨x,g3,m3,_⟩:=qN (l:=l) (k:=2*k) oM;obtain⟨y,g4,m4,_⟩:=qN (l:=l) (k:=2*k+1) oM;obtain⟨z,hz,e⟩:=zQt (g:=g1) (h:=h) (i:=k) (x:=x) (y:=y) ⟨by have:=q2 x m3;omega,by have:=q2 y m4;omega⟩;simp(maxSteps:=9^9)(disch:=try exact dS)only[go_sem,hlt,h1,e,g3,g4,hr];repeat refine aiG ?_
   refine qDd.of (k+1,r++[z]) ⟨by show 2*(k+1)≤_;omega,by simp[hr],?_⟩ (by show l.length-(k+1)<l.length-k;omega) (qI.rd (fun j=>if j=9000 then 24832 else j) ?_ ?_ rfl)
   ·intro x hx';simp only[List.mem_append,List.mem_cons,List.not_mem_nil,or_false] at hx';rcases hx' with hx' | rfl
    ·exact hx x hx'
    ·omega
   all_goals simp(maxSteps:=9^9)(disch:=try exact dS)only[go_sem,id,hr]
   all_goals first | omega | rfl | skip
  ·simp(maxSteps:=9^9)(disch:=try exact dS)only[go_sem,hlt,hr];exact jQl r ⟨oM,hx⟩ (by rw[List.take_of_length_le oM]) rfl
theorem zI6 {g1}(h1:LkE tab 257 qK0 g1){g2}(h2:LkE tab 258 qLl g2)(h3:LkC tab 99 qAg)(l:List (List UInt8))(hp:l.length≤8 ∧ ∀ x∈l,x.length≤16) :
  qFx.1.wp tab gl (qE 0 [.t (.sl (l.map bsT))]) (qE 0 []) (qX [(2,none)] 0 (qOz.K l)):=by
 obtain⟨q1,q2⟩:=hp;have e0 := @zZm g1 (l.length:Int);by_cases c:(l.length:Int)=1∨(l.length:Int)=2∨(l.length:Int)=4∨(l.length:Int)=8
 rotate_left
 ·rw[decide_eq_false c] at e0;simp(maxSteps:=9^9)(disch:=try exact dS)only[go_sem,qFx,h1,e0];exact jKr [] sM rfl rfl
 rw[decide_eq_true c] at e0;simp(maxSteps:=9^9)(disch:=try exact dS)only[go_sem,qFx,h1,e0];refine zD (σ:=List (List UInt8)×Nat) (fun t=>(t.1.length=1∨t.1.length=2∨t.1.length=4∨t.1.length=8)∧(∀ x∈t.1,x.length≤16)∧t.2+t.1.length≤8) (fun t=>t.1.length) (fun t=>[(3,.t (.sl (t.1.map bsT))),(4,.t (.int .i64 t.2))]) (fun t=>[]) (l,0) ⟨by simp only;omega,q2,by simp only;omega⟩ ?_ ?_
 ·refine qI.rd id ?_ ?_ rfl;all_goals simp(maxSteps:=9^9)(disch:=try exact dS)only[go_sem,id]
 ·rintro⟨m,k⟩ ⟨hm,hx,hk⟩;simp only at hm hx hk;by_cases hlt:1<m.length
  ·obtain⟨r,⟨lr,hr⟩,e⟩:=jA0 (g:=g2) (h:=k) (l:=m) ⟨oM,hx⟩;simp(maxSteps:=9^9)(disch:=try exact dS)only[go_sem,hlt,h2,e];repeat refine aiG ?_
   refine qDd.of (r,k+1) ⟨by simp only;omega,hr,by simp only;omega⟩ (by show r.length<m.length;omega) (qI.rd id ?_ ?_ rfl);all_goals simp(maxSteps:=9^9)(disch:=try exact dS)only[go_sem,id]
  ·obtain⟨x,rfl⟩ : ∃ x,m=[x]:=List.length_eq_one_iff.1 oM;have hx:=hx x sM;have e:=zY (bs:=x) oM;simp(maxSteps:=9^9)(disch:=try exact dS)only[go_sem,h3,e,List.take_length];exact jKr x hx rfl rfl
def xo (i:Nat):Nat:=if i%2=0 then i+1 else i-1
theorem zUp {i:Nat}(h:i<8):qGy .xor (.int .i64 (i:Int)) (.int .i64 1)=some (.int .i64 ((xo i:Nat):Int)):=by
 have h8:i=0∨i=1∨i=2∨i=3∨i=4∨i=5∨i=6∨i=7:=oM;rcases h8 with rfl | rfl | rfl | rfl | rfl | rfl | rfl | rfl<;>rfl
theorem jFl {i:Nat}:((i:Nat):Int).tdiv 2=((i/2:Nat):Int):=rfl
theorem jLy {i:Nat}:((i:Nat):Int).tmod 2=((i%2:Nat):Int):=rfl
theorem zI5 {g1}(h1:LkE tab 257 qK0 g1)(h2:LkC tab 99 qAg){g3}(h3:LkE tab 258 qLl g3)(i:Int)(l:List (List UInt8))(hp:l.length≤8 ∧ ∀ x∈l,x.length≤16) :
  qBg.1.wp tab gl (qE 0 [.t (.int .i64 i),.t (.sl (l.map bsT))]) (qE 0 []) (qX [(4,none)] 0 (qOv.K (i,l))):=by
 obtain⟨q1,q2⟩:=hp;have e0 := @zZm g1 (l.length:Int);by_cases c:(l.length:Int)=1∨(l.length:Int)=2∨(l.length:Int)=4∨(l.length:Int)=8
 rotate_left
 ·rw[decide_eq_false c] at e0;simp(maxSteps:=9^9)(disch:=try exact dS)only[go_sem,qBg,h1,e0];exact zWg [] sM rfl rfl
 rw[decide_eq_true c] at e0;by_cases c2:i<0
 ·simp(maxSteps:=9^9)(disch:=try exact dS)only[go_sem,qBg,h1,e0,c2];exact zWg [] sM rfl rfl
 by_cases c3:(l.length:Int)≤i
 ·simp(maxSteps:=9^9)(disch:=try exact dS)only[go_sem,qBg,h1,e0,c2,c3];exact zWg [] sM rfl rfl
 have ti:i.toNat<l.length:=oM;simp(maxSteps:=9^9)(disch:=try exact dS)only[go_sem,qBg,h1,e0,c2,c3];refine zD (σ:=Nat×List (List UInt8)×List (List UInt8)×Nat) (fun t=>(t.2.2.1.length=8∧t.2.1.length=0∨t.2.2.1.length=4∧t.2.1.length≤1∨t.2.2.1.length=2∧t.2.1.length≤2∨t.2.2.1.length=1∧t.2.1.length≤3)∧t.1<t.2.2.1.length∧((∀ x∈t.2.2.1,x.length≤16) ∧ ∀ x∈t.2.1,x.length≤16)∧t.2.2.2+t.2.2.1.length≤8) (fun t=>t.2.2.1.length)
  (fun t=>[(0,.t (.int .i64 t.1)),(5,.sl 9000 0 t.2.1.length),(6,.t (.sl (t.2.2.1.map bsT))),(7,.t (.int .i64 t.2.2.2))]) (fun t=>[(9000,.live 1 ((t.2.1.map bsT).map V.t) true false)]) (i.toNat,[],l,0) ⟨soM,ti,⟨q2,sM⟩,by show 0+l.length≤8;omega⟩ ?_ ?_
 ·have ei:((i.toNat:Nat):Int)=i:=oM;refine qI.cv0 (hv:=[(9000,.live 1 [] true false)]) (ho:=[]) id ?_ ?_ rfl rfl;all_goals simp(maxSteps:=9^9)(disch:=try exact dS)only[go_sem,id,ei]
  all_goals rfl
 ·rintro⟨i,out,m,k⟩ ⟨hm,hi,⟨hx,ho⟩,hk⟩;simp only at hm hi hx ho hk;by_cases hlt:1<m.length
  ·obtain⟨r,⟨lr,hr⟩,e⟩:=jA0 (g:=g3) (h:=k) (l:=m) ⟨oM,hx⟩;obtain⟨x,hg,hm',_⟩:=qN (l:=m) (k:=xo i) (by unfold xo;split<;>omega);have lx:=hx x hm';have e2:=zY (bs:=x) oM;simp(maxSteps:=9^9)(disch:=try exact dS)only[go_sem,hlt,h2,h3,e,↓zUp (i:=i) oM,hg,e2,jFl];repeat refine aiG ?_
   refine qDd.of (i/2,out++[x],r,k+1) ⟨by simp only[List.length_append,List.length_cons,List.length_nil];omega,by show i/2<r.length;omega,⟨hr,?_⟩,by show k+1+r.length≤8;omega⟩ (by show r.length<m.length;omega) (qI.cv (hv:=[]) [36960] (fun j=>if j=9000 then 36992 else j) ?_ rfl)
   ·intro z hz;simp only[List.mem_append,List.mem_cons,List.not_mem_nil,or_false] at hz;rcases hz with hz | rfl
    ·exact ho z hz
    ·exact lx
   simp(maxSteps:=9^9)(disch:=try exact dS)only[go_sem,id];all_goals rfl
  ·simp(maxSteps:=9^9)(disch:=try exact dS)only[go_sem,hlt];exact zWg out ⟨oM,ho⟩ rfl rfl
theorem zF6 (h1:LkC tab 99 qAg){g2}(h2:LkE tab 278 qK4 g2)(x:List UInt8)(i:Int)(p:List (List UInt8))(hp:x.length≤16 ∧ ∀ x∈p,x.length≤16) :
  jS.1.wp tab gl (qE 0 [.t (.sl (x.map qA)),.t (.int .i64 i),.t (.sl (p.map bsT))]) (qE 0 []) (qX [(6,none)] 0 (qKv.K (x,i,p))):=by
 obtain⟨q1,q2⟩:=hp;have e:=zY (bs:=x) oM;by_cases c1:3<p.length
 ·simp(maxSteps:=9^9)(disch:=try exact dS)only[go_sem,jS,c1];exact zHh [] sM rfl rfl
 by_cases c2:i<0
 ·simp(maxSteps:=9^9)(disch:=try exact dS)only[go_sem,jS,c1,c2];exact zHh [] sM rfl rfl
 have h8:p.length=0∨p.length=1∨p.length=2∨p.length=3:=oM;have ei:((i.toNat:Nat):Int)=i:=oM;have key : ∀ fs hs,i≤7→qI fs hs [(1,.t (.int .i64 i.toNat)),(2,.t (.sl (p.map bsT))),(7,.t (.sl (x.map qA))),(8,.t (.int .i64 (0:Nat)))] []→qQs tab gl (qAu 278) fs hs (qTc 0 (jAp tab gl ((rG 49152 [mv 55 7,mv 6 55]).seq .ret) (qX [(6,none)] 0 (qKv.K (x,i,p))))):=by
  intro fs hs h7 hw;refine zD (σ:=Nat×List UInt8×Nat) (fun t=>(t.2.1.length≤16∧t.1≤7)∧t.2.2≤p.length) (fun t=>p.length-t.2.2) (fun t=>[(1,.t (.int .i64 t.1)),(2,.t (.sl (p.map bsT))),(7,.t (.sl (t.2.1.map qA))),(8,.t (.int .i64 t.2.2))]) (fun _=>[]) (i.toNat,x,0) ⟨⟨q1,by show i.toNat≤7;omega⟩,sM⟩ hw ?_;rintro⟨j,y,k⟩ ⟨⟨hy,hj⟩,hk⟩;simp only at hy hj hk;by_cases hlt:k<p.length
  ·obtain⟨w,hg,hm',_⟩:=qN hlt;have lw:=q2 w hm';by_cases c3:j%2=0
   ·obtain⟨z,hz,e3⟩:=zQt (g:=g2) (h:=k) (i:=((j/2:Nat):Int)) (x:=y) (y:=w) ⟨oM,oM⟩;simp(maxSteps:=9^9)(disch:=try exact dS)only[go_sem,qAu,hlt,h2,hg,jFl,jLy,c3,e3];repeat refine aiG ?_
    refine qDd.of (j/2,z,k+1) ⟨⟨by show z.length≤16;omega,by show j/2≤7;omega⟩,by show k+1≤p.length;omega⟩ (by show p.length-(k+1)<p.length-k;omega) (qI.rd id ?_ ?_ rfl);all_goals simp(maxSteps:=9^9)(disch:=try exact dS)only[go_sem,id]
   ·have c4:j%2=1:=oM;obtain⟨z,hz,e3⟩:=zQt (g:=g2) (h:=k) (i:=((j/2:Nat):Int)) (x:=w) (y:=y) ⟨oM,oM⟩;simp(maxSteps:=9^9)(disch:=try exact dS)only[go_sem,qAu,hlt,h2,hg,jFl,jLy,c4,e3];repeat refine aiG ?_
    refine qDd.of (j/2,z,k+1) ⟨⟨by show z.length≤16;omega,by show j/2≤7;omega⟩,by show k+1≤p.length;omega⟩ (by show p.length-(k+1)<p.length-k;omega) (qI.rd id ?_ ?_ rfl);all_goals simp(maxSteps:=9^9)(disch:=try exact dS)only[go_sem,id]
  ·simp(maxSteps:=9^9)(disch:=try exact dS)only[go_sem,qAu,hlt];exact zHh y hy rfl rfl
 rcases h8 with h8 | h8 | h8 | h8
 ·by_cases c3:1≤i
  ·simp(maxSteps:=9^9)(disch:=try exact dS)only[go_sem,jS,c1,c2,h8,c3];exact zHh [] sM rfl rfl
  ·simp(maxSteps:=9^9)(disch:=try exact dS)only[go_sem,jS,c1,c2,h8,c3,h1,e];refine key _ _ oM (qI.cv (hv:=[]) [16400] id ?_ rfl);simp(maxSteps:=9^9)(disch:=try exact dS)only[go_sem,id,ei];all_goals rfl
 ·by_cases c3:2≤i
  ·simp(maxSteps:=9^9)(disch:=try exact dS)only[go_sem,jS,c1,c2,h8,c3];exact zHh [] sM rfl rfl
  ·simp(maxSteps:=9^9)(disch:=try exact dS)only[go_sem,jS,c1,c2,h8,c3,h1,e];refine key _ _ oM (qI.cv (hv:=[]) [16400] id ?_ rfl);simp(maxSteps:=9^9)(disch:=try exact dS)only[go_sem,id,ei];all_goals rfl
 ·by_cases c3:4≤i
  ·simp(maxSteps:=9^9)(disch:=try exact dS)only[go_sem,jS,c1,c2,h8,c3];exact zHh [] sM rfl rfl
  ·simp(maxSteps:=9^9)(disch:=try exact dS)only[go_sem,jS,c1,c2,h8,c3,h1,e];refine key _ _ oM (qI.cv (hv:=[]) [16400] id ?_ rfl);simp(maxSteps:=9^9)(disch:=try exact dS)only[go_sem,id,ei];all_goals rfl
 ·by_cases c3:8≤i
  ·simp(maxSteps:=9^9)(disch:=try exact dS)only[go_sem,jS,c1,c2,h8,c3];exact zHh [] sM rfl rfl
  ·simp(maxSteps:=9^9)(disch:=try exact dS)only[go_sem,jS,c1,c2,h8,c3,h1,e];refine key _ _ oM (qI.cv (hv:=[]) [16400] id ?_ rfl);simp(maxSteps:=9^9)(disch:=try exact dS)only[go_sem,id,ei];all_goals rfl
theorem qXi (h1:LkC tab 43 qB1)(s:List UInt8)(h:Int)(hp:s.length≤64) :
  qDi.1.wp tab gl (qE 0 [.t (.sl (s.map qA)),.t (.int .i64 h)]) (qE 0 []) (qX [(4,none)] 0 (qK7.K (s,h))):=by
 obtain⟨y,hy,e⟩:=zMf (k:=s) (l:=[115,105,103,110,101,114]) (c:=[u8I h]) (n:=32) ⟨hp,sM,sM,oM,oM⟩;simp only[mcn] at e;rw[show ((32:Nat):Int)=32 from rfl] at e;simp(maxSteps:=9^9)(disch:=try exact dS)only[go_sem,qDi,h1,e,u8w];exact jO0 y hy rfl rfl
theorem zCu {g1}(h1:LkE tab 229 qK7 g1){g2}(h2:LkE tab 259 qOm g2)(s:List UInt8)(h:Int)(hp:s.length≤64∧0≤h∧h≤3) :
  qGt.1.wp tab gl (qE 0 [.t (.sl (s.map qA)),.t (.int .i64 h)]) (qE 0 []) (qX [(4,none)] 0 (qIv.K (s,h))):=by
 obtain⟨q1,q2,q3⟩:=hp;obtain⟨y,hy,e⟩:=zZx (g:=g1) (h:=h) q1;have key : ∀ hs fs,(h=0∨h=1∨h=2∨h=3)→qI fs hs [(1,.t (.int .i64 h)),(5,.sl 9000 0 0),(6,.t (.sl (y.map qA))),(7,.t (.int .i64 (0:Nat)))] [(9000,.live 1 [] true false)]→qQs tab gl (qHa 259) fs hs (qTc 0 (jAp tab gl ((rG 32768 [mv 24 5,mv 4 24]).seq .ret) (qX [(4,none)] 0 (qIv.K (s,h))))):=by
  intro hs fs h8 hw;refine zD (σ:=Nat×List (List UInt8)) (fun t=>t.1≤8∧t.2.length=t.1 ∧ ∀ x∈t.2,x.length≤16) (fun t=>8-t.1) (fun t=>[(1,.t (.int .i64 h)),(5,.sl 9000 0 t.2.length),(6,.t (.sl (y.map qA))),(7,.t (.int .i64 t.1))]) (fun t=>[(9000,.live 1 ((t.2.map bsT).map V.t) true false)]) (0,[]) ⟨sM,rfl,sM⟩ hw ?_;rintro⟨k,r⟩ ⟨hk,hr,hx⟩;simp only at hk hr hx;obtain⟨z,hz,e2⟩:=jJu (g:=g2) (s:=y) (l:=k) oM;rcases h8 with rfl | rfl | rfl | rfl;all_goals
   simp +contextual(maxSteps:=9^9)(disch:=try exact dS)only[go_sem,qHa,h2,e2,hr,↓qB,↓qC,qU];refine⟨fun c=>?_,fun c=>jO2 r ⟨oM,hx⟩ (by rw[List.take_of_length_le oM]) rfl⟩;repeat refine aiG ?_
   refine qDd.of (k+1,r++[z]) ⟨by show k+1≤8;omega,by simp[hr],?_⟩ (by show 8-(k+1)<8-k;omega) (qI.rd (fun j=>if j=9000 then 28752 else j) ?_ ?_ rfl)
   ·intro x hx';simp only[List.mem_append,List.mem_cons,List.not_mem_nil,or_false] at hx';rcases hx' with hx' | rfl
    ·exact hx x hx'
    ·exact hz
   all_goals simp(maxSteps:=9^9)(disch:=try exact dS)only[go_sem,id,hr]
   all_goals first | omega | rfl | simp[hr]
 have h8:h=0∨h=1∨h=2∨h=3:=oM;have h9:=h8;rcases h8 with rfl | rfl | rfl | rfl;all_goals
  simp(maxSteps:=9^9)(disch:=try exact dS)only[go_sem,qGt,h1,e];refine key _ _ h9 (qI.cv0 (hv:=[(9000,.live 1 [] true false)]) (ho:=[]) id ?_ ?_ rfl rfl);all_goals simp(maxSteps:=9^9)(disch:=try exact dS)only[go_sem,id]
  all_goals rfl
theorem zCs {g1}(h1:LkE tab 227 qIv g1){g2}(h2:LkE tab 226 qOz g2)(s:List UInt8)(h:Int)(hp:s.length≤64) :
  qAs.1.wp tab gl (qE 0 [.t (.sl (s.map qA)),.t (.int .i64 h)]) (qE 0 []) (qX [(4,none)] 0 (qLa.K (s,h))):=by
 by_cases c1:h<0
 ·simp(maxSteps:=9^9)(disch:=try exact dS)only[go_sem,qAs,c1];exact jDr [] sM rfl rfl
 by_cases c2:3<h
 ·simp(maxSteps:=9^9)(disch:=try exact dS)only[go_sem,qAs,c1,c2];exact jDr [] sM rfl rfl
 obtain⟨l,⟨ll,hl⟩,e1⟩:=zZz (g:=g1) (h:=h) ⟨hp,oM,oM⟩;obtain⟨r,lr,e2⟩:=jKs (g:=g2) (l:=l) ⟨ll,hl⟩;simp(maxSteps:=9^9)(disch:=try exact dS)only[go_sem,qAs,c1,c2,h1,h2,e1,e2,u8w];exact jDr (u8I h::r) soM (by rw[List.take_of_length_le soM];rfl) rfl
theorem zI9 {g1}(h1:LkE tab 229 qK7 g1){g2}(h2:LkE tab 228 qOr g2){g3}(h3:LkE tab 227 qIv g3){g4}(h4:LkE tab 230 qOv g4)(s:List UInt8)(h l:Int)(m:List UInt8)(hp:s.length≤64∧m.length≤100000) :
  jZ.1.wp tab gl (qE 0 [.t (.sl (s.map qA)),.t (.int .i64 h),.t (.int .i64 l),.t (.sl (m.map qA))]) (qE 0 []) (qX [(8,none)] 0 (qI1.K (s,h,l,m))):=by
 obtain⟨q1,q2⟩:=hp;by_cases c1:h<0
 ·simp(maxSteps:=9^9)(disch:=try exact dS)only[go_sem,jZ,c1];exact zE9 [] sM rfl rfl
 by_cases c2:3<h
 ·simp(maxSteps:=9^9)(disch:=try exact dS)only[go_sem,jZ,c1,c2];exact zE9 [] sM rfl rfl
 by_cases c3:l<0
 ·simp(maxSteps:=9^9)(disch:=try exact dS)only[go_sem,jZ,c1,c2,c3];exact zE9 [] sM rfl rfl
 obtain⟨y,hy,e1⟩:=zZx (g:=g1) (h:=h) q1;obtain⟨z,hz,e2⟩:=jJ0 (g:=g2) (s:=y) (l:=l) (m:=m) ⟨oM,q2⟩;obtain⟨lv,⟨ll,hl⟩,e3⟩:=zZz (g:=g3) (h:=h) ⟨q1,oM,oM⟩;obtain⟨pt,⟨lp,hpt⟩,e4⟩:=jJ7 (g:=g4) (i:=l) (l:=lv) ⟨ll,hl⟩;have key : ∀ fs hs,qI fs hs [(9,.sl 9000 0 (1+z.length)),(10,.t (.sl (pt.map bsT))),(11,.t (.int .i64 (0:Nat)))] [(9000,.live 1 (((u8I l::z).map qA).map V.t) true false)]→qQs tab gl qEv fs hs (qTc 0 (jAp tab gl ((rG 40960 [mv 56 9,mv 8 56]).seq .ret) (qX [(8,none)] 0 (qI1.K (s,h,l,m))))):=by
  intro fs hs hw;refine zD (σ:=Nat×List UInt8) (fun t=>t.1≤pt.length∧t.2.length≤561+16*t.1) (fun t=>pt.length-t.1) (fun t=>[(9,.sl 9000 0 t.2.length),(10,.t (.sl (pt.map bsT))),(11,.t (.int .i64 t.1))]) (fun t=>[(9000,.live 1 ((t.2.map qA).map V.t) true false)]) (0,u8I l::z) ⟨sM,soM⟩ (by rw[show (u8I l::z).length=1+z.length by simp;omega];exact hw) ?_;rintro⟨k,r⟩ ⟨hk,hr⟩;simp only at hk hr;by_cases hlt:k<pt.length
  ·obtain⟨w,hg,hm',_⟩:=qN hlt;have lw:=hpt w hm';simp(maxSteps:=9^9)(disch:=try exact dS)only[go_sem,qEv,hlt,hg];repeat refine aiG ?_
   refine qDd.of (k+1,r++w) ⟨by show k+1≤_;omega,soM⟩ (by show pt.length-(k+1)<pt.length-k;omega) (qI.rd (fun j=>if j=9000 then 36944 else j) ?_ ?_ rfl);all_goals simp(maxSteps:=9^9)(disch:=try exact dS)only[go_sem,id]
   all_goals first | omega | rfl | simp
  ·simp(maxSteps:=9^9)(disch:=try exact dS)only[go_sem,qEv,hlt];exact zE9 r oM rfl rfl
 have h8:h=0∨h=1∨h=2∨h=3:=oM;rcases h8 with rfl | rfl | rfl | rfl
 ·by_cases c4:1≤l
  ·simp(maxSteps:=9^9)(disch:=try exact dS)only[go_sem,jZ,c3,c4];exact zE9 [] sM rfl rfl
  ·simp(maxSteps:=9^9)(disch:=try exact dS)only[go_sem,jZ,c3,c4,h1,h2,h3,h4,e1,e2,e3,e4,u8w];refine key _ _ (qI.rd (fun j=>if j=9000 then 16528 else j) ?_ ?_ rfl);all_goals simp(maxSteps:=9^9)(disch:=try exact dS)only[go_sem,id]
   all_goals rfl
 ·by_cases c4:2≤l
  ·simp(maxSteps:=9^9)(disch:=try exact dS)only[go_sem,jZ,c3,c4];exact zE9 [] sM rfl rfl
  ·simp(maxSteps:=9^9)(disch:=try exact dS)only[go_sem,jZ,c3,c4,h1,h2,h3,h4,e1,e2,e3,e4,u8w];refine key _ _ (qI.rd (fun j=>if j=9000 then 16528 else j) ?_ ?_ rfl);all_goals simp(maxSteps:=9^9)(disch:=try exact dS)only[go_sem,id]
   all_goals rfl
 ·by_cases c4:4≤l
  ·simp(maxSteps:=9^9)(disch:=try exact dS)only[go_sem,jZ,c3,c4];exact zE9 [] sM rfl rfl
  ·simp(maxSteps:=9^9)(disch:=try exact dS)only[go_sem,jZ,c3,c4,h1,h2,h3,h4,e1,e2,e3,e4,u8w];refine key _ _ (qI.rd (fun j=>if j=9000 then 16528 else j) ?_ ?_ rfl);all_goals simp(maxSteps:=9^9)(disch:=try exact dS)only[go_sem,id]
   all_goals rfl
 ·by_cases c4:8≤l
  ·simp(maxSteps:=9^9)(disch:=try exact dS)only[go_sem,jZ,c3,c4];exact zE9 [] sM rfl rfl
  ·simp(maxSteps:=9^9)(disch:=try exact dS)only[go_sem,jZ,c3,c4,h1,h2,h3,h4,e1,e2,e3,e4,u8w];refine key _ _ (qI.rd (fun j=>if j=9000 then 16528 else j) ?_ ?_ rfl);all_goals simp(maxSteps:=9^9)(disch:=try exact dS)only[go_sem,id]
   all_goals rfl
theorem zCt {g1}(h1:LkE tab 276 qOq g1){g2}(h2:LkE tab 277 qKv g2)(h3:LkC tab 20 xO)(p m sg:List UInt8)(hp:p.length≤4000∧m.length≤100000∧sg.length≤4000) :
  kO.1.wp tab gl (qE 0 [.t (.sl (p.map qA)),.t (.sl (m.map qA)),.t (.sl (sg.map qA))]) (qE 0 []) (qX [(6,none),(7,none)] 0 (qPd.K (p,m,sg))):=by
 obtain⟨q1,q2,q3⟩:=hp;by_cases c1:p.length=17
 rotate_left
 ·simp(maxSteps:=9^9)(disch:=try exact dS)only[go_sem,kO,c1];exact zN0 0 false trivial rfl rfl
 obtain⟨a,p,rfl⟩ : ∃ a p',p=a::p':=by cases p with | nil=>simp at c1 | cons a p=>exact⟨a,p,rfl⟩
 simp only[List.length_cons] at c1;have c1':p.length=16:=oM;by_cases c2:3<a.toNat
 ·simp(maxSteps:=9^9)(disch:=try exact dS)only[go_sem,kO,c1',c2];exact zN0 0 false trivial rfl rfl
 have h8:a.toNat=0∨a.toNat=1∨a.toNat=2∨a.toNat=3:=oM;by_cases c3:sg.length=561+16*a.toNat
 rotate_left
 ·rcases h8 with h8 | h8 | h8 | h8;all_goals
   rw[h8] at c3;simp(maxSteps:=9^9)(disch:=try exact dS)only[go_sem,kO,c1',h8,c3];exact zN0 0 false trivial rfl rfl
 obtain⟨b,w,rfl⟩ : ∃ b w,sg=b::w:=by cases sg with | nil=>exact absurd c3 (by simp only[List.length_nil];omega) | cons a p=>exact⟨a,p,rfl⟩
 simp only[List.length_cons] at c3;have c3':w.length=560+16*a.toNat:=oM;obtain⟨x,v,lx,e1⟩:=jJz (g:=g1) (l:=b.toNat) (m:=m) (sg:=w.take 560) ⟨q2,soM⟩;have h9:a.toNat≤3:=oM;rcases h8 with h8 | h8 | h8 | h8;all_goals
  have d3:=c3';rw[h8] at d3;simp only[Nat.reduceMul,Nat.reduceAdd] at d3;simp +contextual(maxSteps:=9^9)(disch:=try exact dS)only[go_sem,kO,c1',h8,d3,h1,e1,↓qB,↓qC,qU];refine⟨fun _=>zN0 0 false trivial rfl rfl,fun _=>?_⟩;clear d3;refine zD (σ:=Nat×List (List UInt8)) (fun t=>t.1≤a.toNat∧t.2.length=t.1 ∧ ∀ x∈t.2,x.length≤16) (fun t=>a.toNat-t.1) (fun t=>[(0,.t (.sl (qA a::p.map qA))),(2,.t (.sl (qA b::w.map qA))),(8,.t (.int .i64 a.toNat)),(9,.t (.int .i64 b.toNat)),(10,.t (.int .i64 ((561+16*t.1:Nat):Int))),(11,.t (.sl (x.map qA))),(13,.sl 9000 0 t.2.length),(14,.t (.int .i64 t.1))]) (fun t=>[(9000,.live 1 ((t.2.map bsT).map V.t) true false)]) (0,[]) ⟨sM,rfl,sM⟩ (qI.cv0 (hv:=[(9000,.live 1 [] true false)]) (ho:=[]) id ?_ ?_ rfl rfl) ?_
  ·simp(maxSteps:=9^9)(disch:=try exact dS)only[go_sem,id,h8];all_goals rfl
  ·simp(maxSteps:=9^9)(disch:=try exact dS)only[go_sem,id];all_goals rfl
  clear h8;rintro⟨k,r⟩ ⟨hk,hr,hx⟩;simp only at hk hr hx;by_cases hlt:k<a.toNat
  ·obtain⟨y,hS,ly⟩ : ∃ y:List UInt8,List.take 16 (List.drop (561+16*k) (qA b::List.map qA w))=List.map qA y∧y.length≤16:=⟨((b::w).drop (561+16*k)).take 16,by rw[←List.map_cons,←List.map_drop,←List.map_take],soM⟩;simp(maxSteps:=9^9)(disch:=try exact dS)only[go_sem,hlt,hr,c3',hS];repeat refine aiG ?_
   refine qDd.of (k+1,r++[y]) ⟨by show k+1≤_;omega,by simp[hr],?_⟩ (by show a.toNat-(k+1)<a.toNat-k;omega) (qI.rd (fun j=>if j=9000 then 57456 else j) ?_ ?_ rfl)
   ·intro x hx';simp only[List.mem_append,List.mem_cons,List.not_mem_nil,or_false] at hx';rcases hx' with hx' | rfl
    ·exact hx x hx'
    ·exact ly
   all_goals simp(maxSteps:=9^9)(disch:=try exact dS)only[go_sem,id,hr]
   all_goals first | omega | rfl | simp[hr]
  ·obtain⟨z,hz,e2⟩:=jHf (g:=g2) (x:=x) (i:=b.toNat) (p:=r) ⟨lx,hx⟩;have e3:=kX (a:=z) (b:=p) ⟨oM,oM⟩;have tR:List.take k r=r:=List.take_of_length_le oM;simp +contextual(maxSteps:=9^9)(disch:=try exact dS)only[go_sem,hlt,hr,h2,h3,e2,e3,tR,↓qB,↓qC,qU]
   (repeat' (first | apply And.intro | intro _))<;>(try rfl)
   all_goals first | exact zN0 0 false trivial rfl rfl | exact zN0 _ true trivial rfl rfl
end Go.Eng
end
