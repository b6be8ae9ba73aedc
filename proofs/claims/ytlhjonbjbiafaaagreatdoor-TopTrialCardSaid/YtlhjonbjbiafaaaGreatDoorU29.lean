/- A part of an abstract machine, its walks, their tie. -/
import Derived.Test.YtlhjonbjbiafaaaGreatDoorU28
import Derived.Test.YtlhjonbjbiafaaaGreatDoorU16
import Derived.Test.YtlhjonbjbiafaaaGreatDoorU22
import Derived.Test.YtlhjonbjbiafaaaGreatDoorU24
import Derived.Test.YtlhjonbjbiafaaaGreatDoorU25
set_option linter.all false
section
set_option maxHeartbeats 64000000
set_option maxRecDepth 20000
namespace Go.Eng
variable (tab:Tab) (gl:Gl)
variable {vv:V} {oo:List Ob}
theorem jS6 {s:Rd} : ∀ {n:Nat},(zZf s n).1.length=n
 | 0=>rfl
 | n+1=>by simp[zZf,jS6 (n:=n)]
theorem jTc {s:Rd} : ∀ {n:Nat},(jFj s n).1.length=n
 | 0=>rfl
 | n+1=>by simp[jFj,jTc (n:=n)]
theorem jS8 {s:Rd} : ∀ {n:Nat},(jFb s n).1.length=n
 | 0=>rfl
 | n+1=>by simp[jFb,jS8 (n:=n)]
theorem jTa {s:Rd}{k:Nat}:0≤(qU s k).1∧((qU s k).2.2.2≠0→(qU s k).1=0):=by
 unfold qU;split
 ·exact⟨Int.le_refl _,fun _=>rfl⟩
 ·split
  ·exact⟨Int.le_refl _,fun _=>rfl⟩
  ·split
   ·exact⟨Int.le_refl _,fun _=>rfl⟩
   ·exact⟨Int.natCast_nonneg _,fun h=>absurd rfl h⟩
theorem jTw {s:Rd}{m:Int}(hm:0≤m):0≤(zWa s m).1∧(zWa s m).1≤m:=by
 have h:=jTa (s:=s) (k:=1);unfold zWa;split
 ·exact⟨Int.le_refl _,hm⟩
 ·rename_i hn;refine⟨h.1,?_⟩;by_cases e:(qU s 1).2.2.2=0
  ·have : ¬ m<(qU s 1).1:=fun h=>hn ⟨e,h⟩
   omega
  ·rw[h.2 e];exact hm
theorem qNa (s:Rd):kP s = .live 3 [.t (.agg [.sl (s.1.map qA),.int .i64 (s.2.1:Int),.int .i64 s.2.2])] true true:=rfl
def Ix.M (x:Ix):Prop:=x.po.length≤100000∧x.au.length≤100000∧x.da.length≤100000
def Obj.M (x:Obj):Prop:=(x.p.po.length≤100000∧x.p.un.length≤100000)∧x.s.au.length≤100000∧x.s.sd.length≤100000∧x.s.da.length≤100000
def Ses.M (x:Ses):Prop:=x.no.length≤100000∧x.dg.length≤100000
structure Sa.M (s:Sa):Prop where
 sd:zPk s.sd
 au:zPk s.au
 en:s.en.length<1000000000
 bk:RM s.bk
 ix:s.ix.length≤1000000 ∧ ∀ x∈s.ix,x.M
 ks:s.ks.length≤1000000 ∧ ∀ x∈s.ks,x.un.length≤100000
structure St.M (s:St):Prop where
 a:s.a.M
 bk:RM s.bk
 rl:s.rl.length≤1000000
 wl:s.wl.length≤1000000
 ses:s.ses.length≤1000000 ∧ ∀ x∈s.ses,x.M
 obs:s.obs.length≤1000000 ∧ ∀ x∈s.obs,x.M
theorem ShA.shp {act:Int}{bk:List qY}(ha:1≤act∧act≤3)(h:ShA act bk):Shp act bk:=by
 obtain⟨b0,b1,rfl,h0,h1,z0,z1⟩:=h;have hn:yJ act=[if act%2=1 then qA7 0 else [],if act/2%2=1 then qA7 1 else []]:=qCx oM;have k0:List.length b0=List.length (if act%2=1 then qA7 0 else []):=by
  rw[h0];split
  ·exact qM.symm
  ·rfl
 have k1:List.length b1=List.length (if act/2%2=1 then qA7 1 else []):=by
  rw[h1];split
  ·exact qM.symm
  ·rfl
 refine⟨by rw[hn];rfl,?_,?_⟩
 ·funext a;rw[hn]
  match a with
  | 0=>exact k0
  | 1=>exact k1
  | n+2=>rfl
 ·intro a ha' x hx;rcases (by omega:a=0∨a=1) with rfl | rfl
  ·exact z0 x hx
  ·exact z1 x hx
theorem BkS.shp {act:Int}{bk:List qY}(h:BkS act bk) : ∃ s,Shp s bk:=by
 rcases h with rfl | ⟨ha,h⟩
 ·exact⟨0,rfl,rfl,RZ.nil⟩
 ·exact⟨act,h.shp ha⟩
theorem zXm {act u:Int}{bk:List qY}(h:BkS act bk)(hu:0≤u∧u<9223372036854775808):dcT (qEc bk u)=(bk,u,0):=by
 obtain⟨s,hs⟩:=h.shp;have e:=(zQm (qEc bk u)).1.symm.trans (zXl h.rv hs hu);unfold zT at e;injection e with e;injection e with e1 e2;injection e1 with e1;injection e1 with e1;injection e1 with e1 e3;injection e1 with e1;injection e3 with e3;injection e3 with _ e3;injection e2 with e2;injection e2 with e2;injection e2 with _ e2;generalize dcT (qEc bk u)=z at *;obtain⟨x,y,w⟩:=z;simp only at e1 e2 e3;rw[qBu (fun _ _=>qSt) e1,e2,e3]
theorem qX3 {s:Sa}(h:s.Ok)(hr:s.res<9223372036854775808∧s.rst<9223372036854775808∧s.u<9223372036854775808):jIm (qGt s)=(s,0):=by
 obtain⟨b,hb⟩ : ∃ b,qGt s=b:=⟨_,rfl⟩;have h0:At b 0 b:=⟨[],rfl,rfl⟩;have hw:=jDf s;rw[hb] at hw ⊢;have lk:=h.lk;unfold Lk.Ok at lk;have x1:=h.act;have x2:=h.res;have x3:=h.rst;have x4:=h.clk;have x5:=h.u;have x6:=h.mc;have x7:=h.en;have le:=zLi (u:=s.u) h.bk.rv;have g0:At b 0 (bY 1::(bY s.act::(s.sd.flatMap wB++(s.au.flatMap wB++(wB s.en++(beI 8 s.res 8++(beI 8 s.rst 8++(beI 8 s.clk 8++(bO s.ord::(wB (qEc s.bk s.u)++(beI 8 s.mc 8++(bY s.ix.length::(s.ix.flatMap wX++(beI 8 s.lk.fa 8++(beI 8 s.lk.mx 8++(beI 8 s.lk.rc 8++(beI 8 s.lk.si 8++(beI 8 s.lk.cl 8++(beI 8 s.lk.pe 8++(bY s.ks.length::(s.ks.flatMap wL++[]))))))))))))))))))))):=by
  rw[List.append_nil];rw[show bY 1=1 from rfl,←hw];exact h0
 obtain⟨a0,g1⟩:=g0.byte oM;obtain⟨a1,g2⟩:=g1.small (m:=3) oM oM;obtain⟨p2,a2,g3⟩:=g2.blobs h.sd.1 (fun x hx=>by have:=h.sd.2 x hx;omega);obtain⟨p3,a3,g4⟩:=g3.blobs h.au.1 (fun x hx=>by have:=h.au.2 x hx;omega);obtain⟨a4,g5⟩:=g4.wbl oM;obtain⟨a5,g6⟩:=g5.uint (.inl ⟨rfl,oM⟩);obtain⟨a6,g7⟩:=g6.uint (.inl ⟨rfl,oM⟩);obtain⟨a7,g8⟩:=g7.uint (.inl ⟨rfl,oM⟩);obtain⟨a8,g9⟩:=g8.flag;obtain⟨a9',g10⟩:=g9.wbl oM;generalize hp9:p3+2+s.en.length+8+8+8+1=p9 at *;have a9:jKp (b,p9,0)=((s.bk,s.u),(b,p9+2+(qEc s.bk s.u).length,0)):=by
  unfold jKp;rw[a9',if_neg sM,zXm h.bk ⟨x5,hr.2.2⟩]
 obtain⟨a10,g11⟩:=g10.uint (.inl ⟨rfl,oM⟩);obtain⟨a11,g12⟩:=g11.small (m:=6) (by have:=h.ix.1;omega) (by have:=h.ix.1;omega);obtain⟨p12,a12,g13⟩:=At.many (f:=jE9) (F:=jFj) (fun _=>rfl) (fun _ _=>rfl) (fun x hx p r g=>At.ix (h.ix.2 x hx) g) g12;obtain⟨a13,g14⟩:=g13.uint (.inl ⟨rfl,oM⟩);obtain⟨a14,g15⟩:=g14.uint (.inl ⟨rfl,oM⟩);obtain⟨a15,g16⟩:=g15.uint (.inl ⟨rfl,oM⟩);obtain⟨a16,g17⟩:=g16.uint (.inl ⟨rfl,oM⟩);obtain⟨a17,g18⟩:=g17.uint (.inl ⟨rfl,oM⟩);obtain⟨a18,g19⟩:=g18.uint (.inl ⟨rfl,oM⟩);obtain⟨a19,g20⟩:=g19.small (m:=8) (by have:=h.ks.1;omega) (by have:=h.ks.1;omega);obtain⟨p20,a20,g21⟩:=At.many (f:=jFc) (F:=jFb) (fun _=>rfl) (fun _ _=>rfl) (fun x hx p r g=>At.lv (h.ks.2 x hx) g) g20;have hend:qA2 (b,p20,0)=0:=by
  obtain⟨t,ht,hb'⟩:=g21;rw[List.append_nil] at hb';subst hb';unfold qA2;rw[if_neg (fun g=>by have:=g.2;simp only at this;omega)]
 have hsa:jFd (b,1,0)=(s,(b,p20,0)):=by
  simp only[jFd,Nat.zero_add,a1,a2,a3,a4,a5,a6,a7,a8,a9,a10,a11,Int.toNat_natCast,a12,a13,a14,a15,a16,a17,a18,a19,a20,zLp,hp9]
 unfold jIm;rw[a0];simp only[Nat.zero_add];rw[hsa];simp only[hend];simp
def qI2:ECt where
 α:=Dv
 β:=Bool
 aS:=fun d=>[.t (dvA d)]
 pre:=fun d=>True
 r:=fun r'=> .t (.bool r')
 R:=fun d r'=>r'=(d.on && !d.k.off)
 inj:=by rintro d d' e _;simp only[qAf,qJ3,qRv] at e;obtain rfl:=e;rfl
theorem zWq {g:EF qI2}{d:Dv}:qI2.fs g [.t (dvA d)] []=some (.t (.bool ((d.on && !d.k.off))),[]):=fnQ qI2 d trivial
theorem zCg {d:Dv}(hV:vv = .t (.bool ((d.on && !d.k.off))))(hO:oo=[]):qI2.K d vv oo:=⟨_,rfl,hV,hO⟩
theorem qQ8  (d:Dv) :
  kQ.1.wp tab gl (qF 0 [.t (dvA d)]) (qF 0 []) (zD [(2,none)] 0 (qI2.K d)):=by
 obtain⟨⟨ar,wr,cut,tn,off⟩,s,on,nx⟩:=d;cases on
 ·simp(maxSteps:=9^9)(disch:=try exact dS)only[go_sem,kQ,dvA];first | exact (zCg rfl rfl) | exact⟨rfl,(zCg rfl rfl)⟩ | exact⟨rfl,rfl,(zCg rfl rfl)⟩ | exact⟨rfl,rfl,rfl,(zCg rfl rfl)⟩
 ·simp(maxSteps:=9^9)(disch:=try exact dS)only[go_sem,kQ,dvA];first | exact (zCg rfl rfl) | exact⟨rfl,(zCg rfl rfl)⟩ | exact⟨rfl,rfl,(zCg rfl rfl)⟩ | exact⟨rfl,rfl,rfl,(zCg rfl rfl)⟩
def zMs (d:Dv):Dv:=⟨{ d.k with off:=true },default,false,d.nx⟩
def qFd:ECt where
 α:=Dv
 β:=Dv
 aS:=fun d=>[.t (dvA d)]
 pre:=fun d=>True
 r:=fun r'=> .t (dvA r')
 R:=fun d r'=>r'=zMs d
 inj:=by rintro d d' e _;simp only[qAf,qJ3,qRv] at e;obtain rfl:=e;rfl
theorem zWp {g:EF qFd}{d:Dv}:qFd.fs g [.t (dvA d)] []=some (.t (dvA (zMs d)),[]):=fnQ qFd d trivial
theorem jLk {d:Dv}(hV:vv = .t (dvA (zMs d)))(hO:oo=[]):qFd.K d vv oo:=⟨_,rfl,hV,hO⟩
theorem qZh {g1}(h1:LkE tab 82 qK7 g1)(d:Dv) :
  qEo.1.wp tab gl (qF 0 [.t (dvA d)]) (qF 0 []) (zD [(2,(some (37,true)))] 0 (qFd.K d)):=by
 have e1 := @jC1 g1 d.k;simp only[dkA] at e1;simp(maxSteps:=9^9)(disch:=try exact dS)only[go_sem,qEo,dvA,h1,e1];repeat refine aiG ?_
 exact jLk rfl rfl
def qI1:ECt where
 α:=Dv
 β:=Dv
 aS:=fun d=>[.t (dvA d)]
 pre:=fun d=>True
 r:=fun r'=> .t (dvA r')
 R:=fun d r'=>r'=zMs d
 inj:=by rintro d d' e _;simp only[qAf,qJ3,qRv] at e;obtain rfl:=e;rfl
theorem jHi {g:EF qI1}{d:Dv}:qI1.fs g [.t (dvA d)] []=some (.t (dvA (zMs d)),[]):=fnQ qI1 d trivial
theorem jLm {d:Dv}(hV:vv = .t (dvA (zMs d)))(hO:oo=[]):qI1.K d vv oo:=⟨_,rfl,hV,hO⟩
theorem qPw {g1}(h1:LkE tab 44 qFd g1)(d:Dv) :
  qAk.1.wp tab gl (qF 0 [.t (dvA d)]) (qF 0 []) (zD [(2,(some (37,true)))] 0 (qI1.K d)):=by
 have e1 := @zWp g1 d;have hK : ∀ vv,vv = .t (dvA (zMs d))→qI1.K d vv []:=fun vv h=>jLm h rfl
 generalize zMs d=y at *;simp only[dvA] at e1;simp(maxSteps:=9^9)(disch:=try exact dS)only[go_sem,qAk,dvA,h1,e1];repeat refine aiG ?_
 exact hK _ rfl
def Sa.B (s:Sa):Prop:=s.Ok∧s.res<9223372036854775808∧s.rst<9223372036854775808∧s.u<9223372036854775808
theorem qX9 {s t:Sa}(h:s.B)(g:t.B)(e:qGt s=qGt t):s=t:=by
 have h1:=qX3 h.1 h.2;have h2:=qX3 g.1 g.2;rw[e,h2] at h1;exact (Prod.mk.inj h1).1.symm
theorem zHf {s:Sa}{n:Int}(h:s.B)(hn:1≤n∧n≤1000000):qYs n (qGt s):=⟨hn,by have:=qPe h.1;omega⟩
def zAe (en:List UInt8):Sa:=⟨[drv en [115,101,101,100] [0] 32,drv en [115,101,101,100] [1] 32,drv en [115,101,101,100] [2] 32],[[],[],[],[]],drv en [101,110,116,114,111,112,121] [] 32,2,0,0,0,true,[],0,0,[],⟨0,5,100,0,0,1000⟩,[]⟩
theorem zEl {en:List UInt8}:(zAe en).Ok where
 sd:=⟨rfl,by
  intro x hx;simp only[zAe,List.mem_cons,List.not_mem_nil,or_false] at hx;rcases hx with rfl | rfl | rfl<;>exact Nat.le_of_eq kA⟩
 au:=⟨rfl,by
  intro x hx;simp only[zAe,List.mem_cons,List.not_mem_nil,or_false] at hx;rcases hx with rfl | rfl | rfl | rfl<;>simp⟩
 en:=kA
 act:=(by decide:(0:Int)≤2∧(2:Int)≤3)
 res:=Int.le_refl 0
 rst:=Int.le_refl 0
 clk:=(by decide:(0:Int)≤0∧(0:Int)≤1099511627776)
 bk:= .inl rfl
 u:=Int.le_refl 0
 mc:=(by decide:(0:Int)≤0∧(0:Int)≤1099511627776)
 ix:=⟨Nat.zero_le 6,by intro x hx;cases hx⟩
 lk:=(by unfold Lk.Ok;decide:Lk.Ok ⟨0,5,100,0,0,1000⟩)
 ks:=⟨Nat.zero_le 8,by intro x hx;cases hx⟩
theorem jEs {en:List UInt8}:(zAe en).B:=⟨zEl,(by decide:(0:Int)<9223372036854775808),(by decide:(0:Int)<9223372036854775808),(by decide:(0:Int)<9223372036854775808)⟩
def nwV (en:List UInt8):Dv:=⟨⟨[[],qG0 1 (qGt (zAe en)),[],[]],1,0,0,true⟩,default,false,2⟩
def qI0:ECt where
 α:=Int×List UInt8×Int
 β:=Dv×Int
 aS:=fun (n,en,a)=>[.t (.int .i64 n),.t (.sl (en.map qA)),.t (.int .i64 a)]
 pre:=fun (n,en,a)=>n=4∧en.length=32∧a=2
 r:=fun (d,e)=> .tup [.t (dvA d),.t (.int .i64 e)]
 R:=fun (n,en,a) (d,e)=>d=nwV en∧e=0
theorem jHh {g:EF qI0}{n:Int}{en:List UInt8}{a:Int}(hp:n=4∧en.length=32∧a=2) : ∃ (d:Dv) (e:Int),(d=nwV en∧e=0)∧qI0.fs g [.t (.int .i64 n),.t (.sl (en.map qA)),.t (.int .i64 a)] []=some (.tup [.t (dvA d),.t (.int .i64 e)],[]):=by
 obtain⟨y,h1,h2⟩:=qI0.eq g (n,en,a) hp;exact⟨y.1,y.2,h1,h2⟩
theorem jLl {n:Int}{en:List UInt8}{a:Int}(d:Dv)(e:Int)(hR:d=nwV en∧e=0)(hV:vv = .tup [.t (dvA d),.t (.int .i64 e)])(hO:oo=[]):qI0.K (n,en,a) vv oo:=⟨(d,e),hR,hV,hO⟩
theorem qZf (h1:LkC tab 40 qX2){g2}(h2:LkE tab 42 qK4 g2){g3}(h3:LkE tab 43 qPd g3){g4}(h4:LkE tab 41 qGj g4){g5}(h5:LkE tab 44 qFd g5)(n:Int)(en:List UInt8)(a:Int)(hp:n=4∧en.length=32∧a=2) :
  qEm.1.wp tab gl (qF 0 [.t (.int .i64 n),.t (.sl (en.map qA)),.t (.int .i64 a)]) (qF 0 []) (zD [(6,(some (37,true))),(7,none)] 0 (qI0.K (n,en,a))):=by
 obtain⟨rfl,he,rfl⟩:=hp;have e1:=jAr (en:=en) (act:=2) oM;have hG:zCc en 2=⟨[drv en [115,101,101,100] [0] 32,drv en [115,101,101,100] [1] 32,drv en [115,101,101,100] [2] 32],[[],[],[],[]],drv en [101,110,116,114,111,112,121] [] 32,2,0,0,0,true,[],0,0,0,5,100,0,0,1000⟩:=by rw[zCc,if_neg oM]
 have hE:zE5 en 2=0:=by rw[zE5,if_neg oM]
 have hS:jIw (zCc en 2)=saA (zAe en):=by rw[hG];rfl
 rw[hS,hE] at e1;obtain⟨pb,hpb,e3⟩:=zN9 (g:=g3) (s:=zAe en) zEl;have hl:pb.length≤60000:=by rw[hpb];have:=qPe (zEl (en:=en));omega
 have e2:=jCy (g:=g2) (n:=4) rfl;obtain⟨k,e,⟨hk,rfl⟩,e4⟩:=zVs (g:=g4) (k:=⟨[[],[],[],[]],0,0,0,false⟩) (b:=0) (n:=1) (p:=pb) ⟨⟨rfl,rfl,rfl,by decide⟩,rfl,⟨by decide,hl⟩⟩;have e5 := @zWp g5 ⟨k,default,false,2⟩;have hV:zMs ⟨k,default,false,2⟩=nwV en:=by rw[hk,hpb];rfl
 rw[hV] at e5;have tp:List.take pb.length pb=pb:=List.take_length;have hK : ∀ vv,vv = .tup [.t (dvA (nwV en)),.t (.int .i64 0)]→qI0.K (4,en,2) vv []:=fun vv h=>jLl (nwV en) 0 ⟨rfl,rfl⟩ h rfl
 clear hk hpb hV hS hG hE;generalize nwV en=y at *;generalize zAe en=x at *;have d1:dvA ⟨k,default,false,2⟩ = .agg [.sl (k.ar.map bsT),.int .i64 k.wr,.int .i64 k.cut,.int .i64 k.tn,.bool k.off,.sl [],.sl [],.sl [],.int .i64 0,.int .i64 0,.int .i64 0,.int .i64 0,.bool false,.sl [],.int .i64 0,.int .i64 0,.sl [],.int .i64 0,.int .i64 0,.int .i64 0,.int .i64 0,.int .i64 0,.int .i64 0,.sl [],.bool false,.bool false,.sl [],.int .i64 0,.int .i64 0,.bool false,.int .i64 0,.sl [],.sl [],.sl [],.sl [],.bool false,.int .i64 2]:=rfl;rw[d1] at e5;simp only[dkA,dvA,saA,mcn,qO] at e1 e2 e3 e4 e5;simp(maxSteps:=9^9)(disch:=try exact dS)only[go_sem,qEm,dkA,dvA,saA,mcn,qO,h1,e1,h2,e2,h3,e3,h4,e4,h5,e5,tp];repeat refine aiG ?_
 exact hK _ rfl
def qL7:ECt where
 α:=Dv
 β:=Dv×Int
 aS:=fun d=>[.t (dvA d)]
 pre:=fun d=>d.on=false∧d.k.ar.length=4 ∧ ∃ n s,Sa.B s∧jOk d.k.ar n (qGt s)
 r:=fun (r,e)=> .tup [.t (dvA r),.t (.int .i64 e)]
 R:=fun d (r,e)=>e=0 ∧ ∀ n s,Sa.B s→jOk d.k.ar n (qGt s)→r=⟨⟨d.k.ar,0,0,0,false⟩,qCu s,true,n+1⟩
 inj:=by rintro d d' e _;simp only[qAf,qJ3,qRv] at e;obtain rfl:=e;rfl
theorem jHj {g:EF qL7}{d:Dv}(hp:d.on=false∧d.k.ar.length=4 ∧ ∃ n s,Sa.B s∧jOk d.k.ar n (qGt s)) : ∃ (r:Dv) (e:Int),(e=0 ∧ ∀ n s,Sa.B s→jOk d.k.ar n (qGt s)→r=⟨⟨d.k.ar,0,0,0,false⟩,qCu s,true,n+1⟩)∧qL7.fs g [.t (dvA d)] []=some (.tup [.t (dvA r),.t (.int .i64 e)],[]):=by
 obtain⟨y,h1,h2⟩:=qL7.eq g d hp;exact⟨y.1,y.2,h1,h2⟩
theorem jLn {d:Dv}(r:Dv)(e:Int)(hR:e=0 ∧ ∀ n s,Sa.B s→jOk d.k.ar n (qGt s)→r=⟨⟨d.k.ar,0,0,0,false⟩,qCu s,true,n+1⟩)(hV:vv = .tup [.t (dvA r),.t (.int .i64 e)])(hO:oo=[]):qL7.K d vv oo:=⟨(r,e),hR,hV,hO⟩
theorem qQ7 {g1}(h1:LkE tab 50 qI2 g1){g2}(h2:LkE tab 83 qK6 g2){g3}(h3:LkE tab 84 qLc g3){g4}(h4:LkE tab 85 qS6 g4){g5}(h5:LkE tab 86 qS5 g5)(d:Dv)(hp:d.on=false∧d.k.ar.length=4 ∧ ∃ n s,Sa.B s∧jOk d.k.ar n (qGt s)) :
  qBd.1.wp tab gl (qF 0 [.t (dvA d)]) (qF 0 []) (zD [(2,(some (37,true))),(3,none)] 0 (qL7.K d)):=by
 obtain⟨ho,hl,n,s,hs,hj⟩:=hp;have e1 := @zWq g1 d;rw[ho,Bool.false_and] at e1;have e2 := @jC0 g2 d.k;obtain⟨p,m,e,⟨rfl,hR⟩,e3⟩:=jD6 (g:=g3) (k:=⟨d.k.ar,0,0,0,false⟩) (b:=0) ⟨rfl,hl,rfl,n,qGt s,hj⟩;obtain⟨hp1,hp2⟩:=hR n (qGt s) hj;rw[hp1,hp2] at e3;obtain⟨y,e,hD,e4⟩:=jC3 (g:=g4) (b:=qGt s) (by have:=qPe hs.1;omega);rw[qX3 hs.1 hs.2] at hD;obtain⟨hy,rfl⟩:=Prod.mk.inj hD;rw[hy] at e4;have e5 := @jCh g5 s;have hK : ∀ m t,Sa.B t→jOk d.k.ar m (qGt t)→(⟨⟨d.k.ar,0,0,0,false⟩,qCu s,true,n+1⟩:Dv)=⟨⟨d.k.ar,0,0,0,false⟩,qCu t,true,m+1⟩:=by
  intro m t ht hm;obtain⟨h1,h2⟩:=zEe hj hm;obtain rfl:=qX9 hs ht h1;rw[h2]
 have hn : -1000000≤n∧n≤1000000:=by have:=hj.1.1;omega
 clear hR hj;clear hp1 hp2 hy hD;generalize qGt s=b at *;generalize qCu s=z at *;obtain⟨⟨ar,wr,cut,tn,off⟩,s0,on,nx⟩:=d;simp only at ho hK;subst ho;simp only[dkA,dvA,saA,stA] at e1 e2 e3 e4 e5;simp(maxSteps:=9^9)(disch:=try exact dS)only[go_sem,qBd,dkA,dvA,saA,stA,h1,e1,h2,e2,h3,e3,h4,e4,h5,e5];repeat refine aiG ?_
 exact jLn ⟨⟨ar,0,0,0,false⟩,z,true,n+1⟩ 0 ⟨rfl,hK⟩ rfl rfl
def qQi (d:Dv)(s:St):Dv:=if qGt s.a=qGt d.s.a then { d with s:=s } else ⟨{ d.k with wr:=d.k.wr+1,ar:=d.k.ar.set (d.nx%2).toNat (qG0 d.nx (qGt s.a)) },s,d.on,d.nx+1⟩
def qL6:ECt where
 α:=Dv×St
 β:=Dv×Int
 aS:=fun (d,s)=>[.t (dvA d),.t (stA s)]
 pre:=fun (d,s)=>(okD d.k∧(1≤d.nx∧d.nx≤100000))∧Sa.B d.s.a∧Sa.B s.a
 r:=fun (r,e)=> .tup [.t (dvA r),.t (.int .i64 e)]
 R:=fun (d,s) (r,e)=>r=qQi d s∧e=0
 inj:=by rintro⟨d,s⟩ ⟨d',s'⟩ e _;simp only[qAf,qJ3,qRv] at e;obtain⟨rfl,rfl⟩:=e;rfl
theorem jG4 {g:EF qL6}{d:Dv}{s:St}(hp:(okD d.k∧(1≤d.nx∧d.nx≤100000))∧Sa.B d.s.a∧Sa.B s.a) : ∃ (r:Dv) (e:Int),(r=qQi d s∧e=0)∧qL6.fs g [.t (dvA d),.t (stA s)] []=some (.tup [.t (dvA r),.t (.int .i64 e)],[]):=by
 obtain⟨y,h1,h2⟩:=qL6.eq g (d,s) hp;exact⟨y.1,y.2,h1,h2⟩
theorem jG3 {d:Dv}{s:St}(r:Dv)(e:Int)(hR:r=qQi d s∧e=0)(hV:vv = .tup [.t (dvA r),.t (.int .i64 e)])(hO:oo=[]):qL6.K (d,s) vv oo:=⟨(r,e),hR,hV,hO⟩
theorem qUk {g1}(h1:LkE tab 43 qPd g1){g2}(h2:LkE tab 41 qGj g2){g3}(h3:LkE tab 44 qFd g3)(d:Dv)(s:St)(hp:(okD d.k∧(1≤d.nx∧d.nx≤100000))∧Sa.B d.s.a∧Sa.B s.a) :
  xC.1.wp tab gl (qF 0 [.t (dvA d),.t (stA s)]) (qF 0 []) (zD [(4,(some (37,true))),(5,none)] 0 (qL6.K (d,s))):=by
 obtain⟨⟨hk,hx⟩,hd,hs⟩:=hp;obtain⟨p,hp,e1⟩:=zN9 (g:=g1) (s:=s.a) hs.1;obtain⟨q,hq,e2⟩:=zN9 (g:=g1) (s:=d.s.a) hd.1;obtain⟨k,e,⟨hk',rfl⟩,e3⟩:=zVs (g:=g2) (k:=d.k) (b:=0) (n:=d.nx) (p:=p) ⟨hk,rfl,⟨oM,by rw[hp];have:=qPe hs.1;omega⟩⟩;have hl:p.length≤60000:=by rw[hp];have:=qPe hs.1;omega
 have hl2:q.length≤60000:=by rw[hq];have:=qPe hd.1;omega
 have tp:List.take p.length p=p:=List.take_length;have tq:List.take q.length q=q:=List.take_length;by_cases c:p=q
 ·have hK:qQi d s = { d with s:=s }:=by rw[qQi,←hp,←hq,if_pos c]
  clear hk' hp hq;subst c;obtain⟨⟨ar,wr,cut,tn,off⟩,s0,on,nx⟩:=d;simp only[dkA,dvA,saA,stA] at e1 e2 e3;simp(maxSteps:=9^9)(disch:=try exact dS)only[go_sem,xC,dkA,dvA,saA,stA,h1,e1,e2,tp];repeat refine aiG ?_
  exact jG3 ⟨⟨ar,wr,cut,tn,off⟩,s,on,nx⟩ 0 ⟨hK.symm,rfl⟩ rfl rfl
 ·have hK:qQi d s=⟨k,s,d.on,d.nx+1⟩:=by rw[qQi,←hp,←hq,if_neg c,hk']
  clear hk' hp hq;obtain⟨⟨ar,wr,cut,tn,off⟩,s0,on,nx⟩:=d;simp only at hx;simp only[dkA,dvA,saA,stA] at e1 e2 e3;simp(maxSteps:=9^9)(disch:=try exact dS)only[go_sem,xC,dkA,dvA,saA,stA,h1,e1,e2,tp,tq,c,h2,e3];repeat refine aiG ?_
  exact jG3 ⟨k,s,on,nx+1⟩ 0 ⟨hK.symm,rfl⟩ rfl rfl
structure SnP (s:St) (lo:Int) (c:Cm):Prop where
 ex:ExP s lo c
 w:(qC c).W
 r:(vZ s c).2.W
 b:Sa.B (vZ s c).1.a
def DvP (d:Dv):Prop:=(d.on=true∧okD d.k∧(1≤d.nx∧d.nx≤100000))∧Sa.B d.s.a
def qL8:ECt where
 α:=Dv×Int×List UInt8
 β:=Dv×List UInt8×Int
 aS:=fun (d,lo,b)=>[.t (dvA d),.t (.int .i64 lo),.t (.sl (b.map qA))]
 pre:=fun (d,lo,b)=>DvP d ∧ ∃ c,SnP d.s lo c∧b=rqB (qC c)
 r:=fun (r,o,e)=> .tup [.t (dvA r),.t (.sl (o.map qA)),.t (.int .i64 e)]
 R:=fun (d,lo,b) (r,o,e)=>e=0 ∧ ∀ c,SnP d.s lo c→b=rqB (qC c)→r=qQi d (vZ d.s c).1∧o=rsB (vZ d.s c).2
 inj:=by rintro⟨d,lo,b⟩ ⟨d',lo',b'⟩ e _;simp only[qAf,qJ3,qRv] at e;obtain⟨rfl,rfl,rfl⟩:=e;rfl
theorem jHk {g:EF qL8}{d:Dv}{lo:Int}{b:List UInt8}(hp:DvP d ∧ ∃ c,SnP d.s lo c∧b=rqB (qC c)) : ∃ (r:Dv) (o:List UInt8) (e:Int),(e=0 ∧ ∀ c,SnP d.s lo c→b=rqB (qC c)→r=qQi d (vZ d.s c).1∧o=rsB (vZ d.s c).2)∧qL8.fs g [.t (dvA d),.t (.int .i64 lo),.t (.sl (b.map qA))] []=some (.tup [.t (dvA r),.t (.sl (o.map qA)),.t (.int .i64 e)],[]):=by
 obtain⟨y,h1,h2⟩:=qL8.eq g (d,lo,b) hp;exact⟨y.1,y.2.1,y.2.2,h1,h2⟩
theorem jLo {d:Dv}{lo:Int}{b:List UInt8}(r:Dv)(o:List UInt8)(e:Int)(hR:e=0 ∧ ∀ c,SnP d.s lo c→b=rqB (qC c)→r=qQi d (vZ d.s c).1∧o=rsB (vZ d.s c).2)(hV:vv = .tup [.t (dvA r),.t (.sl (o.map qA)),.t (.int .i64 e)])(hO:oo=[]):qL8.K (d,lo,b) vv oo:=⟨(r,o,e),hR,hV,hO⟩
theorem qZg {g1}(h1:LkE tab 50 qI2 g1){g2}(h2:LkE tab 44 qFd g2){g3}(h3:LkE tab 51 qLq g3){g4}(h4:LkE tab 52 qL6 g4)(d:Dv)(lo:Int)(b:List UInt8)(hp:DvP d ∧ ∃ c,SnP d.s lo c∧b=rqB (qC c)) :
  qEn.1.wp tab gl (qF 0 [.t (dvA d),.t (.int .i64 lo),.t (.sl (b.map qA))]) (qF 0 []) (zD [(6,(some (37,true))),(7,none),(8,none)] 0 (qL8.K (d,lo,b))):=by
 obtain⟨⟨⟨hon,hk,hx⟩,ha⟩,c,hc,rfl⟩:=hp;have e1 := @zWq g1 d;rw[hon,hk.1] at e1;obtain⟨t,o,hR,e3⟩:=jEk (g:=g3) (s:=d.s) (lo:=lo) (b:=rqB (qC c)) ⟨c,hc.ex,hc.w,rfl,hc.r⟩;obtain⟨rfl,rfl⟩:=hR c hc.ex.cm hc.w rfl;obtain⟨r,e,⟨rfl,rfl⟩,e4⟩:=jG4 (g:=g4) (d:=d) (s:=(vZ d.s c).1) ⟨⟨hk,hx⟩,ha,hc.b⟩;have hK : ∀ c',SnP d.s lo c'→rqB (qC c)=rqB (qC c')→qQi d (vZ d.s c).1=qQi d (vZ d.s c').1∧rsB (vZ d.s c).2=rsB (vZ d.s c').2:=by
  intro c' h' e;obtain⟨h1,h2⟩:=hR c' h'.ex.cm h'.w e;rw[h1,h2];exact⟨rfl,rfl⟩
 clear hR hc;generalize qQi d (vZ d.s c).1=y at *;generalize (vZ d.s c).1=t at *;generalize rsB (vZ d.s c).2=o at *;generalize rqB (qC c)=b at *;obtain⟨⟨ar,wr,cut,tn,off⟩,s0,on,nx⟩:=d;simp only at hon hk hx;simp only[dkA,dvA,saA,stA,Bool.not_false,Bool.and_true] at e1 e3 e4;simp(maxSteps:=9^9)(disch:=try exact dS)only[go_sem,qEn,dkA,dvA,saA,stA,h1,e1,h3,e3,h4,e4];repeat refine aiG ?_
 exact jLo y o 0 ⟨rfl,hK⟩ rfl rfl
def qI8:ECt where
 α:=Int
 β:=Rq
 aS:=fun m=>[.t (.int .i64 m)]
 pre:=fun m=>True
 r:=fun r'=> .t (rqA r')
 R:=fun m r'=>r'=⟨1,[],[],[m],[]⟩
theorem jIe {g:EF qI8}{m:Int}:qI8.fs g [.t (.int .i64 m)] []=some (.t (rqA (⟨1,[],[],[m],[]⟩)),[]):=fnQ qI8 m trivial
theorem jMh {m:Int}(hV:vv = .t (rqA (⟨1,[],[],[m],[]⟩)))(hO:oo=[]):qI8.K m vv oo:=⟨_,rfl,hV,hO⟩
theorem qZs  (m:Int) :
  qE2.1.wp tab gl (qF 0 [.t (.int .i64 m)]) (qF 0 []) (zD [(2,(some (5,true)))] 0 (qI8.K m)):=by
 simp(maxSteps:=9^9)(disch:=try exact dS)only[go_sem,qE2];repeat refine aiG ?_
 exact jMh rfl rfl
def qMa:ECt where
 α:=Rq×List UInt8
 β:=Rq
 aS:=fun (q,v)=>[.t (rqA q),.t (.sl (v.map qA))]
 pre:=fun (q,v)=>True
 r:=fun r'=> .t (rqA r')
 R:=fun (q,v) r'=>r' = { q with au:=[⟨0,[],v⟩] }
theorem jIf {g:EF qMa}{q:Rq}{v:List UInt8}:qMa.fs g [.t (rqA q),.t (.sl (v.map qA))] []=some (.t (rqA ({ q with au:=[⟨0,[],v⟩] })),[]):=fnQ qMa (q,v) trivial
theorem jMi {q:Rq}{v:List UInt8}(hV:vv = .t (rqA ({ q with au:=[⟨0,[],v⟩] })))(hO:oo=[]):qMa.K (q,v) vv oo:=⟨_,rfl,hV,hO⟩
theorem zJv  (q:Rq)(v:List UInt8) :
  qKu.1.wp tab gl (qF 0 [.t (rqA q),.t (.sl (v.map qA))]) (qF 0 []) (zD [(4,(some (5,true)))] 0 (qMa.K (q,v))):=by
 simp(maxSteps:=9^9)(disch:=try exact dS)only[go_sem,qKu,rqA];repeat refine aiG ?_
 exact jMi rfl rfl
def qWn:Ct where
 α:=Rq×Int
 aS x:=[.t (rqA x.1),.t (.int .i64 x.2)]
 ins _:=[]
 pre _:=True
 r x:= .agg [.t (.int .i64 x.1.co),.t (.sl (x.1.hs.map iT)),.sl 0 0 1,.t (.sl (x.1.ns.map iT)),.t (.sl (x.1.bl.map bsT))]
 outs x:=[.live 3 [.agg [.t (.int .i64 x.2),.nil,.nil]] true true]
 inj:=by
  rintro⟨a,b⟩ ⟨c,d⟩ h _;simp only[List.cons.injEq,V.t.injEq,T.int.injEq,zZ1,true_and,and_true] at h;obtain⟨rfl,rfl⟩:=h;exact⟨rfl,rfl⟩
theorem zP9 {co:Int}{hs:List Int}{au:List Az}{ns:List Int}{bl:List (List UInt8)}{s:Int}:qWn.fs [.t (rqA ⟨co,hs,au,ns,bl⟩),.t (.int .i64 s)] []=some (.agg [.t (.int .i64 co),.t (.sl (hs.map iT)),.sl 0 0 1,.t (.sl (ns.map iT)),.t (.sl (bl.map bsT))],[.live 3 [.agg [.t (.int .i64 s),.nil,.nil]] true true]):=qWn.eq (⟨co,hs,au,ns,bl⟩,s) trivial
theorem zUm (q:Rq)(s:Int):qSk.1.wp tab gl (qF 0 [.t (rqA q),.t (.int .i64 s)]) (qF 0 []) (kU [] [(4,some (5,true))] 0 (fun r o=>r = .agg [.t (.int .i64 q.co),.t (.sl (q.hs.map iT)),.sl 0 0 1,.t (.sl (q.ns.map iT)),.t (.sl (q.bl.map bsT))]∧o=[.live 3 [.agg [.t (.int .i64 s),.nil,.nil]] true true])):=by
 simp(maxSteps:=9^9)(disch:=try exact dS)only[go_sem,qSk,rqA];all_goals first | rfl | exact⟨rfl,rfl⟩ | trace_state
def qCk:ECt where
 α:=Int×Int×Int×Int×List UInt8×List UInt8×List UInt8
 β:=Rq
 aS:=fun (h,k,a,t,p,u,d)=>[.t (.int .i64 h),.t (.int .i64 k),.t (.int .i64 a),.t (.int .i64 t),.t (.sl (p.map qA)),.t (.sl (u.map qA)),.t (.sl (d.map qA))]
 pre:=fun (h,k,a,t,p,u,d)=>True
 r:=fun r'=> .t (rqA r')
 R:=fun (h,k,a,t,p,u,d) r'=>r'=⟨9,[h],[⟨0,[],[]⟩],[k,a,t],[p,u,d]⟩
theorem zPc {g:EF qCk}{h k a t:Int}{p u d:List UInt8}:qCk.fs g [.t (.int .i64 h),.t (.int .i64 k),.t (.int .i64 a),.t (.int .i64 t),.t (.sl (p.map qA)),.t (.sl (u.map qA)),.t (.sl (d.map qA))] []=some (.t (rqA (⟨9,[h],[⟨0,[],[]⟩],[k,a,t],[p,u,d]⟩)),[]):=fnQ qCk (h,k,a,t,p,u,d) trivial
theorem jMg {h k a t:Int}{p u d:List UInt8}(hV:vv = .t (rqA (⟨9,[h],[⟨0,[],[]⟩],[k,a,t],[p,u,d]⟩)))(hO:oo=[]):qCk.K (h,k,a,t,p,u,d) vv oo:=⟨_,rfl,hV,hO⟩
theorem qZr {g1}(h1:LkE tab 29 qMa g1)(h k a t:Int)(p u d:List UInt8) :
  qE1.1.wp tab gl (qF 0 [.t (.int .i64 h),.t (.int .i64 k),.t (.int .i64 a),.t (.int .i64 t),.t (.sl (p.map qA)),.t (.sl (u.map qA)),.t (.sl (d.map qA))]) (qF 0 []) (zD [(14,(some (5,true)))] 0 (qCk.K (h,k,a,t,p,u,d))):=by
 have e:=jIf (g:=g1) (q:=⟨9,[h],[],[k,a,t],[p,u,d]⟩) (v:=[]);simp only[rqA,mcn,iT,qO] at e;simp(maxSteps:=9^9)(disch:=try exact dS)only[go_sem,qE1,h1,e];repeat refine aiG ?_
 exact jMg rfl rfl
def qI6:ECt where
 α:=Int×List UInt8
 β:=Rq
 aS:=fun (i,d)=>[.t (.int .i64 i),.t (.sl (d.map qA))]
 pre:=fun (i,d)=>True
 r:=fun r'=> .t (rqA r')
 R:=fun (i,d) r'=>r'=⟨7,[],[],[i],[d]⟩
theorem jIc {g:EF qI6}{i:Int}{d:List UInt8}:qI6.fs g [.t (.int .i64 i),.t (.sl (d.map qA))] []=some (.t (rqA (⟨7,[],[],[i],[d]⟩)),[]):=fnQ qI6 (i,d) trivial
theorem jL8 {i:Int}{d:List UInt8}(hV:vv = .t (rqA (⟨7,[],[],[i],[d]⟩)))(hO:oo=[]):qI6.K (i,d) vv oo:=⟨_,rfl,hV,hO⟩
theorem zFb  (i:Int)(d:List UInt8) :
  qH4.1.wp tab gl (qF 0 [.t (.int .i64 i),.t (.sl (d.map qA))]) (qF 0 []) (zD [(4,(some (5,true)))] 0 (qI6.K (i,d))):=by
 simp(maxSteps:=9^9)(disch:=try exact dS)only[go_sem,qH4];repeat refine aiG ?_
 exact jL8 rfl rfl
def kX:ECt where
 α:=Int×Int×Sl2×Int×Int×List (List UInt8)
 β:=Rq
 aS:=fun (h,k,s,n,o,b)=>[.t (.int .i64 h),.t (.int .i64 k),.t (jAp s),.t (.int .i64 n),.t (.int .i64 o),.t (.sl (b.map bsT))]
 pre:=fun (h,k,s,n,o,b)=>True
 r:=fun r'=> .t (rqA r')
 R:=fun (h,k,s,n,o,b) r'=>r'=⟨17,[],[],[h,k,s.a,s.b,n,o],b⟩
 inj:=by rintro⟨h,k,s,n,o,b⟩ ⟨h',k',s',n',o',b'⟩ e _;simp only[qAf,qJ3,jQz] at e;obtain⟨rfl,rfl,rfl,rfl,rfl,rfl⟩:=e;rfl
theorem qU4 {g:EF kX}{h k:Int}{s:Sl2}{n o:Int}{b:List (List UInt8)}:kX.fs g [.t (.int .i64 h),.t (.int .i64 k),.t (jAp s),.t (.int .i64 n),.t (.int .i64 o),.t (.sl (b.map bsT))] []=some (.t (rqA (⟨17,[],[],[h,k,s.a,s.b,n,o],b⟩)),[]):=fnQ kX (h,k,s,n,o,b) trivial
theorem jMf {h k:Int}{s:Sl2}{n o:Int}{b:List (List UInt8)}(hV:vv = .t (rqA (⟨17,[],[],[h,k,s.a,s.b,n,o],b⟩)))(hO:oo=[]):kX.K (h,k,s,n,o,b) vv oo:=⟨_,rfl,hV,hO⟩
theorem zCk  (h k:Int)(s:Sl2)(n o:Int)(b:List (List UInt8)) :
  qGa.1.wp tab gl (qF 0 [.t (.int .i64 h),.t (.int .i64 k),.t (jAp s),.t (.int .i64 n),.t (.int .i64 o),.t (.sl (b.map bsT))]) (qF 0 []) (zD [(12,(some (5,true)))] 0 (kX.K (h,k,s,n,o,b))):=by
 simp(maxSteps:=9^9)(disch:=try exact dS)only[go_sem,qGa,jAp];repeat refine aiG ?_
 exact jMf rfl rfl
def qCj:ECt where
 α:=Int
 β:=Rq
 aS:=fun k=>[.t (.int .i64 k)]
 pre:=fun k=>True
 r:=fun r'=> .t (rqA r')
 R:=fun k r'=>r'=⟨16,[],[],[k],[]⟩
theorem zPb {g:EF qCj}{k:Int}:qCj.fs g [.t (.int .i64 k)] []=some (.t (rqA (⟨16,[],[],[k],[]⟩)),[]):=fnQ qCj k trivial
theorem jMe {k:Int}(hV:vv = .t (rqA (⟨16,[],[],[k],[]⟩)))(hO:oo=[]):qCj.K k vv oo:=⟨_,rfl,hV,hO⟩
theorem zJu  (k:Int) :
  qKt.1.wp tab gl (qF 0 [.t (.int .i64 k)]) (qF 0 []) (zD [(2,(some (5,true)))] 0 (qCj.K k)):=by
 simp(maxSteps:=9^9)(disch:=try exact dS)only[go_sem,qKt];repeat refine aiG ?_
 exact jMe rfl rfl
def qCi:ECt where
 α:=Int×Int×List (List UInt8)
 β:=Rq
 aS:=fun (c,h,b)=>[.t (.int .i64 c),.t (.int .i64 h),.t (.sl (b.map bsT))]
 pre:=fun (c,h,b)=>True
 r:=fun r'=> .t (rqA r')
 R:=fun (c,h,b) r'=>r'=⟨c,[h],[],[],b⟩
theorem zPa {g:EF qCi}{c h:Int}{b:List (List UInt8)}:qCi.fs g [.t (.int .i64 c),.t (.int .i64 h),.t (.sl (b.map bsT))] []=some (.t (rqA (⟨c,[h],[],[],b⟩)),[]):=fnQ qCi (c,h,b) trivial
theorem jMd {c h:Int}{b:List (List UInt8)}(hV:vv = .t (rqA (⟨c,[h],[],[],b⟩)))(hO:oo=[]):qCi.K (c,h,b) vv oo:=⟨_,rfl,hV,hO⟩
theorem zUh  (c h:Int)(b:List (List UInt8)) :
  qSl.1.wp tab gl (qF 0 [.t (.int .i64 c),.t (.int .i64 h),.t (.sl (b.map bsT))]) (qF 0 []) (zD [(6,(some (5,true)))] 0 (qCi.K (c,h,b))):=by
 simp(maxSteps:=9^9)(disch:=try exact dS)only[go_sem,qSl];repeat refine aiG ?_
 exact jMd rfl rfl
def kE:ECt where
 α:=Dv×Int×Rq
 β:=Dv×Rs×Bool
 aS:=fun (d,lo,q)=>[.t (dvA d),.t (.int .i64 lo),.t (rqA q)]
 pre:=fun (d,lo,q)=>DvP d ∧ ∃ c,SnP d.s lo c∧q=qC c
 r:=fun (r,x,ok)=> .tup [.t (dvA r),.t (rsA x),.t (.bool ok)]
 R:=fun (d,lo,q) (r,x,ok)=>ok=true ∧ ∀ c,SnP d.s lo c→q=qC c→r=qQi d (vZ d.s c).1∧x=(vZ d.s c).2
 inj:=by rintro⟨d,lo,q⟩ ⟨d',lo',q'⟩ e _;simp only[qAf,qJ3,qRv] at e;obtain⟨rfl,rfl,rfl⟩:=e;rfl
theorem zWs {g:EF kE}{d:Dv}{lo:Int}{q:Rq}(hp:DvP d ∧ ∃ c,SnP d.s lo c∧q=qC c) : ∃ (r:Dv) (x:Rs) (ok:Bool),(ok=true ∧ ∀ c,SnP d.s lo c→q=qC c→r=qQi d (vZ d.s c).1∧x=(vZ d.s c).2)∧kE.fs g [.t (dvA d),.t (.int .i64 lo),.t (rqA q)] []=some (.tup [.t (dvA r),.t (rsA x),.t (.bool ok)],[]):=by
 obtain⟨y,h1,h2⟩:=kE.eq g (d,lo,q) hp;exact⟨y.1,y.2.1,y.2.2,h1,h2⟩
theorem jL5 {d:Dv}{lo:Int}{q:Rq}(r:Dv)(x:Rs)(ok:Bool)(hR:ok=true ∧ ∀ c,SnP d.s lo c→q=qC c→r=qQi d (vZ d.s c).1∧x=(vZ d.s c).2)(hV:vv = .tup [.t (dvA r),.t (rsA x),.t (.bool ok)])(hO:oo=[]):kE.K (d,lo,q) vv oo:=⟨(r,x,ok),hR,hV,hO⟩
theorem zOy {g1}(h1:LkE tab 30 qL5 g1){g2}(h2:LkE tab 31 qL8 g2){g3}(h3:LkE tab 32 qIx g3)(d:Dv)(lo:Int)(q:Rq)(hp:DvP d ∧ ∃ c,SnP d.s lo c∧q=qC c) :
  qO1.1.wp tab gl (qF 0 [.t (dvA d),.t (.int .i64 lo),.t (rqA q)]) (qF 0 []) (zD [(6,(some (37,true))),(7,(some (4,true))),(8,none)] 0 (kE.K (d,lo,q))):=by
 obtain⟨hd,c,hc,rfl⟩:=hp;obtain⟨b,e,⟨rfl,rfl⟩,e1⟩:=jGm (g:=g1) hc.w;obtain⟨r,o,e,⟨rfl,hR⟩,e2⟩:=jHk (g:=g2) (d:=d) (lo:=lo) (b:=rqB (qC c)) ⟨hd,c,hc,rfl⟩;obtain⟨x,e,⟨hx,rfl⟩,e3⟩:=jGl (g:=g3) (b:=o) ⟨_,hc.r,(hR c hc rfl).2⟩;have hK : ∀ c',SnP d.s lo c'→qC c=qC c'→r=qQi d (vZ d.s c').1∧x=(vZ d.s c').2:=by
  intro c' h' e;obtain⟨k1,k2⟩:=hR c' h' (by rw[e]);exact⟨k1,by rw[hx,k2,zV9 h'.r]⟩
 clear hR hx hc hd;generalize rqB (qC c)=b at *;generalize qC c=q at *;simp only[dvA,rqA,rsA] at e1 e2 e3;simp(maxSteps:=9^9)(disch:=try exact dS)only[go_sem,qO1,dvA,rqA,rsA,h1,e1,h2,e2,h3,e3];repeat refine aiG ?_
 exact jL5 r x true ⟨rfl,hK⟩ rfl rfl
def yS:ECt where
 α:=Dv×Int×Rq×Int×Int
 β:=Dv×Rs×Bool
 aS:=fun (d,lo,q,i,b)=>[.t (dvA d),.t (.int .i64 lo),.t (rqA q),.t (.int .i64 i),.t (.int .i64 b)]
 pre:=fun (d,lo,q,i,b)=>DvP d ∧ ∃ c,SnP d.s lo c∧q=qC c
 r:=fun (r,x,ok)=> .tup [.t (dvA r),.t (rsA x),.t (.bool ok)]
 R:=fun (d,lo,q,i,b) (r,x,ok)=>(∀ c,SnP d.s lo c→q=qC c→r=qQi d (vZ d.s c).1∧x=(vZ d.s c).2)∧ok=decide (x.e=0∧(x.ns.length:Int)=i∧(x.bl.length:Int)=b)
 inj:=by rintro⟨d,lo,q,i,b⟩ ⟨d',lo',q',i',b'⟩ e _;simp only[qAf,qJ3,qRv] at e;obtain⟨rfl,rfl,rfl,rfl,rfl⟩:=e;rfl
theorem zWv {g:EF yS}{d:Dv}{lo:Int}{q:Rq}{i b:Int}(hp:DvP d ∧ ∃ c,SnP d.s lo c∧q=qC c) : ∃ (r:Dv) (x:Rs) (ok:Bool),((∀ c,SnP d.s lo c→q=qC c→r=qQi d (vZ d.s c).1∧x=(vZ d.s c).2)∧ok=decide (x.e=0∧(x.ns.length:Int)=i∧(x.bl.length:Int)=b))∧yS.fs g [.t (dvA d),.t (.int .i64 lo),.t (rqA q),.t (.int .i64 i),.t (.int .i64 b)] []=some (.tup [.t (dvA r),.t (rsA x),.t (.bool ok)],[]):=by
 obtain⟨y,h1,h2⟩:=yS.eq g (d,lo,q,i,b) hp;exact⟨y.1,y.2.1,y.2.2,h1,h2⟩
theorem jMc {d:Dv}{lo:Int}{q:Rq}{i b:Int}(r:Dv)(x:Rs)(ok:Bool)(hR:(∀ c,SnP d.s lo c→q=qC c→r=qQi d (vZ d.s c).1∧x=(vZ d.s c).2)∧ok=decide (x.e=0∧(x.ns.length:Int)=i∧(x.bl.length:Int)=b))(hV:vv = .tup [.t (dvA r),.t (rsA x),.t (.bool ok)])(hO:oo=[]):yS.K (d,lo,q,i,b) vv oo:=⟨(r,x,ok),hR,hV,hO⟩
theorem zJt {g1}(h1:LkE tab 16 kE g1)(d:Dv)(lo:Int)(q:Rq)(i b:Int)(hp:DvP d ∧ ∃ c,SnP d.s lo c∧q=qC c) :
  qBk.1.wp tab gl (qF 0 [.t (dvA d),.t (.int .i64 lo),.t (rqA q),.t (.int .i64 i),.t (.int .i64 b)]) (qF 0 []) (zD [(10,(some (37,true))),(11,(some (4,true))),(12,none)] 0 (yS.K (d,lo,q,i,b))):=by
 obtain⟨r,x,ok,⟨rfl,hK⟩,e1⟩:=zWs (g:=g1) (d:=d) (lo:=lo) (q:=q) hp;have key : ∀ w,w=decide (x.e=0∧(x.ns.length:Int)=i∧(x.bl.length:Int)=b)→yS.K (d,lo,q,i,b) (.tup [.t (dvA r),.t (rsA x),.t (.bool w)]) []:=fun w h=>jMc r x w ⟨hK,h⟩ rfl rfl
 clear hK hp;simp only[dvA,rqA,rsA] at e1 key;by_cases c1:x.e=0
 rotate_left
 ·simp(maxSteps:=9^9)(disch:=try exact dS)only[go_sem,qBk,dvA,rqA,rsA,h1,e1,c1];repeat refine aiG ?_
  refine key _ ?_;simp[c1]
 by_cases c2:(x.ns.length:Int)=i
 rotate_left
 ·simp(maxSteps:=9^9)(disch:=try exact dS)only[go_sem,qBk,dvA,rqA,rsA,h1,e1,c1,c2];repeat refine aiG ?_
  rw[c1] at key;refine key _ ?_;simp[c2]
 by_cases c3:(x.bl.length:Int)=b
 ·simp(maxSteps:=9^9)(disch:=try exact dS)only[go_sem,qBk,dvA,rqA,rsA,h1,e1,c1,c2,c3];repeat refine aiG ?_
  rw[c1] at key;refine key _ ?_;simp[c2,c3]
 ·simp(maxSteps:=9^9)(disch:=try exact dS)only[go_sem,qBk,dvA,rqA,rsA,h1,e1,c1,c2,c3];repeat refine aiG ?_
  rw[c1] at key;refine key _ ?_;simp[c2,c3]
theorem Sa.Tp.ok {a:Sa}(h:a.Tp):a.Ok where
 sd:=⟨h.sd.1,fun x hx=>Nat.le_of_eq (h.sd.2 x hx)⟩
 au:=by
  rw[h.au];refine⟨rfl,fun x hx=>?_⟩;simp only[List.mem_cons,List.not_mem_nil,or_false] at hx;rcases hx with rfl | rfl | rfl | rfl<;>simp
 en:=h.en
 act:=by rw[h.act];decide
 res:=h.res.1
 rst:=by rw[h.rst];decide
 clk:=by rw[h.clk];decide
 bk:= .inl h.bk.1
 u:=by rw[h.bk.2];decide
 mc:=by have:=h.mc;omega
 ix:=by
  rcases h.ix with e | ⟨w,d,e,hd⟩
  ·rw[e];exact⟨sM,fun x hx=>by cases hx⟩
  ·rw[e];refine⟨sM,fun x hx=>?_⟩;obtain rfl:=List.mem_singleton.1 hx;unfold Ix.Ok cnI;simp only[List.length_nil,hd];omega
 lk:=by rw[h.lk];unfold Lk.Ok;decide
 ks:=by rw[h.ks];exact⟨sM,fun x hx=>by cases hx⟩
theorem Sa.Tp.B {a:Sa}(h:a.Tp):a.B:=⟨h.ok,by have:=h.res;omega,by rw[h.rst];decide,by rw[h.bk.2];decide⟩
theorem qJm {n:Int}(h:0≤n∧n≤65535):tmI n:=by unfold tmI;omega
theorem Rs.W.mk1 {e:Int}{ns:List Int}{bl:List (List UInt8)}(he:0≤e∧e≤255)(hn:ns.length≤8 ∧ ∀ x∈ns,tmI x)(hb:bl.length≤8 ∧ ∀ x∈bl,x.length≤1024)(hz:e≠0→ns=[]∧bl=[]):(⟨e,ns,bl,[]⟩:Rs).W:=
 ⟨he,hn,hb,⟨sM,fun x hx=>by cases hx⟩,fun h=>⟨(hz h).1,(hz h).2,rfl⟩⟩
theorem zTc {e:Int}(he:0≤e∧e≤255):(⟨e,[],[],[]⟩:Rs).W:=Rs.W.mk1 he ⟨sM,fun x hx=>by cases hx⟩ ⟨sM,fun x hx=>by cases hx⟩ (fun _=>⟨rfl,rfl⟩)
theorem zC9 {α:Type}{P:α→Prop}{a:α}(h:P a) : ∀ x∈[a],P x:=fun x hx=>by obtain rfl:=List.mem_singleton.1 hx;exact h
theorem qYg {α:Type}{P:α→Prop} : ∀ x∈([]:List α),P x:=fun x hx=>by cases hx
theorem jKb {α:Type}{P:α→Prop}{a b:α}(h:P a)(g:P b) : ∀ x∈[a,b],P x:=fun x hx=>by
 simp only[List.mem_cons,List.not_mem_nil,or_false] at hx;rcases hx with rfl | rfl
 ·exact h
 ·exact g
theorem jBs {α:Type}{P:α→Prop}{a b c:α}(h:P a)(g:P b)(k:P c) : ∀ x∈[a,b,c],P x:=fun x hx=>by
 simp only[List.mem_cons,List.not_mem_nil,or_false] at hx;rcases hx with rfl | rfl | rfl
 ·exact h
 ·exact g
 ·exact k
theorem zHx {x:List UInt8}:(wB x).length=2+x.length:=by unfold wB;rw[List.length_append,qT]
theorem jQg:(qC .up).W where
 co:=by show coK 1;unfold coK;omega
 hs:=⟨rfl,qYg⟩
 au:=⟨rfl,qYg⟩
 ns:=⟨rfl,zC9 (qJm oM)⟩
 bl:=⟨.inl rfl,qYg⟩
 le:=by rw[qYt];simp[qC,rqT,w8,qT]
theorem jQa {i:Int}{d:List UInt8}(hi:0≤i∧i≤15)(hd:d.length≤100):(qC (.ev i d)).W where
 co:=by show coK 7;unfold coK;omega
 hs:=⟨rfl,qYg⟩
 au:=⟨rfl,qYg⟩
 ns:=⟨rfl,zC9 (qJm oM)⟩
 bl:=⟨.inl rfl,zC9 oM⟩
 le:=by rw[qYt];simp[qC,rqT,w8,qT,zHx];omega
theorem jQb {k:Int}(hk:2≤k∧k≤3):(qC (.op k)).W where
 co:=by show coK 16;unfold coK;omega
 hs:=⟨rfl,qYg⟩
 au:=⟨rfl,qYg⟩
 ns:=⟨rfl,zC9 (qJm oM)⟩
 bl:=⟨.inl rfl,qYg⟩
 le:=by rw[qYt];simp[qC,rqT,w8,qT]
theorem jQc {h:Int}(hh:0≤h∧h≤65535):(qC (.pd h)).W where
 co:=by show coK 20;unfold coK;omega
 hs:=⟨rfl,qYg⟩
 au:=⟨rfl,qYg⟩
 ns:=⟨rfl,zC9 (qJm hh)⟩
 bl:=⟨.inl rfl,qYg⟩
 le:=by rw[qYt];simp[qC,rqT,w8,qT]
theorem jQe {h:Int}{po au da:List UInt8}(hh:0≤h∧h≤2)(l1:po.length=32)(l2:au.length≤32)(l3:da.length≤60):(qC (.pr h po au da)).W where
 co:=by show coK 9;unfold coK;omega
 hs:=⟨rfl,zC9 oM⟩
 au:=⟨rfl,zC9 ⟨by decide,sM,sM⟩⟩
 ns:=⟨rfl,jBs (qJm oM) (qJm oM) (qJm oM)⟩
 bl:=⟨.inl rfl,jBs oM oM oM⟩
 le:=by rw[qYt];simp[qC,rqT,wH,wA,w8,qT,zHx];omega
theorem jQf {h s:Int}{v:List UInt8}(hh:0≤h∧h≤65535)(hs:0≤s∧s≤65535)(l:v.length≤32):(qC (.un h s v)).W where
 co:=by show coK 13;unfold coK;omega
 hs:=⟨rfl,zC9 hh⟩
 au:=⟨rfl,zC9 ⟨hs,sM,by simp only;omega⟩⟩
 ns:=⟨rfl,qYg⟩
 bl:=⟨.inl rfl,qYg⟩
 le:=by rw[qYt];simp[qC,rqT,wH,wA,w8,qT,zHx];omega
def poW:Av→Prop
 | .reg s0 s1 d=>s0=0∧(0≤s1∧s1≤65535)∧d=[]
 | .loc n=>1≤n∧n≤31
 | .cmd n=>n=13
 | .idx o od _=>o=2∧od.length=8
 | .aut=>True
 | .alt bs=>(2≤bs.length∧bs.length≤3) ∧ ∀ b∈bs,b.length=32
 | .apr _ _=>False
theorem jQd {h:Int}{a:Av}(hh:0≤h∧h≤65535)(ha:poW a):(qC (.po h a)).W:=by
 have hb:(avB a).length≤3∧(∀ x∈avB a,x.length≤32):=by
  cases a<;>simp only[poW] at ha<;>simp only[avB]
  case reg=>obtain⟨-,-,rfl⟩:=ha;exact⟨sM,zC9 sM⟩
  case idx=>exact⟨sM,zC9 oM⟩
  case alt bs=>exact⟨oM,fun x hx=>Nat.le_of_eq (ha.2 x hx)⟩
  all_goals exact⟨sM,qYg⟩
 have hn:(avN h a).length=6 ∧ ∀ x∈avN h a,0≤x∧x≤65535:=by
  cases a<;>simp only[poW] at ha<;>refine⟨rfl,fun x hx=>?_⟩<;>simp only[avN,List.mem_cons,List.not_mem_nil,or_false] at hx;all_goals (rcases hx with rfl | rfl | rfl | rfl | rfl | rfl<;>omega)
 have hf:((avB a).flatMap wB).length≤34*3:=by
  generalize avB a=l at hb;have : ∀ l:List (List UInt8),(∀ x∈l,x.length≤32)→(l.flatMap wB).length≤34*l.length:=by
   intro l
   induction l with
   | nil=>intro _;simp
   | cons x r ih=>
    intro h;have h1:=h x sM;have h2:=ih (fun y hy=>h y (by simp[hy]));rw[List.flatMap_cons,List.length_append,zHx,List.length_cons];omega
  have:=this l hb.2;omega
 have h8:((avN h a).flatMap w8).length=48:=by
  have : ∀ l:List Int,(l.flatMap w8).length=8*l.length:=by
   intro l
   induction l with
   | nil=>rfl
   | cons x r ih=>rw[List.flatMap_cons,List.length_append,ih,List.length_cons,w8,qT];omega
  rw[this,hn.1]
 exact {
  co:=by show coK 17;unfold coK;omega
  hs:=⟨rfl,qYg⟩
  au:=⟨rfl,qYg⟩
  ns:=⟨by show (((avN h a).length:Nat):Int)=6;rw[hn.1];rfl,fun x hx=>qJm (hn.2 x hx)⟩
  bl:=⟨.inr ⟨rfl,by show (avB a).length≤8;omega⟩,fun x hx=>by have:=hb.2 x hx;omega⟩
  le:=by
   rw[qYt];show (83::87::0::0::u8I 17::([].flatMap wH++([].flatMap wA++((avN h a).flatMap w8++(u8I (avB a).length::(avB a).flatMap wB))))).length≤2048;simp only[List.flatMap_nil,List.nil_append,List.length_cons,List.length_append,h8];omega }
theorem qPh {α:Type}{l:List α}{j:Nat}{x d:α}(h:l[j]?=some x):l.getD j d=x:=by rw[List.getD_eq_getElem?_getD,h];rfl
theorem qNk {α:Type}{l:List α}{j:Nat}{x:α}(h:l[j]?=some x):j<l.length:=by
 rcases Nat.lt_or_ge j l.length with h1 | h1
 ·exact h1
 ·rw[List.getElem?_eq_none h1] at h;cases h
theorem zBj {α:Type}{l:List α}{j:Nat}{x:α}(h:l[j]?=some x):x∈l:=List.mem_of_getElem? h
theorem zEy {s:St}{j:Nat}{x:Ses}(hl:s.ses.length=3)(hg:s.ses[j]?=some x)(hx:x.kd≠0):qBw s (768+(j:Int))=((j:Int),x,true):=by
 have hj:=qNk hg;have e:(768+(j:Int)-768)=(j:Int):=oM;have hp:zWj s (768+(j:Int))=j:=by
  unfold zWj;rw[if_neg oM,e,Int.toNat_natCast,qPh hg,if_neg hx]
 rw[qBw,hp,if_neg oM,e,Int.toNat_natCast,qPh hg]
theorem zY8 {s:St}{j:Nat}{x:Ses}(hl:s.ses.length=3)(hg:s.ses[j]?=some x)(hx:x.kd=2∨x.kd=3):qJx s (768+(j:Int))=((j:Int),x,true):=by
 rw[qJx,zEy hl hg oM];rcases hx with h | h<;>simp[h]
theorem zXu {s:St}{j:Nat}{o:Obj}(hl:s.obs.length=3)(hg:s.obs[j]?=some o)(ho:o.p.kd≠0):qA5 s (512+(j:Int))=(o,0):=by
 have hj:=qNk hg;have e:(512+(j:Int)-512)=(j:Int):=oM;rw[qA5,if_neg oM,e,Int.toNat_natCast,qPh hg,if_neg ho]
theorem qY6 {α:Type}{P:α→Prop}{l:List α}{j:Nat}{x:α}(h : ∀ y∈l,P y)(hx:P x) : ∀ y∈l.set j x,P y:=fun y hy=>by
 rcases List.mem_or_eq_of_mem_set hy with h1 | rfl
 ·exact h y h1
 ·exact hx
theorem zLa {bk:List qY}(h:ShA 2 bk){m:Int}(hm:0≤m∧m≤65535):qPa bk 0 m=0:=by
 have h1:=h.on_t.2;have b0 : ¬ zAc 0:=by decide
 have b1 : ¬ zAc m:=by unfold zAc;omega
 rw[qPa,if_neg (by rintro (h | h);exact b0 h;exact b1 h),if_neg];rintro (⟨h,-⟩ | ⟨-,h⟩)
 ·exact h rfl
 ·rw[h1] at h;cases h
theorem jGj {s:St}(h:s.Tp)(hu:s.u≤999){i:Int}{d:List UInt8}(hi:0≤i∧i≤15)(hd:d.length≤100):SnP s 4 (.ev i d)∧(evS s i d).Tp:=by
 have u:=h.u;refine⟨⟨⟨⟨⟨h.bk,oM⟩,rfl,hi,hd⟩,.inl (.inr (.inl ⟨i,d,rfl⟩)),by decide,.inr h.on,.inl (.inr (.inl ⟨i,d,rfl⟩))⟩,jQa hi hd,?_,h.a.B⟩,?_⟩
 ·exact Rs.W.mk1 (by decide) ⟨sM,qYg⟩ ⟨sM,jKb sM (by rw[qN];omega)⟩ (fun h=>absurd rfl h)
 ·exact⟨h.a,h.on,h.off,h.clk,h.rl,h.wl,h.bk.ext _ _,by show 0≤s.u+1∧s.u+1≤1000;omega,h.dr,h.ses,h.obs⟩
def opS (s:St)(j:Nat)(k:Int):St := { s with dr:=s.dr+1,ses:=s.ses.set j (nwS s k) }
theorem jAv {s:St}(h:s.Tp)(hdr:s.dr≤999){j:Nat}(hf:frS s.ses 0=j){k:Int}(hk:2≤k∧k≤3):SnP s 0 (.op k)∧vZ s (.op k)=(opS s j k,⟨0,[768+(j:Int)],[qR1 s 16],[]⟩)∧(opS s j k).Tp:=by
 have hd:=h.dr;have hn : ¬ frS s.ses 0 = -1:=by rw[hf];omega
 have hr := @zQ4 s.ses 0;have hl:=h.ses.1;have lr:(qR1 s 16).length=16:=kA;have e:vZ s (.op k)=(opS s j k,⟨0,[768+(j:Int)],[qR1 s 16],[]⟩):=by
  simp only[vZ,qRz,hn,if_false,hf,Int.toNat_natCast];rfl
 have hW:(vZ s (.op k)).2.W:=by
  rw[e];exact Rs.W.mk1 (by decide) ⟨sM,zC9 (qJm oM)⟩ ⟨sM,zC9 oM⟩ (fun h=>absurd rfl h)
 refine⟨⟨⟨⟨⟨⟨h.a.en,oM⟩,hl,hn⟩,hk⟩,.inl (.inr (.inr (.inl ⟨k,rfl⟩))),by decide,.inr h.on,.inl (.inr (.inr (.inl ⟨k,rfl⟩)))⟩,jQb hk,hW,by rw[e];exact h.a.B⟩,e,?_⟩;refine⟨h.a,h.on,h.off,h.clk,h.rl,h.wl,h.bk,h.u,by show 0≤s.dr+1∧s.dr+1≤1000;omega,⟨by simp[opS,hl],?_⟩,h.obs⟩;refine qY6 h.ses.2 ⟨Nat.le_of_eq qAd,by show (qR1 s 16).length≤16;omega,rfl,.inr ⟨qAd,by show k=2∨k=3;omega,by show (0:Int)≤31∧(31:Int)≤31;decide,.inl rfl⟩⟩
def poY (s:St)(x:Ses)(a:Av):Ses := { (qA9 s x a).1 with dg:=zD3 x.dg (qA9 s x a).2.1 }
def poS (s:St)(j:Nat)(x:Ses)(a:Av):St := { s with ses:=s.ses.set j (poY s x a) }
theorem zVn {a:Av}(ha:poW a)(hx : ∀ o od nm,a≠ .idx o od nm):fmP a:=by
 cases a<;>simp only[poW] at ha<;>simp only[fmP,Av.Ok]
 case idx=>exact absurd rfl (hx _ _ _)
 case alt=>exact⟨oM,ha.2⟩
 all_goals first | exact ha | omega
theorem zPv : ∀ a b:Fin 32,(a.val%2=1∧b.val%2=1)→(0≤zF7 a.val b.val∧zF7 a.val b.val≤31)∧zF7 a.val b.val%2=1:=by decide
theorem zW4 {a b:Int}(ha:0≤a∧a≤31)(hb:0≤b∧b≤31):0≤zF7 a b∧zF7 a b≤31:=by
 have key : ∀ a b:Fin 32,0≤zF7 a.val b.val∧zF7 a.val b.val≤31:=by decide
 have:=key ⟨a.toNat,oM⟩ ⟨b.toNat,oM⟩;simp only at this;rw[show ((a.toNat:Nat):Int)=a by omega,show ((b.toNat:Nat):Int)=b by omega] at this;exact this
theorem zV7 {s:St}{x:Ses}(hx:x.Tp)(hk:x.kd=2∨x.kd=3){a:Av}(ha:poW a):(poY s x a).Tp∧(poY s x a).kd=x.kd:=by
 obtain⟨h1,h2,h3,h4⟩:=hx;obtain⟨h5,h6,h7,h8⟩:=h4.resolve_left oM;have e:(zD3 x.dg (qA9 s x a).2.1).length=32:=qGv;cases a with
 | reg s0 s1 d=>
  unfold poY;simp only[qA9] at *;split
  ·exact⟨⟨Nat.le_of_eq e,h2,h3,.inr ⟨e,h6,h7,h8⟩⟩,rfl⟩
  ·exact⟨⟨Nat.le_of_eq e,h2,h3,.inr ⟨e,h6,h7,h8⟩⟩,rfl⟩
 | loc n=>exact⟨⟨Nat.le_of_eq e,h2,h3,.inr ⟨e,h6,zW4 h7 (by simp only[poW] at ha;omega),h8⟩⟩,rfl⟩
 | cmd n=>exact⟨⟨Nat.le_of_eq e,h2,h3,.inr ⟨e,h6,h7,.inr ha⟩⟩,rfl⟩
 | _=>exact⟨⟨Nat.le_of_eq e,h2,h3,.inr ⟨e,h6,h7,h8⟩⟩,rfl⟩
theorem zT4 {s:St}(h:s.Tp){j:Nat}{x:Ses}(hg:s.ses[j]?=some x)(hk:x.kd=2∨x.kd=3){a:Av}(ha:poW a)(hx : ∀ o od nm,a≠ .idx o od nm)(hu:x.up = -1∨x.up=s.u)(hc:x.cm=0∨x.cm=13) :
  SnP s 0 (.po (768+(j:Int)) a)∧vZ s (.po (768+(j:Int)) a)=(if (qA9 s x a).2.2=0 then (poS s j x a,⟨0,[],[],[]⟩) else (s,⟨(qA9 s x a).2.2,[],[],[]⟩))∧(poS s j x a).Tp:=by
 have hl:=h.ses.1;have hj:=qNk hg;have hp:=zY8 hl hg hk;have hT:=h.ses.2 x (zBj hg);have h32:x.dg.length=32:=(hT.2.2.2.resolve_left oM).1;have hck:ckP s x a:=by
  refine⟨hk,?_⟩;cases a<;>simp only[poW] at ha
  case reg s0 s1 d=>
   obtain⟨rfl,hm,rfl⟩:=ha;exact⟨⟨s1,rfl,hm,zLa h.bk hm⟩,hu⟩
  case loc=>trivial
  case cmd n=>show x.cm=0∨x.cm=n;omega
  case aut=>trivial
  case alt bs=>show bs.length≤8;omega
  case idx=>exact absurd rfl (hx _ _ _)
 have e:vZ s (.po (768+(j:Int)) a)=(if (qA9 s x a).2.2=0 then (poS s j x a,⟨0,[],[],[]⟩) else (s,⟨(qA9 s x a).2.2,[],[],[]⟩)):=by
  by_cases c:(qA9 s x a).2.2=0
  ·rw[if_pos c];simp only[vZ,asF,hp,c,if_true,exS,Int.toNat_natCast];rw[(zWh (s:=s) (x:=x) (zVn ha hx)).2];rfl
  ·rw[if_neg c];simp only[vZ,asF,hp,c,if_false]
 have hE:(qA9 s x a).2.2=0∨(qA9 s x a).2.2=16:=by
  cases a<;>simp only[qA9]
  case alt=>split;exact .inr rfl;exact .inl rfl
  all_goals first | exact .inl rfl | exact .inl trivial
 have hW:(vZ s (.po (768+(j:Int)) a)).2.W∧(vZ s (.po (768+(j:Int)) a)).1.a=s.a:=by
  rw[e];split
  ·exact⟨zTc (by decide),rfl⟩
  ·exact⟨zTc (by show 0≤(qA9 s x a).2.2∧(qA9 s x a).2.2≤255;omega),rfl⟩
 refine⟨⟨⟨⟨⟨⟨h.bk.rv,h.u.1⟩,hl⟩,qJm oM,by rw[hp],zVn ha hx,by rw[hp];exact hck,by rw[hp];exact h32⟩,.inl (.inr (.inr (.inr (.inl ⟨_,a,rfl⟩)))),by decide,.inr h.on,.inl (.inr (.inr (.inr (.inl ⟨_,a,rfl⟩))))⟩,jQd oM ha,hW.1,by rw[hW.2];exact h.a.B⟩,e,?_⟩;exact⟨h.a,h.on,h.off,h.clk,h.rl,h.wl,h.bk,h.u,h.dr,⟨by simp[poS,hl],qY6 h.ses.2 (zV7 hT hk ha).1⟩,h.obs⟩
theorem jK8 {s:St}(h:s.Tp){j:Nat}{x:Ses}(hg:s.ses[j]?=some x)(hk:x.kd=2∨x.kd=3):SnP s 0 (.pd (768+(j:Int)))∧vZ s (.pd (768+(j:Int)))=(s,⟨0,[],[x.dg],[]⟩):=by
 have hl:=h.ses.1;have hj:=qNk hg;have hp:=zEy hl hg oM;have hT:=h.ses.2 x (zBj hg);have e:vZ s (.pd (768+(j:Int)))=(s,⟨0,[],[x.dg],[]⟩):=by simp only[vZ,hp]
 have hW:(vZ s (.pd (768+(j:Int)))).2.W:=by
  rw[e];exact Rs.W.mk1 (by decide) ⟨sM,qYg⟩ ⟨sM,zC9 (by have:=hT.1;omega)⟩ (fun h=>absurd rfl h)
 exact⟨⟨⟨⟨hl,qJm oM,by rw[hp],by rw[hp];show x.kd≠1;omega⟩,.inl (.inr (.inr (.inr (.inr ⟨_,rfl⟩)))),by decide,.inr h.on,.inl (.inr (.inr (.inr (.inr ⟨_,rfl⟩))))⟩,jQc oM,hW,by rw[e];exact h.a.B⟩,e⟩
def prS (s:St)(j:Nat)(h:Int)(po au da:List UInt8):St := { s with obs:=s.obs.set j (qHk s h po au da) }
theorem zSm {s:St}{h:Int}{po au da:List UInt8}(l1:po.length=32)(l2:au.length≤32)(l3:da.length≤60):(qHk s h po au da).Se:=⟨.inr ⟨rfl,rfl,rfl,l1,qG5⟩,l2,by show da.length≤128;omega⟩
theorem jAw {s:St}(h:s.Tp){j:Nat}(hf:frO s.obs 0=j)(hj:j≤2){hh:Int}{po au da:List UInt8}(h2:0≤hh∧hh≤2)(l1:po.length=32)(l2:au.length≤32)(l3:da.length≤60) :
  SnP s 0 (.pr hh po au da)∧(∃ en nm,vZ s (.pr hh po au da)=(prS s j hh po au da,⟨0,[512+(j:Int)],[en,nm],[]⟩))∧(prS s j hh po au da).Tp:=by
 have hl:=h.obs.1;have hn : ¬ frO s.obs 0 = -1:=by rw[hf];omega
 have lu:(qZc (qQo (qMl s hh po da)) da).length=32:=qG5;have e:vZ s (.pr hh po au da)=(prS s j hh po au da,⟨0,[512+(j:Int)],[zAz po (qZc (qQo (qMl s hh po da)) da),qYi po (qZc (qQo (qMl s hh po da)) da)],[]⟩):=by
  simp only[vZ,qNp,qMh,hn,if_false,hf,Int.toNat_natCast];rfl
 have hW:(vZ s (.pr hh po au da)).2.W:=by
  rw[e];exact Rs.W.mk1 (by decide) ⟨sM,zC9 (qJm oM)⟩ ⟨sM,jKb (by rw[qGu ⟨l1,lu⟩];omega) (by rw[qMi];omega)⟩ (fun h=>absurd rfl h)
 have hv:vlP ⟨s,qC (.pr hh po au da),⟨0,[],[]⟩,hh⟩:=⟨h.en,h2,.inr (.inr ⟨po,au,da,rfl⟩),rfl⟩;refine⟨⟨⟨⟨⟨hl,hn⟩,h.a.sd,h2,l1,l2,l3⟩,.inr ⟨h.en,.inl ⟨hh,po,au,da,rfl,h2⟩⟩,by decide,.inr h.on,.inr ⟨rfl,.vl _ hh hv (by rw[h.a.lk];decide),.inl ⟨hh,po,au,da,rfl⟩⟩⟩,jQe h2 l1 l2 l3,hW,by rw[e];exact h.a.B⟩,⟨_,_,e⟩,?_⟩;exact⟨h.a,h.on,h.off,h.clk,h.rl,h.wl,h.bk,h.u,h.dr,h.ses,⟨by simp[prS,hl],qY6 h.obs.2 (zSm l1 l2 l3)⟩⟩
def unE (x:Ses)(o:Obj):Int:=if x.kd=2 then (if x.dg=o.p.po then 0 else 11) else 8
theorem zOr {s:St}(h:s.Tp){i j:Nat}{x:Ses}{o:Obj}(hg:s.ses[j]?=some x)(hk:x.kd=2∨x.kd=3)(ho:s.obs[i]?=some o)(hi:i≤2)(h3:o.p.kd=3){v:List UInt8}(hv:v.length≤32)
  (hr:x.kd=2→x.lo%2=1∧(x.up = -1∨x.up=s.u)∧(x.av=true→v=o.s.au)) :
  SnP s 0 (.un (512+(i:Int)) (768+(j:Int)) v)∧vZ s (.un (512+(i:Int)) (768+(j:Int)) v)=(if unE x o=0 then (qU5 s (768+(j:Int)),⟨0,[],[o.s.da],[]⟩) else (s,⟨unE x o,[],[],[]⟩))∧(qU5 s (768+(j:Int))).Tp:=by
 have hl:=h.ses.1;have hj:=qNk hg;have hp:=zEy hl hg oM;have hb:=zXu h.obs.1 ho oM;have hT:=h.ses.2 x (zBj hg);have hO:=h.obs.2 o (zBj ho);obtain⟨h5,-,h7,h8⟩:=hT.2.2.2.resolve_left oM;have hE:ckE s (512+(i:Int)) (768+(j:Int))=unE x o:=by rw[ckE,hp,hb];rfl
 have hE':unE x o=0∨unE x o=8∨unE x o=11:=by
  unfold unE;split
  ·split
   ·exact .inl rfl
   ·exact .inr (.inr rfl)
  ·exact .inr (.inl rfl)
 have e:vZ s (.un (512+(i:Int)) (768+(j:Int)) v)=(if unE x o=0 then (qU5 s (768+(j:Int)),⟨0,[],[o.s.da],[]⟩) else (s,⟨unE x o,[],[],[]⟩)):=by
  simp only[vZ,hE,hb]
 have hW:(vZ s (.un (512+(i:Int)) (768+(j:Int)) v)).2.W∧(vZ s (.un (512+(i:Int)) (768+(j:Int)) v)).1.a=s.a:=by
  rw[e];split
  ·exact⟨Rs.W.mk1 (by decide) ⟨sM,qYg⟩ ⟨sM,zC9 (by have:=hO.2.2;omega)⟩ (fun h=>absurd rfl h),rfl⟩
  ·exact⟨zTc oM,rfl⟩
 have hck:CkP s (qC (.un (512+(i:Int)) (768+(j:Int)) v)):=by
  refine .un _ _ _ ⟨hl,qJm oM,oM⟩ (by rw[hp]) (by rw[hp];exact hk) (fun h2=>?_);rw[hp] at h2 ⊢;obtain⟨r1,r2,r3⟩:=hr h2;exact⟨h.en,by show s.a.lk.fa=0∧1≤s.a.lk.mx;rw[h.a.lk];decide,⟨qJm (by show 0≤512+(i:Int)∧512+(i:Int)≤65535;omega),by show (qA5 s _).2=0;rw[hb]⟩,rfl,⟨rfl,r1⟩,hT.2.2.1,h8,r2,h.u.1,h5,fun hv=>by show v=(qA5 s _).1.s.au;rw[hb];exact r3 hv⟩
 refine⟨⟨⟨⟨hck,fun h0=>?_,h.en,qJm oM,by rw[hb]⟩,.inr ⟨h.en,.inr ⟨_,_,_,rfl,qJm oM,by rw[hb]⟩⟩,by decide,.inr h.on,.inr ⟨rfl,hck,.inr ⟨_,_,_,rfl,⟨hl,qJm oM,oM⟩,by rw[hp]⟩⟩⟩,jQf oM oM hv,hW.1,by rw[hW.2];exact h.a.B⟩,e,?_⟩
 ·rw[hE] at h0;rw[hp];show x.kd=2;unfold unE at h0;split at h0
  ·assumption
  ·cases h0
 ·refine⟨h.a,h.on,h.off,h.clk,h.rl,h.wl,h.bk,h.u,h.dr,⟨by simp[qU5,hl],qY6 h.ses.2 ?_⟩,h.obs⟩;exact⟨by simp[qB5],by simp[qB5],rfl,.inl rfl⟩
theorem jAx {a:Sa}(h:a.Tp)(hr:a.res≤999):SnP (qCu a) 0 .up∧(zCe (qCu a)).Tp:=by
 have r0:=h.res;have hT:(zCe (qCu a)).a.Tp:=⟨h.sd,h.au,h.en,h.act,by show 0≤a.res+1∧a.res+1≤1000;omega,rfl,h.clk,⟨rfl,rfl⟩,h.mc,h.ix,h.lk,h.ks⟩;have hcn:(qCu a).cn 1000000:=by
  have:=h.rst;have:=h.bk.2;refine⟨?_,?_,?_,?_,?_,?_,?_⟩
  ·show a.res≤1000000;omega
  ·show a.rst≤1000000;omega
  ·show a.u≤1000000;omega
  ·show (0:Int)≤1000000;decide
  ·show (0:Int)≤1000000;decide
  ·show (0:Int)≤1000000;decide
  ·show (0:Int)≤1000000;decide
 refine⟨⟨⟨⟨h.ok,hcn,rfl,rfl⟩,.inl (.inl rfl),by decide,.inl rfl,.inl (.inl rfl)⟩,jQg,zTc (by decide),hT.B⟩,?_⟩;refine⟨hT,rfl,rfl,h.clk,rfl,rfl,?_,by show (0:Int)≤0∧(0:Int)≤1000;decide,by show (0:Int)≤0∧(0:Int)≤1000;decide,⟨rfl,?_⟩,⟨rfl,?_⟩⟩
 ·show ShA 2 (yJ a.act);rw[h.act];exact ShA.new oM
 ·exact jBs ⟨by decide,by decide,rfl,.inl rfl⟩ ⟨by decide,by decide,rfl,.inl rfl⟩ ⟨by decide,by decide,rfl,.inl rfl⟩
 ·exact jBs ⟨.inl rfl,by decide,by decide⟩ ⟨.inl rfl,by decide,by decide⟩ ⟨.inl rfl,by decide,by decide⟩
end Go.Eng
end
