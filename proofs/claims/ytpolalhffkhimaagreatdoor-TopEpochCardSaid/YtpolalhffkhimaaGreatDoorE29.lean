/- A part of an abstract machine, its walks, their tie. -/
import Derived.Test.YtpolalhffkhimaaGreatDoorE28
import Derived.Test.YtpolalhffkhimaaGreatDoorE16
import Derived.Test.YtpolalhffkhimaaGreatDoorE21
import Derived.Test.YtpolalhffkhimaaGreatDoorE23
import Derived.Test.YtpolalhffkhimaaGreatDoorE24
set_option linter.all false
section
set_option maxHeartbeats 64000000
set_option maxRecDepth 20000
namespace Go.Eng
variable (tab:Tab) (gl:Gl)
variable {vv:V} {oo:List Ob}
theorem jV0 {s:Rd} : ∀ {n:Nat},(zZp s n).1.length=n
 | 0=>rfl
 | n+1=>by simp[zZp,jV0 (n:=n)]
theorem jV6 {s:Rd} : ∀ {n:Nat},(jGd s n).1.length=n
 | 0=>rfl
 | n+1=>by simp[jGd,jV6 (n:=n)]
theorem jV2 {s:Rd} : ∀ {n:Nat},(jF5 s n).1.length=n
 | 0=>rfl
 | n+1=>by simp[jF5,jV2 (n:=n)]
theorem jV4 {s:Rd}{k:Nat}:0≤(qQ s k).1∧((qQ s k).2.2.2≠0→(qQ s k).1=0):=by
 unfold qQ;split
 ·exact⟨Int.le_refl _,fun _=>rfl⟩
 ·split
  ·exact⟨Int.le_refl _,fun _=>rfl⟩
  ·split
   ·exact⟨Int.le_refl _,fun _=>rfl⟩
   ·exact⟨Int.natCast_nonneg _,fun h=>absurd rfl h⟩
theorem jWq {s:Rd}{m:Int}(hm:0≤m):0≤(zWe s m).1∧(zWe s m).1≤m:=by
 have h:=jV4 (s:=s) (k:=1);unfold zWe;split
 ·exact⟨Int.le_refl _,hm⟩
 ·rename_i hn;refine⟨h.1,?_⟩;by_cases e:(qQ s 1).2.2.2=0
  ·have : ¬ m<(qQ s 1).1:=fun h=>hn ⟨e,h⟩
   omega
  ·rw[h.2 e];exact hm
theorem jUx (s:Rd):kH s = .live 3 [.t (.agg [.sl (s.1.map qA),.int .i64 (s.2.1:Int),.int .i64 s.2.2])] true true:=rfl
def Ix.M (x:Ix):Prop:=x.po.length≤100000∧x.au.length≤100000∧x.da.length≤100000
def Obj.M (x:Obj):Prop:=(x.p.po.length≤100000∧x.p.un.length≤100000)∧x.s.au.length≤100000∧x.s.sd.length≤100000∧x.s.da.length≤100000
def Ses.M (x:Ses):Prop:=x.no.length≤100000∧x.dg.length≤100000
structure Sa.M (s:Sa):Prop where
 sd:zV6 s.sd
 au:zV6 s.au
 en:s.en.length<1000000000
 bk:RM s.bk
 ix:s.ix.length≤1000000 ∧ ∀ x∈s.ix,x.M
 ks:s.ks.length≤1000000 ∧ ∀ x∈s.ks,x.un.length≤100000
structure St.M (s:St):Prop where
 a:s.a.M
 bk:RM s.bk
 rl:s.rl.length≤1000000
 wl:s.wl.length≤1000000
 ses:s.ses.length≤1000000 ∧ ∀ x∈s.ses,x.M
 obs:s.obs.length≤1000000 ∧ ∀ x∈s.obs,x.M
theorem ShA.shp {act:Int}{bk:List qX}(ha:1≤act∧act≤3)(h:ShA act bk):Shp act bk:=by
 obtain⟨b0,b1,rfl,h0,h1,z0,z1⟩:=h;have hn:yK act=[if act%2=1 then qAw 0 else [],if act/2%2=1 then qAw 1 else []]:=qCx oM;have k0:List.length b0=List.length (if act%2=1 then qAw 0 else []):=by
  rw[h0];split
  ·exact qI.symm
  ·rfl
 have k1:List.length b1=List.length (if act/2%2=1 then qAw 1 else []):=by
  rw[h1];split
  ·exact qI.symm
  ·rfl
 refine⟨by rw[hn];rfl,?_,?_⟩
 ·funext a;rw[hn]
  match a with
  | 0=>exact k0
  | 1=>exact k1
  | n+2=>rfl
 ·intro a ha' x hx;rcases (by omega:a=0∨a=1) with rfl | rfl
  ·exact z0 x hx
  ·exact z1 x hx
theorem BkS.shp {act:Int}{bk:List qX}(h:BkS act bk) : ∃ s,Shp s bk:=by
 rcases h with rfl | ⟨ha,h⟩
 ·exact⟨0,rfl,rfl,RZ.nil⟩
 ·exact⟨act,h.shp ha⟩
theorem zX6 {act u:Int}{bk:List qX}(h:BkS act bk)(hu:0≤u∧u<9223372036854775808):dcT (qEb bk u)=(bk,u,0):=by
 obtain⟨s,hs⟩:=h.shp;have e:=(zQq (qEb bk u)).1.symm.trans (zX5 h.rv hs hu);unfold jT at e;injection e with e;injection e with e1 e2;injection e1 with e1;injection e1 with e1;injection e1 with e1 e3;injection e1 with e1;injection e3 with e3;injection e3 with _ e3;injection e2 with e2;injection e2 with e2;injection e2 with _ e2;generalize dcT (qEb bk u)=z at *;obtain⟨x,y,w⟩:=z;simp only at e1 e2 e3;rw[qBk (fun _ _=>qS7) e1,e2,e3]
theorem qYb {s:Sa}(h:s.Ok)(hr:s.res<9223372036854775808∧s.rst<9223372036854775808∧s.u<9223372036854775808):jJd (qCi s)=(s,0):=by
 obtain⟨b,hb⟩ : ∃ b,qCi s=b:=⟨_,rfl⟩;have h0:At b 0 b:=⟨[],rfl,rfl⟩;have hw:=jDs s;rw[hb] at hw ⊢;have lk:=h.lk;unfold Lk.Ok at lk;have x1:=h.act;have x2:=h.res;have x3:=h.rst;have x4:=h.clk;have x5:=h.u;have x6:=h.mc;have x7:=h.en;have le:=zK7 (u:=s.u) h.bk.rv;have g0:At b 0 (bY 1::(bY s.act::(s.sd.flatMap wB++(s.au.flatMap wB++(wB s.en++(beI 8 s.res 8++(beI 8 s.rst 8++(beI 8 s.clk 8++(bO s.ord::(wB (qEb s.bk s.u)++(beI 8 s.mc 8++(bY s.ix.length::(s.ix.flatMap wX++(beI 8 s.lk.fa 8++(beI 8 s.lk.mx 8++(beI 8 s.lk.rc 8++(beI 8 s.lk.si 8++(beI 8 s.lk.cl 8++(beI 8 s.lk.pe 8++(bY s.ks.length::(s.ks.flatMap wL++[]))))))))))))))))))))):=by
  rw[List.append_nil];rw[show bY 1=1 from rfl,←hw];exact h0
 obtain⟨a0,g1⟩:=g0.byte oM;obtain⟨a1,g2⟩:=g1.small (m:=3) oM oM;obtain⟨p2,a2,g3⟩:=g2.blobs h.sd.1 (fun x hx=>by have:=h.sd.2 x hx;omega);obtain⟨p3,a3,g4⟩:=g3.blobs h.au.1 (fun x hx=>by have:=h.au.2 x hx;omega);obtain⟨a4,g5⟩:=g4.wbl oM;obtain⟨a5,g6⟩:=g5.uint (.inl ⟨rfl,oM⟩);obtain⟨a6,g7⟩:=g6.uint (.inl ⟨rfl,oM⟩);obtain⟨a7,g8⟩:=g7.uint (.inl ⟨rfl,oM⟩);obtain⟨a8,g9⟩:=g8.flag;obtain⟨a9',g10⟩:=g9.wbl oM;generalize hp9:p3+2+s.en.length+8+8+8+1=p9 at *;have a9:jLo (b,p9,0)=((s.bk,s.u),(b,p9+2+(qEb s.bk s.u).length,0)):=by
  unfold jLo;rw[a9',if_neg sM,zX6 h.bk ⟨x5,hr.2.2⟩]
 obtain⟨a10,g11⟩:=g10.uint (.inl ⟨rfl,oM⟩);obtain⟨a11,g12⟩:=g11.small (m:=6) (by have:=h.ix.1;omega) (by have:=h.ix.1;omega);obtain⟨p12,a12,g13⟩:=At.many (f:=jF3) (F:=jGd) (fun _=>rfl) (fun _ _=>rfl) (fun x hx p r g=>At.ix (h.ix.2 x hx) g) g12;obtain⟨a13,g14⟩:=g13.uint (.inl ⟨rfl,oM⟩);obtain⟨a14,g15⟩:=g14.uint (.inl ⟨rfl,oM⟩);obtain⟨a15,g16⟩:=g15.uint (.inl ⟨rfl,oM⟩);obtain⟨a16,g17⟩:=g16.uint (.inl ⟨rfl,oM⟩);obtain⟨a17,g18⟩:=g17.uint (.inl ⟨rfl,oM⟩);obtain⟨a18,g19⟩:=g18.uint (.inl ⟨rfl,oM⟩);obtain⟨a19,g20⟩:=g19.small (m:=8) (by have:=h.ks.1;omega) (by have:=h.ks.1;omega);obtain⟨p20,a20,g21⟩:=At.many (f:=jF6) (F:=jF5) (fun _=>rfl) (fun _ _=>rfl) (fun x hx p r g=>At.lv (h.ks.2 x hx) g) g20;have hend:xO (b,p20,0)=0:=by
  obtain⟨t,ht,hb'⟩:=g21;rw[List.append_nil] at hb';subst hb';unfold xO;rw[if_neg (fun g=>by have:=g.2;simp only at this;omega)]
 have hsa:jF7 (b,1,0)=(s,(b,p20,0)):=by
  simp only[jF7,Nat.zero_add,a1,a2,a3,a4,a5,a6,a7,a8,a9,a10,a11,Int.toNat_natCast,a12,a13,a14,a15,a16,a17,a18,a19,a20,zLg,hp9]
 unfold jJd;rw[a0];simp only[Nat.zero_add];rw[hsa];simp only[hend];simp
def qJa:ECt where
 α:=Dv
 β:=Bool
 aS:=fun d=>[.t (dvA d)]
 pre:=fun d=>True
 r:=fun r'=> .t (.bool r')
 R:=fun d r'=>r'=(d.on && !d.k.off)
 inj:=by rintro d d' e _;simp only[xU,qJ7,qSf] at e;obtain rfl:=e;rfl
theorem zWw {g:EF qJa}{d:Dv}:qJa.fs g [.t (dvA d)] []=some (.t (.bool ((d.on && !d.k.off))),[]):=fnQ qJa d trivial
theorem zB9 {d:Dv}(hV:vv = .t (.bool ((d.on && !d.k.off))))(hO:oo=[]):qJa.K d vv oo:=⟨_,rfl,hV,hO⟩
theorem qRt  (d:Dv) :
  kI.1.wp tab gl (qE 0 [.t (dvA d)]) (qE 0 []) (zA [(2,none)] 0 (qJa.K d)):=by
 obtain⟨⟨ar,wr,cut,tn,off⟩,s,on,nx⟩:=d;cases on
 ·simp(maxSteps:=9^9)(disch:=try exact dS)only[go_sem,kI,dvA];first | exact (zB9 rfl rfl) | exact⟨rfl,(zB9 rfl rfl)⟩ | exact⟨rfl,rfl,(zB9 rfl rfl)⟩ | exact⟨rfl,rfl,rfl,(zB9 rfl rfl)⟩
 ·simp(maxSteps:=9^9)(disch:=try exact dS)only[go_sem,kI,dvA];first | exact (zB9 rfl rfl) | exact⟨rfl,(zB9 rfl rfl)⟩ | exact⟨rfl,rfl,(zB9 rfl rfl)⟩ | exact⟨rfl,rfl,rfl,(zB9 rfl rfl)⟩
def zMk (d:Dv):Dv:=⟨{ d.k with off:=true },default,false,d.nx⟩
def qFf:ECt where
 α:=Dv
 β:=Dv
 aS:=fun d=>[.t (dvA d)]
 pre:=fun d=>True
 r:=fun r'=> .t (dvA r')
 R:=fun d r'=>r'=zMk d
 inj:=by rintro d d' e _;simp only[xU,qJ7,qSf] at e;obtain rfl:=e;rfl
theorem zWv {g:EF qFf}{d:Dv}:qFf.fs g [.t (dvA d)] []=some (.t (dvA (zMk d)),[]):=fnQ qFf d trivial
theorem jMn {d:Dv}(hV:vv = .t (dvA (zMk d)))(hO:oo=[]):qFf.K d vv oo:=⟨_,rfl,hV,hO⟩
theorem qZc {g1}(h1:LkE tab 71 qLf g1)(d:Dv) :
  qEo.1.wp tab gl (qE 0 [.t (dvA d)]) (qE 0 []) (zA [(2,(some (37,true)))] 0 (qFf.K d)):=by
 have e1 := @jDe g1 d.k;simp only[dkA] at e1;simp(maxSteps:=9^9)(disch:=try exact dS)only[go_sem,qEo,dvA,h1,e1];repeat refine aiG ?_
 exact jMn rfl rfl
def qI9:ECt where
 α:=Dv
 β:=Dv
 aS:=fun d=>[.t (dvA d)]
 pre:=fun d=>True
 r:=fun r'=> .t (dvA r')
 R:=fun d r'=>r'=zMk d
 inj:=by rintro d d' e _;simp only[xU,qJ7,qSf] at e;obtain rfl:=e;rfl
theorem jH8 {g:EF qI9}{d:Dv}:qI9.fs g [.t (dvA d)] []=some (.t (dvA (zMk d)),[]):=fnQ qI9 d trivial
theorem jMp {d:Dv}(hV:vv = .t (dvA (zMk d)))(hO:oo=[]):qI9.K d vv oo:=⟨_,rfl,hV,hO⟩
theorem qQe {g1}(h1:LkE tab 40 qFf g1)(d:Dv) :
  xZ.1.wp tab gl (qE 0 [.t (dvA d)]) (qE 0 []) (zA [(2,(some (37,true)))] 0 (qI9.K d)):=by
 have e1 := @zWv g1 d;have hK : ∀ vv,vv = .t (dvA (zMk d))→qI9.K d vv []:=fun vv h=>jMp h rfl
 generalize zMk d=y at *;simp only[dvA] at e1;simp(maxSteps:=9^9)(disch:=try exact dS)only[go_sem,xZ,dvA,h1,e1];repeat refine aiG ?_
 exact hK _ rfl
def Sa.B (s:Sa):Prop:=s.Ok∧s.res<9223372036854775808∧s.rst<9223372036854775808∧s.u<9223372036854775808
theorem qNv {s t:Sa}(h:s.B)(g:t.B)(e:qCi s=qCi t):s=t:=by
 have h1:=qYb h.1 h.2;have h2:=qYb g.1 g.2;rw[e,h2] at h1;exact (Prod.mk.inj h1).1.symm
theorem qYq {s:Sa}{n:Int}(h:s.B)(hn:1≤n∧n≤1000000):qYp n (qCi s):=⟨hn,by have:=qPs h.1;omega⟩
def qW8 (en:List UInt8):Sa:=⟨[drv en [115,101,101,100] [0] 32,drv en [115,101,101,100] [1] 32,drv en [115,101,101,100] [2] 32],[[],[],[],[]],drv en [101,110,116,114,111,112,121] [] 32,2,0,0,0,true,[],0,0,[],⟨0,5,100,0,0,1000⟩,[]⟩
theorem zEa {en:List UInt8}:(qW8 en).Ok where
 sd:=⟨rfl,by
  intro x hx;simp only[qW8,List.mem_cons,List.not_mem_nil,or_false] at hx;rcases hx with rfl | rfl | rfl<;>exact Nat.le_of_eq wP⟩
 au:=⟨rfl,by
  intro x hx;simp only[qW8,List.mem_cons,List.not_mem_nil,or_false] at hx;rcases hx with rfl | rfl | rfl | rfl<;>simp⟩
 en:=wP
 act:=(by decide:(0:Int)≤2∧(2:Int)≤3)
 res:=Int.le_refl 0
 rst:=Int.le_refl 0
 clk:=(by decide:(0:Int)≤0∧(0:Int)≤1099511627776)
 bk:= .inl rfl
 u:=Int.le_refl 0
 mc:=(by decide:(0:Int)≤0∧(0:Int)≤1099511627776)
 ix:=⟨Nat.zero_le 6,by intro x hx;cases hx⟩
 lk:=(by unfold Lk.Ok;decide:Lk.Ok ⟨0,5,100,0,0,1000⟩)
 ks:=⟨Nat.zero_le 8,by intro x hx;cases hx⟩
theorem jFg {en:List UInt8}:(qW8 en).B:=⟨zEa,(by decide:(0:Int)<9223372036854775808),(by decide:(0:Int)<9223372036854775808),(by decide:(0:Int)<9223372036854775808)⟩
def nwV (en:List UInt8):Dv:=⟨⟨[[],qFq 1 (qCi (qW8 en)),[],[]],1,0,0,true⟩,default,false,2⟩
def qI8:ECt where
 α:=Int×List UInt8×Int
 β:=Dv×Int
 aS:=fun (n,en,a)=>[.t (.int .i64 n),.t (.sl (en.map qA)),.t (.int .i64 a)]
 pre:=fun (n,en,a)=>n=4∧en.length=32∧a=2
 r:=fun (d,e)=> .tup [.t (dvA d),.t (.int .i64 e)]
 R:=fun (n,en,a) (d,e)=>d=nwV en∧e=0
theorem jH7 {g:EF qI8}{n:Int}{en:List UInt8}{a:Int}(hp:n=4∧en.length=32∧a=2) : ∃ (d:Dv) (e:Int),(d=nwV en∧e=0)∧qI8.fs g [.t (.int .i64 n),.t (.sl (en.map qA)),.t (.int .i64 a)] []=some (.tup [.t (dvA d),.t (.int .i64 e)],[]):=by
 obtain⟨y,h1,h2⟩:=qI8.eq g (n,en,a) hp;exact⟨y.1,y.2,h1,h2⟩
theorem jMo {n:Int}{en:List UInt8}{a:Int}(d:Dv)(e:Int)(hR:d=nwV en∧e=0)(hV:vv = .tup [.t (dvA d),.t (.int .i64 e)])(hO:oo=[]):qI8.K (n,en,a) vv oo:=⟨(d,e),hR,hV,hO⟩
theorem qZa (h1:LkC tab 36 qYa){g2}(h2:LkE tab 38 qLc g2){g3}(h3:LkE tab 39 qPr g3){g4}(h4:LkE tab 37 qGt g4){g5}(h5:LkE tab 40 qFf g5)(n:Int)(en:List UInt8)(a:Int)(hp:n=4∧en.length=32∧a=2) :
  qEm.1.wp tab gl (qE 0 [.t (.int .i64 n),.t (.sl (en.map qA)),.t (.int .i64 a)]) (qE 0 []) (zA [(6,(some (37,true))),(7,none)] 0 (qI8.K (n,en,a))):=by
 obtain⟨rfl,he,rfl⟩:=hp;have e1:=jA2 (en:=en) (act:=2) oM;have hG:zB5 en 2=⟨[drv en [115,101,101,100] [0] 32,drv en [115,101,101,100] [1] 32,drv en [115,101,101,100] [2] 32],[[],[],[],[]],drv en [101,110,116,114,111,112,121] [] 32,2,0,0,0,true,[],0,0,0,5,100,0,0,1000⟩:=by rw[zB5,if_neg oM]
 have hE:zEq en 2=0:=by rw[zEq,if_neg oM]
 have hS:jJp (zB5 en 2)=saA (qW8 en):=by rw[hG];rfl
 rw[hS,hE] at e1;obtain⟨pb,hpb,e3⟩:=zN5 (g:=g3) (s:=qW8 en) zEa;have hl:pb.length≤60000:=by rw[hpb];have:=qPs (zEa (en:=en));omega
 have e2:=jDb (g:=g2) (n:=4) rfl;obtain⟨k,e,⟨hk,rfl⟩,e4⟩:=zVy (g:=g4) (k:=⟨[[],[],[],[]],0,0,0,false⟩) (b:=0) (n:=1) (p:=pb) ⟨⟨rfl,rfl,rfl,by decide⟩,rfl,⟨by decide,hl⟩⟩;have e5 := @zWv g5 ⟨k,default,false,2⟩;have hV:zMk ⟨k,default,false,2⟩=nwV en:=by rw[hk,hpb];rfl
 rw[hV] at e5;have tp:List.take pb.length pb=pb:=List.take_length;have hK : ∀ vv,vv = .tup [.t (dvA (nwV en)),.t (.int .i64 0)]→qI8.K (4,en,2) vv []:=fun vv h=>jMo (nwV en) 0 ⟨rfl,rfl⟩ h rfl
 clear hk hpb hV hS hG hE;generalize nwV en=y at *;generalize qW8 en=x at *;have d1:dvA ⟨k,default,false,2⟩ = .agg [.sl (k.ar.map bsT),.int .i64 k.wr,.int .i64 k.cut,.int .i64 k.tn,.bool k.off,.sl [],.sl [],.sl [],.int .i64 0,.int .i64 0,.int .i64 0,.int .i64 0,.bool false,.sl [],.int .i64 0,.int .i64 0,.sl [],.int .i64 0,.int .i64 0,.int .i64 0,.int .i64 0,.int .i64 0,.int .i64 0,.sl [],.bool false,.bool false,.sl [],.int .i64 0,.int .i64 0,.bool false,.int .i64 0,.sl [],.sl [],.sl [],.sl [],.bool false,.int .i64 2]:=rfl;rw[d1] at e5;simp only[dkA,dvA,saA,mcn,qG] at e1 e2 e3 e4 e5;simp(maxSteps:=9^9)(disch:=try exact dS)only[go_sem,qEm,dkA,dvA,saA,mcn,qG,h1,e1,h2,e2,h3,e3,h4,e4,h5,e5,tp];repeat refine aiG ?_
 exact hK _ rfl
def qMk:ECt where
 α:=Dv
 β:=Dv×Int
 aS:=fun d=>[.t (dvA d)]
 pre:=fun d=>d.on=false∧d.k.ar.length=4 ∧ ∃ n s,Sa.B s∧jOk d.k.ar n (qCi s)
 r:=fun (r,e)=> .tup [.t (dvA r),.t (.int .i64 e)]
 R:=fun d (r,e)=>e=0 ∧ ∀ n s,Sa.B s→jOk d.k.ar n (qCi s)→r=⟨⟨d.k.ar,0,0,0,false⟩,kK s,true,n+1⟩
 inj:=by rintro d d' e _;simp only[xU,qJ7,qSf] at e;obtain rfl:=e;rfl
theorem jH9 {g:EF qMk}{d:Dv}(hp:d.on=false∧d.k.ar.length=4 ∧ ∃ n s,Sa.B s∧jOk d.k.ar n (qCi s)) : ∃ (r:Dv) (e:Int),(e=0 ∧ ∀ n s,Sa.B s→jOk d.k.ar n (qCi s)→r=⟨⟨d.k.ar,0,0,0,false⟩,kK s,true,n+1⟩)∧qMk.fs g [.t (dvA d)] []=some (.tup [.t (dvA r),.t (.int .i64 e)],[]):=by
 obtain⟨y,h1,h2⟩:=qMk.eq g d hp;exact⟨y.1,y.2,h1,h2⟩
theorem jMq {d:Dv}(r:Dv)(e:Int)(hR:e=0 ∧ ∀ n s,Sa.B s→jOk d.k.ar n (qCi s)→r=⟨⟨d.k.ar,0,0,0,false⟩,kK s,true,n+1⟩)(hV:vv = .tup [.t (dvA r),.t (.int .i64 e)])(hO:oo=[]):qMk.K d vv oo:=⟨(r,e),hR,hV,hO⟩
theorem qRs {g1}(h1:LkE tab 45 qJa g1){g2}(h2:LkE tab 46 qLe g2){g3}(h3:LkE tab 47 qLn g3){g4}(h4:LkE tab 48 qTm g4){g5}(h5:LkE tab 49 qTl g5)(d:Dv)(hp:d.on=false∧d.k.ar.length=4 ∧ ∃ n s,Sa.B s∧jOk d.k.ar n (qCi s)) :
  qA2.1.wp tab gl (qE 0 [.t (dvA d)]) (qE 0 []) (zA [(2,(some (37,true))),(3,none)] 0 (qMk.K d)):=by
 obtain⟨ho,hl,n,s,hs,hj⟩:=hp;have e1 := @zWw g1 d;rw[ho,Bool.false_and] at e1;have e2 := @jDd g2 d.k;obtain⟨p,m,e,⟨rfl,hR⟩,e3⟩:=jEs (g:=g3) (k:=⟨d.k.ar,0,0,0,false⟩) (b:=0) ⟨rfl,hl,rfl,n,qCi s,hj⟩;obtain⟨hp1,hp2⟩:=hR n (qCi s) hj;rw[hp1,hp2] at e3;obtain⟨y,e,hD,e4⟩:=jDg (g:=g4) (b:=qCi s) (by have:=qPs hs.1;omega);rw[qYb hs.1 hs.2] at hD;obtain⟨hy,rfl⟩:=Prod.mk.inj hD;rw[hy] at e4;have e5 := @jCr g5 s;have hK : ∀ m t,Sa.B t→jOk d.k.ar m (qCi t)→(⟨⟨d.k.ar,0,0,0,false⟩,kK s,true,n+1⟩:Dv)=⟨⟨d.k.ar,0,0,0,false⟩,kK t,true,m+1⟩:=by
  intro m t ht hm;obtain⟨h1,h2⟩:=zD3 hj hm;obtain rfl:=qNv hs ht h1;rw[h2]
 have hn : -1000000≤n∧n≤1000000:=by have:=hj.1.1;omega
 clear hR hj;clear hp1 hp2 hy hD;generalize qCi s=b at *;generalize kK s=z at *;obtain⟨⟨ar,wr,cut,tn,off⟩,s0,on,nx⟩:=d;simp only at ho hK;subst ho;simp only[dkA,dvA,saA,stA] at e1 e2 e3 e4 e5;simp(maxSteps:=9^9)(disch:=try exact dS)only[go_sem,qA2,dkA,dvA,saA,stA,h1,e1,h2,e2,h3,e3,h4,e4,h5,e5];repeat refine aiG ?_
 exact jMq ⟨⟨ar,0,0,0,false⟩,z,true,n+1⟩ 0 ⟨rfl,hK⟩ rfl rfl
def qJ5 (d:Dv)(s:St):Dv:=if qCi s.a=qCi d.s.a then { d with s:=s } else ⟨{ d.k with wr:=d.k.wr+1,ar:=d.k.ar.set (d.nx%2).toNat (qFq d.nx (qCi s.a)) },s,d.on,d.nx+1⟩
def qMj:ECt where
 α:=Dv×St
 β:=Dv×Int
 aS:=fun (d,s)=>[.t (dvA d),.t (stA s)]
 pre:=fun (d,s)=>(okD d.k∧(1≤d.nx∧d.nx≤100000))∧Sa.B d.s.a∧Sa.B s.a
 r:=fun (r,e)=> .tup [.t (dvA r),.t (.int .i64 e)]
 R:=fun (d,s) (r,e)=>r=qJ5 d s∧e=0
 inj:=by rintro⟨d,s⟩ ⟨d',s'⟩ e _;simp only[xU,qJ7,qSf] at e;obtain⟨rfl,rfl⟩:=e;rfl
theorem jHu {g:EF qMj}{d:Dv}{s:St}(hp:(okD d.k∧(1≤d.nx∧d.nx≤100000))∧Sa.B d.s.a∧Sa.B s.a) : ∃ (r:Dv) (e:Int),(r=qJ5 d s∧e=0)∧qMj.fs g [.t (dvA d),.t (stA s)] []=some (.tup [.t (dvA r),.t (.int .i64 e)],[]):=by
 obtain⟨y,h1,h2⟩:=qMj.eq g (d,s) hp;exact⟨y.1,y.2,h1,h2⟩
theorem jHt {d:Dv}{s:St}(r:Dv)(e:Int)(hR:r=qJ5 d s∧e=0)(hV:vv = .tup [.t (dvA r),.t (.int .i64 e)])(hO:oo=[]):qMj.K (d,s) vv oo:=⟨(r,e),hR,hV,hO⟩
theorem qUz {g1}(h1:LkE tab 39 qPr g1){g2}(h2:LkE tab 37 qGt g2){g3}(h3:LkE tab 40 qFf g3)(d:Dv)(s:St)(hp:(okD d.k∧(1≤d.nx∧d.nx≤100000))∧Sa.B d.s.a∧Sa.B s.a) :
  kV.1.wp tab gl (qE 0 [.t (dvA d),.t (stA s)]) (qE 0 []) (zA [(4,(some (37,true))),(5,none)] 0 (qMj.K (d,s))):=by
 obtain⟨⟨hk,hx⟩,hd,hs⟩:=hp;obtain⟨p,hp,e1⟩:=zN5 (g:=g1) (s:=s.a) hs.1;obtain⟨q,hq,e2⟩:=zN5 (g:=g1) (s:=d.s.a) hd.1;obtain⟨k,e,⟨hk',rfl⟩,e3⟩:=zVy (g:=g2) (k:=d.k) (b:=0) (n:=d.nx) (p:=p) ⟨hk,rfl,⟨oM,by rw[hp];have:=qPs hs.1;omega⟩⟩;have hl:p.length≤60000:=by rw[hp];have:=qPs hs.1;omega
 have hl2:q.length≤60000:=by rw[hq];have:=qPs hd.1;omega
 have tp:List.take p.length p=p:=List.take_length;have tq:List.take q.length q=q:=List.take_length;by_cases c:p=q
 ·have hK:qJ5 d s = { d with s:=s }:=by rw[qJ5,←hp,←hq,if_pos c]
  clear hk' hp hq;subst c;obtain⟨⟨ar,wr,cut,tn,off⟩,s0,on,nx⟩:=d;simp only[dkA,dvA,saA,stA] at e1 e2 e3;simp(maxSteps:=9^9)(disch:=try exact dS)only[go_sem,kV,dkA,dvA,saA,stA,h1,e1,e2,tp];repeat refine aiG ?_
  exact jHt ⟨⟨ar,wr,cut,tn,off⟩,s,on,nx⟩ 0 ⟨hK.symm,rfl⟩ rfl rfl
 ·have hK:qJ5 d s=⟨k,s,d.on,d.nx+1⟩:=by rw[qJ5,←hp,←hq,if_neg c,hk']
  clear hk' hp hq;obtain⟨⟨ar,wr,cut,tn,off⟩,s0,on,nx⟩:=d;simp only at hx;simp only[dkA,dvA,saA,stA] at e1 e2 e3;simp(maxSteps:=9^9)(disch:=try exact dS)only[go_sem,kV,dkA,dvA,saA,stA,h1,e1,e2,tp,tq,c,h2,e3];repeat refine aiG ?_
  exact jHt ⟨k,s,on,nx+1⟩ 0 ⟨hK.symm,rfl⟩ rfl rfl
structure SnP (s:St) (lo:Int) (c:Cm):Prop where
 ex:ExP s lo c
 w:(qC c).W
 r:(yF s c).2.W
 b:Sa.B (yF s c).1.a
def DvP (d:Dv):Prop:=(d.on=true∧okD d.k∧(1≤d.nx∧d.nx≤100000))∧Sa.B d.s.a
def qMl:ECt where
 α:=Dv×Int×List UInt8
 β:=Dv×List UInt8×Int
 aS:=fun (d,lo,b)=>[.t (dvA d),.t (.int .i64 lo),.t (.sl (b.map qA))]
 pre:=fun (d,lo,b)=>DvP d ∧ ∃ c,SnP d.s lo c∧b=rqB (qC c)
 r:=fun (r,o,e)=> .tup [.t (dvA r),.t (.sl (o.map qA)),.t (.int .i64 e)]
 R:=fun (d,lo,b) (r,o,e)=>e=0 ∧ ∀ c,SnP d.s lo c→b=rqB (qC c)→r=qJ5 d (yF d.s c).1∧o=rsB (yF d.s c).2
 inj:=by rintro⟨d,lo,b⟩ ⟨d',lo',b'⟩ e _;simp only[xU,qJ7,qSf] at e;obtain⟨rfl,rfl,rfl⟩:=e;rfl
theorem jIa {g:EF qMl}{d:Dv}{lo:Int}{b:List UInt8}(hp:DvP d ∧ ∃ c,SnP d.s lo c∧b=rqB (qC c)) : ∃ (r:Dv) (o:List UInt8) (e:Int),(e=0 ∧ ∀ c,SnP d.s lo c→b=rqB (qC c)→r=qJ5 d (yF d.s c).1∧o=rsB (yF d.s c).2)∧qMl.fs g [.t (dvA d),.t (.int .i64 lo),.t (.sl (b.map qA))] []=some (.tup [.t (dvA r),.t (.sl (o.map qA)),.t (.int .i64 e)],[]):=by
 obtain⟨y,h1,h2⟩:=qMl.eq g (d,lo,b) hp;exact⟨y.1,y.2.1,y.2.2,h1,h2⟩
theorem jMr {d:Dv}{lo:Int}{b:List UInt8}(r:Dv)(o:List UInt8)(e:Int)(hR:e=0 ∧ ∀ c,SnP d.s lo c→b=rqB (qC c)→r=qJ5 d (yF d.s c).1∧o=rsB (yF d.s c).2)(hV:vv = .tup [.t (dvA r),.t (.sl (o.map qA)),.t (.int .i64 e)])(hO:oo=[]):qMl.K (d,lo,b) vv oo:=⟨(r,o,e),hR,hV,hO⟩
theorem qZb {g1}(h1:LkE tab 45 qJa g1){g2}(h2:LkE tab 40 qFf g2){g3}(h3:LkE tab 52 qL1 g3){g4}(h4:LkE tab 53 qMj g4)(d:Dv)(lo:Int)(b:List UInt8)(hp:DvP d ∧ ∃ c,SnP d.s lo c∧b=rqB (qC c)) :
  qEn.1.wp tab gl (qE 0 [.t (dvA d),.t (.int .i64 lo),.t (.sl (b.map qA))]) (qE 0 []) (zA [(6,(some (37,true))),(7,none),(8,none)] 0 (qMl.K (d,lo,b))):=by
 obtain⟨⟨⟨hon,hk,hx⟩,ha⟩,c,hc,rfl⟩:=hp;have e1 := @zWw g1 d;rw[hon,hk.1] at e1;obtain⟨t,o,hR,e3⟩:=jE7 (g:=g3) (s:=d.s) (lo:=lo) (b:=rqB (qC c)) ⟨c,hc.ex,hc.w,rfl,hc.r⟩;obtain⟨rfl,rfl⟩:=hR c hc.ex.cm hc.w rfl;obtain⟨r,e,⟨rfl,rfl⟩,e4⟩:=jHu (g:=g4) (d:=d) (s:=(yF d.s c).1) ⟨⟨hk,hx⟩,ha,hc.b⟩;have hK : ∀ c',SnP d.s lo c'→rqB (qC c)=rqB (qC c')→qJ5 d (yF d.s c).1=qJ5 d (yF d.s c').1∧rsB (yF d.s c).2=rsB (yF d.s c').2:=by
  intro c' h' e;obtain⟨h1,h2⟩:=hR c' h'.ex.cm h'.w e;rw[h1,h2];exact⟨rfl,rfl⟩
 clear hR hc;generalize qJ5 d (yF d.s c).1=y at *;generalize (yF d.s c).1=t at *;generalize rsB (yF d.s c).2=o at *;generalize rqB (qC c)=b at *;obtain⟨⟨ar,wr,cut,tn,off⟩,s0,on,nx⟩:=d;simp only at hon hk hx;simp only[dkA,dvA,saA,stA,Bool.not_false,Bool.and_true] at e1 e3 e4;simp(maxSteps:=9^9)(disch:=try exact dS)only[go_sem,qEn,dkA,dvA,saA,stA,h1,e1,h3,e3,h4,e4];repeat refine aiG ?_
 exact jMr y o 0 ⟨rfl,hK⟩ rfl rfl
def qJg:ECt where
 α:=Int
 β:=Rq
 aS:=fun m=>[.t (.int .i64 m)]
 pre:=fun m=>True
 r:=fun r'=> .t (rqA r')
 R:=fun m r'=>r'=⟨1,[],[],[m],[]⟩
theorem jI6 {g:EF qJg}{m:Int}:qJg.fs g [.t (.int .i64 m)] []=some (.t (rqA (⟨1,[],[],[m],[]⟩)),[]):=fnQ qJg m trivial
theorem jNh {m:Int}(hV:vv = .t (rqA (⟨1,[],[],[m],[]⟩)))(hO:oo=[]):qJg.K m vv oo:=⟨_,rfl,hV,hO⟩
theorem qZo  (m:Int) :
  qE6.1.wp tab gl (qE 0 [.t (.int .i64 m)]) (qE 0 []) (zA [(2,(some (5,true)))] 0 (qJg.K m)):=by
 simp(maxSteps:=9^9)(disch:=try exact dS)only[go_sem,qE6];repeat refine aiG ?_
 exact jNh rfl rfl
def qG1:ECt where
 α:=Rq×List UInt8
 β:=Rq
 aS:=fun (q,v)=>[.t (rqA q),.t (.sl (v.map qA))]
 pre:=fun (q,v)=>True
 r:=fun r'=> .t (rqA r')
 R:=fun (q,v) r'=>r' = { q with au:=[⟨0,[],v⟩] }
theorem zO6 {g:EF qG1}{q:Rq}{v:List UInt8}:qG1.fs g [.t (rqA q),.t (.sl (v.map qA))] []=some (.t (rqA ({ q with au:=[⟨0,[],v⟩] })),[]):=fnQ qG1 (q,v) trivial
theorem jNi {q:Rq}{v:List UInt8}(hV:vv = .t (rqA ({ q with au:=[⟨0,[],v⟩] })))(hO:oo=[]):qG1.K (q,v) vv oo:=⟨_,rfl,hV,hO⟩
theorem zJn  (q:Rq)(v:List UInt8) :
  qK3.1.wp tab gl (qE 0 [.t (rqA q),.t (.sl (v.map qA))]) (qE 0 []) (zA [(4,(some (5,true)))] 0 (qG1.K (q,v))):=by
 simp(maxSteps:=9^9)(disch:=try exact dS)only[go_sem,qK3,rqA];repeat refine aiG ?_
 exact jNi rfl rfl
def zAs:Ct where
 α:=Rq×Int
 aS x:=[.t (rqA x.1),.t (.int .i64 x.2)]
 ins _:=[]
 pre _:=True
 r x:= .agg [.t (.int .i64 x.1.co),.t (.sl (x.1.hs.map iT)),.sl 0 0 1,.t (.sl (x.1.ns.map iT)),.t (.sl (x.1.bl.map bsT))]
 outs x:=[.live 3 [.agg [.t (.int .i64 x.2),.nil,.nil]] true true]
 inj:=by
  rintro⟨a,b⟩ ⟨c,d⟩ h _;simp only[List.cons.injEq,V.t.injEq,T.int.injEq,jAb,true_and,and_true] at h;obtain⟨rfl,rfl⟩:=h;exact⟨rfl,rfl⟩
theorem jCw {co:Int}{hs:List Int}{au:List Az}{ns:List Int}{bl:List (List UInt8)}{s:Int}:zAs.fs [.t (rqA ⟨co,hs,au,ns,bl⟩),.t (.int .i64 s)] []=some (.agg [.t (.int .i64 co),.t (.sl (hs.map iT)),.sl 0 0 1,.t (.sl (ns.map iT)),.t (.sl (bl.map bsT))],[.live 3 [.agg [.t (.int .i64 s),.nil,.nil]] true true]):=zAs.eq (⟨co,hs,au,ns,bl⟩,s) trivial
theorem zUo (q:Rq)(s:Int):qSy.1.wp tab gl (qE 0 [.t (rqA q),.t (.int .i64 s)]) (qE 0 []) (kN [] [(4,some (5,true))] 0 (fun r o=>r = .agg [.t (.int .i64 q.co),.t (.sl (q.hs.map iT)),.sl 0 0 1,.t (.sl (q.ns.map iT)),.t (.sl (q.bl.map bsT))]∧o=[.live 3 [.agg [.t (.int .i64 s),.nil,.nil]] true true])):=by
 simp(maxSteps:=9^9)(disch:=try exact dS)only[go_sem,qSy,rqA];all_goals first | rfl | exact⟨rfl,rfl⟩
def qFj:ECt where
 α:=Int×Int×Int×Int×List UInt8×List UInt8×List UInt8
 β:=Rq
 aS:=fun (h,k,a,t,p,u,d)=>[.t (.int .i64 h),.t (.int .i64 k),.t (.int .i64 a),.t (.int .i64 t),.t (.sl (p.map qA)),.t (.sl (u.map qA)),.t (.sl (d.map qA))]
 pre:=fun (h,k,a,t,p,u,d)=>True
 r:=fun r'=> .t (rqA r')
 R:=fun (h,k,a,t,p,u,d) r'=>r'=⟨9,[h],[⟨0,[],[]⟩],[k,a,t],[p,u,d]⟩
theorem zW5 {g:EF qFj}{h k a t:Int}{p u d:List UInt8}:qFj.fs g [.t (.int .i64 h),.t (.int .i64 k),.t (.int .i64 a),.t (.int .i64 t),.t (.sl (p.map qA)),.t (.sl (u.map qA)),.t (.sl (d.map qA))] []=some (.t (rqA (⟨9,[h],[⟨0,[],[]⟩],[k,a,t],[p,u,d]⟩)),[]):=fnQ qFj (h,k,a,t,p,u,d) trivial
theorem jNg {h k a t:Int}{p u d:List UInt8}(hV:vv = .t (rqA (⟨9,[h],[⟨0,[],[]⟩],[k,a,t],[p,u,d]⟩)))(hO:oo=[]):qFj.K (h,k,a,t,p,u,d) vv oo:=⟨_,rfl,hV,hO⟩
theorem qZn {g1}(h1:LkE tab 23 qG1 g1)(h k a t:Int)(p u d:List UInt8) :
  qE5.1.wp tab gl (qE 0 [.t (.int .i64 h),.t (.int .i64 k),.t (.int .i64 a),.t (.int .i64 t),.t (.sl (p.map qA)),.t (.sl (u.map qA)),.t (.sl (d.map qA))]) (qE 0 []) (zA [(14,(some (5,true)))] 0 (qFj.K (h,k,a,t,p,u,d))):=by
 have e:=zO6 (g:=g1) (q:=⟨9,[h],[],[k,a,t],[p,u,d]⟩) (v:=[]);simp only[rqA,mcn,iT,qG] at e;simp(maxSteps:=9^9)(disch:=try exact dS)only[go_sem,qE5,h1,e];repeat refine aiG ?_
 exact jNg rfl rfl
def qFi:ECt where
 α:=Int×Int×Sl2×Int×Int×List (List UInt8)
 β:=Rq
 aS:=fun (h,k,s,n,o,b)=>[.t (.int .i64 h),.t (.int .i64 k),.t (jA0 s),.t (.int .i64 n),.t (.int .i64 o),.t (.sl (b.map bsT))]
 pre:=fun (h,k,s,n,o,b)=>True
 r:=fun r'=> .t (rqA r')
 R:=fun (h,k,s,n,o,b) r'=>r'=⟨17,[],[],[h,k,s.a,s.b,n,o],b⟩
 inj:=by rintro⟨h,k,s,n,o,b⟩ ⟨h',k',s',n',o',b'⟩ e _;simp only[xU,qJ7,jSm] at e;obtain⟨rfl,rfl,rfl,rfl,rfl,rfl⟩:=e;rfl
theorem zW4 {g:EF qFi}{h k:Int}{s:Sl2}{n o:Int}{b:List (List UInt8)}:qFi.fs g [.t (.int .i64 h),.t (.int .i64 k),.t (jA0 s),.t (.int .i64 n),.t (.int .i64 o),.t (.sl (b.map bsT))] []=some (.t (rqA (⟨17,[],[],[h,k,s.a,s.b,n,o],b⟩)),[]):=fnQ qFi (h,k,s,n,o,b) trivial
theorem jNf {h k:Int}{s:Sl2}{n o:Int}{b:List (List UInt8)}(hV:vv = .t (rqA (⟨17,[],[],[h,k,s.a,s.b,n,o],b⟩)))(hO:oo=[]):qFi.K (h,k,s,n,o,b) vv oo:=⟨_,rfl,hV,hO⟩
theorem zCf  (h k:Int)(s:Sl2)(n o:Int)(b:List (List UInt8)) :
  qGj.1.wp tab gl (qE 0 [.t (.int .i64 h),.t (.int .i64 k),.t (jA0 s),.t (.int .i64 n),.t (.int .i64 o),.t (.sl (b.map bsT))]) (qE 0 []) (zA [(12,(some (5,true)))] 0 (qFi.K (h,k,s,n,o,b))):=by
 simp(maxSteps:=9^9)(disch:=try exact dS)only[go_sem,qGj,jA0];repeat refine aiG ?_
 exact jNf rfl rfl
def qFh:ECt where
 α:=Int
 β:=Rq
 aS:=fun k=>[.t (.int .i64 k)]
 pre:=fun k=>True
 r:=fun r'=> .t (rqA r')
 R:=fun k r'=>r'=⟨16,[],[],[k],[]⟩
theorem zW3 {g:EF qFh}{k:Int}:qFh.fs g [.t (.int .i64 k)] []=some (.t (rqA (⟨16,[],[],[k],[]⟩)),[]):=fnQ qFh k trivial
theorem jNe {k:Int}(hV:vv = .t (rqA (⟨16,[],[],[k],[]⟩)))(hO:oo=[]):qFh.K k vv oo:=⟨_,rfl,hV,hO⟩
theorem zJm  (k:Int) :
  qK2.1.wp tab gl (qE 0 [.t (.int .i64 k)]) (qE 0 []) (zA [(2,(some (5,true)))] 0 (qFh.K k)):=by
 simp(maxSteps:=9^9)(disch:=try exact dS)only[go_sem,qK2];repeat refine aiG ?_
 exact jNe rfl rfl
def qFg:ECt where
 α:=Int×Int×List (List UInt8)
 β:=Rq
 aS:=fun (c,h,b)=>[.t (.int .i64 c),.t (.int .i64 h),.t (.sl (b.map bsT))]
 pre:=fun (c,h,b)=>True
 r:=fun r'=> .t (rqA r')
 R:=fun (c,h,b) r'=>r'=⟨c,[h],[],[],b⟩
theorem zW2 {g:EF qFg}{c h:Int}{b:List (List UInt8)}:qFg.fs g [.t (.int .i64 c),.t (.int .i64 h),.t (.sl (b.map bsT))] []=some (.t (rqA (⟨c,[h],[],[],b⟩)),[]):=fnQ qFg (c,h,b) trivial
theorem jNd {c h:Int}{b:List (List UInt8)}(hV:vv = .t (rqA (⟨c,[h],[],[],b⟩)))(hO:oo=[]):qFg.K (c,h,b) vv oo:=⟨_,rfl,hV,hO⟩
theorem zUj  (c h:Int)(b:List (List UInt8)) :
  qSz.1.wp tab gl (qE 0 [.t (.int .i64 c),.t (.int .i64 h),.t (.sl (b.map bsT))]) (qE 0 []) (zA [(6,(some (5,true)))] 0 (qFg.K (c,h,b))):=by
 simp(maxSteps:=9^9)(disch:=try exact dS)only[go_sem,qSz];repeat refine aiG ?_
 exact jNd rfl rfl
def qBc:ECt where
 α:=Dv×Int×Rq
 β:=Dv×Rs×Bool
 aS:=fun (d,lo,q)=>[.t (dvA d),.t (.int .i64 lo),.t (rqA q)]
 pre:=fun (d,lo,q)=>DvP d ∧ ∃ c,SnP d.s lo c∧q=qC c
 r:=fun (r,x,ok)=> .tup [.t (dvA r),.t (rsA x),.t (.bool ok)]
 R:=fun (d,lo,q) (r,x,ok)=>ok=true ∧ ∀ c,SnP d.s lo c→q=qC c→r=qJ5 d (yF d.s c).1∧x=(yF d.s c).2
 inj:=by rintro⟨d,lo,q⟩ ⟨d',lo',q'⟩ e _;simp only[xU,qJ7,qSf] at e;obtain⟨rfl,rfl,rfl⟩:=e;rfl
theorem zWz {g:EF qBc}{d:Dv}{lo:Int}{q:Rq}(hp:DvP d ∧ ∃ c,SnP d.s lo c∧q=qC c) : ∃ (r:Dv) (x:Rs) (ok:Bool),(ok=true ∧ ∀ c,SnP d.s lo c→q=qC c→r=qJ5 d (yF d.s c).1∧x=(yF d.s c).2)∧qBc.fs g [.t (dvA d),.t (.int .i64 lo),.t (rqA q)] []=some (.tup [.t (dvA r),.t (rsA x),.t (.bool ok)],[]):=by
 obtain⟨y,h1,h2⟩:=qBc.eq g (d,lo,q) hp;exact⟨y.1,y.2.1,y.2.2,h1,h2⟩
theorem jM8 {d:Dv}{lo:Int}{q:Rq}(r:Dv)(x:Rs)(ok:Bool)(hR:ok=true ∧ ∀ c,SnP d.s lo c→q=qC c→r=qJ5 d (yF d.s c).1∧x=(yF d.s c).2)(hV:vv = .tup [.t (dvA r),.t (rsA x),.t (.bool ok)])(hO:oo=[]):qBc.K (d,lo,q) vv oo:=⟨(r,x,ok),hR,hV,hO⟩
theorem zOu {g1}(h1:LkE tab 31 qMg g1){g2}(h2:LkE tab 32 qMl g2){g3}(h3:LkE tab 33 qI5 g3)(d:Dv)(lo:Int)(q:Rq)(hp:DvP d ∧ ∃ c,SnP d.s lo c∧q=qC c) :
  qPf.1.wp tab gl (qE 0 [.t (dvA d),.t (.int .i64 lo),.t (rqA q)]) (qE 0 []) (zA [(6,(some (37,true))),(7,(some (4,true))),(8,none)] 0 (qBc.K (d,lo,q))):=by
 obtain⟨hd,c,hc,rfl⟩:=hp;obtain⟨b,e,⟨rfl,rfl⟩,e1⟩:=jHf (g:=g1) hc.w;obtain⟨r,o,e,⟨rfl,hR⟩,e2⟩:=jIa (g:=g2) (d:=d) (lo:=lo) (b:=rqB (qC c)) ⟨hd,c,hc,rfl⟩;obtain⟨x,e,⟨hx,rfl⟩,e3⟩:=jHe (g:=g3) (b:=o) ⟨_,hc.r,(hR c hc rfl).2⟩;have hK : ∀ c',SnP d.s lo c'→qC c=qC c'→r=qJ5 d (yF d.s c').1∧x=(yF d.s c').2:=by
  intro c' h' e;obtain⟨k1,k2⟩:=hR c' h' (by rw[e]);exact⟨k1,by rw[hx,k2,zWd h'.r]⟩
 clear hR hx hc hd;generalize rqB (qC c)=b at *;generalize qC c=q at *;simp only[dvA,rqA,rsA] at e1 e2 e3;simp(maxSteps:=9^9)(disch:=try exact dS)only[go_sem,qPf,dvA,rqA,rsA,h1,e1,h2,e2,h3,e3];repeat refine aiG ?_
 exact jM8 r x true ⟨rfl,hK⟩ rfl rfl
def yO:ECt where
 α:=Dv×Int×Rq×Int×Int
 β:=Dv×Rs×Bool
 aS:=fun (d,lo,q,i,b)=>[.t (dvA d),.t (.int .i64 lo),.t (rqA q),.t (.int .i64 i),.t (.int .i64 b)]
 pre:=fun (d,lo,q,i,b)=>DvP d ∧ ∃ c,SnP d.s lo c∧q=qC c
 r:=fun (r,x,ok)=> .tup [.t (dvA r),.t (rsA x),.t (.bool ok)]
 R:=fun (d,lo,q,i,b) (r,x,ok)=>(∀ c,SnP d.s lo c→q=qC c→r=qJ5 d (yF d.s c).1∧x=(yF d.s c).2)∧ok=decide (x.e=0∧(x.ns.length:Int)=i∧(x.bl.length:Int)=b)
 inj:=by rintro⟨d,lo,q,i,b⟩ ⟨d',lo',q',i',b'⟩ e _;simp only[xU,qJ7,qSf] at e;obtain⟨rfl,rfl,rfl,rfl,rfl⟩:=e;rfl
theorem zO5 {g:EF yO}{d:Dv}{lo:Int}{q:Rq}{i b:Int}(hp:DvP d ∧ ∃ c,SnP d.s lo c∧q=qC c) : ∃ (r:Dv) (x:Rs) (ok:Bool),((∀ c,SnP d.s lo c→q=qC c→r=qJ5 d (yF d.s c).1∧x=(yF d.s c).2)∧ok=decide (x.e=0∧(x.ns.length:Int)=i∧(x.bl.length:Int)=b))∧yO.fs g [.t (dvA d),.t (.int .i64 lo),.t (rqA q),.t (.int .i64 i),.t (.int .i64 b)] []=some (.tup [.t (dvA r),.t (rsA x),.t (.bool ok)],[]):=by
 obtain⟨y,h1,h2⟩:=yO.eq g (d,lo,q,i,b) hp;exact⟨y.1,y.2.1,y.2.2,h1,h2⟩
theorem jNc {d:Dv}{lo:Int}{q:Rq}{i b:Int}(r:Dv)(x:Rs)(ok:Bool)(hR:(∀ c,SnP d.s lo c→q=qC c→r=qJ5 d (yF d.s c).1∧x=(yF d.s c).2)∧ok=decide (x.e=0∧(x.ns.length:Int)=i∧(x.bl.length:Int)=b))(hV:vv = .tup [.t (dvA r),.t (rsA x),.t (.bool ok)])(hO:oo=[]):yO.K (d,lo,q,i,b) vv oo:=⟨(r,x,ok),hR,hV,hO⟩
theorem zJl {g1}(h1:LkE tab 14 qBc g1)(d:Dv)(lo:Int)(q:Rq)(i b:Int)(hp:DvP d ∧ ∃ c,SnP d.s lo c∧q=qC c) :
  qBb.1.wp tab gl (qE 0 [.t (dvA d),.t (.int .i64 lo),.t (rqA q),.t (.int .i64 i),.t (.int .i64 b)]) (qE 0 []) (zA [(10,(some (37,true))),(11,(some (4,true))),(12,none)] 0 (yO.K (d,lo,q,i,b))):=by
 obtain⟨r,x,ok,⟨rfl,hK⟩,e1⟩:=zWz (g:=g1) (d:=d) (lo:=lo) (q:=q) hp;have key : ∀ w,w=decide (x.e=0∧(x.ns.length:Int)=i∧(x.bl.length:Int)=b)→yO.K (d,lo,q,i,b) (.tup [.t (dvA r),.t (rsA x),.t (.bool w)]) []:=fun w h=>jNc r x w ⟨hK,h⟩ rfl rfl
 clear hK hp;simp only[dvA,rqA,rsA] at e1 key;by_cases c1:x.e=0
 rotate_left
 ·simp(maxSteps:=9^9)(disch:=try exact dS)only[go_sem,qBb,dvA,rqA,rsA,h1,e1,c1];repeat refine aiG ?_
  refine key _ ?_;simp[c1]
 by_cases c2:(x.ns.length:Int)=i
 rotate_left
 ·simp(maxSteps:=9^9)(disch:=try exact dS)only[go_sem,qBb,dvA,rqA,rsA,h1,e1,c1,c2];repeat refine aiG ?_
  rw[c1] at key;refine key _ ?_;simp[c2]
 by_cases c3:(x.bl.length:Int)=b
 ·simp(maxSteps:=9^9)(disch:=try exact dS)only[go_sem,qBb,dvA,rqA,rsA,h1,e1,c1,c2,c3];repeat refine aiG ?_
  rw[c1] at key;refine key _ ?_;simp[c2,c3]
 ·simp(maxSteps:=9^9)(disch:=try exact dS)only[go_sem,qBb,dvA,rqA,rsA,h1,e1,c1,c2,c3];repeat refine aiG ?_
  rw[c1] at key;refine key _ ?_;simp[c2,c3]
theorem Sa.Tp.ok {a:Sa}(h:a.Tp):a.Ok where
 sd:=⟨h.sd.1,fun x hx=>Nat.le_of_eq (h.sd.2 x hx)⟩
 au:=by
  rw[h.au];refine⟨rfl,fun x hx=>?_⟩;simp only[List.mem_cons,List.not_mem_nil,or_false] at hx;rcases hx with rfl | rfl | rfl | rfl<;>simp
 en:=h.en
 act:=by rw[h.act];decide
 res:=h.res.1
 rst:=by rw[h.rst];decide
 clk:=by rw[h.clk];decide
 bk:= .inl h.bk.1
 u:=by rw[h.bk.2];decide
 mc:=by have:=h.mc;omega
 ix:=by
  rcases h.ix with e | ⟨w,d,e,hd⟩
  ·rw[e];exact⟨sM,fun x hx=>by cases hx⟩
  ·rw[e];refine⟨sM,fun x hx=>?_⟩;obtain rfl:=List.mem_singleton.1 hx;unfold Ix.Ok cnI;simp only[List.length_nil,hd];omega
 lk:=by rw[h.lk];unfold Lk.Ok;decide
 ks:=by rw[h.ks];exact⟨sM,fun x hx=>by cases hx⟩
theorem Sa.Tp.B {a:Sa}(h:a.Tp):a.B:=⟨h.ok,by have:=h.res;omega,by rw[h.rst];decide,by rw[h.bk.2];decide⟩
theorem qHb {n:Int}(h:0≤n∧n≤65535):tmI n:=by unfold tmI;omega
theorem Rs.W.mk1 {e:Int}{ns:List Int}{bl:List (List UInt8)}(he:0≤e∧e≤255)(hn:ns.length≤8 ∧ ∀ x∈ns,tmI x)(hb:bl.length≤8 ∧ ∀ x∈bl,x.length≤1024)(hz:e≠0→ns=[]∧bl=[]):(⟨e,ns,bl,[]⟩:Rs).W:=
 ⟨he,hn,hb,⟨sM,fun x hx=>by cases hx⟩,fun h=>⟨(hz h).1,(hz h).2,rfl⟩⟩
theorem zBt {e:Int}(he:0≤e∧e≤255):(⟨e,[],[],[]⟩:Rs).W:=Rs.W.mk1 he ⟨sM,fun x hx=>by cases hx⟩ ⟨sM,fun x hx=>by cases hx⟩ (fun _=>⟨rfl,rfl⟩)
theorem zD5 {α:Type}{P:α→Prop}{a:α}(h:P a) : ∀ x∈[a],P x:=fun x hx=>by obtain rfl:=List.mem_singleton.1 hx;exact h
theorem zGx {α:Type}{P:α→Prop} : ∀ x∈([]:List α),P x:=fun x hx=>by cases hx
theorem jLc {α:Type}{P:α→Prop}{a b:α}(h:P a)(g:P b) : ∀ x∈[a,b],P x:=fun x hx=>by
 simp only[List.mem_cons,List.not_mem_nil,or_false] at hx;rcases hx with rfl | rfl
 ·exact h
 ·exact g
theorem jE9 {α:Type}{P:α→Prop}{a b c:α}(h:P a)(g:P b)(k:P c) : ∀ x∈[a,b,c],P x:=fun x hx=>by
 simp only[List.mem_cons,List.not_mem_nil,or_false] at hx;rcases hx with rfl | rfl | rfl
 ·exact h
 ·exact g
 ·exact k
theorem zCg {x:List UInt8}:(wB x).length=2+x.length:=by unfold wB;rw[List.length_append,qR]
theorem jR0:(qC .up).W where
 co:=by show coK 1;unfold coK;omega
 hs:=⟨rfl,zGx⟩
 au:=⟨rfl,zGx⟩
 ns:=⟨rfl,zD5 (qHb oM)⟩
 bl:=⟨.inl rfl,zGx⟩
 le:=by rw[qYs];simp[qC,rqT,w8,qR]
theorem jRw {k:Int}(hk:2≤k∧k≤3):(qC (.op k)).W where
 co:=by show coK 16;unfold coK;omega
 hs:=⟨rfl,zGx⟩
 au:=⟨rfl,zGx⟩
 ns:=⟨rfl,zD5 (qHb oM)⟩
 bl:=⟨.inl rfl,zGx⟩
 le:=by rw[qYs];simp[qC,rqT,w8,qR]
theorem jRx {h:Int}{po au da:List UInt8}(hh:0≤h∧h≤2)(l1:po.length=32)(l2:au.length≤32)(l3:da.length≤60):(qC (.pr h po au da)).W where
 co:=by show coK 9;unfold coK;omega
 hs:=⟨rfl,zD5 oM⟩
 au:=⟨rfl,zD5 ⟨by decide,sM,sM⟩⟩
 ns:=⟨rfl,jE9 (qHb oM) (qHb oM) (qHb oM)⟩
 bl:=⟨.inl rfl,jE9 oM oM oM⟩
 le:=by rw[qYs];simp[qC,rqT,wH,wA,w8,qR,zCg];omega
theorem jRz {h s:Int}{v:List UInt8}(hh:0≤h∧h≤65535)(hs:0≤s∧s≤65535)(l:v.length≤32):(qC (.un h s v)).W where
 co:=by show coK 13;unfold coK;omega
 hs:=⟨rfl,zD5 hh⟩
 au:=⟨rfl,zD5 ⟨hs,sM,by simp only;omega⟩⟩
 ns:=⟨rfl,zGx⟩
 bl:=⟨.inl rfl,zGx⟩
 le:=by rw[qYs];simp[qC,rqT,wH,wA,w8,qR,zCg];omega
def poW:Av→Prop
 | .reg s0 s1 d=>s0=0∧(0≤s1∧s1≤65535)∧d=[]
 | .loc n=>1≤n∧n≤31
 | .cmd n=>n=13
 | .idx _ o od _=>o=2∧od.length=8
 | .aut=>True
 | .alt bs=>(2≤bs.length∧bs.length≤3) ∧ ∀ b∈bs,b.length=32
 | .apr _ _=>False
theorem jRd {h:Int}{a:Av}(hh:0≤h∧h≤65535)(ha:poW a):(qC (.po h a)).W:=by
 have hb:(avB a).length≤3∧(∀ x∈avB a,x.length≤32):=by
  cases a<;>simp only[poW] at ha<;>simp only[avB]
  case reg=>obtain⟨-,-,rfl⟩:=ha;exact⟨sM,zD5 sM⟩
  case idx=>exact⟨sM,zD5 oM⟩
  case alt bs=>exact⟨oM,fun x hx=>Nat.le_of_eq (ha.2 x hx)⟩
  all_goals exact⟨sM,zGx⟩
 have hn:(avN h a).length=6 ∧ ∀ x∈avN h a,0≤x∧x≤65535:=by
  cases a<;>simp only[poW] at ha<;>refine⟨rfl,fun x hx=>?_⟩<;>simp only[avN,List.mem_cons,List.not_mem_nil,or_false] at hx;all_goals (rcases hx with rfl | rfl | rfl | rfl | rfl | rfl<;>omega)
 have hf:((avB a).flatMap wB).length≤34*3:=by
  generalize avB a=l at hb;have : ∀ l:List (List UInt8),(∀ x∈l,x.length≤32)→(l.flatMap wB).length≤34*l.length:=by
   intro l
   induction l with
   | nil=>intro _;simp
   | cons x r ih=>
    intro h;have h1:=h x sM;have h2:=ih (fun y hy=>h y (by simp[hy]));rw[List.flatMap_cons,List.length_append,zCg,List.length_cons];omega
  have:=this l hb.2;omega
 have h8:((avN h a).flatMap w8).length=48:=by
  have : ∀ l:List Int,(l.flatMap w8).length=8*l.length:=by
   intro l
   induction l with
   | nil=>rfl
   | cons x r ih=>rw[List.flatMap_cons,List.length_append,ih,List.length_cons,w8,qR];omega
  rw[this,hn.1]
 exact {
  co:=by show coK 17;unfold coK;omega
  hs:=⟨rfl,zGx⟩
  au:=⟨rfl,zGx⟩
  ns:=⟨by show (((avN h a).length:Nat):Int)=6;rw[hn.1];rfl,fun x hx=>qHb (hn.2 x hx)⟩
  bl:=⟨.inr ⟨rfl,by show (avB a).length≤8;omega⟩,fun x hx=>by have:=hb.2 x hx;omega⟩
  le:=by
   rw[qYs];show (83::87::0::0::u8I 17::([].flatMap wH++([].flatMap wA++((avN h a).flatMap w8++(u8I (avB a).length::(avB a).flatMap wB))))).length≤2048;simp only[List.flatMap_nil,List.nil_append,List.length_cons,List.length_append,h8];omega }
theorem zDy {α:Type}{l:List α}{j:Nat}{x d:α}(h:l[j]?=some x):l.getD j d=x:=by rw[List.getD_eq_getElem?_getD,h];rfl
theorem qN6 {α:Type}{l:List α}{j:Nat}{x:α}(h:l[j]?=some x):j<l.length:=by
 rcases Nat.lt_or_ge j l.length with h1 | h1
 ·exact h1
 ·rw[List.getElem?_eq_none h1] at h;cases h
theorem zGy {α:Type}{l:List α}{j:Nat}{x:α}(h:l[j]?=some x):x∈l:=List.mem_of_getElem? h
theorem zN7 {s:St}{j:Nat}{x:Ses}(hl:s.ses.length=3)(hg:s.ses[j]?=some x)(hx:x.kd≠0):qBm s (768+(j:Int))=((j:Int),x,true):=by
 have hj:=qN6 hg;have e:(768+(j:Int)-768)=(j:Int):=oM;have hp:zWq s (768+(j:Int))=j:=by
  unfold zWq;rw[if_neg oM,e,Int.toNat_natCast,zDy hg,if_neg hx]
 rw[qBm,hp,if_neg oM,e,Int.toNat_natCast,zDy hg]
theorem zM2 {s:St}{j:Nat}{x:Ses}(hl:s.ses.length=3)(hg:s.ses[j]?=some x)(hx:x.kd=2∨x.kd=3):qHs s (768+(j:Int))=((j:Int),x,true):=by
 rw[qHs,zN7 hl hg oM];rcases hx with h | h<;>simp[h]
theorem zYe {s:St}{j:Nat}{o:Obj}(hl:s.obs.length=3)(hg:s.obs[j]?=some o)(ho:o.p.kd≠0):xV s (512+(j:Int))=(o,0):=by
 have hj:=qN6 hg;have e:(512+(j:Int)-512)=(j:Int):=oM;rw[xV,if_neg oM,e,Int.toNat_natCast,zDy hg,if_neg ho]
theorem qUm {α:Type}{P:α→Prop}{l:List α}{j:Nat}{x:α}(h : ∀ y∈l,P y)(hx:P x) : ∀ y∈l.set j x,P y:=fun y hy=>by
 rcases List.mem_or_eq_of_mem_set hy with h1 | rfl
 ·exact h y h1
 ·exact hx
theorem zVm {bk:List qX}(h:ShA 2 bk){m:Int}(hm:0≤m∧m≤65535):qPo bk 0 m=0:=by
 have h1:=h.on_t.2;have b0 : ¬ qZ8 0:=by decide
 have b1 : ¬ qZ8 m:=by unfold qZ8;omega
 rw[qPo,if_neg (by rintro (h | h);exact b0 h;exact b1 h),if_neg];rintro (⟨h,-⟩ | ⟨-,h⟩)
 ·exact h rfl
 ·rw[h1] at h;cases h
def opS (s:St)(j:Nat)(k:Int):St := { s with dr:=s.dr+1,ses:=s.ses.set j (nwS s k) }
theorem jHc {s:St}(h:s.Tp)(hdr:s.dr≤999){j:Nat}(hf:frS s.ses 0=j){k:Int}(hk:2≤k∧k≤3):SnP s 0 (.op k)∧yF s (.op k)=(opS s j k,⟨0,[768+(j:Int)],[qYr s 16],[]⟩)∧(opS s j k).Tp:=by
 have hd:=h.dr;have hn : ¬ frS s.ses 0 = -1:=by rw[hf];omega
 have hr := @zRa s.ses 0;have hl:=h.ses.1;have lr:(qYr s 16).length=16:=wP;have e:yF s (.op k)=(opS s j k,⟨0,[768+(j:Int)],[qYr s 16],[]⟩):=by
  simp only[yF,qSj,hn,if_false,hf,Int.toNat_natCast];rfl
 have hW:(yF s (.op k)).2.W:=by
  rw[e];exact Rs.W.mk1 (by decide) ⟨sM,zD5 (qHb oM)⟩ ⟨sM,zD5 oM⟩ (fun h=>absurd rfl h)
 refine⟨⟨⟨⟨⟨⟨h.a.en,oM⟩,hl,hn⟩,hk⟩,.inl (.inr (.inr (.inl ⟨k,rfl⟩))),by decide,.inr h.on,.inl (.inr (.inr (.inl ⟨k,rfl⟩)))⟩,jRw hk,hW,by rw[e];exact h.a.B⟩,e,?_⟩;refine⟨h.a,h.on,h.off,h.clk,h.rl,h.wl,h.bk,h.u,by show 0≤s.dr+1∧s.dr+1≤1000;omega,⟨by simp[opS,hl],?_⟩,h.obs⟩;refine qUm h.ses.2 ⟨Nat.le_of_eq qBh,by show (qYr s 16).length≤16;omega,rfl,.inr ⟨qBh,by show k=2∨k=3;omega,by show (0:Int)≤31∧(31:Int)≤31;decide,.inl rfl⟩⟩
def poY (s:St)(x:Ses)(a:Av):Ses := { (qB0 s x a).1 with dg:=qPt x.dg (qB0 s x a).2.1 }
def poS (s:St)(j:Nat)(x:Ses)(a:Av):St := { s with ses:=s.ses.set j (poY s x a) }
theorem zVt {a:Av}(ha:poW a)(hx : ∀ n o od nm,a≠ .idx n o od nm):fmP a:=by
 cases a<;>simp only[poW] at ha<;>simp only[fmP,Av.Ok]
 case idx=>exact absurd rfl (hx _ _ _ _)
 case alt=>exact⟨oM,ha.2⟩
 all_goals first | exact ha | omega
theorem zXj {a b:Int}(ha:0≤a∧a≤31)(hb:0≤b∧b≤31):0≤zPb a b∧zPb a b≤31:=by
 have key : ∀ a b:Fin 32,0≤zPb a.val b.val∧zPb a.val b.val≤31:=by decide
 have:=key ⟨a.toNat,oM⟩ ⟨b.toNat,oM⟩;simp only at this;rw[show ((a.toNat:Nat):Int)=a by omega,show ((b.toNat:Nat):Int)=b by omega] at this;exact this
theorem zWb {s:St}{x:Ses}(hx:x.Tp)(hk:x.kd=2∨x.kd=3){a:Av}(ha:poW a):(poY s x a).Tp∧(poY s x a).kd=x.kd:=by
 obtain⟨h1,h2,h3,h4⟩:=hx;obtain⟨h5,h6,h7,h8⟩:=h4.resolve_left oM;have e:(qPt x.dg (qB0 s x a).2.1).length=32:=qBd;cases a with
 | reg s0 s1 d=>
  unfold poY;simp only[qB0] at *;split
  ·exact⟨⟨Nat.le_of_eq e,h2,h3,.inr ⟨e,h6,h7,h8⟩⟩,rfl⟩
  ·exact⟨⟨Nat.le_of_eq e,h2,h3,.inr ⟨e,h6,h7,h8⟩⟩,rfl⟩
 | loc n=>exact⟨⟨Nat.le_of_eq e,h2,h3,.inr ⟨e,h6,zXj h7 (by simp only[poW] at ha;omega),h8⟩⟩,rfl⟩
 | cmd n=>exact⟨⟨Nat.le_of_eq e,h2,h3,.inr ⟨e,h6,h7,.inr ha⟩⟩,rfl⟩
 | _=>exact⟨⟨Nat.le_of_eq e,h2,h3,.inr ⟨e,h6,h7,h8⟩⟩,rfl⟩
theorem jMa {s:St}(h:s.Tp){j:Nat}{x:Ses}(hg:s.ses[j]?=some x)(hk:x.kd=2∨x.kd=3){a:Av}(ha:poW a)(hx : ∀ n o od nm,a≠ .idx n o od nm)(hu:x.up = -1∨x.up=s.u)(hc:x.cm=0∨x.cm=13) :
  SnP s 0 (.po (768+(j:Int)) a)∧yF s (.po (768+(j:Int)) a)=(if (qB0 s x a).2.2=0 then (poS s j x a,⟨0,[],[],[]⟩) else (s,⟨(qB0 s x a).2.2,[],[],[]⟩))∧(poS s j x a).Tp:=by
 have hl:=h.ses.1;have hj:=qN6 hg;have hp:=zM2 hl hg hk;have hT:=h.ses.2 x (zGy hg);have h32:x.dg.length=32:=(hT.2.2.2.resolve_left oM).1;have hck:ckP s x a:=by
  refine⟨hk,?_⟩;cases a<;>simp only[poW] at ha
  case reg s0 s1 d=>
   obtain⟨rfl,hm,rfl⟩:=ha;exact⟨⟨s1,rfl,hm,zVm h.bk hm⟩,hu⟩
  case loc=>trivial
  case cmd n=>show x.cm=0∨x.cm=n;omega
  case aut=>trivial
  case alt bs=>show bs.length≤8;omega
  case idx=>exact absurd rfl (hx _ _ _ _)
 have e:yF s (.po (768+(j:Int)) a)=(if (qB0 s x a).2.2=0 then (poS s j x a,⟨0,[],[],[]⟩) else (s,⟨(qB0 s x a).2.2,[],[],[]⟩)):=by
  by_cases c:(qB0 s x a).2.2=0
  ·rw[if_pos c];simp only[yF,asR,asF,hp,c,if_true,exS,Int.toNat_natCast];rw[(zWo (s:=s) (x:=x) (.inl (zVt ha hx))).2];rfl
  ·rw[if_neg c];simp only[yF,asR,asF,hp,c,if_false]
 have hE:(qB0 s x a).2.2=0∨(qB0 s x a).2.2=16:=by
  cases a<;>simp only[qB0]
  case alt=>split;exact .inr rfl;exact .inl rfl
  case idx=>exact absurd rfl (hx _ _ _ _)
  all_goals first | exact .inl rfl | exact .inl trivial
 have hW:(yF s (.po (768+(j:Int)) a)).2.W∧(yF s (.po (768+(j:Int)) a)).1.a=s.a:=by
  rw[e];split
  ·exact⟨zBt (by decide),rfl⟩
  ·exact⟨zBt (by show 0≤(qB0 s x a).2.2∧(qB0 s x a).2.2≤255;omega),rfl⟩
 refine⟨⟨⟨⟨⟨⟨h.bk.rv,h.u.1⟩,hl⟩,qHb oM,by rw[hp],zVt ha hx,by rw[hp];exact hck,by rw[hp];exact h32⟩,.inl (.inr (.inr (.inr (.inl ⟨_,a,rfl⟩)))),by decide,.inr h.on,.inl (.inr (.inr (.inr (.inl ⟨_,a,rfl⟩))))⟩,jRd oM ha,hW.1,by rw[hW.2];exact h.a.B⟩,e,?_⟩;exact⟨h.a,h.on,h.off,h.clk,h.rl,h.wl,h.bk,h.u,h.dr,⟨by simp[poS,hl],qUm h.ses.2 (zWb hT hk ha).1⟩,h.obs⟩
def prS (s:St)(j:Nat)(h:Int)(po au da:List UInt8):St := { s with obs:=s.obs.set j (qP2 s h po au da) }
theorem zSr {s:St}{h:Int}{po au da:List UInt8}(l1:po.length=32)(l2:au.length≤32)(l3:da.length≤60):(qP2 s h po au da).Se:=⟨.inr ⟨rfl,rfl,rfl,l1,qHc⟩,l2,by show da.length≤128;omega⟩
theorem jA6 {s:St}(h:s.Tp){j:Nat}(hf:frO s.obs 0=j)(hj:j≤2){hh:Int}{po au da:List UInt8}(h2:0≤hh∧hh≤2)(l1:po.length=32)(l2:au.length≤32)(l3:da.length≤60) :
  SnP s 0 (.pr hh po au da)∧(∃ en nm,yF s (.pr hh po au da)=(prS s j hh po au da,⟨0,[512+(j:Int)],[en,nm],[]⟩))∧(prS s j hh po au da).Tp:=by
 have hl:=h.obs.1;have hn : ¬ frO s.obs 0 = -1:=by rw[hf];omega
 have lu:(qY5 (qQ7 (qM1 s hh po da)) da).length=32:=qHc;have e:yF s (.pr hh po au da)=(prS s j hh po au da,⟨0,[512+(j:Int)],[zPh po (qY5 (qQ7 (qM1 s hh po da)) da),zG0 po (qY5 (qQ7 (qM1 s hh po da)) da)],[]⟩):=by
  simp only[yF,qKb,qMy,hn,if_false,hf,Int.toNat_natCast];rfl
 have hW:(yF s (.pr hh po au da)).2.W:=by
  rw[e];exact Rs.W.mk1 (by decide) ⟨sM,zD5 (qHb oM)⟩ ⟨sM,jLc (by rw[qTo ⟨l1,lu⟩];omega) (by rw[zD6];omega)⟩ (fun h=>absurd rfl h)
 have hv:vlP ⟨s,qC (.pr hh po au da),⟨0,[],[]⟩,hh⟩:=⟨h.en,h2,.inr (.inr ⟨po,au,da,rfl⟩),rfl⟩;refine⟨⟨⟨⟨⟨hl,hn⟩,h.a.sd,h2,l1,l2,l3⟩,.inr ⟨h.en,.inl ⟨hh,po,au,da,rfl,h2⟩⟩,by decide,.inr h.on,.inr ⟨rfl,.vl _ hh hv (by rw[h.a.lk];decide),.inl ⟨hh,po,au,da,rfl⟩⟩⟩,jRx h2 l1 l2 l3,hW,by rw[e];exact h.a.B⟩,⟨_,_,e⟩,?_⟩;exact⟨h.a,h.on,h.off,h.clk,h.rl,h.wl,h.bk,h.u,h.dr,h.ses,⟨by simp[prS,hl],qUm h.obs.2 (zSr l1 l2 l3)⟩⟩
def unE (x:Ses)(o:Obj):Int:=if x.kd=2 then (if x.dg=o.p.po then 0 else 11) else 8
theorem jA7 {s:St}(h:s.Tp){i j:Nat}{x:Ses}{o:Obj}(hg:s.ses[j]?=some x)(hk:x.kd=2∨x.kd=3)(ho:s.obs[i]?=some o)(hi:i≤2)(h3:o.p.kd=3){v:List UInt8}(hv:v.length≤32)
  (hr:x.kd=2→x.lo%2=1∧(x.up = -1∨x.up=s.u)∧(x.av=true→v=o.s.au)) :
  SnP s 0 (.un (512+(i:Int)) (768+(j:Int)) v)∧yF s (.un (512+(i:Int)) (768+(j:Int)) v)=(if unE x o=0 then (zCz s (768+(j:Int)),⟨0,[],[o.s.da],[]⟩) else (s,⟨unE x o,[],[],[]⟩))∧(zCz s (768+(j:Int))).Tp:=by
 have hl:=h.ses.1;have hj:=qN6 hg;have hp:=zN7 hl hg oM;have hb:=zYe h.obs.1 ho oM;have hT:=h.ses.2 x (zGy hg);have hO:=h.obs.2 o (zGy ho);obtain⟨h5,-,h7,h8⟩:=hT.2.2.2.resolve_left oM;have hE:ckE s (512+(i:Int)) (768+(j:Int))=unE x o:=by rw[ckE,hp,hb];rfl
 have hE':unE x o=0∨unE x o=8∨unE x o=11:=by
  unfold unE;split
  ·split
   ·exact .inl rfl
   ·exact .inr (.inr rfl)
  ·exact .inr (.inl rfl)
 have e:yF s (.un (512+(i:Int)) (768+(j:Int)) v)=(if unE x o=0 then (zCz s (768+(j:Int)),⟨0,[],[o.s.da],[]⟩) else (s,⟨unE x o,[],[],[]⟩)):=by
  simp only[yF,hE,hb]
 have hW:(yF s (.un (512+(i:Int)) (768+(j:Int)) v)).2.W∧(yF s (.un (512+(i:Int)) (768+(j:Int)) v)).1.a=s.a:=by
  rw[e];split
  ·exact⟨Rs.W.mk1 (by decide) ⟨sM,zGx⟩ ⟨sM,zD5 (by have:=hO.2.2;omega)⟩ (fun h=>absurd rfl h),rfl⟩
  ·exact⟨zBt oM,rfl⟩
 have hck:CkP s (qC (.un (512+(i:Int)) (768+(j:Int)) v)):=by
  refine .un _ _ _ ⟨hl,qHb oM,oM⟩ (by rw[hp]) (by rw[hp];exact hk) (fun h2=>?_);rw[hp] at h2 ⊢;obtain⟨r1,r2,r3⟩:=hr h2;exact⟨h.en,by show s.a.lk.fa=0∧1≤s.a.lk.mx;rw[h.a.lk];decide,⟨qHb (by show 0≤512+(i:Int)∧512+(i:Int)≤65535;omega),by show (xV s _).2=0;rw[hb]⟩,rfl,⟨rfl,r1⟩,hT.2.2.1,h8,r2,h.u.1,h5,fun hv=>by show v=(xV s _).1.s.au;rw[hb];exact r3 hv⟩
 refine⟨⟨⟨⟨hck,fun h0=>?_,h.en,qHb oM,by rw[hb]⟩,.inr ⟨h.en,.inr (.inl ⟨_,_,_,rfl,qHb oM,by rw[hb]⟩)⟩,by decide,.inr h.on,.inr ⟨rfl,hck,.inr (.inl ⟨_,_,_,rfl,⟨hl,qHb oM,oM⟩,by rw[hp]⟩)⟩⟩,jRz oM oM hv,hW.1,by rw[hW.2];exact h.a.B⟩,e,?_⟩
 ·rw[hE] at h0;rw[hp];show x.kd=2;unfold unE at h0;split at h0
  ·assumption
  ·cases h0
 ·refine⟨h.a,h.on,h.off,h.clk,h.rl,h.wl,h.bk,h.u,h.dr,⟨by simp[zCz,hl],qUm h.ses.2 ?_⟩,h.obs⟩;exact⟨by simp[qBw],by simp[qBw],rfl,.inl rfl⟩
theorem zT7 {a:Sa}(h:a.Tp)(hr:a.res≤999):SnP (kK a) 0 .up∧(qP8 (kK a)).Tp:=by
 have r0:=h.res;have hT:(qP8 (kK a)).a.Tp:=⟨h.sd,h.au,h.en,h.act,by show 0≤a.res+1∧a.res+1≤1000;omega,rfl,h.clk,⟨rfl,rfl⟩,h.mc,h.ix,h.lk,h.ks⟩;have hcn:(kK a).cn 1000000:=by
  have:=h.rst;have:=h.bk.2;refine⟨?_,?_,?_,?_,?_,?_,?_⟩
  ·show a.res≤1000000;omega
  ·show a.rst≤1000000;omega
  ·show a.u≤1000000;omega
  ·show (0:Int)≤1000000;decide
  ·show (0:Int)≤1000000;decide
  ·show (0:Int)≤1000000;decide
  ·show (0:Int)≤1000000;decide
 refine⟨⟨⟨⟨h.ok,hcn,rfl,rfl⟩,.inl (.inl rfl),by decide,.inl rfl,.inl (.inl rfl)⟩,jR0,zBt (by decide),hT.B⟩,?_⟩;refine⟨hT,rfl,rfl,h.clk,rfl,rfl,?_,by show (0:Int)≤0∧(0:Int)≤1000;decide,by show (0:Int)≤0∧(0:Int)≤1000;decide,⟨rfl,?_⟩,⟨rfl,?_⟩⟩
 ·show ShA 2 (yK a.act);rw[h.act];exact ShA.new oM
 ·exact jE9 ⟨by decide,by decide,rfl,.inl rfl⟩ ⟨by decide,by decide,rfl,.inl rfl⟩ ⟨by decide,by decide,rfl,.inl rfl⟩
 ·exact jE9 ⟨.inl rfl,by decide,by decide⟩ ⟨.inl rfl,by decide,by decide⟩ ⟨.inl rfl,by decide,by decide⟩
theorem zPe (d:Dv):(V.t (dvA d)).cells.length=37:=rfl
theorem zPm (q:Rq):(V.t (rqA q)).cells.length=5:=rfl
theorem jRl (r:Rs):(V.t (rsA r)).cells.length=4:=rfl
theorem zPg (d:Dv):(V.t (dvA d)).plain=true:=rfl
theorem zPo (q:Rq):(V.t (rqA q)).plain=true:=rfl
theorem jRn (r:Rs):(V.t (rsA r)).plain=true:=rfl
theorem zPf (d:Dv):qD1 (List.take 37 (V.t (dvA d)).cells)=some (dvA d).cells:=rfl
theorem zPd (d:Dv):T.agg (dvA d).cells=dvA d:=rfl
theorem zPn (q:Rq):qD1 (List.take 5 (V.t (rqA q)).cells)=some (rqA q).cells:=rfl
theorem zPl (q:Rq):T.agg (rqA q).cells=rqA q:=rfl
theorem jRm (r:Rs):qD1 (List.take 4 (V.t (rsA r)).cells)=some (rsA r).cells:=rfl
theorem jRk (r:Rs):T.agg (rsA r).cells=rsA r:=rfl
def okK (k:Dk)(nx:Int):Prop:=okD k∧1≤nx∧nx≤100000
theorem DvP.of {k:Dk}{nx:Int}{s:St}(hk:okK k nx)(hs:s.Tp):DvP ⟨k,s,true,nx⟩:=⟨⟨rfl,hk.1,hk.2⟩,hs.a.B⟩
theorem zAk {d:Dv}{t:St}(h:t.a=d.s.a):qJ5 d t = { d with s:=t }:=by rw[qJ5,if_pos (by rw[h])]
theorem jLd {g:EF yO}{k:Dk}{nx lo i b:Int}{s t:St}{c:Cm}{x:Rs}(hk:okK k nx)(hs:s.Tp)(hc:SnP s lo c)(e:yF s c=(t,x))(ha:t.a=s.a) :
  yO.fs g [.t (dvA ⟨k,s,true,nx⟩),.t (.int .i64 lo),.t (rqA (qC c)),.t (.int .i64 i),.t (.int .i64 b)] []=some (.tup [.t (dvA ⟨k,t,true,nx⟩),.t (rsA x),.t (.bool (decide (x.e=0∧(x.ns.length:Int)=i∧(x.bl.length:Int)=b)))],[]):=by
 obtain⟨r,y,ok,⟨h1,h2⟩,e1⟩:=zO5 (g:=g) (d:=⟨k,s,true,nx⟩) (lo:=lo) (q:=qC c) (i:=i) (b:=b) ⟨.of hk hs,c,hc,rfl⟩;obtain⟨h3,h4⟩:=h1 c hc rfl;have h5:qJ5 ⟨k,s,true,nx⟩ t=⟨k,t,true,nx⟩:=zAk ha;rw[show (yF s c).1=t by rw[e]] at h3;rw[show (yF s c).2=x by rw[e]] at h4;rw[e1,h2,h3,h4,h5]
theorem zIi {g:EF yO}{k:Dk}{nx lo i b:Int}{s t:St}{c:Cm}{x:Rs}(hk:okK k nx)(hs:s.Tp)(hc:SnP s lo c)(e:yF s c=(t,x))(ha:t.a=s.a)(hx:x.e=0∧(x.ns.length:Int)=i∧(x.bl.length:Int)=b) :
  yO.fs g [.t (dvA ⟨k,s,true,nx⟩),.t (.int .i64 lo),.t (rqA (qC c)),.t (.int .i64 i),.t (.int .i64 b)] []=some (.tup [.t (dvA ⟨k,t,true,nx⟩),.t (rsA x),.t (.bool true)],[]):=by
 rw[jLd hk hs hc e ha,decide_eq_true hx]
theorem jCh {g:EF qBc}{k:Dk}{nx lo:Int}{s t:St}{c:Cm}{x:Rs}(hk:okK k nx)(hs:s.Tp)(hc:SnP s lo c)(e:yF s c=(t,x))(ha:t.a=s.a) :
  qBc.fs g [.t (dvA ⟨k,s,true,nx⟩),.t (.int .i64 lo),.t (rqA (qC c))] []=some (.tup [.t (dvA ⟨k,t,true,nx⟩),.t (rsA x),.t (.bool true)],[]):=by
 obtain⟨r,y,ok,⟨h1,h2⟩,e1⟩:=zWz (g:=g) (d:=⟨k,s,true,nx⟩) (lo:=lo) (q:=qC c) ⟨.of hk hs,c,hc,rfl⟩;obtain⟨h3,h4⟩:=h2 c hc rfl;have h5:qJ5 ⟨k,s,true,nx⟩ t=⟨k,t,true,nx⟩:=zAk ha;rw[show (yF s c).1=t by rw[e]] at h3;rw[show (yF s c).2=x by rw[e]] at h4;rw[e1,h1,h3,h4,h5]
def cyV (k:Dk)(a:Sa)(n:Int):Dv:=qJ5 ⟨⟨k.ar,0,0,0,false⟩,kK a,true,n+1⟩ (qP8 (kK a))
def cyP (ar:List (List UInt8))(a:Sa)(n:Int):Prop:=(a.Tp∧a.res≤999)∧n≤90000∧jOk ar n (qCi a)
def qCg:ECt where
 α:=Dv
 β:=Dv×Bool
 aS:=fun d=>[.t (dvA d)]
 pre:=fun d=>d.k.ar.length=4 ∧ ∃ n a,cyP d.k.ar a n
 r:=fun (r,ok)=> .tup [.t (dvA r),.t (.bool ok)]
 R:=fun d (r,ok)=>ok=true ∧ ∀ n a,cyP d.k.ar a n→r=cyV d.k a n
 inj:=by rintro d d' e _;simp only[xU,qJ7,qSf] at e;obtain rfl:=e;rfl
theorem zW0 {g:EF qCg}{d:Dv}(hp:d.k.ar.length=4 ∧ ∃ n a,cyP d.k.ar a n) : ∃ (r:Dv) (ok:Bool),(ok=true ∧ ∀ n a,cyP d.k.ar a n→r=cyV d.k a n)∧qCg.fs g [.t (dvA d)] []=some (.tup [.t (dvA r),.t (.bool ok)],[]):=by
 obtain⟨y,h1,h2⟩:=qCg.eq g d hp;exact⟨y.1,y.2,h1,h2⟩
theorem jNa {d:Dv}(r:Dv)(ok:Bool)(hR:ok=true ∧ ∀ n a,cyP d.k.ar a n→r=cyV d.k a n)(hV:vv = .tup [.t (dvA r),.t (.bool ok)])(hO:oo=[]):qCg.K d vv oo:=⟨(r,ok),hR,hV,hO⟩
theorem zEy {g1}(h1:LkE tab 29 qI9 g1){g2}(h2:LkE tab 28 qMk g2){g3}(h3:LkE tab 30 qJg g3){g4}(h4:LkE tab 6 yO g4)(d:Dv)(hp:d.k.ar.length=4 ∧ ∃ n a,cyP d.k.ar a n) :
  qH7.1.wp tab gl (qE 0 [.t (dvA d)]) (qE 0 []) (zA [(2,(some (37,true))),(3,none)] 0 (qCg.K d)):=by
 obtain⟨hl,n,a,⟨ha,hr⟩,hn,hj⟩:=hp;have e1 := @jH8 g1 d;obtain⟨r,e,⟨rfl,hR⟩,e2⟩:=jH9 (g:=g2) (d:=zMk d) ⟨rfl,hl,n,a,ha.B,hj⟩;have hr1:=hR n a ha.B hj;have e3 := @jI6 g3 0;obtain⟨hS,hT⟩:=zT7 ha hr;have hD:DvP r:=by
  rw[hr1];have:=hj.1.1;exact⟨⟨rfl,⟨rfl,hl,rfl,by show (0:Int)≤0∧(0:Int)≤1000000;decide⟩,by show 1≤n+1;omega,by show n+1≤100000;omega⟩,ha.B⟩
 obtain⟨v,x,ok,⟨h5,h6⟩,e4⟩:=zO5 (g:=g4) (d:=r) (lo:=0) (q:=qC .up) (i:=0) (b:=0) ⟨hD,.up,by rw[hr1];exact hS,rfl⟩;obtain⟨h7,h8⟩:=h5 .up (by rw[hr1];exact hS) rfl;have h9:x=⟨0,[],[],[]⟩:=h8;have h10:v=cyV d.k a n:=by rw[h7,hr1];rfl
 have hok:ok=true:=by rw[h6,h9];rfl
 have hK : ∀ m b,cyP d.k.ar b m→v=cyV d.k b m:=by
  intro m b hb;obtain⟨i1,i2⟩:=zD3 hj hb.2.2;obtain rfl:=qNv ha.B hb.1.1.B i1;rw[h10,i2]
 subst hok h9;clear hR hr1 hS hT hD h5 h6 h7 h8 h10 hj;generalize zMk d=y at *;have e3':qJg.fs g3 [.t (.int .i64 0)] []=some (.t (rqA (qC .up)),[]):=e3;generalize qC .up=q at *;simp(maxSteps:=9^9)(disch:=try exact dS)only[go_sem,qH7,zPe,zPm,jRl,zPg,zPo,jRn,zPf,zPn,jRm,zPd,zPl,jRk,h1,e1,h2,e2,h3,e3',h4,e4];repeat refine aiG ?_
 exact jNa v true ⟨rfl,hK⟩ rfl rfl
def frA:Sa := { qW8 z32 with res:=1,ord:=false }
def frV:Dv:=cyV ⟨[[],qFq 1 (qCi (qW8 z32)),[],[]],1,0,0,true⟩ (qW8 z32) 1
theorem zZa:(qW8 z32).Tp where
 sd:=⟨rfl,jE9 wP wP wP⟩
 au:=rfl
 en:=wP
 act:=rfl
 res:=(by decide:(0:Int)≤0∧(0:Int)≤1000)
 rst:=rfl
 clk:=rfl
 bk:=⟨rfl,rfl⟩
 mc:=(by decide:(0:Int)≤0∧(0:Int)≤1000)
 ix:= .inl rfl
 lk:=rfl
 ks:=rfl
theorem qT0:cyP [[],qFq 1 (qCi (qW8 z32)),[],[]] (qW8 z32) 1:=
 ⟨⟨zZa,(by decide:(0:Int)≤999)⟩,by decide,qYq jFg (by decide),rfl,.inl rfl⟩
theorem jJs:qNk .and .i64 2 .i64 3=some (.int .i64 2):=rfl
def qJf:ECt where
 α:=Int
 β:=Dv×Bool
 aS:=fun a=>[.t (.int .i64 a)]
 pre:=fun a=>a=2
 r:=fun (r,ok)=> .tup [.t (dvA r),.t (.bool ok)]
 R:=fun a (r,ok)=>ok=true∧r=frV
theorem zW1 {g:EF qJf}{a:Int}(hp:a=2) : ∃ (r:Dv) (ok:Bool),(ok=true∧r=frV)∧qJf.fs g [.t (.int .i64 a)] []=some (.tup [.t (dvA r),.t (.bool ok)],[]):=by
 obtain⟨y,h1,h2⟩:=qJf.eq g a hp;exact⟨y.1,y.2,h1,h2⟩
theorem jNb {a:Int}(r:Dv)(ok:Bool)(hR:ok=true∧r=frV)(hV:vv = .tup [.t (dvA r),.t (.bool ok)])(hO:oo=[]):qJf.K a vv oo:=⟨(r,ok),hR,hV,hO⟩
theorem zEz {g1}(h1:LkE tab 22 qI8 g1){g2}(h2:LkE tab 12 qCg g2)(a:Int)(hp:a=2) :
  qH8.1.wp tab gl (qE 0 [.t (.int .i64 a)]) (qE 0 []) (zA [(2,(some (37,true))),(3,none)] 0 (qJf.K a)):=by
 subst hp;have tz:List.take 32 (List.replicate 32 (0:UInt8))=z32:=rfl;obtain⟨v,e,⟨rfl,rfl⟩,e1⟩:=jH7 (g:=g1) (n:=4) (en:=z32) (a:=2) ⟨rfl,rfl,rfl⟩;obtain⟨r,ok,⟨rfl,hR⟩,e2⟩:=zW0 (g:=g2) (d:=nwV z32) ⟨rfl,1,qW8 z32,qT0⟩;have hr:=hR 1 (qW8 z32) qT0;have hK:r=frV:=hr;clear hr hR;generalize nwV z32=y at *;simp(maxSteps:=9^9)(disch:=try exact dS)only[go_sem,qH8,zPe,zPm,jRl,zPg,zPo,jRn,zPf,zPn,jRm,zPd,zPl,jRk,tz,jJs,h1,e1,h2,e2];repeat refine aiG ?_
 exact jNb r true ⟨rfl,hK⟩ rfl rfl
end Go.Eng
end
