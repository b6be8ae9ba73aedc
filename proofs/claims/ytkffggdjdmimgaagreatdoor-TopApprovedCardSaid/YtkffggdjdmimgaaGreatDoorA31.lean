/- A part of an abstract machine, its walks, their tie. -/
import Derived.Test.YtkffggdjdmimgaaGreatDoorA30
import Derived.Test.YtkffggdjdmimgaaGreatDoorA16
import Derived.Test.YtkffggdjdmimgaaGreatDoorA23
import Derived.Test.YtkffggdjdmimgaaGreatDoorA24
import Derived.Test.YtkffggdjdmimgaaGreatDoorA25
set_option linter.all false
section
set_option maxHeartbeats 64000000
set_option maxRecDepth 20000
namespace Go.Eng
open List
variable (tab:Tab) (gl:Gl)
variable {vv:V} {oo:List Ob}
theorem zN5 {s:Rd} : ∀ {n:Nat},(zI8 s n).1.length=n
 | 0=>rfl
 | n+1=>by simp[zI8,zN5 (n:=n)]
theorem zOc {s:Rd} : ∀ {n:Nat},(zRi s n).1.length=n
 | 0=>rfl
 | n+1=>by simp[zRi,zOc (n:=n)]
theorem zN7 {s:Rd} : ∀ {n:Nat},(zRg s n).1.length=n
 | 0=>rfl
 | n+1=>by simp[zRg,zN7 (n:=n)]
theorem zOa {s:Rd}{k:Nat}:0≤(qQ s k).1∧((qQ s k).2.2.2≠0→(qQ s k).1=0):=by
 unfold qQ;split
 ·exact⟨Int.le_refl _,fun _=>rfl⟩
 ·split
  ·exact⟨Int.le_refl _,fun _=>rfl⟩
  ·split
   ·exact⟨Int.le_refl _,fun _=>rfl⟩
   ·exact⟨Int.natCast_nonneg _,fun h=>absurd rfl h⟩
theorem jEj {s:Rd}{m:Int}(hm:0≤m):0≤(qYh s m).1∧(qYh s m).1≤m:=by
 have h:=zOa (s:=s) (k:=1);unfold qYh;split
 ·exact⟨Int.le_refl _,hm⟩
 ·rename_i hn;refine⟨h.1,?_⟩;by_cases e:(qQ s 1).2.2.2=0
  ·have : ¬ m<(qQ s 1).1:=fun h=>hn ⟨e,h⟩
   omega
  ·rw[h.2 e];exact hm
theorem vJ (s:Rd):vD s = .live 3 [.t (.agg [.sl (s.1.map qA),.int .i64 (s.2.1:Int),.int .i64 s.2.2])] true true:=rfl
def Ix.M (x:Ix):Prop:=x.po.length≤100000∧x.au.length≤100000∧x.da.length≤100000
def Obj.M (x:Obj):Prop:=(x.p.po.length≤100000∧x.p.un.length≤100000)∧x.s.au.length≤100000∧x.s.sd.length≤100000∧x.s.da.length≤100000
def Ses.M (x:Ses):Prop:=x.no.length≤100000∧x.dg.length≤100000
structure Sa.M (s:Sa):Prop where
 sd:zT3 s.sd
 au:zT3 s.au
 en:s.en.length<1000000000
 bk:RM s.bk
 ix:s.ix.length≤1000000 ∧ ∀ x∈s.ix,x.M
 ks:s.ks.length≤1000000 ∧ ∀ x∈s.ks,x.un.length≤100000
structure St.M (s:St):Prop where
 a:s.a.M
 bk:RM s.bk
 rl:s.rl.length≤1000000
 wl:s.wl.length≤1000000
 ses:s.ses.length≤1000000 ∧ ∀ x∈s.ses,x.M
 obs:s.obs.length≤1000000 ∧ ∀ x∈s.obs,x.M
theorem ShA.shp {act:Int}{bk:List zB}(ha:1≤act∧act≤3)(h:ShA act bk):Shp act bk:=by
 obtain⟨b0,b1,rfl,h0,h1,z0,z1⟩:=h;have hn:yV act=[if act%2=1 then qCf 0 else [],if act/2%2=1 then qCf 1 else []]:=qEn oM;have k0:List.length b0=List.length (if act%2=1 then qCf 0 else []):=by
  rw[h0];split
  ·exact qO.symm
  ·rfl
 have k1:List.length b1=List.length (if act/2%2=1 then qCf 1 else []):=by
  rw[h1];split
  ·exact qO.symm
  ·rfl
 refine⟨by rw[hn];rfl,?_,?_⟩
 ·funext a;rw[hn]
  match a with
  | 0=>exact k0
  | 1=>exact k1
  | n+2=>rfl
 ·intro a ha' x hx;rcases (by omega:a=0∨a=1) with rfl | rfl
  ·exact z0 x hx
  ·exact z1 x hx
theorem BkS.shp {act:Int}{bk:List zB}(h:BkS act bk) : ∃ s,Shp s bk:=by
 rcases h with rfl | ⟨ha,h⟩
 ·exact⟨0,rfl,rfl,RZ.nil⟩
 ·exact⟨act,h.shp ha⟩
theorem jGh {act u:Int}{bk:List zB}(h:BkS act bk)(hu:0≤u∧u<9223372036854775808):dcT (qEb bk u)=(bk,u,0):=by
 obtain⟨s,hs⟩:=h.shp;have e:=(zM6 (qEb bk u)).1.symm.trans (jGg h.rv hs hu);unfold zY at e;injection e with e;injection e with e1 e2;injection e1 with e1;injection e1 with e1;injection e1 with e1 e3;injection e1 with e1;injection e3 with e3;injection e3 with _ e3;injection e2 with e2;injection e2 with e2;injection e2 with _ e2;generalize dcT (qEb bk u)=z at *;obtain⟨x,y,w⟩:=z;simp only at e1 e2 e3;rw[qB8 (fun _ _=>qXk) e1,e2,e3]
theorem zDg {s:Sa}(h:s.Ok)(hr:s.res<9223372036854775808∧s.rst<9223372036854775808∧s.u<9223372036854775808):zX7 (qHx s)=(s,0):=by
 obtain⟨b,hb⟩ : ∃ b,qHx s=b:=⟨_,rfl⟩;have h0:At b 0 b:=⟨[],rfl,rfl⟩;have hw:=jL9 s;rw[hb] at hw ⊢;have lk:=h.lk;unfold Lk.Ok at lk;have x1:=h.act;have x2:=h.res;have x3:=h.rst;have x4:=h.clk;have x5:=h.u;have x6:=h.mc;have x7:=h.en;have le:=zJ0 (u:=s.u) h.bk.rv;have g0:At b 0 (bY 1::(bY s.act::(s.sd.flatMap wB++(s.au.flatMap wB++(wB s.en++(beI 8 s.res 8++(beI 8 s.rst 8++(beI 8 s.clk 8++(bO s.ord::(wB (qEb s.bk s.u)++(beI 8 s.mc 8++(bY s.ix.length::(s.ix.flatMap wX++(beI 8 s.lk.fa 8++(beI 8 s.lk.mx 8++(beI 8 s.lk.rc 8++(beI 8 s.lk.si 8++(beI 8 s.lk.cl 8++(beI 8 s.lk.pe 8++(bY s.ks.length::(s.ks.flatMap wL++[]))))))))))))))))))))):=by
  rw[append_nil];rw[show bY 1=1 from rfl,←hw];exact h0
 obtain⟨a0,g1⟩:=g0.byte oM;obtain⟨a1,g2⟩:=g1.small (m:=3) oM oM;obtain⟨p2,a2,g3⟩:=g2.blobs h.sd.1 (fun x hx=>by have:=h.sd.2 x hx;omega);obtain⟨p3,a3,g4⟩:=g3.blobs h.au.1 (fun x hx=>by have:=h.au.2 x hx;omega);obtain⟨a4,g5⟩:=g4.wbl oM;obtain⟨a5,g6⟩:=g5.uint (.inl ⟨rfl,oM⟩);obtain⟨a6,g7⟩:=g6.uint (.inl ⟨rfl,oM⟩);obtain⟨a7,g8⟩:=g7.uint (.inl ⟨rfl,oM⟩);obtain⟨a8,g9⟩:=g8.flag;obtain⟨a9',g10⟩:=g9.wbl oM;generalize hp9:p3+2+s.en.length+8+8+8+1=p9 at *;have a9:jEk (b,p9,0)=((s.bk,s.u),(b,p9+2+(qEb s.bk s.u).length,0)):=by
  unfold jEk;rw[a9',if_neg sM,jGh h.bk ⟨x5,hr.2.2⟩]
 obtain⟨a10,g11⟩:=g10.uint (.inl ⟨rfl,oM⟩);obtain⟨a11,g12⟩:=g11.small (m:=6) (by have:=h.ix.1;omega) (by have:=h.ix.1;omega);obtain⟨p12,a12,g13⟩:=At.many (f:=zRf) (F:=zRi) (fun _=>rfl) (fun _ _=>rfl) (fun x hx p r g=>At.ix (h.ix.2 x hx) g) g12;obtain⟨a13,g14⟩:=g13.uint (.inl ⟨rfl,oM⟩);obtain⟨a14,g15⟩:=g14.uint (.inl ⟨rfl,oM⟩);obtain⟨a15,g16⟩:=g15.uint (.inl ⟨rfl,oM⟩);obtain⟨a16,g17⟩:=g16.uint (.inl ⟨rfl,oM⟩);obtain⟨a17,g18⟩:=g17.uint (.inl ⟨rfl,oM⟩);obtain⟨a18,g19⟩:=g18.uint (.inl ⟨rfl,oM⟩);obtain⟨a19,g20⟩:=g19.small (m:=8) (by have:=h.ks.1;omega) (by have:=h.ks.1;omega);obtain⟨p20,a20,g21⟩:=At.many (f:=jKk) (F:=zRg) (fun _=>rfl) (fun _ _=>rfl) (fun x hx p r g=>At.lv (h.ks.2 x hx) g) g20;have hend:kF (b,p20,0)=0:=by
  obtain⟨t,ht,hb'⟩:=g21;rw[append_nil] at hb';subst hb';unfold kF;rw[if_neg (fun g=>by have:=g.2;simp only at this;omega)]
 have hsa:zRh (b,1,0)=(s,(b,p20,0)):=by
  simp only[zRh,Nat.zero_add,a1,a2,a3,a4,a5,a6,a7,a8,a9,a10,a11,Int.toNat_natCast,a12,a13,a14,a15,a16,a17,a18,a19,a20,zSz,hp9]
 unfold zX7;rw[a0];simp only[Nat.zero_add];rw[hsa];simp only[hend];simp
def qMa:ECt where
 α:=Dv
 β:=Bool
 aS:=fun d=>[.t (dvA d)]
 pre:=fun d=>True
 r:=fun r'=> .t (.bool r')
 R:=fun d r'=>r'=(d.on && !d.k.off)
 inj:=by rintro d d' e _;simp only[qBk,qM7,qVl] at e;obtain rfl:=e;rfl
theorem jE7 {g:EF qMa}{d:Dv}:qMa.fs g [.t (dvA d)] []=some (.t (.bool ((d.on && !d.k.off))),[]):=fnQ qMa d trivial
theorem zH2 {d:Dv}(hV:vv = .t (.bool ((d.on && !d.k.off))))(hO:oo=[]):qMa.K d vv oo:=⟨_,rfl,hV,hO⟩
theorem qVx  (d:Dv) :
  xZ.1.wp tab gl (qE 0 [.t (dvA d)]) (qE 0 []) (qV [(2,none)] 0 (qMa.K d)):=by
 obtain⟨⟨ar,wr,cut,tn,off⟩,s,on,nx⟩:=d;cases on
 ·simp(disch:=omega)only[go_sem,xZ,dvA];first | exact (zH2 rfl rfl) | exact⟨rfl,(zH2 rfl rfl)⟩ | exact⟨rfl,rfl,(zH2 rfl rfl)⟩ | exact⟨rfl,rfl,rfl,(zH2 rfl rfl)⟩
 ·simp(disch:=omega)only[go_sem,xZ,dvA];first | exact (zH2 rfl rfl) | exact⟨rfl,(zH2 rfl rfl)⟩ | exact⟨rfl,rfl,(zH2 rfl rfl)⟩ | exact⟨rfl,rfl,rfl,(zH2 rfl rfl)⟩
def zT0 (d:Dv):Dv:=⟨{ d.k with off:=true },default,false,d.nx⟩
def qHk:ECt where
 α:=Dv
 β:=Dv
 aS:=fun d=>[.t (dvA d)]
 pre:=fun d=>True
 r:=fun r'=> .t (dvA r')
 R:=fun d r'=>r'=zT0 d
 inj:=by rintro d d' e _;simp only[qBk,qM7,qVl] at e;obtain rfl:=e;rfl
theorem jE6 {g:EF qHk}{d:Dv}:qHk.fs g [.t (dvA d)] []=some (.t (dvA (zT0 d)),[]):=fnQ qHk d trivial
theorem jVl {d:Dv}(hV:vv = .t (dvA (zT0 d)))(hO:oo=[]):qHk.K d vv oo:=⟨_,rfl,hV,hO⟩
theorem zEn {g1}(h1:LkE tab 106 qOr g1)(d:Dv) :
  qGq.1.wp tab gl (qE 0 [.t (dvA d)]) (qE 0 []) (qV [(2,(some (37,true)))] 0 (qHk.K d)):=by
 have e1 := @jLv g1 d.k;simp only[dkA] at e1;simp(disch:=omega)only[go_sem,qGq,dvA,h1,e1];repeat refine aiG ?_
 exact jVl rfl rfl
def qL9:ECt where
 α:=Dv
 β:=Dv
 aS:=fun d=>[.t (dvA d)]
 pre:=fun d=>True
 r:=fun r'=> .t (dvA r')
 R:=fun d r'=>r'=zT0 d
 inj:=by rintro d d' e _;simp only[qBk,qM7,qVl] at e;obtain rfl:=e;rfl
theorem jQm {g:EF qL9}{d:Dv}:qL9.fs g [.t (dvA d)] []=some (.t (dvA (zT0 d)),[]):=fnQ qL9 d trivial
theorem jVn {d:Dv}(hV:vv = .t (dvA (zT0 d)))(hO:oo=[]):qL9.K d vv oo:=⟨_,rfl,hV,hO⟩
theorem qUc {g1}(h1:LkE tab 65 qHk g1)(d:Dv) :
  qBq.1.wp tab gl (qE 0 [.t (dvA d)]) (qE 0 []) (qV [(2,(some (37,true)))] 0 (qL9.K d)):=by
 have e1 := @jE6 g1 d;have hK : ∀ vv,vv = .t (dvA (zT0 d))→qL9.K d vv []:=fun vv h=>jVn h rfl
 generalize zT0 d=y at *;simp only[dvA] at e1;simp(disch:=omega)only[go_sem,qBq,dvA,h1,e1];repeat refine aiG ?_
 exact hK _ rfl
def Sa.B (s:Sa):Prop:=s.Ok∧s.res<9223372036854775808∧s.rst<9223372036854775808∧s.u<9223372036854775808
theorem zDi {s t:Sa}(h:s.B)(g:t.B)(e:qHx s=qHx t):s=t:=by
 have h1:=zDg h.1 h.2;have h2:=zDg g.1 g.2;rw[e,h2] at h1;exact (Prod.mk.inj h1).1.symm
theorem zOd {s:Sa}{n:Int}(h:s.B)(hn:1≤n∧n≤1000000):zDz n (qHx s):=⟨hn,by have:=qTr h.1;omega⟩
def zFv (en:List UInt8):Sa:=⟨[drv en [115,101,101,100] [0] 32,drv en [115,101,101,100] [1] 32,drv en [115,101,101,100] [2] 32],[[],[],[],[]],drv en [101,110,116,114,111,112,121] [] 32,2,0,0,0,true,[],0,0,[],⟨0,5,100,0,0,1000⟩,[]⟩
theorem zKl {en:List UInt8}:(zFv en).Ok where
 sd:=⟨rfl,by
  intro x hx;simp only[zFv,mem_cons,not_mem_nil,or_false] at hx;rcases hx with rfl | rfl | rfl<;>exact Nat.le_of_eq wG⟩
 au:=⟨rfl,by
  intro x hx;simp only[zFv,mem_cons,not_mem_nil,or_false] at hx;rcases hx with rfl | rfl | rfl | rfl<;>simp⟩
 en:=wG
 act:=(by decide:(0:Int)≤2∧(2:Int)≤3)
 res:=Int.le_refl 0
 rst:=Int.le_refl 0
 clk:=(by decide:(0:Int)≤0∧(0:Int)≤1099511627776)
 bk:= .inl rfl
 u:=Int.le_refl 0
 mc:=(by decide:(0:Int)≤0∧(0:Int)≤1099511627776)
 ix:=⟨Nat.zero_le 6,by intro x hx;cases hx⟩
 lk:=(by unfold Lk.Ok;decide:Lk.Ok ⟨0,5,100,0,0,1000⟩)
 ks:=⟨Nat.zero_le 8,by intro x hx;cases hx⟩
theorem jNs {en:List UInt8}:(zFv en).B:=⟨zKl,(by decide:(0:Int)<9223372036854775808),(by decide:(0:Int)<9223372036854775808),(by decide:(0:Int)<9223372036854775808)⟩
def nwV (en:List UInt8):Dv:=⟨⟨[[],qJt 1 (qHx (zFv en)),[],[]],1,0,0,true⟩,default,false,2⟩
def qL8:ECt where
 α:=Int×List UInt8×Int
 β:=Dv×Int
 aS:=fun (n,en,a)=>[.t (.int .i64 n),.t (.sl (en.map qA)),.t (.int .i64 a)]
 pre:=fun (n,en,a)=>n=4∧en.length=32∧a=2
 r:=fun (d,e)=> .tup [.t (dvA d),.t (.int .i64 e)]
 R:=fun (n,en,a) (d,e)=>d=nwV en∧e=0
theorem jQl {g:EF qL8}{n:Int}{en:List UInt8}{a:Int}(hp:n=4∧en.length=32∧a=2) : ∃ (d:Dv) (e:Int),(d=nwV en∧e=0)∧qL8.fs g [.t (.int .i64 n),.t (.sl (en.map qA)),.t (.int .i64 a)] []=some (.tup [.t (dvA d),.t (.int .i64 e)],[]):=by
 obtain⟨y,h1,h2⟩:=qL8.eq g (n,en,a) hp;exact⟨y.1,y.2,h1,h2⟩
theorem jVm {n:Int}{en:List UInt8}{a:Int}(d:Dv)(e:Int)(hR:d=nwV en∧e=0)(hV:vv = .tup [.t (dvA d),.t (.int .i64 e)])(hO:oo=[]):qL8.K (n,en,a) vv oo:=⟨(d,e),hR,hV,hO⟩
theorem zEl (h1:LkC tab 61 zDf){g2}(h2:LkE tab 63 qOo g2){g3}(h3:LkE tab 64 qL4 g3){g4}(h4:LkE tab 62 qJc g4){g5}(h5:LkE tab 65 qHk g5)(n:Int)(en:List UInt8)(a:Int)(hp:n=4∧en.length=32∧a=2) :
  qGo.1.wp tab gl (qE 0 [.t (.int .i64 n),.t (.sl (en.map qA)),.t (.int .i64 a)]) (qE 0 []) (qV [(6,(some (37,true))),(7,none)] 0 (qL8.K (n,en,a))):=by
 obtain⟨rfl,he,rfl⟩:=hp;have e1:=jJc (en:=en) (act:=2) oM;have hG:zHz en 2=⟨[drv en [115,101,101,100] [0] 32,drv en [115,101,101,100] [1] 32,drv en [115,101,101,100] [2] 32],[[],[],[],[]],drv en [101,110,116,114,111,112,121] [] 32,2,0,0,0,true,[],0,0,0,5,100,0,0,1000⟩:=by rw[zHz,if_neg oM]
 have hE:zK5 en 2=0:=by rw[zK5,if_neg oM]
 have hS:jSm (zHz en 2)=saA (zFv en):=by rw[hG];rfl
 rw[hS,hE] at e1;obtain⟨pb,hpb,e3⟩:=zVs (g:=g3) (s:=zFv en) zKl;have hl:pb.length≤60000:=by rw[hpb];have:=qTr (zKl (en:=en));omega
 have e2:=jLs (g:=g2) (n:=4) rfl;obtain⟨k,e,⟨hk,rfl⟩,e4⟩:=jDz (g:=g4) (k:=⟨[[],[],[],[]],0,0,0,false⟩) (b:=0) (n:=1) (p:=pb) ⟨⟨rfl,rfl,rfl,by decide⟩,rfl,⟨by decide,hl⟩⟩;have e5 := @jE6 g5 ⟨k,default,false,2⟩;have hV:zT0 ⟨k,default,false,2⟩=nwV en:=by rw[hk,hpb];rfl
 rw[hV] at e5;have tp:List.take pb.length pb=pb:=take_length;have hK : ∀ vv,vv = .tup [.t (dvA (nwV en)),.t (.int .i64 0)]→qL8.K (4,en,2) vv []:=fun vv h=>jVm (nwV en) 0 ⟨rfl,rfl⟩ h rfl
 clear hk hpb hV hS hG hE;generalize nwV en=y at *;generalize zFv en=x at *;have d1:dvA ⟨k,default,false,2⟩ = .agg [.sl (k.ar.map bsT),.int .i64 k.wr,.int .i64 k.cut,.int .i64 k.tn,.bool k.off,.sl [],.sl [],.sl [],.int .i64 0,.int .i64 0,.int .i64 0,.int .i64 0,.bool false,.sl [],.int .i64 0,.int .i64 0,.sl [],.int .i64 0,.int .i64 0,.int .i64 0,.int .i64 0,.int .i64 0,.int .i64 0,.sl [],.bool false,.bool false,.sl [],.int .i64 0,.int .i64 0,.bool false,.int .i64 0,.sl [],.sl [],.sl [],.sl [],.bool false,.int .i64 2]:=rfl;rw[d1] at e5;simp only[dkA,dvA,saA,mcn,qI] at e1 e2 e3 e4 e5;simp(maxSteps:=9^9)(disch:=try exact dS)only[go_sem,qGo,dkA,dvA,saA,mcn,qI,h1,e1,h2,e2,h3,e3,h4,e4,h5,e5,tp];repeat refine aiG ?_
 exact hK _ rfl
def qP0:ECt where
 α:=Dv
 β:=Dv×Int
 aS:=fun d=>[.t (dvA d)]
 pre:=fun d=>d.on=false∧d.k.ar.length=4 ∧ ∃ n s,Sa.B s∧jOk d.k.ar n (qHx s)
 r:=fun (r,e)=> .tup [.t (dvA r),.t (.int .i64 e)]
 R:=fun d (r,e)=>e=0 ∧ ∀ n s,Sa.B s→jOk d.k.ar n (qHx s)→r=⟨⟨d.k.ar,0,0,0,false⟩,qCz s,true,n+1⟩
 inj:=by rintro d d' e _;simp only[qBk,qM7,qVl] at e;obtain rfl:=e;rfl
theorem jQn {g:EF qP0}{d:Dv}(hp:d.on=false∧d.k.ar.length=4 ∧ ∃ n s,Sa.B s∧jOk d.k.ar n (qHx s)) : ∃ (r:Dv) (e:Int),(e=0 ∧ ∀ n s,Sa.B s→jOk d.k.ar n (qHx s)→r=⟨⟨d.k.ar,0,0,0,false⟩,qCz s,true,n+1⟩)∧qP0.fs g [.t (dvA d)] []=some (.tup [.t (dvA r),.t (.int .i64 e)],[]):=by
 obtain⟨y,h1,h2⟩:=qP0.eq g d hp;exact⟨y.1,y.2,h1,h2⟩
theorem jVo {d:Dv}(r:Dv)(e:Int)(hR:e=0 ∧ ∀ n s,Sa.B s→jOk d.k.ar n (qHx s)→r=⟨⟨d.k.ar,0,0,0,false⟩,qCz s,true,n+1⟩)(hV:vv = .tup [.t (dvA r),.t (.int .i64 e)])(hO:oo=[]):qP0.K d vv oo:=⟨(r,e),hR,hV,hO⟩
theorem qVw {g1}(h1:LkE tab 73 qMa g1){g2}(h2:LkE tab 107 qOq g2){g3}(h3:LkE tab 108 qO1 g3){g4}(h4:LkE tab 109 qOt g4){g5}(h5:LkE tab 110 qLe g5)(d:Dv)(hp:d.on=false∧d.k.ar.length=4 ∧ ∃ n s,Sa.B s∧jOk d.k.ar n (qHx s)) :
  qCl.1.wp tab gl (qE 0 [.t (dvA d)]) (qE 0 []) (qV [(2,(some (37,true))),(3,none)] 0 (qP0.K d)):=by
 obtain⟨ho,hl,n,s,hs,hj⟩:=hp;have e1 := @jE7 g1 d;rw[ho,Bool.false_and] at e1;have e2 := @jLu g2 d.k;obtain⟨p,m,e,⟨rfl,hR⟩,e3⟩:=jM5 (g:=g3) (k:=⟨d.k.ar,0,0,0,false⟩) (b:=0) ⟨rfl,hl,rfl,n,qHx s,hj⟩;obtain⟨hp1,hp2⟩:=hR n (qHx s) hj;rw[hp1,hp2] at e3;obtain⟨y,e,hD,e4⟩:=jLy (g:=g4) (b:=qHx s) (by have:=qTr hs.1;omega);rw[zDg hs.1 hs.2] at hD;obtain⟨hy,rfl⟩:=Prod.mk.inj hD;rw[hy] at e4;have e5 := @zR2 g5 s;have hK : ∀ m t,Sa.B t→jOk d.k.ar m (qHx t)→(⟨⟨d.k.ar,0,0,0,false⟩,qCz s,true,n+1⟩:Dv)=⟨⟨d.k.ar,0,0,0,false⟩,qCz t,true,m+1⟩:=by
  intro m t ht hm;obtain⟨h1,h2⟩:=zKc hj hm;obtain rfl:=zDi hs ht h1;rw[h2]
 have hn : -1000000≤n∧n≤1000000:=by have:=hj.1.1;omega
 clear hR hj;clear hp1 hp2 hy hD;generalize qHx s=b at *;generalize qCz s=z at *;obtain⟨⟨ar,wr,cut,tn,off⟩,s0,on,nx⟩:=d;simp only at ho hK;subst ho;simp only[dkA,dvA,saA,stA] at e1 e2 e3 e4 e5;simp(maxSteps:=9^9)(disch:=try exact dS)only[go_sem,qCl,dkA,dvA,saA,stA,h1,e1,h2,e2,h3,e3,h4,e4,h5,e5];repeat refine aiG ?_
 exact jVo ⟨⟨ar,0,0,0,false⟩,z,true,n+1⟩ 0 ⟨rfl,hK⟩ rfl rfl
def qU6 (d:Dv)(s:St):Dv:=if qHx s.a=qHx d.s.a then { d with s:=s } else ⟨{ d.k with wr:=d.k.wr+1,ar:=d.k.ar.set (d.nx%2).toNat (qJt d.nx (qHx s.a)) },s,d.on,d.nx+1⟩
def qPz:ECt where
 α:=Dv×St
 β:=Dv×Int
 aS:=fun (d,s)=>[.t (dvA d),.t (stA s)]
 pre:=fun (d,s)=>(okD d.k∧(1≤d.nx∧d.nx≤100000))∧Sa.B d.s.a∧Sa.B s.a
 r:=fun (r,e)=> .tup [.t (dvA r),.t (.int .i64 e)]
 R:=fun (d,s) (r,e)=>r=qU6 d s∧e=0
 inj:=by rintro⟨d,s⟩ ⟨d',s'⟩ e _;simp only[qBk,qM7,qVl] at e;obtain⟨rfl,rfl⟩:=e;rfl
theorem jP8 {g:EF qPz}{d:Dv}{s:St}(hp:(okD d.k∧(1≤d.nx∧d.nx≤100000))∧Sa.B d.s.a∧Sa.B s.a) : ∃ (r:Dv) (e:Int),(r=qU6 d s∧e=0)∧qPz.fs g [.t (dvA d),.t (stA s)] []=some (.tup [.t (dvA r),.t (.int .i64 e)],[]):=by
 obtain⟨y,h1,h2⟩:=qPz.eq g (d,s) hp;exact⟨y.1,y.2,h1,h2⟩
theorem jP7 {d:Dv}{s:St}(r:Dv)(e:Int)(hR:r=qU6 d s∧e=0)(hV:vv = .tup [.t (dvA r),.t (.int .i64 e)])(hO:oo=[]):qPz.K (d,s) vv oo:=⟨(r,e),hR,hV,hO⟩
theorem qY7 {g1}(h1:LkE tab 64 qL4 g1){g2}(h2:LkE tab 62 qJc g2)(d:Dv)(s:St)(hp:(okD d.k∧(1≤d.nx∧d.nx≤100000))∧Sa.B d.s.a∧Sa.B s.a) :
  qAs.1.wp tab gl (qE 0 [.t (dvA d),.t (stA s)]) (qE 0 []) (qV [(4,(some (37,true))),(5,none)] 0 (qPz.K (d,s))):=by
 obtain⟨⟨hk,hx⟩,hd,hs⟩:=hp;obtain⟨p,hp,e1⟩:=zVs (g:=g1) (s:=s.a) hs.1;obtain⟨q,hq,e2⟩:=zVs (g:=g1) (s:=d.s.a) hd.1;obtain⟨k,e,⟨hk',rfl⟩,e3⟩:=jDz (g:=g2) (k:=d.k) (b:=0) (n:=d.nx) (p:=p) ⟨hk,rfl,⟨oM,by rw[hp];have:=qTr hs.1;omega⟩⟩;have hl:p.length≤60000:=by rw[hp];have:=qTr hs.1;omega
 have hl2:q.length≤60000:=by rw[hq];have:=qTr hd.1;omega
 have tp:List.take p.length p=p:=take_length;have tq:List.take q.length q=q:=take_length;by_cases c:p=q
 ·have hK:qU6 d s = { d with s:=s }:=by rw[qU6,←hp,←hq,if_pos c]
  clear hk' hp hq;subst c;obtain⟨⟨ar,wr,cut,tn,off⟩,s0,on,nx⟩:=d;simp only[dkA,dvA,saA,stA] at e1 e2 e3;simp(maxSteps:=9^9)(disch:=try exact dS)only[go_sem,qAs,dkA,dvA,saA,stA,h1,e1,e2,tp];repeat refine aiG ?_
  exact jP7 ⟨⟨ar,wr,cut,tn,off⟩,s,on,nx⟩ 0 ⟨hK.symm,rfl⟩ rfl rfl
 ·have hK:qU6 d s=⟨k,s,d.on,d.nx+1⟩:=by rw[qU6,←hp,←hq,if_neg c,hk']
  clear hk' hp hq;obtain⟨⟨ar,wr,cut,tn,off⟩,s0,on,nx⟩:=d;simp only at hx;simp only[dkA,dvA,saA,stA] at e1 e2 e3;simp(maxSteps:=9^9)(disch:=try exact dS)only[go_sem,qAs,dkA,dvA,saA,stA,h1,e1,e2,tp,tq,c,h2,e3];repeat refine aiG ?_
  exact jP7 ⟨k,s,on,nx+1⟩ 0 ⟨hK.symm,rfl⟩ rfl rfl
structure SnP (s:St) (lo:Int) (c:Cm):Prop where
 ex:ExP s lo c
 w:(qC c).W
 r:(vN s c).2.W
 b:Sa.B (vN s c).1.a
def DvP (d:Dv):Prop:=(d.on=true∧okD d.k∧(1≤d.nx∧d.nx≤100000))∧Sa.B d.s.a
def qP1:ECt where
 α:=Dv×Int×List UInt8
 β:=Dv×List UInt8×Int
 aS:=fun (d,lo,b)=>[.t (dvA d),.t (.int .i64 lo),.t (.sl (b.map qA))]
 pre:=fun (d,lo,b)=>DvP d ∧ ∃ c,SnP d.s lo c∧b=rqB (qC c)
 r:=fun (r,o,e)=> .tup [.t (dvA r),.t (.sl (o.map qA)),.t (.int .i64 e)]
 R:=fun (d,lo,b) (r,o,e)=>e=0 ∧ ∀ c,SnP d.s lo c→b=rqB (qC c)→r=qU6 d (vN d.s c).1∧o=rsB (vN d.s c).2
 inj:=by rintro⟨d,lo,b⟩ ⟨d',lo',b'⟩ e _;simp only[qBk,qM7,qVl] at e;obtain⟨rfl,rfl,rfl⟩:=e;rfl
theorem jQo {g:EF qP1}{d:Dv}{lo:Int}{b:List UInt8}(hp:DvP d ∧ ∃ c,SnP d.s lo c∧b=rqB (qC c)) : ∃ (r:Dv) (o:List UInt8) (e:Int),(e=0 ∧ ∀ c,SnP d.s lo c→b=rqB (qC c)→r=qU6 d (vN d.s c).1∧o=rsB (vN d.s c).2)∧qP1.fs g [.t (dvA d),.t (.int .i64 lo),.t (.sl (b.map qA))] []=some (.tup [.t (dvA r),.t (.sl (o.map qA)),.t (.int .i64 e)],[]):=by
 obtain⟨y,h1,h2⟩:=qP1.eq g (d,lo,b) hp;exact⟨y.1,y.2.1,y.2.2,h1,h2⟩
theorem jVp {d:Dv}{lo:Int}{b:List UInt8}(r:Dv)(o:List UInt8)(e:Int)(hR:e=0 ∧ ∀ c,SnP d.s lo c→b=rqB (qC c)→r=qU6 d (vN d.s c).1∧o=rsB (vN d.s c).2)(hV:vv = .tup [.t (dvA r),.t (.sl (o.map qA)),.t (.int .i64 e)])(hO:oo=[]):qP1.K (d,lo,b) vv oo:=⟨(r,o,e),hR,hV,hO⟩
theorem zEm {g1}(h1:LkE tab 73 qMa g1){g2}(h2:LkE tab 65 qHk g2){g3}(h3:LkE tab 74 qPf g3){g4}(h4:LkE tab 75 qPz g4)(d:Dv)(lo:Int)(b:List UInt8)(hp:DvP d ∧ ∃ c,SnP d.s lo c∧b=rqB (qC c)) :
  qGp.1.wp tab gl (qE 0 [.t (dvA d),.t (.int .i64 lo),.t (.sl (b.map qA))]) (qE 0 []) (qV [(6,(some (37,true))),(7,none),(8,none)] 0 (qP1.K (d,lo,b))):=by
 obtain⟨⟨⟨hon,hk,hx⟩,ha⟩,c,hc,rfl⟩:=hp;have e1 := @jE7 g1 d;rw[hon,hk.1] at e1;obtain⟨t,o,hR,e3⟩:=jNl (g:=g3) (s:=d.s) (lo:=lo) (b:=rqB (qC c)) ⟨c,hc.ex,hc.w,rfl,hc.r⟩;obtain⟨rfl,rfl⟩:=hR c hc.ex.cm hc.w rfl;obtain⟨r,e,⟨rfl,rfl⟩,e4⟩:=jP8 (g:=g4) (d:=d) (s:=(vN d.s c).1) ⟨⟨hk,hx⟩,ha,hc.b⟩;have hK : ∀ c',SnP d.s lo c'→rqB (qC c)=rqB (qC c')→qU6 d (vN d.s c).1=qU6 d (vN d.s c').1∧rsB (vN d.s c).2=rsB (vN d.s c').2:=by
  intro c' h' e;obtain⟨h1,h2⟩:=hR c' h'.ex.cm h'.w e;rw[h1,h2];exact⟨rfl,rfl⟩
 clear hR hc;generalize qU6 d (vN d.s c).1=y at *;generalize (vN d.s c).1=t at *;generalize rsB (vN d.s c).2=o at *;generalize rqB (qC c)=b at *;obtain⟨⟨ar,wr,cut,tn,off⟩,s0,on,nx⟩:=d;simp only at hon hk hx;simp only[dkA,dvA,saA,stA,Bool.not_false,Bool.and_true] at e1 e3 e4;simp(maxSteps:=9^9)(disch:=try exact dS)only[go_sem,qGp,dkA,dvA,saA,stA,h1,e1,h3,e3,h4,e4];repeat refine aiG ?_
 exact jVp y o 0 ⟨rfl,hK⟩ rfl rfl
def qMi:ECt where
 α:=Int
 β:=Rq
 aS:=fun m=>[.t (.int .i64 m)]
 pre:=fun m=>True
 r:=fun r'=> .t (rqA r')
 R:=fun m r'=>r'=⟨1,[],[],[m],[]⟩
theorem jRm {g:EF qMi}{m:Int}:qMi.fs g [.t (.int .i64 m)] []=some (.t (rqA (⟨1,[],[],[m],[]⟩)),[]):=fnQ qMi m trivial
theorem jWi {m:Int}(hV:vv = .t (rqA (⟨1,[],[],[m],[]⟩)))(hO:oo=[]):qMi.K m vv oo:=⟨_,rfl,hV,hO⟩
theorem zEz  (m:Int) :
  qHa.1.wp tab gl (qE 0 [.t (.int .i64 m)]) (qE 0 []) (qV [(2,(some (5,true)))] 0 (qMi.K m)):=by
 simp(disch:=omega)only[go_sem,qHa];repeat refine aiG ?_
 exact jWi rfl rfl
def qP5:ECt where
 α:=Rq×List UInt8
 β:=Rq
 aS:=fun (q,v)=>[.t (rqA q),.t (.sl (v.map qA))]
 pre:=fun (q,v)=>True
 r:=fun r'=> .t (rqA r')
 R:=fun (q,v) r'=>r' = { q with au:=[⟨0,[],v⟩] }
theorem jRn {g:EF qP5}{q:Rq}{v:List UInt8}:qP5.fs g [.t (rqA q),.t (.sl (v.map qA))] []=some (.t (rqA ({ q with au:=[⟨0,[],v⟩] })),[]):=fnQ qP5 (q,v) trivial
theorem jWj {q:Rq}{v:List UInt8}(hV:vv = .t (rqA ({ q with au:=[⟨0,[],v⟩] })))(hO:oo=[]):qP5.K (q,v) vv oo:=⟨_,rfl,hV,hO⟩
theorem zQv  (q:Rq)(v:List UInt8) :
  qOe.1.wp tab gl (qE 0 [.t (rqA q),.t (.sl (v.map qA))]) (qE 0 []) (qV [(4,(some (5,true)))] 0 (qP5.K (q,v))):=by
 simp(disch:=omega)only[go_sem,qOe,rqA];repeat refine aiG ?_
 exact jWj rfl rfl
def zGi:Ct where
 α:=Rq×Int
 aS x:=[.t (rqA x.1),.t (.int .i64 x.2)]
 ins _:=[]
 pre _:=True
 r x:= .agg [.t (.int .i64 x.1.co),.t (.sl (x.1.hs.map iT)),.sl 0 0 1,.t (.sl (x.1.ns.map iT)),.t (.sl (x.1.bl.map bsT))]
 outs x:=[.live 3 [.agg [.t (.int .i64 x.2),.nil,.nil]] true true]
 inj:=by
  rintro⟨a,b⟩ ⟨c,d⟩ h _;simp only[List.cons.injEq,V.t.injEq,T.int.injEq,jIl,true_and,and_true] at h;obtain⟨rfl,rfl⟩:=h;exact⟨rfl,rfl⟩
theorem jLe {co:Int}{hs:List Int}{au:List Az}{ns:List Int}{bl:List (List UInt8)}{s:Int}:zGi.fs [.t (rqA ⟨co,hs,au,ns,bl⟩),.t (.int .i64 s)] []=some (.agg [.t (.int .i64 co),.t (.sl (hs.map iT)),.sl 0 0 1,.t (.sl (ns.map iT)),.t (.sl (bl.map bsT))],[.live 3 [.agg [.t (.int .i64 s),.nil,.nil]] true true]):=zGi.eq (⟨co,hs,au,ns,bl⟩,s) trivial
theorem jCe (q:Rq)(s:Int):qXa.1.wp tab gl (qE 0 [.t (rqA q),.t (.int .i64 s)]) (qE 0 []) (kG [] [(4,some (5,true))] 0 (fun r o=>r = .agg [.t (.int .i64 q.co),.t (.sl (q.hs.map iT)),.sl 0 0 1,.t (.sl (q.ns.map iT)),.t (.sl (q.bl.map bsT))]∧o=[.live 3 [.agg [.t (.int .i64 s),.nil,.nil]] true true])):=by
 simp(disch:=omega)only[go_sem,qXa,rqA];all_goals first | rfl | exact⟨rfl,rfl⟩
def qHo:ECt where
 α:=Int×Int×Int×Int×List UInt8×List UInt8×List UInt8
 β:=Rq
 aS:=fun (h,k,a,t,p,u,d)=>[.t (.int .i64 h),.t (.int .i64 k),.t (.int .i64 a),.t (.int .i64 t),.t (.sl (p.map qA)),.t (.sl (u.map qA)),.t (.sl (d.map qA))]
 pre:=fun (h,k,a,t,p,u,d)=>True
 r:=fun r'=> .t (rqA r')
 R:=fun (h,k,a,t,p,u,d) r'=>r'=⟨9,[h],[⟨0,[],[]⟩],[k,a,t],[p,u,d]⟩
theorem jFi {g:EF qHo}{h k a t:Int}{p u d:List UInt8}:qHo.fs g [.t (.int .i64 h),.t (.int .i64 k),.t (.int .i64 a),.t (.int .i64 t),.t (.sl (p.map qA)),.t (.sl (u.map qA)),.t (.sl (d.map qA))] []=some (.t (rqA (⟨9,[h],[⟨0,[],[]⟩],[k,a,t],[p,u,d]⟩)),[]):=fnQ qHo (h,k,a,t,p,u,d) trivial
theorem jWh {h k a t:Int}{p u d:List UInt8}(hV:vv = .t (rqA (⟨9,[h],[⟨0,[],[]⟩],[k,a,t],[p,u,d]⟩)))(hO:oo=[]):qHo.K (h,k,a,t,p,u,d) vv oo:=⟨_,rfl,hV,hO⟩
theorem zEy {g1}(h1:LkE tab 39 qP5 g1)(h k a t:Int)(p u d:List UInt8) :
  qG9.1.wp tab gl (qE 0 [.t (.int .i64 h),.t (.int .i64 k),.t (.int .i64 a),.t (.int .i64 t),.t (.sl (p.map qA)),.t (.sl (u.map qA)),.t (.sl (d.map qA))]) (qE 0 []) (qV [(14,(some (5,true)))] 0 (qHo.K (h,k,a,t,p,u,d))):=by
 have e:=jRn (g:=g1) (q:=⟨9,[h],[],[k,a,t],[p,u,d]⟩) (v:=[]);simp only[rqA,mcn,iT,qI] at e;simp(disch:=omega)only[go_sem,qG9,h1,e];repeat refine aiG ?_
 exact jWh rfl rfl
def qMe:ECt where
 α:=Int×List UInt8
 β:=Rq
 aS:=fun (i,d)=>[.t (.int .i64 i),.t (.sl (d.map qA))]
 pre:=fun (i,d)=>True
 r:=fun r'=> .t (rqA r')
 R:=fun (i,d) r'=>r'=⟨7,[],[],[i],[d]⟩
theorem jRk {g:EF qMe}{i:Int}{d:List UInt8}:qMe.fs g [.t (.int .i64 i),.t (.sl (d.map qA))] []=some (.t (rqA (⟨7,[],[],[i],[d]⟩)),[]):=fnQ qMe (i,d) trivial
theorem jV9 {i:Int}{d:List UInt8}(hV:vv = .t (rqA (⟨7,[],[],[i],[d]⟩)))(hO:oo=[]):qMe.K (i,d) vv oo:=⟨_,rfl,hV,hO⟩
theorem zLf  (i:Int)(d:List UInt8) :
  qK5.1.wp tab gl (qE 0 [.t (.int .i64 i),.t (.sl (d.map qA))]) (qE 0 []) (qV [(4,(some (5,true)))] 0 (qMe.K (i,d))):=by
 simp(disch:=omega)only[go_sem,qK5];repeat refine aiG ?_
 exact jV9 rfl rfl
def qHn:ECt where
 α:=Int×Int×Sl2×Int×Int×List (List UInt8)
 β:=Rq
 aS:=fun (h,k,s,n,o,b)=>[.t (.int .i64 h),.t (.int .i64 k),.t (jJa s),.t (.int .i64 n),.t (.int .i64 o),.t (.sl (b.map bsT))]
 pre:=fun (h,k,s,n,o,b)=>True
 r:=fun r'=> .t (rqA r')
 R:=fun (h,k,s,n,o,b) r'=>r'=⟨17,[],[],[h,k,s.a,s.b,n,o],b⟩
 inj:=by rintro⟨h,k,s,n,o,b⟩ ⟨h',k',s',n',o',b'⟩ e _;simp only[qBk,qM7,yC5] at e;obtain⟨rfl,rfl,rfl,rfl,rfl,rfl⟩:=e;rfl
theorem jFh {g:EF qHn}{h k:Int}{s:Sl2}{n o:Int}{b:List (List UInt8)}:qHn.fs g [.t (.int .i64 h),.t (.int .i64 k),.t (jJa s),.t (.int .i64 n),.t (.int .i64 o),.t (.sl (b.map bsT))] []=some (.t (rqA (⟨17,[],[],[h,k,s.a,s.b,n,o],b⟩)),[]):=fnQ qHn (h,k,s,n,o,b) trivial
theorem jWg {h k:Int}{s:Sl2}{n o:Int}{b:List (List UInt8)}(hV:vv = .t (rqA (⟨17,[],[],[h,k,s.a,s.b,n,o],b⟩)))(hO:oo=[]):qHn.K (h,k,s,n,o,b) vv oo:=⟨_,rfl,hV,hO⟩
theorem zH9  (h k:Int)(s:Sl2)(n o:Int)(b:List (List UInt8)) :
  qIz.1.wp tab gl (qE 0 [.t (.int .i64 h),.t (.int .i64 k),.t (jJa s),.t (.int .i64 n),.t (.int .i64 o),.t (.sl (b.map bsT))]) (qE 0 []) (qV [(12,(some (5,true)))] 0 (qHn.K (h,k,s,n,o,b))):=by
 simp(disch:=omega)only[go_sem,qIz,jJa];repeat refine aiG ?_
 exact jWg rfl rfl
def qHm:ECt where
 α:=Int
 β:=Rq
 aS:=fun k=>[.t (.int .i64 k)]
 pre:=fun k=>True
 r:=fun r'=> .t (rqA r')
 R:=fun k r'=>r'=⟨16,[],[],[k],[]⟩
theorem jFg {g:EF qHm}{k:Int}:qHm.fs g [.t (.int .i64 k)] []=some (.t (rqA (⟨16,[],[],[k],[]⟩)),[]):=fnQ qHm k trivial
theorem jWf {k:Int}(hV:vv = .t (rqA (⟨16,[],[],[k],[]⟩)))(hO:oo=[]):qHm.K k vv oo:=⟨_,rfl,hV,hO⟩
theorem zQu  (k:Int) :
  qOd.1.wp tab gl (qE 0 [.t (.int .i64 k)]) (qE 0 []) (qV [(2,(some (5,true)))] 0 (qHm.K k)):=by
 simp(disch:=omega)only[go_sem,qOd];repeat refine aiG ?_
 exact jWf rfl rfl
def qHl:ECt where
 α:=Int×Int×List (List UInt8)
 β:=Rq
 aS:=fun (c,h,b)=>[.t (.int .i64 c),.t (.int .i64 h),.t (.sl (b.map bsT))]
 pre:=fun (c,h,b)=>True
 r:=fun r'=> .t (rqA r')
 R:=fun (c,h,b) r'=>r'=⟨c,[h],[],[],b⟩
theorem jFf {g:EF qHl}{c h:Int}{b:List (List UInt8)}:qHl.fs g [.t (.int .i64 c),.t (.int .i64 h),.t (.sl (b.map bsT))] []=some (.t (rqA (⟨c,[h],[],[],b⟩)),[]):=fnQ qHl (c,h,b) trivial
theorem jWe {c h:Int}{b:List (List UInt8)}(hV:vv = .t (rqA (⟨c,[h],[],[],b⟩)))(hO:oo=[]):qHl.K (c,h,b) vv oo:=⟨_,rfl,hV,hO⟩
theorem jB9  (c h:Int)(b:List (List UInt8)) :
  qXb.1.wp tab gl (qE 0 [.t (.int .i64 c),.t (.int .i64 h),.t (.sl (b.map bsT))]) (qE 0 []) (qV [(6,(some (5,true)))] 0 (qHl.K (c,h,b))):=by
 simp(disch:=omega)only[go_sem,qXb];repeat refine aiG ?_
 exact jWe rfl rfl
def qAm:ECt where
 α:=Dv×Int×Rq
 β:=Dv×Rs×Bool
 aS:=fun (d,lo,q)=>[.t (dvA d),.t (.int .i64 lo),.t (rqA q)]
 pre:=fun (d,lo,q)=>DvP d ∧ ∃ c,SnP d.s lo c∧q=qC c
 r:=fun (r,x,ok)=> .tup [.t (dvA r),.t (rsA x),.t (.bool ok)]
 R:=fun (d,lo,q) (r,x,ok)=>ok=true ∧ ∀ c,SnP d.s lo c→q=qC c→r=qU6 d (vN d.s c).1∧x=(vN d.s c).2
 inj:=by rintro⟨d,lo,q⟩ ⟨d',lo',q'⟩ e _;simp only[qBk,qM7,qVl] at e;obtain⟨rfl,rfl,rfl⟩:=e;rfl
theorem jFb {g:EF qAm}{d:Dv}{lo:Int}{q:Rq}(hp:DvP d ∧ ∃ c,SnP d.s lo c∧q=qC c) : ∃ (r:Dv) (x:Rs) (ok:Bool),(ok=true ∧ ∀ c,SnP d.s lo c→q=qC c→r=qU6 d (vN d.s c).1∧x=(vN d.s c).2)∧qAm.fs g [.t (dvA d),.t (.int .i64 lo),.t (rqA q)] []=some (.tup [.t (dvA r),.t (rsA x),.t (.bool ok)],[]):=by
 obtain⟨y,h1,h2⟩:=qAm.eq g (d,lo,q) hp;exact⟨y.1,y.2.1,y.2.2,h1,h2⟩
theorem jV6 {d:Dv}{lo:Int}{q:Rq}(r:Dv)(x:Rs)(ok:Bool)(hR:ok=true ∧ ∀ c,SnP d.s lo c→q=qC c→r=qU6 d (vN d.s c).1∧x=(vN d.s c).2)(hV:vv = .tup [.t (dvA r),.t (rsA x),.t (.bool ok)])(hO:oo=[]):qAm.K (d,lo,q) vv oo:=⟨(r,x,ok),hR,hV,hO⟩
theorem zWf {g1}(h1:LkE tab 42 qPw g1){g2}(h2:LkE tab 43 qP1 g2){g3}(h3:LkE tab 44 qL5 g3)(d:Dv)(lo:Int)(q:Rq)(hp:DvP d ∧ ∃ c,SnP d.s lo c∧q=qC c) :
  qTe.1.wp tab gl (qE 0 [.t (dvA d),.t (.int .i64 lo),.t (rqA q)]) (qE 0 []) (qV [(6,(some (37,true))),(7,(some (4,true))),(8,none)] 0 (qAm.K (d,lo,q))):=by
 obtain⟨hd,c,hc,rfl⟩:=hp;obtain⟨b,e,⟨rfl,rfl⟩,e1⟩:=jPs (g:=g1) hc.w;obtain⟨r,o,e,⟨rfl,hR⟩,e2⟩:=jQo (g:=g2) (d:=d) (lo:=lo) (b:=rqB (qC c)) ⟨hd,c,hc,rfl⟩;obtain⟨x,e,⟨hx,rfl⟩,e3⟩:=jPr (g:=g3) (b:=o) ⟨_,hc.r,(hR c hc rfl).2⟩;have hK : ∀ c',SnP d.s lo c'→qC c=qC c'→r=qU6 d (vN d.s c').1∧x=(vN d.s c').2:=by
  intro c' h' e;obtain⟨k1,k2⟩:=hR c' h' (by rw[e]);exact⟨k1,by rw[hx,k2,jEi h'.r]⟩
 clear hR hx hc hd;generalize rqB (qC c)=b at *;generalize qC c=q at *;simp only[dvA,rqA,rsA] at e1 e2 e3;simp(maxSteps:=9^9)(disch:=try exact dS)only[go_sem,qTe,dvA,rqA,rsA,h1,e1,h2,e2,h3,e3];repeat refine aiG ?_
 exact jV6 r x true ⟨rfl,hK⟩ rfl rfl
def wC:ECt where
 α:=Dv×Int×Rq×Int×Int
 β:=Dv×Rs×Bool
 aS:=fun (d,lo,q,i,b)=>[.t (dvA d),.t (.int .i64 lo),.t (rqA q),.t (.int .i64 i),.t (.int .i64 b)]
 pre:=fun (d,lo,q,i,b)=>DvP d ∧ ∃ c,SnP d.s lo c∧q=qC c
 r:=fun (r,x,ok)=> .tup [.t (dvA r),.t (rsA x),.t (.bool ok)]
 R:=fun (d,lo,q,i,b) (r,x,ok)=>(∀ c,SnP d.s lo c→q=qC c→r=qU6 d (vN d.s c).1∧x=(vN d.s c).2)∧ok=decide (x.e=0∧(x.ns.length:Int)=i∧(x.bl.length:Int)=b)
 inj:=by rintro⟨d,lo,q,i,b⟩ ⟨d',lo',q',i',b'⟩ e _;simp only[qBk,qM7,qVl] at e;obtain⟨rfl,rfl,rfl,rfl,rfl⟩:=e;rfl
theorem jFe {g:EF wC}{d:Dv}{lo:Int}{q:Rq}{i b:Int}(hp:DvP d ∧ ∃ c,SnP d.s lo c∧q=qC c) : ∃ (r:Dv) (x:Rs) (ok:Bool),((∀ c,SnP d.s lo c→q=qC c→r=qU6 d (vN d.s c).1∧x=(vN d.s c).2)∧ok=decide (x.e=0∧(x.ns.length:Int)=i∧(x.bl.length:Int)=b))∧wC.fs g [.t (dvA d),.t (.int .i64 lo),.t (rqA q),.t (.int .i64 i),.t (.int .i64 b)] []=some (.tup [.t (dvA r),.t (rsA x),.t (.bool ok)],[]):=by
 obtain⟨y,h1,h2⟩:=wC.eq g (d,lo,q,i,b) hp;exact⟨y.1,y.2.1,y.2.2,h1,h2⟩
theorem jWd {d:Dv}{lo:Int}{q:Rq}{i b:Int}(r:Dv)(x:Rs)(ok:Bool)(hR:(∀ c,SnP d.s lo c→q=qC c→r=qU6 d (vN d.s c).1∧x=(vN d.s c).2)∧ok=decide (x.e=0∧(x.ns.length:Int)=i∧(x.bl.length:Int)=b))(hV:vv = .tup [.t (dvA r),.t (rsA x),.t (.bool ok)])(hO:oo=[]):wC.K (d,lo,q,i,b) vv oo:=⟨(r,x,ok),hR,hV,hO⟩
theorem zQt {g1}(h1:LkE tab 19 qAm g1)(d:Dv)(lo:Int)(q:Rq)(i b:Int)(hp:DvP d ∧ ∃ c,SnP d.s lo c∧q=qC c) :
  qCy.1.wp tab gl (qE 0 [.t (dvA d),.t (.int .i64 lo),.t (rqA q),.t (.int .i64 i),.t (.int .i64 b)]) (qE 0 []) (qV [(10,(some (37,true))),(11,(some (4,true))),(12,none)] 0 (wC.K (d,lo,q,i,b))):=by
 obtain⟨r,x,ok,⟨rfl,hK⟩,e1⟩:=jFb (g:=g1) (d:=d) (lo:=lo) (q:=q) hp;have key : ∀ w,w=decide (x.e=0∧(x.ns.length:Int)=i∧(x.bl.length:Int)=b)→wC.K (d,lo,q,i,b) (.tup [.t (dvA r),.t (rsA x),.t (.bool w)]) []:=fun w h=>jWd r x w ⟨hK,h⟩ rfl rfl
 clear hK hp;simp only[dvA,rqA,rsA] at e1 key;by_cases c1:x.e=0
 rotate_left
 ·simp(maxSteps:=9^9)(disch:=try exact dS)only[go_sem,qCy,dvA,rqA,rsA,h1,e1,c1];repeat refine aiG ?_
  refine key _ ?_;simp[c1]
 by_cases c2:(x.ns.length:Int)=i
 rotate_left
 ·simp(maxSteps:=9^9)(disch:=try exact dS)only[go_sem,qCy,dvA,rqA,rsA,h1,e1,c1,c2];repeat refine aiG ?_
  rw[c1] at key;refine key _ ?_;simp[c2]
 by_cases c3:(x.bl.length:Int)=b
 ·simp(maxSteps:=9^9)(disch:=try exact dS)only[go_sem,qCy,dvA,rqA,rsA,h1,e1,c1,c2,c3];repeat refine aiG ?_
  rw[c1] at key;refine key _ ?_;simp[c2,c3]
 ·simp(maxSteps:=9^9)(disch:=try exact dS)only[go_sem,qCy,dvA,rqA,rsA,h1,e1,c1,c2,c3];repeat refine aiG ?_
  rw[c1] at key;refine key _ ?_;simp[c2,c3]
theorem Sa.Tp.ok {a:Sa}(h:a.Tp):a.Ok where
 sd:=⟨h.sd.1,fun x hx=>Nat.le_of_eq (h.sd.2 x hx)⟩
 au:=by
  rw[h.au];refine⟨rfl,fun x hx=>?_⟩;simp only[mem_cons,not_mem_nil,or_false] at hx;rcases hx with rfl | rfl | rfl | rfl<;>simp
 en:=h.en
 act:=by rw[h.act];decide
 res:=h.res.1
 rst:=by rw[h.rst];decide
 clk:=by rw[h.clk];decide
 bk:= .inl h.bk.1
 u:=by rw[h.bk.2];decide
 mc:=by have:=h.mc;omega
 ix:=by
  rcases h.ix with e | ⟨w,d,e,hd⟩
  ·rw[e];exact⟨sM,fun x hx=>by cases hx⟩
  ·rw[e];refine⟨sM,fun x hx=>?_⟩;obtain rfl:=mem_singleton.1 hx;unfold Ix.Ok cnI;simp only[length_nil,hd];omega
 lk:=by rw[h.lk];unfold Lk.Ok;decide
 ks:=by rw[h.ks];exact⟨sM,fun x hx=>by cases hx⟩
theorem Sa.Tp.B {a:Sa}(h:a.Tp):a.B:=⟨h.ok,by have:=h.res;omega,by rw[h.rst];decide,by rw[h.bk.2];decide⟩
theorem qM1 {n:Int}(h:0≤n∧n≤65535):tmI n:=by unfold tmI;omega
theorem Rs.W.mk1 {e:Int}{ns:List Int}{bl:List (List UInt8)}(he:0≤e∧e≤255)(hn:ns.length≤8 ∧ ∀ x∈ns,tmI x)(hb:bl.length≤8 ∧ ∀ x∈bl,x.length≤1024)(hz:e≠0→ns=[]∧bl=[]):(⟨e,ns,bl,[]⟩:Rs).W:=
 ⟨he,hn,hb,⟨sM,fun x hx=>by cases hx⟩,fun h=>⟨(hz h).1,(hz h).2,rfl⟩⟩
theorem zPy {e:Int}(he:0≤e∧e≤255):(⟨e,[],[],[]⟩:Rs).W:=Rs.W.mk1 he ⟨sM,fun x hx=>by cases hx⟩ ⟨sM,fun x hx=>by cases hx⟩ (fun _=>⟨rfl,rfl⟩)
theorem zKe {α:Type}{P:α→Prop}{a:α}(h:P a) : ∀ x∈[a],P x:=fun x hx=>by obtain rfl:=mem_singleton.1 hx;exact h
theorem zG8 {α:Type}{P:α→Prop} : ∀ x∈([]:List α),P x:=fun x hx=>by cases hx
theorem yB6 {α:Type}{P:α→Prop}{a b:α}(h:P a)(g:P b) : ∀ x∈[a,b],P x:=fun x hx=>by
 simp only[mem_cons,not_mem_nil,or_false] at hx;rcases hx with rfl | rfl
 ·exact h
 ·exact g
theorem jKf {α:Type}{P:α→Prop}{a b c:α}(h:P a)(g:P b)(k:P c) : ∀ x∈[a,b,c],P x:=fun x hx=>by
 simp only[mem_cons,not_mem_nil,or_false] at hx;rcases hx with rfl | rfl | rfl
 ·exact h
 ·exact g
 ·exact k
theorem zIg {x:List UInt8}:(wB x).length=2+x.length:=by unfold wB;rw[length_append,qU]
theorem yCi:(qC .up).W where
 co:=by show coK 1;unfold coK;omega
 hs:=⟨rfl,zG8⟩
 au:=⟨rfl,zG8⟩
 ns:=⟨rfl,zKe (qM1 oM)⟩
 bl:=⟨.inl rfl,zG8⟩
 le:=by rw[zD1];simp[qC,rqT,w8,qU]
theorem yCd {i:Int}{d:List UInt8}(hi:0≤i∧i≤15)(hd:d.length≤100):(qC (.ev i d)).W where
 co:=by show coK 7;unfold coK;omega
 hs:=⟨rfl,zG8⟩
 au:=⟨rfl,zG8⟩
 ns:=⟨rfl,zKe (qM1 oM)⟩
 bl:=⟨.inl rfl,zKe oM⟩
 le:=by rw[zD1];simp[qC,rqT,w8,qU,zIg];omega
theorem yCe {k:Int}(hk:2≤k∧k≤3):(qC (.op k)).W where
 co:=by show coK 16;unfold coK;omega
 hs:=⟨rfl,zG8⟩
 au:=⟨rfl,zG8⟩
 ns:=⟨rfl,zKe (qM1 oM)⟩
 bl:=⟨.inl rfl,zG8⟩
 le:=by rw[zD1];simp[qC,rqT,w8,qU]
theorem yCg {h:Int}{po au da:List UInt8}(hh:0≤h∧h≤2)(l1:po.length=32)(l2:au.length≤32)(l3:da.length≤60):(qC (.pr h po au da)).W where
 co:=by show coK 9;unfold coK;omega
 hs:=⟨rfl,zKe oM⟩
 au:=⟨rfl,zKe ⟨by decide,sM,sM⟩⟩
 ns:=⟨rfl,jKf (qM1 oM) (qM1 oM) (qM1 oM)⟩
 bl:=⟨.inl rfl,jKf oM oM oM⟩
 le:=by rw[zD1];simp[qC,rqT,wH,wA,w8,qU,zIg];omega
theorem yCh {h s:Int}{v:List UInt8}(hh:0≤h∧h≤65535)(hs:0≤s∧s≤65535)(l:v.length≤32):(qC (.un h s v)).W where
 co:=by show coK 13;unfold coK;omega
 hs:=⟨rfl,zKe hh⟩
 au:=⟨rfl,zKe ⟨hs,sM,by simp only;omega⟩⟩
 ns:=⟨rfl,zG8⟩
 bl:=⟨.inl rfl,zG8⟩
 le:=by rw[zD1];simp[qC,rqT,wH,wA,w8,qU,zIg];omega
def poW:Av→Prop
 | .reg s0 s1 d=>s0=0∧(0≤s1∧s1≤65535)∧d=[]
 | .loc n=>1≤n∧n≤31
 | .cmd n=>n=13
 | .idx _ o od _=>o=2∧od.length=8
 | .aut=>True
 | .alt bs=>(2≤bs.length∧bs.length≤3) ∧ ∀ b∈bs,b.length=32
 | .apr _ _=>False
theorem yCf {h:Int}{a:Av}(hh:0≤h∧h≤65535)(ha:poW a):(qC (.po h a)).W:=by
 have hb:(avB a).length≤3∧(∀ x∈avB a,x.length≤32):=by
  cases a<;>simp only[poW] at ha<;>simp only[avB]
  case reg=>obtain⟨-,-,rfl⟩:=ha;exact⟨sM,zKe sM⟩
  case idx=>exact⟨sM,zKe oM⟩
  case alt bs=>exact⟨oM,fun x hx=>Nat.le_of_eq (ha.2 x hx)⟩
  all_goals exact⟨sM,zG8⟩
 have hn:(avN h a).length=6 ∧ ∀ x∈avN h a,0≤x∧x≤65535:=by
  cases a<;>simp only[poW] at ha<;>refine⟨rfl,fun x hx=>?_⟩<;>simp only[avN,mem_cons,not_mem_nil,or_false] at hx;all_goals (rcases hx with rfl | rfl | rfl | rfl | rfl | rfl<;>omega)
 have hf:((avB a).flatMap wB).length≤34*3:=by
  generalize avB a=l at hb;have : ∀ l:List (List UInt8),(∀ x∈l,x.length≤32)→(l.flatMap wB).length≤34*l.length:=by
   intro l
   induction l with
   | nil=>intro _;simp
   | cons x r ih=>
    intro h;have h1:=h x sM;have h2:=ih (fun y hy=>h y (by simp[hy]));rw[flatMap_cons,length_append,zIg,length_cons];omega
  have:=this l hb.2;omega
 have h8:((avN h a).flatMap w8).length=48:=by
  have : ∀ l:List Int,(l.flatMap w8).length=8*l.length:=by
   intro l
   induction l with
   | nil=>rfl
   | cons x r ih=>rw[flatMap_cons,length_append,ih,length_cons,w8,qU];omega
  rw[this,hn.1]
 exact {
  co:=by show coK 17;unfold coK;omega
  hs:=⟨rfl,zG8⟩
  au:=⟨rfl,zG8⟩
  ns:=⟨by show (((avN h a).length:Nat):Int)=6;rw[hn.1];rfl,fun x hx=>qM1 (hn.2 x hx)⟩
  bl:=⟨.inr ⟨rfl,by show (avB a).length≤8;omega⟩,fun x hx=>by have:=hb.2 x hx;omega⟩
  le:=by
   rw[zD1];show (83::87::0::0::u8I 17::([].flatMap wH++([].flatMap wA++((avN h a).flatMap w8++(u8I (avB a).length::(avB a).flatMap wB))))).length≤2048;simp only[flatMap_nil,nil_append,length_cons,length_append,h8];omega }
theorem qXy {α:Type}{l:List α}{j:Nat}{x d:α}(h:l[j]?=some x):l.getD j d=x:=by rw[getD_eq_getElem?_getD,h];rfl
theorem qR0 {α:Type}{l:List α}{j:Nat}{x:α}(h:l[j]?=some x):j<l.length:=by
 rcases Nat.lt_or_ge j l.length with h1 | h1
 ·exact h1
 ·rw[getElem?_eq_none h1] at h;cases h
theorem zNq {α:Type}{l:List α}{j:Nat}{x:α}(h:l[j]?=some x):x∈l:=mem_of_getElem? h
theorem zVu {s:St}{j:Nat}{x:Ses}(hl:s.ses.length=3)(hg:s.ses[j]?=some x)(hx:x.kd≠0):qDa s (768+(j:Int))=((j:Int),x,true):=by
 have hj:=qR0 hg;have e:(768+(j:Int)-768)=(j:Int):=oM;have hp:jEy s (768+(j:Int))=j:=by
  unfold jEy;rw[if_neg oM,e,Int.toNat_natCast,qXy hg,if_neg hx]
 rw[qDa,hp,if_neg oM,e,Int.toNat_natCast,qXy hg]
theorem zUm {s:St}{j:Nat}{x:Ses}(hl:s.ses.length=3)(hg:s.ses[j]?=some x)(hx:x.kd=2∨x.kd=3):qF5 s (768+(j:Int))=((j:Int),x,true):=by
 rw[qF5,zVu hl hg oM];rcases hx with h | h<;>simp[h]
theorem jGp {s:St}{j:Nat}{o:Obj}(hl:s.obs.length=3)(hg:s.obs[j]?=some o)(ho:o.p.kd≠0):qBn s (512+(j:Int))=(o,0):=by
 have hj:=qR0 hg;have e:(512+(j:Int)-512)=(j:Int):=oM;rw[qBn,if_neg oM,e,Int.toNat_natCast,qXy hg,if_neg ho]
theorem qYv {α:Type}{P:α→Prop}{l:List α}{j:Nat}{x:α}(h : ∀ y∈l,P y)(hx:P x) : ∀ y∈l.set j x,P y:=fun y hy=>by
 rcases mem_or_eq_of_mem_set hy with h1 | rfl
 ·exact h y h1
 ·exact hx
theorem zSj {bk:List zB}(h:ShA 2 bk){m:Int}(hm:0≤m∧m≤65535):qTn bk 0 m=0:=by
 have h1:=h.on_t.2;have b0 : ¬ zFt 0:=by decide
 have b1 : ¬ zFt m:=by unfold zFt;omega
 rw[qTn,if_neg (by rintro (h | h);exact b0 h;exact b1 h),if_neg];rintro (⟨h,-⟩ | ⟨-,h⟩)
 ·exact h rfl
 ·rw[h1] at h;cases h
theorem jPm {s:St}(h:s.Tp)(hu:s.u≤999){i:Int}{d:List UInt8}(hi:0≤i∧i≤15)(hd:d.length≤100):SnP s 4 (.ev i d)∧(evS s i d).Tp:=by
 have u:=h.u;refine⟨⟨⟨⟨⟨h.bk,oM⟩,rfl,hi,hd⟩,.inl (.inr (.inl ⟨i,d,rfl⟩)),by decide,.inr h.on,.inl (.inr (.inl ⟨i,d,rfl⟩))⟩,yCd hi hd,?_,h.a.B⟩,?_⟩
 ·exact Rs.W.mk1 (by decide) ⟨sM,zG8⟩ ⟨sM,yB6 sM (by rw[qH];omega)⟩ (fun h=>absurd rfl h)
 ·exact⟨h.a,h.on,h.off,h.clk,h.rl,h.wl,h.bk.ext _ _,by show 0≤s.u+1∧s.u+1≤1000;omega,h.dr,h.ses,h.obs⟩
def opS (s:St)(j:Nat)(k:Int):St := { s with dr:=s.dr+1,ses:=s.ses.set j (nwS s k) }
theorem jPn {s:St}(h:s.Tp)(hdr:s.dr≤999){j:Nat}(hf:frS s.ses 0=j){k:Int}(hk:2≤k∧k≤3):SnP s 0 (.op k)∧vN s (.op k)=(opS s j k,⟨0,[768+(j:Int)],[qVc s 16],[]⟩)∧(opS s j k).Tp:=by
 have hd:=h.dr;have hn : ¬ frS s.ses 0 = -1:=by rw[hf];omega
 have hr := @zYp s.ses 0;have hl:=h.ses.1;have lr:(qVc s 16).length=16:=wG;have e:vN s (.op k)=(opS s j k,⟨0,[768+(j:Int)],[qVc s 16],[]⟩):=by
  simp only[vN,qWt,hn,if_false,hf,Int.toNat_natCast];rfl
 have hW:(vN s (.op k)).2.W:=by
  rw[e];exact Rs.W.mk1 (by decide) ⟨sM,zKe (qM1 oM)⟩ ⟨sM,zKe oM⟩ (fun h=>absurd rfl h)
 refine⟨⟨⟨⟨⟨⟨h.a.en,oM⟩,hl,hn⟩,hk⟩,.inl (.inr (.inr (.inl ⟨k,rfl⟩))),by decide,.inr h.on,.inl (.inr (.inr (.inl ⟨k,rfl⟩)))⟩,yCe hk,hW,by rw[e];exact h.a.B⟩,e,?_⟩;refine⟨h.a,h.on,h.off,h.clk,h.rl,h.wl,h.bk,h.u,by show 0≤s.dr+1∧s.dr+1≤1000;omega,⟨by simp[opS,hl],?_⟩,h.obs⟩;refine qYv h.ses.2 ⟨Nat.le_of_eq qAd,by show (qVc s 16).length≤16;omega,rfl,.inr ⟨qAd,by show k=2∨k=3;omega,by show (0:Int)≤31∧(31:Int)≤31;decide,.inl rfl⟩⟩
def poY (s:St)(x:Ses)(a:Av):Ses := { (qD8 s x a).1 with dg:=qNz x.dg (qD8 s x a).2.1 }
def poS (s:St)(j:Nat)(x:Ses)(a:Av):St := { s with ses:=s.ses.set j (poY s x a) }
theorem jDr {a:Av}(ha:poW a)(hx : ∀ n o od nm,a≠ .idx n o od nm):fmP a:=by
 cases a<;>simp only[poW] at ha<;>simp only[fmP,Av.Ok]
 case idx=>exact absurd rfl (hx _ _ _ _)
 case alt=>exact⟨oM,ha.2⟩
 all_goals first | exact ha | omega
theorem jFz {a b:Int}(ha:0≤a∧a≤31)(hb:0≤b∧b≤31):0≤zW0 a b∧zW0 a b≤31:=by
 have key : ∀ a b:Fin 32,0≤zW0 a.val b.val∧zW0 a.val b.val≤31:=by decide
 have:=key ⟨a.toNat,oM⟩ ⟨b.toNat,oM⟩;simp only at this;rw[show ((a.toNat:Nat):Int)=a by omega,show ((b.toNat:Nat):Int)=b by omega] at this;exact this
theorem jN8 {s:St}{x:Ses}(hx:x.Tp)(hk:x.kd=2∨x.kd=3){a:Av}(ha:poW a):(poY s x a).Tp∧(poY s x a).kd=x.kd:=by
 obtain⟨h1,h2,h3,h4⟩:=hx;obtain⟨h5,h6,h7,h8⟩:=h4.resolve_left oM;have e:(qNz x.dg (qD8 s x a).2.1).length=32:=qBe;cases a with
 | reg s0 s1 d=>
  unfold poY;simp only[qD8] at *;split
  ·exact⟨⟨Nat.le_of_eq e,h2,h3,.inr ⟨e,h6,h7,h8⟩⟩,rfl⟩
  ·exact⟨⟨Nat.le_of_eq e,h2,h3,.inr ⟨e,h6,h7,h8⟩⟩,rfl⟩
 | loc n=>exact⟨⟨Nat.le_of_eq e,h2,h3,.inr ⟨e,h6,jFz h7 (by simp only[poW] at ha;omega),h8⟩⟩,rfl⟩
 | cmd n=>exact⟨⟨Nat.le_of_eq e,h2,h3,.inr ⟨e,h6,h7,.inr ha⟩⟩,rfl⟩
 | _=>exact⟨⟨Nat.le_of_eq e,h2,h3,.inr ⟨e,h6,h7,h8⟩⟩,rfl⟩
theorem jPo {s:St}(h:s.Tp){j:Nat}{x:Ses}(hg:s.ses[j]?=some x)(hk:x.kd=2∨x.kd=3){a:Av}(ha:poW a)(hx : ∀ n o od nm,a≠ .idx n o od nm)(hu:x.up = -1∨x.up=s.u)(hc:x.cm=0∨x.cm=13) :
  SnP s 0 (.po (768+(j:Int)) a)∧vN s (.po (768+(j:Int)) a)=(if (qD8 s x a).2.2=0 then (poS s j x a,⟨0,[],[],[]⟩) else (s,⟨(qD8 s x a).2.2,[],[],[]⟩))∧(poS s j x a).Tp:=by
 have hl:=h.ses.1;have hj:=qR0 hg;have hp:=zUm hl hg hk;have hT:=h.ses.2 x (zNq hg);have h32:x.dg.length=32:=(hT.2.2.2.resolve_left oM).1;have hck:ckP s x a:=by
  refine⟨hk,?_⟩;cases a<;>simp only[poW] at ha
  case reg s0 s1 d=>
   obtain⟨rfl,hm,rfl⟩:=ha;exact⟨⟨s1,rfl,hm,zSj h.bk hm⟩,hu⟩
  case loc=>trivial
  case cmd n=>show x.cm=0∨x.cm=n;omega
  case aut=>trivial
  case alt bs=>show bs.length≤8;omega
  case idx=>exact absurd rfl (hx _ _ _ _)
 have e:vN s (.po (768+(j:Int)) a)=(if (qD8 s x a).2.2=0 then (poS s j x a,⟨0,[],[],[]⟩) else (s,⟨(qD8 s x a).2.2,[],[],[]⟩)):=by
  by_cases c:(qD8 s x a).2.2=0
  ·rw[if_pos c];simp only[vN,asR,asF,hp,c,if_true,exS,Int.toNat_natCast];rw[(jEw (s:=s) (x:=x) (.inl (jDr ha hx))).2];rfl
  ·rw[if_neg c];simp only[vN,asR,asF,hp,c,if_false]
 have hE:(qD8 s x a).2.2=0∨(qD8 s x a).2.2=16:=by
  cases a<;>simp only[qD8]
  case alt=>split;exact .inr rfl;exact .inl rfl
  case idx=>exact absurd rfl (hx _ _ _ _)
  all_goals first | exact .inl rfl | exact .inl trivial
 have hW:(vN s (.po (768+(j:Int)) a)).2.W∧(vN s (.po (768+(j:Int)) a)).1.a=s.a:=by
  rw[e];split
  ·exact⟨zPy (by decide),rfl⟩
  ·exact⟨zPy (by show 0≤(qD8 s x a).2.2∧(qD8 s x a).2.2≤255;omega),rfl⟩
 refine⟨⟨⟨⟨⟨⟨h.bk.rv,h.u.1⟩,hl⟩,qM1 oM,by rw[hp],jDr ha hx,by rw[hp];exact hck,by rw[hp];exact h32⟩,.inl (.inr (.inr (.inr (.inl ⟨_,a,rfl⟩)))),by decide,.inr h.on,.inl (.inr (.inr (.inr (.inl ⟨_,a,rfl⟩))))⟩,yCf oM ha,hW.1,by rw[hW.2];exact h.a.B⟩,e,?_⟩;exact⟨h.a,h.on,h.off,h.clk,h.rl,h.wl,h.bk,h.u,h.dr,⟨by simp[poS,hl],qYv h.ses.2 (jN8 hT hk ha).1⟩,h.obs⟩
def prS (s:St)(j:Nat)(h:Int)(po au da:List UInt8):St := { s with obs:=s.obs.set j (qMw s h po au da) }
theorem zZ9 {s:St}{h:Int}{po au da:List UInt8}(l1:po.length=32)(l2:au.length≤32)(l3:da.length≤60):(qMw s h po au da).Se:=⟨.inr ⟨rfl,rfl,rfl,l1,qJy⟩,l2,by show da.length≤128;omega⟩
theorem jPp {s:St}(h:s.Tp){j:Nat}(hf:frO s.obs 0=j)(hj:j≤2){hh:Int}{po au da:List UInt8}(h2:0≤hh∧hh≤2)(l1:po.length=32)(l2:au.length≤32)(l3:da.length≤60) :
  SnP s 0 (.pr hh po au da)∧(∃ en nm,vN s (.pr hh po au da)=(prS s j hh po au da,⟨0,[512+(j:Int)],[en,nm],[]⟩))∧(prS s j hh po au da).Tp:=by
 have hl:=h.obs.1;have hn : ¬ frO s.obs 0 = -1:=by rw[hf];omega
 have lu:(zEg (qVb (qQq s hh po da)) da).length=32:=qJy;have e:vN s (.pr hh po au da)=(prS s j hh po au da,⟨0,[512+(j:Int)],[zW2 po (zEg (qVb (qQq s hh po da)) da),zNt po (zEg (qVb (qQq s hh po da)) da)],[]⟩):=by
  simp only[vN,qNj,qQn,hn,if_false,hf,Int.toNat_natCast];rfl
 have hW:(vN s (.pr hh po au da)).2.W:=by
  rw[e];exact Rs.W.mk1 (by decide) ⟨sM,zKe (qM1 oM)⟩ ⟨sM,yB6 (by rw[qXv ⟨l1,lu⟩];omega) (by rw[zKi];omega)⟩ (fun h=>absurd rfl h)
 have hv:vlP ⟨s,qC (.pr hh po au da),⟨0,[],[]⟩,hh⟩:=⟨h.en,h2,.inr (.inr ⟨po,au,da,rfl⟩),rfl⟩;refine⟨⟨⟨⟨⟨hl,hn⟩,h.a.sd,h2,l1,l2,l3⟩,.inr ⟨h.en,.inl ⟨hh,po,au,da,rfl,h2⟩⟩,by decide,.inr h.on,.inr ⟨rfl,.vl _ hh hv (by rw[h.a.lk];decide),.inl ⟨hh,po,au,da,rfl⟩⟩⟩,yCg h2 l1 l2 l3,hW,by rw[e];exact h.a.B⟩,⟨_,_,e⟩,?_⟩;exact⟨h.a,h.on,h.off,h.clk,h.rl,h.wl,h.bk,h.u,h.dr,h.ses,⟨by simp[prS,hl],qYv h.obs.2 (zZ9 l1 l2 l3)⟩⟩
def unE (x:Ses)(o:Obj):Int:=if x.kd=2 then (if x.dg=o.p.po then 0 else 11) else 8
theorem jJf {s:St}(h:s.Tp){i j:Nat}{x:Ses}{o:Obj}(hg:s.ses[j]?=some x)(hk:x.kd=2∨x.kd=3)(ho:s.obs[i]?=some o)(hi:i≤2)(h3:o.p.kd=3){v:List UInt8}(hv:v.length≤32)
  (hr:x.kd=2→x.lo%2=1∧(x.up = -1∨x.up=s.u)∧(x.av=true→v=o.s.au)) :
  SnP s 0 (.un (512+(i:Int)) (768+(j:Int)) v)∧vN s (.un (512+(i:Int)) (768+(j:Int)) v)=(if unE x o=0 then (zBw s (768+(j:Int)),⟨0,[],[o.s.da],[]⟩) else (s,⟨unE x o,[],[],[]⟩))∧(zBw s (768+(j:Int))).Tp:=by
 have hl:=h.ses.1;have hj:=qR0 hg;have hp:=zVu hl hg oM;have hb:=jGp h.obs.1 ho oM;have hT:=h.ses.2 x (zNq hg);have hO:=h.obs.2 o (zNq ho);obtain⟨h5,-,h7,h8⟩:=hT.2.2.2.resolve_left oM;have hE:ckE s (512+(i:Int)) (768+(j:Int))=unE x o:=by rw[ckE,hp,hb];rfl
 have hE':unE x o=0∨unE x o=8∨unE x o=11:=by
  unfold unE;split
  ·split
   ·exact .inl rfl
   ·exact .inr (.inr rfl)
  ·exact .inr (.inl rfl)
 have e:vN s (.un (512+(i:Int)) (768+(j:Int)) v)=(if unE x o=0 then (zBw s (768+(j:Int)),⟨0,[],[o.s.da],[]⟩) else (s,⟨unE x o,[],[],[]⟩)):=by
  simp only[vN,hE,hb]
 have hW:(vN s (.un (512+(i:Int)) (768+(j:Int)) v)).2.W∧(vN s (.un (512+(i:Int)) (768+(j:Int)) v)).1.a=s.a:=by
  rw[e];split
  ·exact⟨Rs.W.mk1 (by decide) ⟨sM,zG8⟩ ⟨sM,zKe (by have:=hO.2.2;omega)⟩ (fun h=>absurd rfl h),rfl⟩
  ·exact⟨zPy oM,rfl⟩
 have hck:CkP s (qC (.un (512+(i:Int)) (768+(j:Int)) v)):=by
  refine .un _ _ _ ⟨hl,qM1 oM,oM⟩ (by rw[hp]) (by rw[hp];exact hk) (fun h2=>?_);rw[hp] at h2 ⊢;obtain⟨r1,r2,r3⟩:=hr h2;exact⟨h.en,by show s.a.lk.fa=0∧1≤s.a.lk.mx;rw[h.a.lk];decide,⟨qM1 (by show 0≤512+(i:Int)∧512+(i:Int)≤65535;omega),by show (qBn s _).2=0;rw[hb]⟩,rfl,⟨rfl,r1⟩,hT.2.2.1,h8,r2,h.u.1,h5,fun hv=>by show v=(qBn s _).1.s.au;rw[hb];exact r3 hv⟩
 refine⟨⟨⟨⟨hck,fun h0=>?_,h.en,qM1 oM,by rw[hb]⟩,.inr ⟨h.en,.inr (.inl ⟨_,_,_,rfl,qM1 oM,by rw[hb]⟩)⟩,by decide,.inr h.on,.inr ⟨rfl,hck,.inr (.inl ⟨_,_,_,rfl,⟨hl,qM1 oM,oM⟩,by rw[hp]⟩)⟩⟩,yCh oM oM hv,hW.1,by rw[hW.2];exact h.a.B⟩,e,?_⟩
 ·rw[hE] at h0;rw[hp];show x.kd=2;unfold unE at h0;split at h0
  ·assumption
  ·cases h0
 ·refine⟨h.a,h.on,h.off,h.clk,h.rl,h.wl,h.bk,h.u,h.dr,⟨by simp[zBw,hl],qYv h.ses.2 ?_⟩,h.obs⟩;exact⟨by simp[qDk],by simp[qDk],rfl,.inl rfl⟩
theorem jJg {a:Sa}(h:a.Tp)(hr:a.res≤999):SnP (qCz a) 0 .up∧(qZ1 (qCz a)).Tp:=by
 have r0:=h.res;have hT:(qZ1 (qCz a)).a.Tp:=⟨h.sd,h.au,h.en,h.act,by show 0≤a.res+1∧a.res+1≤1000;omega,rfl,h.clk,⟨rfl,rfl⟩,h.mc,h.ix,h.lk,h.ks⟩;have hcn:(qCz a).cn 1000000:=by
  have:=h.rst;have:=h.bk.2;refine⟨?_,?_,?_,?_,?_,?_,?_⟩
  ·show a.res≤1000000;omega
  ·show a.rst≤1000000;omega
  ·show a.u≤1000000;omega
  ·show (0:Int)≤1000000;decide
  ·show (0:Int)≤1000000;decide
  ·show (0:Int)≤1000000;decide
  ·show (0:Int)≤1000000;decide
 refine⟨⟨⟨⟨h.ok,hcn,rfl,rfl⟩,.inl (.inl rfl),by decide,.inl rfl,.inl (.inl rfl)⟩,yCi,zPy (by decide),hT.B⟩,?_⟩;refine⟨hT,rfl,rfl,h.clk,rfl,rfl,?_,by show (0:Int)≤0∧(0:Int)≤1000;decide,by show (0:Int)≤0∧(0:Int)≤1000;decide,⟨rfl,?_⟩,⟨rfl,?_⟩⟩
 ·show ShA 2 (yV a.act);rw[h.act];exact ShA.new oM
 ·exact jKf ⟨by decide,by decide,rfl,.inl rfl⟩ ⟨by decide,by decide,rfl,.inl rfl⟩ ⟨by decide,by decide,rfl,.inl rfl⟩
 ·exact jKf ⟨.inl rfl,by decide,by decide⟩ ⟨.inl rfl,by decide,by decide⟩ ⟨.inl rfl,by decide,by decide⟩
end Go.Eng
end
