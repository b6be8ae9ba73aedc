/- A part of an abstract machine, its walks, their tie. -/
import Derived.Test.YteglhhgmfnbalaaGreatDoorK30
set_option linter.all false
section
set_option maxHeartbeats 64000000
set_option maxRecDepth 20000
namespace Go.Eng
open List
variable (tab:Tab)(gl:Gl)
variable {vv:V}{oo:List Ob}
theorem zLw {s:Rd}:∀{n:Nat},(zG3 s n).1.length=n
 |0=>rfl
 |n+1=>by simp[zG3,zLw (n:=n)]
theorem zL4 {s:Rd}:∀{n:Nat},(zPi s n).1.length=n
 |0=>rfl
 |n+1=>by simp[zPi,zL4 (n:=n)]
theorem zLy {s:Rd}:∀{n:Nat},(zPg s n).1.length=n
 |0=>rfl
 |n+1=>by simp[zPg,zLy (n:=n)]
theorem zL2 {s:Rd}{k:Nat}:0<=(qI s k).1/\((qI s k).2.2.2≠0->(qI s k).1=0):=by
 unfold qI;split
 .exact⟨Int.le_refl _,λ_=>rfl⟩
 .split
  .exact⟨Int.le_refl _,λ_=>rfl⟩
  .split
   .exact⟨Int.le_refl _,λ_=>rfl⟩
   .exact⟨Int.natCast_nonneg _,λh=>absurd rfl h⟩
theorem jDy {s:Rd}{m:Int}(hm:0<=m):0<=(qW7 s m).1/\(qW7 s m).1<=m:=by
 have h:=zL2 (s:=s) (k:=1);unfold qW7;split
 .exact⟨Int.le_refl _,hm⟩
 .rename_i hn;refine⟨h.1,?_⟩;by_cases e:(qI s 1).2.2.2=0
  .have:¬ m<(qI s 1).1:=λh=>hn ⟨e,h⟩
   omega
  .rw[h.2 e];exact hm
theorem yY (s:Rd):yS s=.live 3 [.t (.agg [.sl (s.1.map qA),.int .i64 (s.2.1:Int),.int .i64 s.2.2])] true true:=rfl
def Ix.M (x:Ix):Prop:=x.po.length<=100000/\x.au.length<=100000/\x.da.length<=100000
def Obj.M (x:Obj):Prop:=(x.p.po.length<=100000/\x.p.un.length<=100000)/\x.s.au.length<=100000/\x.s.sd.length<=100000/\x.s.da.length<=100000
def Ses.M (x:Ses):Prop:=x.no.length<=100000/\x.dg.length<=100000
structure Sa.M (s:Sa):Prop where
 sd:zYr s.sd
 au:zYr s.au
 en:s.en.length<1000000000
 bk:RM s.bk
 ix:s.ix.length<=1000000/\∀x∈s.ix,x.M
 ks:s.ks.length<=1000000/\∀x∈s.ks,x.un.length<=100000
structure St.M (s:St):Prop where
 a:s.a.M
 bk:RM s.bk
 rl:s.rl.length<=1000000
 wl:s.wl.length<=1000000
 ses:s.ses.length<=1000000/\∀x∈s.ses,x.M
 obs:s.obs.length<=1000000/\∀x∈s.obs,x.M
theorem ShA.shp {act:Int}{bk:List zD}(ha:1<=act/\act<=3)(h:ShA act bk):Shp act bk:=by
 obtain⟨b0,b1,rfl,h0,h1,z0,z1⟩:=h;have hn:vL act=[if act%2=1 then qB0 0 else [],if act/2%2=1 then qB0 1 else []]:=qEa oM;have k0:List.length b0=List.length (if act%2=1 then qB0 0 else []):=by
  rw[h0];split
  .exact qK.symm
  .rfl
 have k1:List.length b1=List.length (if act/2%2=1 then qB0 1 else []):=by
  rw[h1];split
  .exact qK.symm
  .rfl
 refine⟨by rw[hn];rfl,?_,?_⟩
 .funext a;rw[hn]
  match a with
  |0=>exact k0
  |1=>exact k1
  |n+2=>rfl
 .intro a ha' x hx;rcases(by omega:a=0\/a=1)with rfl|rfl
  .exact z0 x hx
  .exact z1 x hx
theorem BkS.shp {act:Int}{bk:List zD}(h:BkS act bk):∃s,Shp s bk:=by
 rcases h with rfl|⟨ha,h⟩
 .exact⟨0,rfl,rfl,RZ.nil⟩
 .exact⟨act,h.shp ha⟩
theorem jFu {act u:Int}{bk:List zD}(h:BkS act bk)(hu:0<=u/\u<9223372036854775808):dcT (qDn bk u)=(bk,u,0):=by
 obtain⟨s,hs⟩:=h.shp;have e:=(zK4 (qDn bk u)).1.symm.trans (jFt h.rv hs hu);unfold yR at e;injection e with e;injection e with e1 e2;injection e1 with e1;injection e1 with e1;injection e1 with e1 e3;injection e1 with e1;injection e3 with e3;injection e3 with _ e3;injection e2 with e2;injection e2 with e2;injection e2 with _ e2;generalize dcT (qDn bk u)=z at *;obtain⟨x,y,w⟩:=z;simp only at e1 e2 e3;rw[qBv (λ_ _=>qV0) e1,e2,e3]
theorem zBw {s:Sa}(h:s.Ok)(hr:s.res<9223372036854775808/\s.rst<9223372036854775808/\s.u<9223372036854775808):zW4 (qCs s)=(s,0):=by
 obtain⟨b,hb⟩:∃b,qCs s=b:=⟨_,rfl⟩;have h0:At b 0 b:=⟨[],rfl,rfl⟩;have hw:=jL3 s;rw[hb]at hw⊢;have lk:=h.lk;unfold Lk.Ok at lk;have x1:=h.act;have x2:=h.res;have x3:=h.rst;have x4:=h.clk;have x5:=h.u;have x6:=h.mc;have x7:=h.en;have le:=zHx (u:=s.u) h.bk.rv;have g0:At b 0 (bY 1::(bY s.act::(s.sd.flatMap wB++(s.au.flatMap wB++(wB s.en++(beI 8 s.res 8++(beI 8 s.rst 8++(beI 8 s.clk 8++(bO s.ord::(wB (qDn s.bk s.u)++(beI 8 s.mc 8++(bY s.ix.length::(s.ix.flatMap wX++(beI 8 s.lk.fa 8++(beI 8 s.lk.mx 8++(beI 8 s.lk.rc 8++(beI 8 s.lk.si 8++(beI 8 s.lk.cl 8++(beI 8 s.lk.pe 8++(bY s.ks.length::(s.ks.flatMap wL++[]))))))))))))))))))))):=by
  rw[append_nil];rw[show bY 1=1 from rfl,<-hw];exact h0
 obtain⟨a0,g1⟩:=g0.byte oM;obtain⟨a1,g2⟩:=g1.small (m:=3) oM oM;obtain⟨p2,a2,g3⟩:=g2.blobs h.sd.1 (λx hx=>by have:=h.sd.2 x hx;omega);obtain⟨p3,a3,g4⟩:=g3.blobs h.au.1 (λx hx=>by have:=h.au.2 x hx;omega);obtain⟨a4,g5⟩:=g4.wbl oM;obtain⟨a5,g6⟩:=g5.uint (.inl ⟨rfl,oM⟩);obtain⟨a6,g7⟩:=g6.uint (.inl ⟨rfl,oM⟩);obtain⟨a7,g8⟩:=g7.uint (.inl ⟨rfl,oM⟩);obtain⟨a8,g9⟩:=g8.flag;obtain⟨a9',g10⟩:=g9.wbl oM;generalize hp9:p3+2+s.en.length+8+8+8+1=p9 at *;have a9:jDz (b,p9,0)=((s.bk,s.u),(b,p9+2+(qDn s.bk s.u).length,0)):=by
  unfold jDz;rw[a9',if_neg sM,jFu h.bk ⟨x5,hr.2.2⟩]
 obtain⟨a10,g11⟩:=g10.uint (.inl ⟨rfl,oM⟩);obtain⟨a11,g12⟩:=g11.small (m:=6) (by have:=h.ix.1;omega) (by have:=h.ix.1;omega);obtain⟨p12,a12,g13⟩:=At.many (f:=zPf) (F:=zPi) (λ_=>rfl) (λ_ _=>rfl) (λx hx p r g=>At.ix (h.ix.2 x hx) g) g12;obtain⟨a13,g14⟩:=g13.uint (.inl ⟨rfl,oM⟩);obtain⟨a14,g15⟩:=g14.uint (.inl ⟨rfl,oM⟩);obtain⟨a15,g16⟩:=g15.uint (.inl ⟨rfl,oM⟩);obtain⟨a16,g17⟩:=g16.uint (.inl ⟨rfl,oM⟩);obtain⟨a17,g18⟩:=g17.uint (.inl ⟨rfl,oM⟩);obtain⟨a18,g19⟩:=g18.uint (.inl ⟨rfl,oM⟩);obtain⟨a19,g20⟩:=g19.small (m:=8) (by have:=h.ks.1;omega) (by have:=h.ks.1;omega);obtain⟨p20,a20,g21⟩:=At.many (f:=jJ5) (F:=zPg) (λ_=>rfl) (λ_ _=>rfl) (λx hx p r g=>At.lv (h.ks.2 x hx) g) g20;have hend:xM (b,p20,0)=0:=by
  obtain⟨t,ht,hb'⟩:=g21;rw[append_nil]at hb';subst hb';unfold xM;rw[if_neg (λg=>by have:=g.2;simp only at this;omega)]
 have hsa:zPh (b,1,0)=(s,(b,p20,0)):=by
  simp only[zPh,Nat.zero_add,a1,a2,a3,a4,a5,a6,a7,a8,a9,a10,a11,Int.toNat_natCast,a12,a13,a14,a15,a16,a17,a18,a19,a20,zQ5,hp9]
 unfold zW4;rw[a0];simp only[Nat.zero_add];rw[hsa];simp only[hend];simp
def qKx:ECt where
 α:=Dv
 β:=Bool
 aS:=λd=>[.t (dvA d)]
 pre:=λd=>True
 r:=λr'=>.t (.bool r')
 R:=λd r'=>r'=(d.on && !d.k.off)
 inj:=by rintro d d' e _;simp only[qBa,qL2,qT4]at e;obtain rfl:=e;rfl
theorem jEl {g:EF qKx}{d:Dv}:qKx.fs g [.t (dvA d)] []=some (.t (.bool ((d.on && !d.k.off))),[]):=fnQ qKx d trivial
theorem zF4 {d:Dv}(hV:vv=.t (.bool ((d.on && !d.k.off))))(hO:oo=[]):qKx.K d vv oo:=⟨_,rfl,hV,hO⟩
theorem qUh  (d:Dv) :
  xR.1.wp tab gl (qD 0 [.t (dvA d)]) (qD 0 []) (qZ [(2,none)] 0 (qKx.K d)):=by
 obtain⟨⟨ar,wr,cut,tn,off⟩,s,on,nx⟩:=d;cases on
 .simp(disch:=omega)only[go_sem,xR,dvA];.repeat first|exact(zF4 rfl rfl)|refine⟨rfl,?_⟩
 .simp(disch:=omega)only[go_sem,xR,dvA];.repeat first|exact(zF4 rfl rfl)|refine⟨rfl,?_⟩
def zPe (d:Dv):Dv:=⟨{ d.k with off:=true },default,false,d.nx⟩
def qG1:ECt where
 α:=Dv
 β:=Dv
 aS:=λd=>[.t (dvA d)]
 pre:=λd=>True
 r:=λr'=>.t (dvA r')
 R:=λd r'=>r'=zPe d
 inj:=by rintro d d' e _;simp only[qBa,qL2,qT4]at e;obtain rfl:=e;rfl
theorem zU6 {g:EF qG1}{d:Dv}:qG1.fs g [.t (dvA d)] []=some (.t (dvA (zPe d)),[]):=fnQ qG1 d trivial
theorem jXm {d:Dv}(hV:vv=.t (dvA (zPe d)))(hO:oo=[]):qG1.K d vv oo:=⟨_,rfl,hV,hO⟩
theorem zC4 {g1}(h1:LkE tab 71 qNm g1)(d:Dv) :
  qGa.1.wp tab gl (qD 0 [.t (dvA d)]) (qD 0 []) (qZ [(2,(some (37,true)))] 0 (qG1.K d)):=by
 have e1:=@jLm g1 d.k;simp only[dkA]at e1;simp(disch:=omega)only[go_sem,qGa,dvA,h1,e1];repeat refine aiG ?_
 exact jXm rfl rfl
def qKw:ECt where
 α:=Dv
 β:=Dv
 aS:=λd=>[.t (dvA d)]
 pre:=λd=>True
 r:=λr'=>.t (dvA r')
 R:=λd r'=>r'=zPe d
 inj:=by rintro d d' e _;simp only[qBa,qL2,qT4]at e;obtain rfl:=e;rfl
theorem jQ6 {g:EF qKw}{d:Dv}:qKw.fs g [.t (dvA d)] []=some (.t (dvA (zPe d)),[]):=fnQ qKw d trivial
theorem jXo {d:Dv}(hV:vv=.t (dvA (zPe d)))(hO:oo=[]):qKw.K d vv oo:=⟨_,rfl,hV,hO⟩
theorem qSy {g1}(h1:LkE tab 42 qG1 g1)(d:Dv) :
  qBe.1.wp tab gl (qD 0 [.t (dvA d)]) (qD 0 []) (qZ [(2,(some (37,true)))] 0 (qKw.K d)):=by
 have e1:=@zU6 g1 d;have hK:∀vv,vv=.t (dvA (zPe d))->qKw.K d vv []:=λvv h=>jXo h rfl
 generalize zPe d=y at *;simp only[dvA]at e1;simp(disch:=omega)only[go_sem,qBe,dvA,h1,e1];repeat refine aiG ?_
 exact hK _ rfl
def Sa.B (s:Sa):Prop:=s.Ok/\s.res<9223372036854775808/\s.rst<9223372036854775808/\s.u<9223372036854775808
theorem qQi {s t:Sa}(h:s.B)(g:t.B)(e:qCs s=qCs t):s=t:=by
 have h1:=zBw h.1 h.2;have h2:=zBw g.1 g.2;rw[e,h2]at h1;exact(Prod.mk.inj h1).1.symm
theorem qQx {s:Sa}{n:Int}(h:s.B)(hn:1<=n/\n<=1000000):jD0 n (qCs s):=⟨hn,by have:=qSa h.1;omega⟩
def qYx (en:List UInt8):Sa:=⟨[drv en [115,101,101,100] [0] 32,drv en [115,101,101,100] [1] 32,drv en [115,101,101,100] [2] 32],[[],[],[],[]],drv en [101,110,116,114,111,112,121] [] 32,2,0,0,0,true,[],0,0,[],⟨0,5,100,0,0,1000⟩,[]⟩
theorem zIg {en:List UInt8}:(qYx en).Ok where
 sd:=⟨rfl,by
  intro x hx;simp only[qYx,mem_cons,not_mem_nil,or_false]at hx;rcases hx with rfl|rfl|rfl<;>exact Nat.le_of_eq kH⟩
 au:=⟨rfl,by
  intro x hx;simp only[qYx,mem_cons,not_mem_nil,or_false]at hx;rcases hx with rfl|rfl|rfl|rfl<;>simp⟩
 en:=kH
 act:=(by decide:(0:Int)<=2/\(2:Int)<=3)
 res:=Int.le_refl 0
 rst:=Int.le_refl 0
 clk:=(by decide:(0:Int)<=0/\(0:Int)<=1099511627776)
 bk:= .inl rfl
 u:=Int.le_refl 0
 mc:=(by decide:(0:Int)<=0/\(0:Int)<=1099511627776)
 ix:=⟨Nat.zero_le 6,by intro x hx;cases hx⟩
 lk:=(by unfold Lk.Ok;decide:Lk.Ok ⟨0,5,100,0,0,1000⟩)
 ks:=⟨Nat.zero_le 8,by intro x hx;cases hx⟩
theorem jDq {en:List UInt8}:(qYx en).B:=⟨zIg,(by decide:(0:Int)<9223372036854775808),(by decide:(0:Int)<9223372036854775808),(by decide:(0:Int)<9223372036854775808)⟩
def nwV (en:List UInt8):Dv:=⟨⟨[[],qAe 1 (qCs (qYx en)),[],[]],1,0,0,true⟩,default,false,2⟩
def qKv:ECt where
 α:=Int×List UInt8×Int
 β:=Dv×Int
 aS:=λ(n,en,a)=>[.t (.int .i64 n),.t (.sl (en.map qA)),.t (.int .i64 a)]
 pre:=λ(n,en,a)=>n=4/\en.length=32/\a=2
 r:=λ(d,e)=>.tup [.t (dvA d),.t (.int .i64 e)]
 R:=λ(n,en,a)(d,e)=>d=nwV en/\e=0
theorem jQ5 {g:EF qKv}{n:Int}{en:List UInt8}{a:Int}(hp:n=4/\en.length=32/\a=2):∃(d:Dv)(e:Int),(d=nwV en/\e=0)/\qKv.fs g [.t (.int .i64 n),.t (.sl (en.map qA)),.t (.int .i64 a)] []=some (.tup [.t (dvA d),.t (.int .i64 e)],[]):=by
 obtain⟨y,h1,h2⟩:=qKv.eq g (n,en,a) hp;exact⟨y.1,y.2,h1,h2⟩
theorem jXn {n:Int}{en:List UInt8}{a:Int}(d:Dv)(e:Int)(hR:d=nwV en/\e=0)(hV:vv=.tup [.t (dvA d),.t (.int .i64 e)])(hO:oo=[]):qKv.K (n,en,a) vv oo:=⟨(d,e),hR,hV,hO⟩
theorem zC2 (h1:LkC tab 38 zBu){g2}(h2:LkE tab 40 qNj g2){g3}(h3:LkE tab 41 qKq g3){g4}(h4:LkE tab 39 qH6 g4){g5}(h5:LkE tab 42 qG1 g5)(n:Int)(en:List UInt8)(a:Int)(hp:n=4/\en.length=32/\a=2) :
  qF9.1.wp tab gl (qD 0 [.t (.int .i64 n),.t (.sl (en.map qA)),.t (.int .i64 a)]) (qD 0 []) (qZ [(6,(some (37,true))),(7,none)] 0 (qKv.K (n,en,a))):=by
 obtain⟨rfl,he,rfl⟩:=hp;have e1:=jI2 (en:=en) (act:=2) oM;have hG:zF0 en 2=⟨[drv en [115,101,101,100] [0] 32,drv en [115,101,101,100] [1] 32,drv en [115,101,101,100] [2] 32],[[],[],[],[]],drv en [101,110,116,114,111,112,121] [] 32,2,0,0,0,true,[],0,0,0,5,100,0,0,1000⟩:=by rw[zF0,if_neg oM]
 have hE:zIx en 2=0:=by rw[zIx,if_neg oM]
 have hS:jTc (zF0 en 2)=saA (qYx en):=by rw[hG];rfl
 rw[hS,hE]at e1;obtain⟨pb,hpb,e3⟩:=zUb (g:=g3) (s:=qYx en) zIg;have hl:pb.length<=60000:=by rw[hpb];have:=qSa (zIg (en:=en));omega
 have e2:=jLj (g:=g2) (n:=4) rfl;obtain⟨k,e,⟨hk,he0⟩,e4⟩:=jDe (g:=g4) (k:=⟨[[],[],[],[]],0,0,0,false⟩) (b:=0) (n:=1) (p:=pb) ⟨okD.x ⟨rfl,rfl,rfl,by decide⟩,rfl,⟨by decide,hl⟩⟩;obtain rfl:e=0:=he0;have e5:=@zU6 g5 ⟨k,default,false,2⟩;have hV:zPe ⟨k,default,false,2⟩=nwV en:=by rw[hk,hpb];rfl
 rw[hV]at e5;have tp:List.take pb.length pb=pb:=take_length;have hK:∀vv,vv=.tup [.t (dvA (nwV en)),.t (.int .i64 0)]->qKv.K (4,en,2) vv []:=λvv h=>jXn (nwV en) 0 ⟨rfl,rfl⟩ h rfl
 clear hk hpb hV hS hG hE;generalize nwV en=y at *;generalize qYx en=x at *;have d1:dvA ⟨k,default,false,2⟩=.agg [.sl (k.ar.map bsT),.int .i64 k.wr,.int .i64 k.cut,.int .i64 k.tn,.bool k.off,.sl [],.sl [],.sl [],.int .i64 0,.int .i64 0,.int .i64 0,.int .i64 0,.bool false,.sl [],.int .i64 0,.int .i64 0,.sl [],.int .i64 0,.int .i64 0,.int .i64 0,.int .i64 0,.int .i64 0,.int .i64 0,.sl [],.bool false,.bool false,.sl [],.int .i64 0,.int .i64 0,.bool false,.int .i64 0,.sl [],.sl [],.sl [],.sl [],.bool false,.int .i64 2]:=rfl;rw[d1]at e5;simp only[dkA,dvA,saA,mcn,qG]at e1 e2 e3 e4 e5;simp(maxSteps:=9^9)(disch:=try exact dS)only[go_sem,qF9,dkA,dvA,saA,mcn,qG,h1,e1,h2,e2,h3,e3,h4,e4,h5,e5,tp];repeat refine aiG ?_
 exact hK _ rfl
def qOw:ECt where
 α:=Dv
 β:=Dv×Int
 aS:=λd=>[.t (dvA d)]
 pre:=λd=>d.on=false/\d.k.ar.length=4/\∃n s,Sa.B s/\jOk d.k.ar n (qCs s)
 r:=λ(r,e)=>.tup [.t (dvA r),.t (.int .i64 e)]
 R:=λd (r,e)=>e=0/\∀n s,Sa.B s->jOk d.k.ar n (qCs s)->r=⟨⟨d.k.ar,0,0,0,false⟩,qA9 s,true,n+1⟩
 inj:=by rintro d d' e _;simp only[qBa,qL2,qT4]at e;obtain rfl:=e;rfl
theorem jQ7 {g:EF qOw}{d:Dv}(hp:d.on=false/\d.k.ar.length=4/\∃n s,Sa.B s/\jOk d.k.ar n (qCs s)):∃(r:Dv)(e:Int),(e=0/\∀n s,Sa.B s->jOk d.k.ar n (qCs s)->r=⟨⟨d.k.ar,0,0,0,false⟩,qA9 s,true,n+1⟩)/\qOw.fs g [.t (dvA d)] []=some (.tup [.t (dvA r),.t (.int .i64 e)],[]):=by
 obtain⟨y,h1,h2⟩:=qOw.eq g d hp;exact⟨y.1,y.2,h1,h2⟩
theorem jXp {d:Dv}(r:Dv)(e:Int)(hR:e=0/\∀n s,Sa.B s->jOk d.k.ar n (qCs s)->r=⟨⟨d.k.ar,0,0,0,false⟩,qA9 s,true,n+1⟩)(hV:vv=.tup [.t (dvA r),.t (.int .i64 e)])(hO:oo=[]):qOw.K d vv oo:=⟨(r,e),hR,hV,hO⟩
theorem qUg {g1}(h1:LkE tab 45 qKx g1){g2}(h2:LkE tab 50 qNl g2){g3}(h3:LkE tab 51 qKe g3){g4}(h4:LkE tab 52 qNn g4){g5}(h5:LkE tab 53 qNg g5)(d:Dv)(hp:d.on=false/\d.k.ar.length=4/\∃n s,Sa.B s/\jOk d.k.ar n (qCs s)) :
  qB5.1.wp tab gl (qD 0 [.t (dvA d)]) (qD 0 []) (qZ [(2,(some (37,true))),(3,none)] 0 (qOw.K d)):=by
 obtain⟨ho,hl,n,s,hs,hj⟩:=hp;have e1:=@jEl g1 d;rw[ho,Bool.false_and]at e1;have e2:=@jLl g2 d.k;obtain⟨hR,z0,z1⟩:=zR4 hj;obtain⟨p,m,e,hR2,e3⟩:=jM8 (g:=g3) (k:=⟨d.k.ar,0,0,0,false⟩) (b:=0) ⟨rfl,hl,rfl,z0,z1⟩;have hR2:=hR2.trans hR;simp only[Prod.mk.injEq]at hR2;obtain⟨hp1,hp2,rfl⟩:=hR2;rw[hp1,hp2]at e3;obtain⟨y,e,hD,e4⟩:=jLp (g:=g4) (b:=qCs s) (by have:=qSa hs.1;omega);rw[zBw hs.1 hs.2]at hD;obtain⟨hy,rfl⟩:=Prod.mk.inj hD;rw[hy]at e4;have e5:=@jKy g5 s;have hK:∀m t,Sa.B t->jOk d.k.ar m (qCs t)->(⟨⟨d.k.ar,0,0,0,false⟩,qA9 s,true,n+1⟩:Dv)=⟨⟨d.k.ar,0,0,0,false⟩,qA9 t,true,m+1⟩:=by
  intro m t ht hm;obtain⟨h1,h2⟩:=zR3 hj hm;obtain rfl:=qQi hs ht h1;rw[h2]
 have hn : -1000000<=n/\n<=1000000:=by have:=hj.1.1;omega
 clear hR hj;clear hp1 hp2 hy hD;generalize qCs s=b at *;generalize qA9 s=z at *;obtain⟨⟨ar,wr,cut,tn,off⟩,s0,on,nx⟩:=d;simp only at ho hK;subst ho;simp only[dkA,dvA,saA,stA]at e1 e2 e3 e4 e5;simp(maxSteps:=9^9)(disch:=try exact dS)only[go_sem,qB5,dkA,dvA,saA,stA,h1,e1,h2,e2,h3,e3,h4,e4,h5,e5];repeat refine aiG ?_
 exact jXp ⟨⟨ar,0,0,0,false⟩,z,true,n+1⟩ 0 ⟨rfl,hK⟩ rfl rfl
def qIz (d:Dv)(s:St):Dv:=if qCs s.a=qCs d.s.a then { d with s:=s } else if d.k.wr+1=d.k.cut then ⟨{ wrK d.k (d.nx%2) (qAe d.nx (qCs s.a))with off:=true },default,false,d.nx⟩ else ⟨{ d.k with wr:=d.k.wr+1,ar:=d.k.ar.set (d.nx%2).toNat (qAe d.nx (qCs s.a)) },s,d.on,d.nx+1⟩
def qMr (d:Dv)(s:St):Int:=if qCs s.a=qCs d.s.a then 0 else wrF d.k
theorem jR3 {k:Dk}{i:Int}{b:List UInt8}(ho:k.off=false)(h:¬ k.wr+1=k.cut):wrK k i b = { k with wr:=k.wr+1,ar:=k.ar.set i.toNat b }:=by
 unfold wrK wrB;rw[if_neg h,decide_eq_false h,<-ho]
def qKu:ECt where
 α:=Dv×St
 β:=Dv×Int
 aS:=λ(d,s)=>[.t (dvA d),.t (stA s)]
 pre:=λ(d,s)=>(okX d.k/\(1<=d.nx/\d.nx<=100000))/\Sa.B d.s.a/\Sa.B s.a
 r:=λ(r,e)=>.tup [.t (dvA r),.t (.int .i64 e)]
 R:=λ(d,s)(r,e)=>r=qIz d s/\e=qMr d s
 inj:=by rintro⟨d,s⟩ ⟨d',s'⟩ e _;simp only[qBa,qL2,qT4]at e;obtain⟨rfl,rfl⟩:=e;rfl
theorem jQs {g:EF qKu}{d:Dv}{s:St}(hp:(okX d.k/\(1<=d.nx/\d.nx<=100000))/\Sa.B d.s.a/\Sa.B s.a):∃(r:Dv)(e:Int),(r=qIz d s/\e=qMr d s)/\qKu.fs g [.t (dvA d),.t (stA s)] []=some (.tup [.t (dvA r),.t (.int .i64 e)],[]):=by
 obtain⟨y,h1,h2⟩:=qKu.eq g (d,s) hp;exact⟨y.1,y.2,h1,h2⟩
theorem jJe {d:Dv}{s:St}(r:Dv)(e:Int)(hR:r=qIz d s/\e=qMr d s)(hV:vv=.tup [.t (dvA r),.t (.int .i64 e)])(hO:oo=[]):qKu.K (d,s) vv oo:=⟨(r,e),hR,hV,hO⟩
theorem qXw {g1}(h1:LkE tab 41 qKq g1){g2}(h2:LkE tab 39 qH6 g2){g3}(h3:LkE tab 42 qG1 g3)(d:Dv)(s:St)(hp:(okX d.k/\(1<=d.nx/\d.nx<=100000))/\Sa.B d.s.a/\Sa.B s.a) :
  wZ.1.wp tab gl (qD 0 [.t (dvA d),.t (stA s)]) (qD 0 []) (qZ [(4,(some (37,true))),(5,none)] 0 (qKu.K (d,s))):=by
 obtain⟨⟨hk,hx⟩,hd,hs⟩:=hp;obtain⟨p,hp,e1⟩:=zUb (g:=g1) (s:=s.a) hs.1;obtain⟨q,hq,e2⟩:=zUb (g:=g1) (s:=d.s.a) hd.1;obtain⟨k,e,⟨hk',he'⟩,e3⟩:=jDe (g:=g2) (k:=d.k) (b:=0) (n:=d.nx) (p:=p) ⟨hk,rfl,⟨oM,by rw[hp];have:=qSa hs.1;omega⟩⟩;have hl:p.length<=60000:=by rw[hp];have:=qSa hs.1;omega
 have hl2:q.length<=60000:=by rw[hq];have:=qSa hd.1;omega
 have tp:List.take p.length p=p:=take_length;have tq:List.take q.length q=q:=take_length;by_cases c:p=q
 .have hK:qIz d s = { d with s:=s }:=by rw[qIz,<-hp,<-hq,if_pos c]
  have hE:qMr d s=0:=by rw[qMr,<-hp,<-hq,if_pos c]
  clear hk' he' hp hq;subst c;obtain⟨⟨ar,wr,cut,tn,off⟩,s0,on,nx⟩:=d;simp only[dkA,dvA,saA,stA]at e1 e2 e3;simp(maxSteps:=9^9)(disch:=try exact dS)only[go_sem,wZ,dkA,dvA,saA,stA,h1,e1,e2,tp];repeat refine aiG ?_
  exact jJe ⟨⟨ar,wr,cut,tn,off⟩,s,on,nx⟩ 0 ⟨hK.symm,hE.symm⟩ rfl rfl
 have hE:qMr d s=wrF d.k:=by rw[qMr,<-hp,<-hq,if_neg c]
 by_cases cc:d.k.wr+1=d.k.cut
 .have hF:wrF d.k=29:=if_pos cc;have hV:zPe ⟨k,d.s,d.on,d.nx⟩=qIz d s:=by rw[qIz,<-hp,<-hq,if_neg c,if_pos cc,hk'];rfl
  rw[hF]at he' hE;subst he';have e4:=@zU6 g3 ⟨k,d.s,d.on,d.nx⟩;rw[hV]at e4;have hK:∀vv,vv=.tup [.t (dvA (qIz d s)),.t (.int .i64 29)]->qKu.K (d,s) vv []:=λvv h=>jJe (qIz d s) 29 ⟨rfl,hE.symm⟩ h rfl
  clear hV hE hk' hp hq hF;generalize qIz d s=y at *;obtain⟨⟨ar,wr,cut,tn,off⟩,s0,on,nx⟩:=d;simp only at hx;simp only[dkA,dvA,saA,stA]at e1 e2 e3 e4;simp only[dvA]at hK;simp(maxSteps:=9^9)(disch:=try exact dS)only[go_sem,wZ,dkA,dvA,saA,stA,h1,e1,e2,tp,tq,c,h2,e3,h3,e4];repeat refine aiG ?_
  exact hK _ rfl
 .have hF:wrF d.k=0:=if_neg cc;have hK:qIz d s=⟨k,s,d.on,d.nx+1⟩:=by rw[qIz,<-hp,<-hq,if_neg c,if_neg cc,hk',jR3 hk.1.1 cc]
  rw[hF]at he' hE;subst he';clear hk' hp hq hF;obtain⟨⟨ar,wr,cut,tn,off⟩,s0,on,nx⟩:=d;simp only at hx;simp only[dkA,dvA,saA,stA]at e1 e2 e3;simp(maxSteps:=9^9)(disch:=try exact dS)only[go_sem,wZ,dkA,dvA,saA,stA,h1,e1,e2,tp,tq,c,h2,e3];repeat refine aiG ?_
  exact jJe ⟨k,s,on,nx+1⟩ 0 ⟨hK.symm,hE.symm⟩ rfl rfl
structure SnP (s:St)(lo:Int)(c:Cm):Prop where
 ex:ExP s lo c
 w:(qC c).W
 r:(jD s c).2.W
 b:Sa.B (jD s c).1.a
def DvP (d:Dv):Prop:=(d.on=true/\okX d.k/\(1<=d.nx/\d.nx<=100000))/\Sa.B d.s.a
def snO (d:Dv)(c:Cm):List UInt8:=if qMr d (jD d.s c).1=0 then rsB (jD d.s c).2 else []
def qOx:ECt where
 α:=Dv×Int×List UInt8
 β:=Dv×List UInt8×Int
 aS:=λ(d,lo,b)=>[.t (dvA d),.t (.int .i64 lo),.t (.sl (b.map qA))]
 pre:=λ(d,lo,b)=>DvP d/\∃c,SnP d.s lo c/\b=rqB (qC c)
 r:=λ(r,o,e)=>.tup [.t (dvA r),.t (.sl (o.map qA)),.t (.int .i64 e)]
 R:=λ(d,lo,b)(r,o,e)=>∀c,SnP d.s lo c->b=rqB (qC c)->r=qIz d (jD d.s c).1/\o=snO d c/\e=qMr d (jD d.s c).1
 inj:=by rintro⟨d,lo,b⟩ ⟨d',lo',b'⟩ e _;simp only[qBa,qL2,qT4]at e;obtain⟨rfl,rfl,rfl⟩:=e;rfl
theorem jQ9 {g:EF qOx}{d:Dv}{lo:Int}{b:List UInt8}(hp:DvP d/\∃c,SnP d.s lo c/\b=rqB (qC c)):∃(r:Dv)(o:List UInt8)(e:Int),(∀c,SnP d.s lo c->b=rqB (qC c)->r=qIz d (jD d.s c).1/\o=snO d c/\e=qMr d (jD d.s c).1)/\qOx.fs g [.t (dvA d),.t (.int .i64 lo),.t (.sl (b.map qA))] []=some (.tup [.t (dvA r),.t (.sl (o.map qA)),.t (.int .i64 e)],[]):=by
 obtain⟨y,h1,h2⟩:=qOx.eq g (d,lo,b) hp;exact⟨y.1,y.2.1,y.2.2,h1,h2⟩
theorem jQ8 {d:Dv}{lo:Int}{b:List UInt8}(r:Dv)(o:List UInt8)(e:Int)(hR:∀c,SnP d.s lo c->b=rqB (qC c)->r=qIz d (jD d.s c).1/\o=snO d c/\e=qMr d (jD d.s c).1)(hV:vv=.tup [.t (dvA r),.t (.sl (o.map qA)),.t (.int .i64 e)])(hO:oo=[]):qOx.K (d,lo,b) vv oo:=⟨(r,o,e),hR,hV,hO⟩
theorem zC3 {g1}(h1:LkE tab 45 qKx g1){g2}(h2:LkE tab 42 qG1 g2){g3}(h3:LkE tab 46 qOb g3){g4}(h4:LkE tab 47 qKu g4)(d:Dv)(lo:Int)(b:List UInt8)(hp:DvP d/\∃c,SnP d.s lo c/\b=rqB (qC c)) :
  qCo.1.wp tab gl (qD 0 [.t (dvA d),.t (.int .i64 lo),.t (.sl (b.map qA))]) (qD 0 []) (qZ [(6,(some (37,true))),(7,none),(8,none)] 0 (qOx.K (d,lo,b))):=by
 obtain⟨⟨⟨hon,hk,hx⟩,ha⟩,c,hc,rfl⟩:=hp;have e1:=@jEl g1 d;rw[hon,hk.1.1]at e1;obtain⟨t,o,hR,e3⟩:=jNu (g:=g3) (s:=d.s) (lo:=lo) (b:=rqB (qC c)) ⟨c,hc.ex,hc.w,rfl,hc.r⟩;obtain⟨rfl,rfl⟩:=hR c hc.ex.cm hc.w rfl;obtain⟨r,e,⟨rfl,he⟩,e4⟩:=jQs (g:=g4) (d:=d) (s:=(jD d.s c).1) ⟨⟨hk,hx⟩,ha,hc.b⟩;have hK:∀c',SnP d.s lo c'->rqB (qC c)=rqB (qC c')->qIz d (jD d.s c).1=qIz d (jD d.s c').1/\snO d c=snO d c'/\e=qMr d (jD d.s c').1:=by
  intro c' h' f;obtain⟨h1,h2⟩:=hR c' h'.ex.cm h'.w f;rw[he];unfold snO;rw[h1,h2];exact⟨rfl,rfl,rfl⟩
 have hO:snO d c=if e=0 then rsB (jD d.s c).2 else []:=by rw[he];rfl
 clear hR hc he;generalize qIz d (jD d.s c).1=y at *;generalize (jD d.s c).1=t at *;generalize rsB (jD d.s c).2=o at *;generalize rqB (qC c)=b at *;generalize snO d c=O at *;obtain⟨⟨ar,wr,cut,tn,off⟩,s0,on,nx⟩:=d;simp only at hon hk hx;simp only[dkA,dvA,saA,stA,Bool.not_false,Bool.and_true]at e1 e3 e4;by_cases he:e=0
 .rw[if_pos he]at hO;subst he hO;simp(maxSteps:=9^9)(disch:=try exact dS)only[go_sem,qCo,dkA,dvA,saA,stA,h1,e1,h3,e3,h4,e4];repeat refine aiG ?_
  exact jQ8 y O 0 hK rfl rfl
 .rw[if_neg he]at hO;subst hO;simp(maxSteps:=9^9)(disch:=try exact dS)only[go_sem,qCo,dkA,dvA,saA,stA,h1,e1,h3,e3,h4,e4,he];repeat refine aiG ?_
  exact jQ8 y [] e hK rfl rfl
def qK7:ECt where
 α:=Int
 β:=Rq
 aS:=λm=>[.t (.int .i64 m)]
 pre:=λm=>True
 r:=λr'=>.t (rqA r')
 R:=λm r'=>r'=⟨1,[],[],[m],[]⟩
theorem jSg {g:EF qK7}{m:Int}:qK7.fs g [.t (.int .i64 m)] []=some (.t (rqA (⟨1,[],[],[m],[]⟩)),[]):=fnQ qK7 m trivial
theorem jYi {m:Int}(hV:vv=.t (rqA (⟨1,[],[],[m],[]⟩)))(hO:oo=[]):qK7.K m vv oo:=⟨_,rfl,hV,hO⟩
theorem zDg  (m:Int) :
  qGr.1.wp tab gl (qD 0 [.t (.int .i64 m)]) (qD 0 []) (qZ [(2,(some (5,true)))] 0 (qK7.K m)):=by
 simp(disch:=omega)only[go_sem,qGr];repeat refine aiG ?_
 exact jYi rfl rfl
def qE9:ECt where
 α:=Rq×List UInt8
 β:=Rq
 aS:=λ(q,v)=>[.t (rqA q),.t (.sl (v.map qA))]
 pre:=λ(q,v)=>True
 r:=λr'=>.t (rqA r')
 R:=λ(q,v) r'=>r' = { q with au:=[⟨0,[],v⟩] }
theorem zMs {g:EF qE9}{q:Rq}{v:List UInt8}:qE9.fs g [.t (rqA q),.t (.sl (v.map qA))] []=some (.t (rqA ({ q with au:=[⟨0,[],v⟩] })),[]):=fnQ qE9 (q,v) trivial
theorem jYj {q:Rq}{v:List UInt8}(hV:vv=.t (rqA ({ q with au:=[⟨0,[],v⟩] })))(hO:oo=[]):qE9.K (q,v) vv oo:=⟨_,rfl,hV,hO⟩
theorem zOx  (q:Rq)(v:List UInt8) :
  qM7.1.wp tab gl (qD 0 [.t (rqA q),.t (.sl (v.map qA))]) (qD 0 []) (qZ [(4,(some (5,true)))] 0 (qE9.K (q,v))):=by
 simp(disch:=omega)only[go_sem,qM7,rqA];repeat refine aiG ?_
 exact jYj rfl rfl
def zK3:Ct where
 α:=Rq×Int
 aS x:=[.t (rqA x.1),.t (.int .i64 x.2)]
 ins _:=[]
 pre _:=True
 r x:= .agg [.t (.int .i64 x.1.co),.t (.sl (x.1.hs.map iT)),.sl 0 0 1,.t (.sl (x.1.ns.map iT)),.t (.sl (x.1.bl.map bsT))]
 outs x:=[.live 3 [.agg [.t (.int .i64 x.2),.nil,.nil]] true true]
 inj:=by
  rintro⟨a,b⟩ ⟨c,d⟩ h _;simp only[List.cons.injEq,V.t.injEq,T.int.injEq,jH8,true_and,and_true]at h;obtain⟨rfl,rfl⟩:=h;exact⟨rfl,rfl⟩
theorem jTt {co:Int}{hs:List Int}{au:List Az}{ns:List Int}{bl:List (List UInt8)}{s:Int}:zK3.fs [.t (rqA ⟨co,hs,au,ns,bl⟩),.t (.int .i64 s)] []=some (.agg [.t (.int .i64 co),.t (.sl (hs.map iT)),.sl 0 0 1,.t (.sl (ns.map iT)),.t (.sl (bl.map bsT))],[.live 3 [.agg [.t (.int .i64 s),.nil,.nil]] true true]):=zK3.eq (⟨co,hs,au,ns,bl⟩,s) trivial
theorem jBk (q:Rq)(s:Int):qVq.1.wp tab gl (qD 0 [.t (rqA q),.t (.int .i64 s)]) (qD 0 []) (xO [] [(4,some (5,true))] 0 (λr o=>r=.agg [.t (.int .i64 q.co),.t (.sl (q.hs.map iT)),.sl 0 0 1,.t (.sl (q.ns.map iT)),.t (.sl (q.bl.map bsT))]/\o=[.live 3 [.agg [.t (.int .i64 s),.nil,.nil]] true true])):=by
 simp(disch:=omega)only[go_sem,qVq,rqA];all_goals first|rfl|exact⟨rfl,rfl⟩
def qK6:ECt where
 α:=Int×Int×Int×Int×List UInt8×List UInt8×List UInt8
 β:=Rq
 aS:=λ(h,k,a,t,p,u,d)=>[.t (.int .i64 h),.t (.int .i64 k),.t (.int .i64 a),.t (.int .i64 t),.t (.sl (p.map qA)),.t (.sl (u.map qA)),.t (.sl (d.map qA))]
 pre:=λ(h,k,a,t,p,u,d)=>True
 r:=λr'=>.t (rqA r')
 R:=λ(h,k,a,t,p,u,d) r'=>r'=⟨9,[h],[⟨0,[],[]⟩],[k,a,t],[p,u,d]⟩
theorem jSf {g:EF qK6}{h k a t:Int}{p u d:List UInt8}:qK6.fs g [.t (.int .i64 h),.t (.int .i64 k),.t (.int .i64 a),.t (.int .i64 t),.t (.sl (p.map qA)),.t (.sl (u.map qA)),.t (.sl (d.map qA))] []=some (.t (rqA (⟨9,[h],[⟨0,[],[]⟩],[k,a,t],[p,u,d]⟩)),[]):=fnQ qK6 (h,k,a,t,p,u,d) trivial
theorem jYh {h k a t:Int}{p u d:List UInt8}(hV:vv=.t (rqA (⟨9,[h],[⟨0,[],[]⟩],[k,a,t],[p,u,d]⟩)))(hO:oo=[]):qK6.K (h,k,a,t,p,u,d) vv oo:=⟨_,rfl,hV,hO⟩
theorem zDf {g1}(h1:LkE tab 8 qE9 g1)(h k a t:Int)(p u d:List UInt8) :
  qGq.1.wp tab gl (qD 0 [.t (.int .i64 h),.t (.int .i64 k),.t (.int .i64 a),.t (.int .i64 t),.t (.sl (p.map qA)),.t (.sl (u.map qA)),.t (.sl (d.map qA))]) (qD 0 []) (qZ [(14,(some (5,true)))] 0 (qK6.K (h,k,a,t,p,u,d))):=by
 have e:=zMs (g:=g1) (q:=⟨9,[h],[],[k,a,t],[p,u,d]⟩) (v:=[]);simp only[rqA,mcn,iT,qG]at e;simp(disch:=omega)only[go_sem,qGq,h1,e];repeat refine aiG ?_
 exact jYh rfl rfl
def qK5:ECt where
 α:=Int×Int×Sl2×Int×Int×List (List UInt8)
 β:=Rq
 aS:=λ(h,k,s,n,o,b)=>[.t (.int .i64 h),.t (.int .i64 k),.t (jI0 s),.t (.int .i64 n),.t (.int .i64 o),.t (.sl (b.map bsT))]
 pre:=λ(h,k,s,n,o,b)=>True
 r:=λr'=>.t (rqA r')
 R:=λ(h,k,s,n,o,b) r'=>r'=⟨17,[],[],[h,k,s.a,s.b,n,o],b⟩
 inj:=by rintro⟨h,k,s,n,o,b⟩ ⟨h',k',s',n',o',b'⟩ e _;simp only[qBa,qL2,yEh]at e;obtain⟨rfl,rfl,rfl,rfl,rfl,rfl⟩:=e;rfl
theorem jSe {g:EF qK5}{h k:Int}{s:Sl2}{n o:Int}{b:List (List UInt8)}:qK5.fs g [.t (.int .i64 h),.t (.int .i64 k),.t (jI0 s),.t (.int .i64 n),.t (.int .i64 o),.t (.sl (b.map bsT))] []=some (.t (rqA (⟨17,[],[],[h,k,s.a,s.b,n,o],b⟩)),[]):=fnQ qK5 (h,k,s,n,o,b) trivial
theorem jYg {h k:Int}{s:Sl2}{n o:Int}{b:List (List UInt8)}(hV:vv=.t (rqA (⟨17,[],[],[h,k,s.a,s.b,n,o],b⟩)))(hO:oo=[]):qK5.K (h,k,s,n,o,b) vv oo:=⟨_,rfl,hV,hO⟩
theorem zGd  (h k:Int)(s:Sl2)(n o:Int)(b:List (List UInt8)) :
  qHw.1.wp tab gl (qD 0 [.t (.int .i64 h),.t (.int .i64 k),.t (jI0 s),.t (.int .i64 n),.t (.int .i64 o),.t (.sl (b.map bsT))]) (qD 0 []) (qZ [(12,(some (5,true)))] 0 (qK5.K (h,k,s,n,o,b))):=by
 simp(disch:=omega)only[go_sem,qHw,jI0];repeat refine aiG ?_
 exact jYg rfl rfl
def qK4:ECt where
 α:=Int
 β:=Rq
 aS:=λk=>[.t (.int .i64 k)]
 pre:=λk=>True
 r:=λr'=>.t (rqA r')
 R:=λk r'=>r'=⟨16,[],[],[k],[]⟩
theorem jSd {g:EF qK4}{k:Int}:qK4.fs g [.t (.int .i64 k)] []=some (.t (rqA (⟨16,[],[],[k],[]⟩)),[]):=fnQ qK4 k trivial
theorem jYf {k:Int}(hV:vv=.t (rqA (⟨16,[],[],[k],[]⟩)))(hO:oo=[]):qK4.K k vv oo:=⟨_,rfl,hV,hO⟩
theorem zOw  (k:Int) :
  qM6.1.wp tab gl (qD 0 [.t (.int .i64 k)]) (qD 0 []) (qZ [(2,(some (5,true)))] 0 (qK4.K k)):=by
 simp(disch:=omega)only[go_sem,qM6];repeat refine aiG ?_
 exact jYf rfl rfl
def qK3:ECt where
 α:=Int×Int×List (List UInt8)
 β:=Rq
 aS:=λ(c,h,b)=>[.t (.int .i64 c),.t (.int .i64 h),.t (.sl (b.map bsT))]
 pre:=λ(c,h,b)=>True
 r:=λr'=>.t (rqA r')
 R:=λ(c,h,b) r'=>r'=⟨c,[h],[],[],b⟩
theorem jSc {g:EF qK3}{c h:Int}{b:List (List UInt8)}:qK3.fs g [.t (.int .i64 c),.t (.int .i64 h),.t (.sl (b.map bsT))] []=some (.t (rqA (⟨c,[h],[],[],b⟩)),[]):=fnQ qK3 (c,h,b) trivial
theorem jYe {c h:Int}{b:List (List UInt8)}(hV:vv=.t (rqA (⟨c,[h],[],[],b⟩)))(hO:oo=[]):qK3.K (c,h,b) vv oo:=⟨_,rfl,hV,hO⟩
theorem jBf  (c h:Int)(b:List (List UInt8)) :
  qVr.1.wp tab gl (qD 0 [.t (.int .i64 c),.t (.int .i64 h),.t (.sl (b.map bsT))]) (qD 0 []) (qZ [(6,(some (5,true)))] 0 (qK3.K (c,h,b))):=by
 simp(disch:=omega)only[go_sem,qVr];repeat refine aiG ?_
 exact jYe rfl rfl
theorem zQe {d:Dv}{t:St}(h:¬ d.k.wr+1=d.k.cut):qMr d t=0:=by
 unfold qMr wrF;rw[if_neg h,ite_self]
def asX (d:Dv)(c:Cm):Rs:=if qMr d (jD d.s c).1=0 then(jD d.s c).2 else ⟨0,[],[],[]⟩
def qBr:ECt where
 α:=Dv×Int×Rq
 β:=Dv×Rs×Bool
 aS:=λ(d,lo,q)=>[.t (dvA d),.t (.int .i64 lo),.t (rqA q)]
 pre:=λ(d,lo,q)=>DvP d/\∃c,SnP d.s lo c/\q=qC c
 r:=λ(r,x,ok)=>.tup [.t (dvA r),.t (rsA x),.t (.bool ok)]
 R:=λ(d,lo,q)(r,x,ok)=>∀c,SnP d.s lo c->q=qC c->r=qIz d (jD d.s c).1/\x=asX d c/\ok=decide (qMr d (jD d.s c).1=0)
 inj:=by rintro⟨d,lo,q⟩ ⟨d',lo',q'⟩ e _;simp only[qBa,qL2,qT4]at e;obtain⟨rfl,rfl,rfl⟩:=e;rfl
theorem jEq {g:EF qBr}{d:Dv}{lo:Int}{q:Rq}(hp:DvP d/\∃c,SnP d.s lo c/\q=qC c):∃(r:Dv)(x:Rs)(ok:Bool),(∀c,SnP d.s lo c->q=qC c->r=qIz d (jD d.s c).1/\x=asX d c/\ok=decide (qMr d (jD d.s c).1=0))/\qBr.fs g [.t (dvA d),.t (.int .i64 lo),.t (rqA q)] []=some (.tup [.t (dvA r),.t (rsA x),.t (.bool ok)],[]):=by
 obtain⟨y,h1,h2⟩:=qBr.eq g (d,lo,q) hp;exact⟨y.1,y.2.1,y.2.2,h1,h2⟩
theorem jR9 {d:Dv}{lo:Int}{q:Rq}(r:Dv)(x:Rs)(ok:Bool)(hR:∀c,SnP d.s lo c->q=qC c->r=qIz d (jD d.s c).1/\x=asX d c/\ok=decide (qMr d (jD d.s c).1=0))(hV:vv=.tup [.t (dvA r),.t (rsA x),.t (.bool ok)])(hO:oo=[]):qBr.K (d,lo,q) vv oo:=⟨(r,x,ok),hR,hV,hO⟩
theorem zU7 {g1}(h1:LkE tab 25 qOt g1){g2}(h2:LkE tab 26 qOx g2){g3}(h3:LkE tab 27 qKr g3)(d:Dv)(lo:Int)(q:Rq)(hp:DvP d/\∃c,SnP d.s lo c/\q=qC c) :
  qLx.1.wp tab gl (qD 0 [.t (dvA d),.t (.int .i64 lo),.t (rqA q)]) (qD 0 []) (qZ [(6,(some (37,true))),(7,(some (4,true))),(8,none)] 0 (qBr.K (d,lo,q))):=by
 obtain⟨hd,c,hc,rfl⟩:=hp;obtain⟨b,e,⟨rfl,rfl⟩,e1⟩:=jQd (g:=g1) hc.w;obtain⟨r,o,e,hR,e2⟩:=jQ9 (g:=g2) (d:=d) (lo:=lo) (b:=rqB (qC c)) ⟨hd,c,hc,rfl⟩;obtain⟨-,hO,hE⟩:=hR c hc rfl;by_cases he:e=0
 .have hz:qMr d (jD d.s c).1=0:=by rw[<-hE];exact he
  have hO':o=rsB (jD d.s c).2:=by rw[hO,snO,if_pos hz]
  obtain⟨x,f,⟨-,hx⟩,e3⟩:=jEi (g:=g3) (b:=o) (.inr ⟨_,hc.r,hO'⟩);obtain⟨hx2,rfl⟩:=hx (by rw[hO'];exact jD8 hc.r);have hK:∀c',SnP d.s lo c'->qC c=qC c'->r=qIz d (jD d.s c').1/\x=asX d c'/\true=decide (qMr d (jD d.s c').1=0):=by
   intro c' h' g;obtain⟨k1,k2,k3⟩:=hR c' h' (by rw[g]);have kz:qMr d (jD d.s c').1=0:=by rw[<-k3];exact he
   refine⟨k1,?_,by rw[kz];rfl⟩;rw[asX,if_pos kz,hx2,k2,snO,if_pos kz,zS9 h'.r]
  clear hR hx hx2 hc hd hO hE hz hO';subst he;generalize rqB (qC c)=b at *;generalize qC c=q at *;simp only[dvA,rqA,rsA]at e1 e2 e3;simp(maxSteps:=9^9)(disch:=try exact dS)only[go_sem,qLx,dvA,rqA,rsA,h1,e1,h2,e2,h3,e3];repeat refine aiG ?_
  exact jR9 r x true hK rfl rfl
 .have hz:¬ qMr d (jD d.s c).1=0:=by rw[<-hE];exact he
  have hO':o=[]:=by rw[hO,snO,if_neg hz]
  obtain⟨x,f,⟨hx,-⟩,e3⟩:=jEi (g:=g3) (b:=o) (.inl hO');obtain⟨rfl,rfl⟩:=hx hO';have hK:∀c',SnP d.s lo c'->qC c=qC c'->r=qIz d (jD d.s c').1/\(⟨0,[],[],[]⟩:Rs)=asX d c'/\false=decide (qMr d (jD d.s c').1=0):=by
   intro c' h' g;obtain⟨k1,k2,k3⟩:=hR c' h' (by rw[g]);have kz:¬ qMr d (jD d.s c').1=0:=by rw[<-k3];exact he
   exact⟨k1,by rw[asX,if_neg kz],(decide_eq_false kz).symm⟩
  clear hR hx hc hd hO hE hz hO';generalize rqB (qC c)=b at *;generalize qC c=q at *;simp only[dvA,rqA,rsA,map_nil]at e1 e2 e3;simp(maxSteps:=9^9)(disch:=try exact dS)only[go_sem,qLx,dvA,rqA,rsA,h1,e1,h2,e2,h3,e3,he];repeat refine aiG ?_
  exact jR9 r ⟨0,[],[],[]⟩ false hK rfl rfl
def xL:ECt where
 α:=Dv×Int×Rq×Int×Int
 β:=Dv×Rs×Bool
 aS:=λ(d,lo,q,i,b)=>[.t (dvA d),.t (.int .i64 lo),.t (rqA q),.t (.int .i64 i),.t (.int .i64 b)]
 pre:=λ(d,lo,q,i,b)=>(DvP d/\¬ d.k.wr+1=d.k.cut)/\∃c,SnP d.s lo c/\q=qC c
 r:=λ(r,x,ok)=>.tup [.t (dvA r),.t (rsA x),.t (.bool ok)]
 R:=λ(d,lo,q,i,b)(r,x,ok)=>(∀c,SnP d.s lo c->q=qC c->r=qIz d (jD d.s c).1/\x=(jD d.s c).2)/\ok=decide (x.e=0/\(x.ns.length:Int)=i/\(x.bl.length:Int)=b)
 inj:=by rintro⟨d,lo,q,i,b⟩ ⟨d',lo',q',i',b'⟩ e _;simp only[qBa,qL2,qT4]at e;obtain⟨rfl,rfl,rfl,rfl,rfl⟩:=e;rfl
theorem jEv {g:EF xL}{d:Dv}{lo:Int}{q:Rq}{i b:Int}(hp:(DvP d/\¬ d.k.wr+1=d.k.cut)/\∃c,SnP d.s lo c/\q=qC c):∃(r:Dv)(x:Rs)(ok:Bool),((∀c,SnP d.s lo c->q=qC c->r=qIz d (jD d.s c).1/\x=(jD d.s c).2)/\ok=decide (x.e=0/\(x.ns.length:Int)=i/\(x.bl.length:Int)=b))/\xL.fs g [.t (dvA d),.t (.int .i64 lo),.t (rqA q),.t (.int .i64 i),.t (.int .i64 b)] []=some (.tup [.t (dvA r),.t (rsA x),.t (.bool ok)],[]):=by
 obtain⟨y,h1,h2⟩:=xL.eq g (d,lo,q,i,b) hp;exact⟨y.1,y.2.1,y.2.2,h1,h2⟩
theorem jYc {d:Dv}{lo:Int}{q:Rq}{i b:Int}(r:Dv)(x:Rs)(ok:Bool)(hR:(∀c,SnP d.s lo c->q=qC c->r=qIz d (jD d.s c).1/\x=(jD d.s c).2)/\ok=decide (x.e=0/\(x.ns.length:Int)=i/\(x.bl.length:Int)=b))(hV:vv=.tup [.t (dvA r),.t (rsA x),.t (.bool ok)])(hO:oo=[]):xL.K (d,lo,q,i,b) vv oo:=⟨(r,x,ok),hR,hV,hO⟩
theorem zOv {g1}(h1:LkE tab 11 qBr g1)(d:Dv)(lo:Int)(q:Rq)(i b:Int)(hp:(DvP d/\¬ d.k.wr+1=d.k.cut)/\∃c,SnP d.s lo c/\q=qC c) :
  qCh.1.wp tab gl (qD 0 [.t (dvA d),.t (.int .i64 lo),.t (rqA q),.t (.int .i64 i),.t (.int .i64 b)]) (qD 0 []) (qZ [(10,(some (37,true))),(11,(some (4,true))),(12,none)] 0 (xL.K (d,lo,q,i,b))):=by
 obtain⟨⟨hd,hcut⟩,c,hc,hq⟩:=hp;obtain⟨r,x,ok,hA,e1⟩:=jEq (g:=g1) (d:=d) (lo:=lo) (q:=q) ⟨hd,c,hc,hq⟩;obtain rfl:ok=true:=by rw[(hA c hc hq).2.2,zQe hcut];rfl
 have hK:∀c,SnP d.s lo c->q=qC c->r=qIz d (jD d.s c).1/\x=(jD d.s c).2:=λc h1 h2=>⟨(hA c h1 h2).1,by rw[(hA c h1 h2).2.1,asX,if_pos (zQe hcut)]⟩
 have key:∀w,w=decide (x.e=0/\(x.ns.length:Int)=i/\(x.bl.length:Int)=b)->xL.K (d,lo,q,i,b) (.tup [.t (dvA r),.t (rsA x),.t (.bool w)]) []:=λw h=>jYc r x w ⟨hK,h⟩ rfl rfl
 clear hK hA hc hq hd hcut;simp only[dvA,rqA,rsA]at e1 key;by_cases c1:x.e=0
 rotate_left
 .simp(maxSteps:=9^9)(disch:=try exact dS)only[go_sem,qCh,dvA,rqA,rsA,h1,e1,c1];repeat refine aiG ?_
  refine key _ ?_;simp[c1]
 by_cases c2:(x.ns.length:Int)=i
 rotate_left
 .simp(maxSteps:=9^9)(disch:=try exact dS)only[go_sem,qCh,dvA,rqA,rsA,h1,e1,c1,c2];repeat refine aiG ?_
  rw[c1]at key;refine key _ ?_;simp[c2]
 by_cases c3:(x.bl.length:Int)=b
 .simp(maxSteps:=9^9)(disch:=try exact dS)only[go_sem,qCh,dvA,rqA,rsA,h1,e1,c1,c2,c3];repeat refine aiG ?_
  rw[c1]at key;refine key _ ?_;simp[c2,c3]
 .simp(maxSteps:=9^9)(disch:=try exact dS)only[go_sem,qCh,dvA,rqA,rsA,h1,e1,c1,c2,c3];repeat refine aiG ?_
  rw[c1]at key;refine key _ ?_;simp[c2,c3]
theorem Sa.Tp.ok {a:Sa}(h:a.Tp):a.Ok where
 sd:=⟨h.sd.1,λx hx=>Nat.le_of_eq (h.sd.2 x hx)⟩
 au:=by
  rw[h.au];refine⟨rfl,λx hx=>?_⟩;simp only[mem_cons,not_mem_nil,or_false]at hx;rcases hx with rfl|rfl|rfl|rfl<;>simp
 en:=h.en
 act:=by rw[h.act];decide
 res:=h.res.1
 rst:=by rw[h.rst];decide
 clk:=by rw[h.clk];decide
 bk:= .inl h.bk.1
 u:=by rw[h.bk.2];decide
 mc:=by have:=h.mc;omega
 ix:=by
  rcases h.ix with e|⟨w,d,e,hd⟩
  .rw[e];exact⟨sM,λx hx=>by cases hx⟩
  .rw[e];refine⟨sM,λx hx=>?_⟩;obtain rfl:=mem_singleton.1 hx;unfold Ix.Ok cnI;simp only[length_nil,hd];omega
 lk:=by rw[h.lk];unfold Lk.Ok;decide
 ks:=by rw[h.ks];exact⟨sM,λx hx=>by cases hx⟩
theorem Sa.Tp.B {a:Sa}(h:a.Tp):a.B:=⟨h.ok,by have:=h.res;omega,by rw[h.rst];decide,by rw[h.bk.2];decide⟩
theorem qG6 {n:Int}(h:0<=n/\n<=65535):tmI n:=by unfold tmI;omega
theorem Rs.W.mk1 {e:Int}{ns:List Int}{bl:List (List UInt8)}(he:0<=e/\e<=255)(hn:ns.length<=8/\∀x∈ns,tmI x)(hb:bl.length<=8/\∀x∈bl,x.length<=1024)(hz:e≠0->ns=[]/\bl=[]):(⟨e,ns,bl,[]⟩:Rs).W:=
 ⟨he,hn,hb,⟨sM,λx hx=>by cases hx⟩,λh=>⟨(hz h).1,(hz h).2,rfl⟩⟩
theorem zCj {e:Int}(he:0<=e/\e<=255):(⟨e,[],[],[]⟩:Rs).W:=Rs.W.mk1 he ⟨sM,λx hx=>by cases hx⟩ ⟨sM,λx hx=>by cases hx⟩ (λ_=>⟨rfl,rfl⟩)
theorem zAk {α:Type}{P:α->Prop}{a:α}(h:P a):∀x∈[a],P x:=λx hx=>by obtain rfl:=mem_singleton.1 hx;exact h
theorem zE7 {α:Type}{P:α->Prop}:∀x∈([]:List α),P x:=λx hx=>by cases hx
theorem jN0 {α:Type}{P:α->Prop}{a b:α}(h:P a)(g:P b):∀x∈[a,b],P x:=λx hx=>by
 simp only[mem_cons,not_mem_nil,or_false]at hx;rcases hx with rfl|rfl
 .exact h
 .exact g
theorem jN1 {α:Type}{P:α->Prop}{a b c:α}(h:P a)(g:P b)(k:P c):∀x∈[a,b,c],P x:=λx hx=>by
 simp only[mem_cons,not_mem_nil,or_false]at hx;rcases hx with rfl|rfl|rfl
 .exact h
 .exact g
 .exact k
theorem qYf {x:List UInt8}:(wB x).length=2+x.length:=by unfold wB;rw[length_append,qN]
theorem yDu:(qC .up).W where
 co:=by show coK 1;unfold coK;omega
 hs:=⟨rfl,zE7⟩
 au:=⟨rfl,zE7⟩
 ns:=⟨rfl,zAk (qG6 oM)⟩
 bl:=⟨.inl rfl,zE7⟩
 le:=by rw[qW9];simp[qC,rqT,w8,qN]
theorem yDp {k:Int}(hk:2<=k/\k<=3):(qC (.op k)).W where
 co:=by show coK 16;unfold coK;omega
 hs:=⟨rfl,zE7⟩
 au:=⟨rfl,zE7⟩
 ns:=⟨rfl,zAk (qG6 oM)⟩
 bl:=⟨.inl rfl,zE7⟩
 le:=by rw[qW9];simp[qC,rqT,w8,qN]
theorem yDr {h:Int}{po au da:List UInt8}(hh:0<=h/\h<=2)(l1:po.length=32)(l2:au.length<=32)(l3:da.length<=60):(qC (.pr h po au da)).W where
 co:=by show coK 9;unfold coK;omega
 hs:=⟨rfl,zAk oM⟩
 au:=⟨rfl,zAk ⟨by decide,sM,sM⟩⟩
 ns:=⟨rfl,jN1 (qG6 oM) (qG6 oM) (qG6 oM)⟩
 bl:=⟨.inl rfl,jN1 oM oM oM⟩
 le:=by rw[qW9];simp[qC,rqT,wH,wA,w8,qN,qYf];omega
theorem yDt {h s:Int}{v:List UInt8}(hh:0<=h/\h<=65535)(hs:0<=s/\s<=65535)(l:v.length<=32):(qC (.un h s v)).W where
 co:=by show coK 13;unfold coK;omega
 hs:=⟨rfl,zAk hh⟩
 au:=⟨rfl,zAk ⟨hs,sM,by simp only;omega⟩⟩
 ns:=⟨rfl,zE7⟩
 bl:=⟨.inl rfl,zE7⟩
 le:=by rw[qW9];simp[qC,rqT,wH,wA,w8,qN,qYf];omega
def poW:Av->Prop
 |.reg s0 s1 d=>s0=0/\(0<=s1/\s1<=65535)/\d=[]
 |.loc n=>1<=n/\n<=31
 |.cmd n=>n=13
 |.idx _ o od _=>o=2/\od.length=8
 |.aut=>True
 |.alt bs=>(2<=bs.length/\bs.length<=3)/\∀b∈bs,b.length=32
 |.apr _ _=>False
theorem yDq {h:Int}{a:Av}(hh:0<=h/\h<=65535)(ha:poW a):(qC (.po h a)).W:=by
 have hb:(avB a).length<=3/\(∀x∈avB a,x.length<=32):=by
  cases a<;>simp only[poW]at ha<;>simp only[avB]
  case reg=>obtain⟨-,-,rfl⟩:=ha;exact⟨sM,zAk sM⟩
  case idx=>exact⟨sM,zAk oM⟩
  case alt bs=>exact⟨oM,λx hx=>Nat.le_of_eq (ha.2 x hx)⟩
  all_goals exact⟨sM,zE7⟩
 have hn:(avN h a).length=6/\∀x∈avN h a,0<=x/\x<=65535:=by
  cases a<;>simp only[poW]at ha<;>refine⟨rfl,λx hx=>?_⟩<;>simp only[avN,mem_cons,not_mem_nil,or_false]at hx;all_goals(rcases hx with rfl|rfl|rfl|rfl|rfl|rfl<;>omega)
 have hf:((avB a).flatMap wB).length<=34*3:=by
  generalize avB a=l at hb;have:∀l:List (List UInt8),(∀x∈l,x.length<=32)->(l.flatMap wB).length<=34*l.length:=by
   intro l
   induction l with
   |nil=>intro _;simp
   |cons x r ih=>
    intro h;have h1:=h x sM;have h2:=ih (λy hy=>h y (by simp[hy]));rw[flatMap_cons,length_append,qYf,length_cons];omega
  have:=this l hb.2;omega
 have h8:((avN h a).flatMap w8).length=48:=by
  have:∀l:List Int,(l.flatMap w8).length=8*l.length:=by
   intro l
   induction l with
   |nil=>rfl
   |cons x r ih=>rw[flatMap_cons,length_append,ih,length_cons,w8,qN];omega
  rw[this,hn.1]
 exact {
  co:=by show coK 17;unfold coK;omega
  hs:=⟨rfl,zE7⟩
  au:=⟨rfl,zE7⟩
  ns:=⟨by show(((avN h a).length:Nat):Int)=6;rw[hn.1];rfl,λx hx=>qG6 (hn.2 x hx)⟩
  bl:=⟨.inr ⟨rfl,by show(avB a).length<=8;omega⟩,λx hx=>by have:=hb.2 x hx;omega⟩
  le:=by
   rw[qW9];show(83::87::0::0::u8I 17::([].flatMap wH++([].flatMap wA++((avN h a).flatMap w8++(u8I (avB a).length::(avB a).flatMap wB))))).length<=2048;simp only[flatMap_nil,nil_append,length_cons,length_append,h8];omega }
theorem zB2 {α:Type}{l:List α}{j:Nat}{x d:α}(h:l[j]?=some x):l.getD j d=x:=by rw[getD_eq_getElem?_getD,h];rfl
theorem qVb {α:Type}{l:List α}{j:Nat}{x:α}(h:l[j]?=some x):j<l.length:=by
 rcases Nat.lt_or_ge j l.length with h1|h1
 .exact h1
 .rw[getElem?_eq_none h1]at h;cases h
theorem zSg {α:Type}{l:List α}{j:Nat}{x:α}(h:l[j]?=some x):x∈l:=mem_of_getElem? h
theorem zUe {s:St}{j:Nat}{x:Ses}(hl:s.ses.length=3)(hg:s.ses[j]?=some x)(hx:x.kd≠0):qCu s (768+(j:Int))=((j:Int),x,true):=by
 have hj:=qVb hg;have e:(768+(j:Int)-768)=(j:Int):=oM;have hp:jEf s (768+(j:Int))=j:=by
  unfold jEf;rw[if_neg oM,e,Int.toNat_natCast,zB2 hg,if_neg hx]
 rw[qCu,hp,if_neg oM,e,Int.toNat_natCast,zB2 hg]
theorem jHe {s:St}{j:Nat}{x:Ses}(hl:s.ses.length=3)(hg:s.ses[j]?=some x)(hx:x.kd=2\/x.kd=3):qFm s (768+(j:Int))=((j:Int),x,true):=by
 rw[qFm,zUe hl hg oM];rcases hx with h|h<;>simp[h]
theorem jF3 {s:St}{j:Nat}{o:Obj}(hl:s.obs.length=3)(hg:s.obs[j]?=some o)(ho:o.p.kd≠0):qBb s (512+(j:Int))=(o,0):=by
 have hj:=qVb hg;have e:(512+(j:Int)-512)=(j:Int):=oM;rw[qBb,if_neg oM,e,Int.toNat_natCast,zB2 hg,if_neg ho]
theorem zCt {α:Type}{P:α->Prop}{l:List α}{j:Nat}{x:α}(h:∀y∈l,P y)(hx:P x):∀y∈l.set j x,P y:=λy hy=>by
 rcases mem_or_eq_of_mem_set hy with h1|rfl
 .exact h y h1
 .exact hx
theorem jCs {bk:List zD}(h:ShA 2 bk){m:Int}(hm:0<=m/\m<=65535):qR5 bk 0 m=0:=by
 have h1:=h.on_t.2;have b0:¬ zDz 0:=by decide
 have b1:¬ zDz m:=by unfold zDz;omega
 rw[qR5,if_neg (by rintro (h|h);exact b0 h;exact b1 h),if_neg];rintro (⟨h,-⟩|⟨-,h⟩)
 .exact h rfl
 .rw[h1]at h;cases h
def opS (s:St)(j:Nat)(k:Int):St := { s with dr:=s.dr+1,ses:=s.ses.set j (nwS s k) }
theorem jW8 {s:St}(h:s.Tp)(hdr:s.dr<=999){j:Nat}(hf:frS s.ses 0=j){k:Int}(hk:2<=k/\k<=3):SnP s 0 (.op k)/\jD s (.op k)=(opS s j k,⟨0,[768+(j:Int)],[qY1 s 16],[]⟩)/\(opS s j k).Tp:=by
 have hd:=h.dr;have hn:¬ frS s.ses 0 = -1:=by rw[hf];omega
 have hr:=@zXp s.ses 0;have hl:=h.ses.1;have lr:(qY1 s 16).length=16:=kH;have e:jD s (.op k)=(opS s j k,⟨0,[768+(j:Int)],[qY1 s 16],[]⟩):=by
  simp only[jD,qVd,hn,if_false,hf,Int.toNat_natCast];rfl
 have hW:(jD s (.op k)).2.W:=by
  rw[e];exact Rs.W.mk1 (by decide) ⟨sM,zAk (qG6 oM)⟩ ⟨sM,zAk oM⟩ (λh=>absurd rfl h)
 refine⟨⟨⟨⟨⟨⟨h.a.en,oM⟩,hl,hn⟩,hk⟩,.inl (.inr (.inr (.inl ⟨k,rfl⟩))),by decide,.inr h.on,.inl (.inr (.inr (.inl ⟨k,rfl⟩)))⟩,yDp hk,hW,by rw[e];exact h.a.B⟩,e,?_⟩;refine⟨h.a,h.on,h.off,h.clk,h.rl,h.wl,h.bk,h.u,by show 0<=s.dr+1/\s.dr+1<=1000;omega,⟨by simp[opS,hl],?_⟩,h.obs⟩;refine zCt h.ses.2 ⟨Nat.le_of_eq qCn,by show(qY1 s 16).length<=16;omega,rfl,.inr ⟨qCn,by show k=2\/k=3;omega,by show(0:Int)<=31/\(31:Int)<=31;decide,.inl rfl⟩⟩
def poY (s:St)(x:Ses)(a:Av):Ses := { (qDx s x a).1 with dg:=zVu x.dg (qDx s x a).2.1 }
def poS (s:St)(j:Nat)(x:Ses)(a:Av):St := { s with ses:=s.ses.set j (poY s x a) }
theorem jC4 {a:Av}(ha:poW a)(hx:∀n o od nm,a≠ .idx n o od nm):fmP a:=by
 cases a<;>simp only[poW]at ha<;>simp only[fmP,Av.Ok]
 case idx=>exact absurd rfl (hx _ _ _ _)
 case alt=>exact⟨oM,ha.2⟩
 all_goals first|exact ha|omega
theorem jE8 {a b:Int}(ha:0<=a/\a<=31)(hb:0<=b/\b<=31):0<=zVs a b/\zVs a b<=31:=by
 have key:∀a b:Fin 32,0<=zVs a.val b.val/\zVs a.val b.val<=31:=by decide
 have:=key ⟨a.toNat,oM⟩ ⟨b.toNat,oM⟩;simp only at this;rw[show((a.toNat:Nat):Int)=a by omega,show((b.toNat:Nat):Int)=b by omega]at this;exact this
theorem jOq {s:St}{x:Ses}(hx:x.Tp)(hk:x.kd=2\/x.kd=3){a:Av}(ha:poW a):(poY s x a).Tp/\(poY s x a).kd=x.kd:=by
 obtain⟨h1,h2,h3,h4⟩:=hx;obtain⟨h5,h6,h7,h8⟩:=h4.resolve_left oM;have e:(zVu x.dg (qDx s x a).2.1).length=32:=qO9;cases a with
 |reg s0 s1 d=>
  unfold poY;simp only[qDx]at *;split
  .exact⟨⟨Nat.le_of_eq e,h2,h3,.inr ⟨e,h6,h7,h8⟩⟩,rfl⟩
  .exact⟨⟨Nat.le_of_eq e,h2,h3,.inr ⟨e,h6,h7,h8⟩⟩,rfl⟩
 |loc n=>exact⟨⟨Nat.le_of_eq e,h2,h3,.inr ⟨e,h6,jE8 h7 (by simp only[poW]at ha;omega),h8⟩⟩,rfl⟩
 |cmd n=>exact⟨⟨Nat.le_of_eq e,h2,h3,.inr ⟨e,h6,h7,.inr ha⟩⟩,rfl⟩
 |_=>exact⟨⟨Nat.le_of_eq e,h2,h3,.inr ⟨e,h6,h7,h8⟩⟩,rfl⟩
theorem jW9 {s:St}(h:s.Tp){j:Nat}{x:Ses}(hg:s.ses[j]?=some x)(hk:x.kd=2\/x.kd=3){a:Av}(ha:poW a)(hx:∀n o od nm,a≠ .idx n o od nm)(hu:x.up = -1\/x.up=s.u)(hc:x.cm=0\/x.cm=13) :
  SnP s 0 (.po (768+(j:Int)) a)/\jD s (.po (768+(j:Int)) a)=(if(qDx s x a).2.2=0 then(poS s j x a,⟨0,[],[],[]⟩) else(s,⟨(qDx s x a).2.2,[],[],[]⟩))/\(poS s j x a).Tp:=by
 have hl:=h.ses.1;have hj:=qVb hg;have hp:=jHe hl hg hk;have hT:=h.ses.2 x (zSg hg);have h32:x.dg.length=32:=(hT.2.2.2.resolve_left oM).1;have hck:ckP s x a:=by
  refine⟨hk,?_⟩;cases a<;>simp only[poW]at ha
  case reg s0 s1 d=>
   obtain⟨rfl,hm,rfl⟩:=ha;exact⟨⟨s1,rfl,hm,jCs h.bk hm⟩,hu⟩
  case loc=>trivial
  case cmd n=>show x.cm=0\/x.cm=n;omega
  case aut=>trivial
  case alt bs=>show bs.length<=8;omega
  case idx=>exact absurd rfl (hx _ _ _ _)
 have e:jD s (.po (768+(j:Int)) a)=(if(qDx s x a).2.2=0 then(poS s j x a,⟨0,[],[],[]⟩) else(s,⟨(qDx s x a).2.2,[],[],[]⟩)):=by
  by_cases c:(qDx s x a).2.2=0
  .rw[if_pos c];simp only[jD,asR,asF,hp,c,if_true,exS,Int.toNat_natCast];rw[(jEd (s:=s) (x:=x) (.inl (jC4 ha hx))).2];rfl
  .rw[if_neg c];simp only[jD,asR,asF,hp,c,if_false]
 have hE:(qDx s x a).2.2=0\/(qDx s x a).2.2=16:=by
  cases a<;>simp only[qDx]
  case alt=>split;exact .inr rfl;exact .inl rfl
  case idx=>exact absurd rfl (hx _ _ _ _)
  all_goals first|exact .inl rfl|exact .inl trivial
 have hW:(jD s (.po (768+(j:Int)) a)).2.W/\(jD s (.po (768+(j:Int)) a)).1.a=s.a:=by
  rw[e];split
  .exact⟨zCj (by decide),rfl⟩
  .exact⟨zCj (by show 0<=(qDx s x a).2.2/\(qDx s x a).2.2<=255;omega),rfl⟩
 refine⟨⟨⟨⟨⟨⟨h.bk.rv,h.u.1⟩,hl⟩,qG6 oM,by rw[hp],jC4 ha hx,by rw[hp];exact hck,by rw[hp];exact h32⟩,.inl (.inr (.inr (.inr (.inl ⟨_,a,rfl⟩)))),by decide,.inr h.on,.inl (.inr (.inr (.inr (.inl ⟨_,a,rfl⟩))))⟩,yDq oM ha,hW.1,by rw[hW.2];exact h.a.B⟩,e,?_⟩;exact⟨h.a,h.on,h.off,h.clk,h.rl,h.wl,h.bk,h.u,h.dr,⟨by simp[poS,hl],zCt h.ses.2 (jOq hT hk ha).1⟩,h.obs⟩
def prS (s:St)(j:Nat)(h:Int)(po au da:List UInt8):St := { s with obs:=s.obs.set j (zCf s h po au da) }
theorem zZf {s:St}{h:Int}{po au da:List UInt8}(l1:po.length=32)(l2:au.length<=32)(l3:da.length<=60):(zCf s h po au da).Se:=⟨.inr ⟨rfl,rfl,rfl,l1,qIs⟩,l2,by show da.length<=128;omega⟩
theorem jXa {s:St}(h:s.Tp){j:Nat}(hf:frO s.obs 0=j)(hj:j<=2){hh:Int}{po au da:List UInt8}(h2:0<=hh/\hh<=2)(l1:po.length=32)(l2:au.length<=32)(l3:da.length<=60) :
  SnP s 0 (.pr hh po au da)/\(∃en nm,jD s (.pr hh po au da)=(prS s j hh po au da,⟨0,[512+(j:Int)],[en,nm],[]⟩))/\(prS s j hh po au da).Tp:=by
 have hl:=h.obs.1;have hn:¬ frO s.obs 0 = -1:=by rw[hf];omega
 have lu:(zCx (qTw (qPl s hh po da)) da).length=32:=qIs;have e:jD s (.pr hh po au da)=(prS s j hh po au da,⟨0,[512+(j:Int)],[zVt po (zCx (qTw (qPl s hh po da)) da),zLo po (zCx (qTw (qPl s hh po da)) da)],[]⟩):=by
  simp only[jD,qPm,qPi,hn,if_false,hf,Int.toNat_natCast];rfl
 have hW:(jD s (.pr hh po au da)).2.W:=by
  rw[e];exact Rs.W.mk1 (by decide) ⟨sM,zAk (qG6 oM)⟩ ⟨sM,jN0 (by rw[qWj ⟨l1,lu⟩];omega) (by rw[zId];omega)⟩ (λh=>absurd rfl h)
 have hv:vlP ⟨s,qC (.pr hh po au da),⟨0,[],[]⟩,hh⟩:=⟨h.en,h2,.inr (.inr (.inr (.inr ⟨po,au,da,rfl⟩))),rfl⟩;refine⟨⟨⟨⟨⟨hl,hn⟩,h.a.sd,h2,l1,l2,l3⟩,.inr ⟨h.en,.inl ⟨hh,po,au,da,rfl,h2⟩⟩,by decide,.inr h.on,.inr (.inl ⟨rfl,.vl _ hh hv (by rw[h.a.lk];decide),.inl ⟨hh,po,au,da,rfl⟩⟩)⟩,yDr h2 l1 l2 l3,hW,by rw[e];exact h.a.B⟩,⟨_,_,e⟩,?_⟩;exact⟨h.a,h.on,h.off,h.clk,h.rl,h.wl,h.bk,h.u,h.dr,h.ses,⟨by simp[prS,hl],zCt h.obs.2 (zZf l1 l2 l3)⟩⟩
def unE (x:Ses)(o:Obj):Int:=if x.kd=2 then(if x.dg=o.p.po then 0 else 11) else 8
theorem jXb {s:St}(h:s.Tp){i j:Nat}{x:Ses}{o:Obj}(hg:s.ses[j]?=some x)(hk:x.kd=2\/x.kd=3)(ho:s.obs[i]?=some o)(hi:i<=2)(h3:o.p.kd=3){v:List UInt8}(hv:v.length<=32)
  (hr:x.kd=2->x.lo%2=1/\(x.up = -1\/x.up=s.u)/\(x.av=true->v=o.s.au)) :
  SnP s 0 (.un (512+(i:Int)) (768+(j:Int)) v)/\jD s (.un (512+(i:Int)) (768+(j:Int)) v)=(if unE x o=0 then(zG0 s (768+(j:Int)),⟨0,[],[o.s.da],[]⟩) else(s,⟨unE x o,[],[],[]⟩))/\(zG0 s (768+(j:Int))).Tp:=by
 have hl:=h.ses.1;have hj:=qVb hg;have hp:=zUe hl hg oM;have hb:=jF3 h.obs.1 ho oM;have hT:=h.ses.2 x (zSg hg);have hO:=h.obs.2 o (zSg ho);obtain⟨h5,-,h7,h8⟩:=hT.2.2.2.resolve_left oM;have hE:ckE s (512+(i:Int)) (768+(j:Int))=unE x o:=by rw[ckE,hp,hb];rfl
 have hE':unE x o=0\/unE x o=8\/unE x o=11:=by
  unfold unE;split
  .split
   .exact .inl rfl
   .exact .inr (.inr rfl)
  .exact .inr (.inl rfl)
 have e:jD s (.un (512+(i:Int)) (768+(j:Int)) v)=(if unE x o=0 then(zG0 s (768+(j:Int)),⟨0,[],[o.s.da],[]⟩) else(s,⟨unE x o,[],[],[]⟩)):=by
  simp only[jD,hE,hb]
 have hW:(jD s (.un (512+(i:Int)) (768+(j:Int)) v)).2.W/\(jD s (.un (512+(i:Int)) (768+(j:Int)) v)).1.a=s.a:=by
  rw[e];split
  .exact⟨Rs.W.mk1 (by decide) ⟨sM,zE7⟩ ⟨sM,zAk (by have:=hO.2.2;omega)⟩ (λh=>absurd rfl h),rfl⟩
  .exact⟨zCj oM,rfl⟩
 have hck:CkP s (qC (.un (512+(i:Int)) (768+(j:Int)) v)):=by
  refine .un _ _ _ ⟨hl,qG6 oM,oM⟩ (by rw[hp]) (by rw[hp];exact hk) (λh2=>?_);rw[hp]at h2⊢;obtain⟨r1,r2,r3⟩:=hr h2;exact⟨h.en,by show s.a.lk.fa=0/\1<=s.a.lk.mx;rw[h.a.lk];decide,⟨qG6 (by show 0<=512+(i:Int)/\512+(i:Int)<=65535;omega),by show(qBb s _).2=0;rw[hb]⟩,rfl,⟨rfl,r1⟩,hT.2.2.1,h8,r2,h.u.1,h5,λhv=>by show v=(qBb s _).1.s.au;rw[hb];exact r3 hv⟩
 refine⟨⟨⟨⟨hck,λh0=>?_,h.en,qG6 oM,by rw[hb]⟩,.inr ⟨h.en,.inr (.inl ⟨_,_,_,rfl,qG6 oM,by rw[hb]⟩)⟩,by decide,.inr h.on,.inr (.inl ⟨rfl,hck,.inr (.inl ⟨_,_,_,rfl,⟨hl,qG6 oM,oM⟩,by rw[hp]⟩)⟩)⟩,yDt oM oM hv,hW.1,by rw[hW.2];exact h.a.B⟩,e,?_⟩
 .rw[hE]at h0;rw[hp];show x.kd=2;unfold unE at h0;split at h0
  .assumption
  .cases h0
 .refine⟨h.a,h.on,h.off,h.clk,h.rl,h.wl,h.bk,h.u,h.dr,⟨by simp[zG0,hl],zCt h.ses.2 ?_⟩,h.obs⟩;exact⟨by simp[qDq],by simp[qDq],rfl,.inl rfl⟩
theorem jA2 {a:Sa}(h:a.Tp)(hr:a.res<=999):SnP (qA9 a) 0 .up/\(qSr (qA9 a)).Tp:=by
 have r0:=h.res;have hT:(qSr (qA9 a)).a.Tp:=⟨h.sd,h.au,h.en,h.act,by show 0<=a.res+1/\a.res+1<=1000;omega,rfl,h.clk,⟨rfl,rfl⟩,h.mc,h.ix,h.lk,h.ks⟩;have hcn:(qA9 a).cn 1000000:=by
  have:=h.rst;have:=h.bk.2;refine⟨?_,?_,?_,?_,?_,?_,?_⟩
  .show a.res<=1000000;omega
  .show a.rst<=1000000;omega
  .show a.u<=1000000;omega
  .show(0:Int)<=1000000;decide
  .show(0:Int)<=1000000;decide
  .show(0:Int)<=1000000;decide
  .show(0:Int)<=1000000;decide
 refine⟨⟨⟨⟨h.ok,hcn,rfl,rfl⟩,.inl (.inl rfl),by decide,.inl rfl,.inl (.inl rfl)⟩,yDu,zCj (by decide),hT.B⟩,?_⟩;refine⟨hT,rfl,rfl,h.clk,rfl,rfl,?_,by show(0:Int)<=0/\(0:Int)<=1000;decide,by show(0:Int)<=0/\(0:Int)<=1000;decide,⟨rfl,?_⟩,⟨rfl,?_⟩⟩
 .show ShA 2 (vL a.act);rw[h.act];exact ShA.new oM
 .exact jN1 ⟨by decide,by decide,rfl,.inl rfl⟩ ⟨by decide,by decide,rfl,.inl rfl⟩ ⟨by decide,by decide,rfl,.inl rfl⟩
 .exact jN1 ⟨.inl rfl,by decide,by decide⟩ ⟨.inl rfl,by decide,by decide⟩ ⟨.inl rfl,by decide,by decide⟩
theorem qWf (d:Dv):(V.t (dvA d)).cells.length=37:=rfl
theorem qXb (q:Rq):(V.t (rqA q)).cells.length=5:=rfl
theorem yDd (r:Rs):(V.t (rsA r)).cells.length=4:=rfl
theorem qWh (d:Dv):(V.t (dvA d)).plain=true:=rfl
theorem qXd (q:Rq):(V.t (rqA q)).plain=true:=rfl
theorem yDf (r:Rs):(V.t (rsA r)).plain=true:=rfl
theorem qWg (d:Dv):qFl (List.take 37 (V.t (dvA d)).cells)=some (dvA d).cells:=rfl
theorem qWe (d:Dv):T.agg (dvA d).cells=dvA d:=rfl
theorem qXc (q:Rq):qFl (List.take 5 (V.t (rqA q)).cells)=some (rqA q).cells:=rfl
theorem qXa (q:Rq):T.agg (rqA q).cells=rqA q:=rfl
theorem yDe (r:Rs):qFl (List.take 4 (V.t (rsA r)).cells)=some (rsA r).cells:=rfl
theorem yDc (r:Rs):T.agg (rsA r).cells=rsA r:=rfl
def okK (k:Dk)(nx:Int):Prop:=okD k/\1<=nx/\nx<=100000
theorem DvP.of {k:Dk}{nx:Int}{s:St}(hk:okK k nx)(hs:s.Tp):DvP ⟨k,s,true,nx⟩:=⟨⟨rfl,hk.1.x,hk.2⟩,hs.a.B⟩
theorem okD.nc {k:Dk}(h:okD k):¬ k.wr+1=k.cut:=by have h1:=h.2.2.1;have h2:=h.2.2.2;omega
theorem qV7 {d:Dv}{t:St}(h:t.a=d.s.a):qIz d t = { d with s:=t }:=by rw[qIz,if_pos (by rw[h])]
theorem jWb {g:EF xL}{k:Dk}{nx lo i b:Int}{s t:St}{c:Cm}{x:Rs}(hk:okK k nx)(hs:s.Tp)(hc:SnP s lo c)(e:jD s c=(t,x))(ha:t.a=s.a) :
  xL.fs g [.t (dvA ⟨k,s,true,nx⟩),.t (.int .i64 lo),.t (rqA (qC c)),.t (.int .i64 i),.t (.int .i64 b)] []=some (.tup [.t (dvA ⟨k,t,true,nx⟩),.t (rsA x),.t (.bool (decide (x.e=0/\(x.ns.length:Int)=i/\(x.bl.length:Int)=b)))],[]):=by
 obtain⟨r,y,ok,⟨h1,h2⟩,e1⟩:=jEv (g:=g) (d:=⟨k,s,true,nx⟩) (lo:=lo) (q:=qC c) (i:=i) (b:=b) ⟨⟨.of hk hs,hk.1.nc⟩,c,hc,rfl⟩;obtain⟨h3,h4⟩:=h1 c hc rfl;have h5:qIz ⟨k,s,true,nx⟩ t=⟨k,t,true,nx⟩:=qV7 ha;rw[show(jD s c).1=t by rw[e]]at h3;rw[show(jD s c).2=x by rw[e]]at h4;rw[e1,h2,h3,h4,h5]
theorem zYs {g:EF xL}{k:Dk}{nx lo i b:Int}{s t:St}{c:Cm}{x:Rs}(hk:okK k nx)(hs:s.Tp)(hc:SnP s lo c)(e:jD s c=(t,x))(ha:t.a=s.a)(hx:x.e=0/\(x.ns.length:Int)=i/\(x.bl.length:Int)=b) :
  xL.fs g [.t (dvA ⟨k,s,true,nx⟩),.t (.int .i64 lo),.t (rqA (qC c)),.t (.int .i64 i),.t (.int .i64 b)] []=some (.tup [.t (dvA ⟨k,t,true,nx⟩),.t (rsA x),.t (.bool true)],[]):=by
 rw[jWb hk hs hc e ha,decide_eq_true hx]
def cyV (k:Dk)(a:Sa)(n:Int):Dv:=qIz ⟨⟨k.ar,0,0,0,false⟩,qA9 a,true,n+1⟩ (qSr (qA9 a))
def cyP (ar:List (List UInt8))(a:Sa)(n:Int):Prop:=(a.Tp/\a.res<=999)/\n<=90000/\jOk ar n (qCs a)
def qCj:ECt where
 α:=Dv
 β:=Dv×Bool
 aS:=λd=>[.t (dvA d)]
 pre:=λd=>d.k.ar.length=4/\∃n a,cyP d.k.ar a n
 r:=λ(r,ok)=>.tup [.t (dvA r),.t (.bool ok)]
 R:=λd (r,ok)=>ok=true/\∀n a,cyP d.k.ar a n->r=cyV d.k a n
 inj:=by rintro d d' e _;simp only[qBa,qL2,qT4]at e;obtain rfl:=e;rfl
theorem jEs {g:EF qCj}{d:Dv}(hp:d.k.ar.length=4/\∃n a,cyP d.k.ar a n):∃(r:Dv)(ok:Bool),(ok=true/\∀n a,cyP d.k.ar a n->r=cyV d.k a n)/\qCj.fs g [.t (dvA d)] []=some (.tup [.t (dvA r),.t (.bool ok)],[]):=by
 obtain⟨y,h1,h2⟩:=qCj.eq g d hp;exact⟨y.1,y.2,h1,h2⟩
theorem jYa {d:Dv}(r:Dv)(ok:Bool)(hR:ok=true/\∀n a,cyP d.k.ar a n->r=cyV d.k a n)(hV:vv=.tup [.t (dvA r),.t (.bool ok)])(hO:oo=[]):qCj.K d vv oo:=⟨(r,ok),hR,hV,hO⟩
theorem zI8 {g1}(h1:LkE tab 29 qKw g1){g2}(h2:LkE tab 28 qOw g2){g3}(h3:LkE tab 30 qK7 g3){g4}(h4:LkE tab 18 xL g4)(d:Dv)(hp:d.k.ar.length=4/\∃n a,cyP d.k.ar a n) :
  qJo.1.wp tab gl (qD 0 [.t (dvA d)]) (qD 0 []) (qZ [(2,(some (37,true))),(3,none)] 0 (qCj.K d)):=by
 obtain⟨hl,n,a,⟨ha,hr⟩,hn,hj⟩:=hp;have e1:=@jQ6 g1 d;obtain⟨r,e,⟨rfl,hR⟩,e2⟩:=jQ7 (g:=g2) (d:=zPe d) ⟨rfl,hl,n,a,ha.B,hj⟩;have hr1:=hR n a ha.B hj;have e3:=@jSg g3 0;obtain⟨hS,hT⟩:=jA2 ha hr;have hD:DvP r:=by
  rw[hr1];have:=hj.1.1;exact⟨⟨rfl,okD.x ⟨rfl,hl,rfl,by show(0:Int)<=0/\(0:Int)<=1000000;decide⟩,by show 1<=n+1;omega,by show n+1<=100000;omega⟩,ha.B⟩
 obtain⟨v,x,ok,⟨h5,h6⟩,e4⟩:=jEv (g:=g4) (d:=r) (lo:=0) (q:=qC .up) (i:=0) (b:=0) ⟨⟨hD,by rw[hr1];show ¬ (0:Int)+1=0;decide⟩,.up,by rw[hr1];exact hS,rfl⟩;obtain⟨h7,h8⟩:=h5 .up (by rw[hr1];exact hS) rfl;have h9:x=⟨0,[],[],[]⟩:=h8;have h10:v=cyV d.k a n:=by rw[h7,hr1];rfl
 have hok:ok=true:=by rw[h6,h9];rfl
 have hK:∀m b,cyP d.k.ar b m->v=cyV d.k b m:=by
  intro m b hb;obtain⟨i1,i2⟩:=zR3 hj hb.2.2;obtain rfl:=qQi ha.B hb.1.1.B i1;rw[h10,i2]
 subst hok h9;clear hR hr1 hS hT hD h5 h6 h7 h8 h10 hj;generalize zPe d=y at *;have e3':qK7.fs g3 [.t (.int .i64 0)] []=some (.t (rqA (qC .up)),[]):=e3;generalize qC .up=q at *;simp(disch:=omega)only[go_sem,qJo,qWf,qXb,yDd,qWh,qXd,yDf,qWg,qXc,yDe,qWe,qXa,yDc,h1,e1,h2,e2,h3,e3',h4,e4];repeat refine aiG ?_
 exact jYa v true ⟨rfl,hK⟩ rfl rfl
def frA:Sa := { qYx z32 with res:=1,ord:=false }
def frV:Dv:=cyV ⟨[[],qAe 1 (qCs (qYx z32)),[],[]],1,0,0,true⟩ (qYx z32) 1
theorem jG1:(qYx z32).Tp where
 sd:=⟨rfl,jN1 kH kH kH⟩
 au:=rfl
 en:=kH
 act:=rfl
 res:=(by decide:(0:Int)<=0/\(0:Int)<=1000)
 rst:=rfl
 clk:=rfl
 bk:=⟨rfl,rfl⟩
 mc:=(by decide:(0:Int)<=0/\(0:Int)<=1000)
 ix:= .inl rfl
 lk:=rfl
 ks:=rfl
theorem zB8:cyP [[],qAe 1 (qCs (qYx z32)),[],[]] (qYx z32) 1:=
 ⟨⟨jG1,(by decide:(0:Int)<=999)⟩,by decide,qQx jDq (by decide),zSi (qQx jDq (by decide)),zSb⟩
theorem jTh:qLz .and .i64 2 .i64 3=some (.int .i64 2):=rfl
def qK1:ECt where
 α:=Int
 β:=Dv×Bool
 aS:=λa=>[.t (.int .i64 a)]
 pre:=λa=>a=2
 r:=λ(r,ok)=>.tup [.t (dvA r),.t (.bool ok)]
 R:=λa (r,ok)=>ok=true/\r=frV
theorem jEu {g:EF qK1}{a:Int}(hp:a=2):∃(r:Dv)(ok:Bool),(ok=true/\r=frV)/\qK1.fs g [.t (.int .i64 a)] []=some (.tup [.t (dvA r),.t (.bool ok)],[]):=by
 obtain⟨y,h1,h2⟩:=qK1.eq g a hp;exact⟨y.1,y.2,h1,h2⟩
theorem jYb {a:Int}(r:Dv)(ok:Bool)(hR:ok=true/\r=frV)(hV:vv=.tup [.t (dvA r),.t (.bool ok)])(hO:oo=[]):qK1.K a vv oo:=⟨(r,ok),hR,hV,hO⟩
theorem zI9 {g1}(h1:LkE tab 24 qKv g1){g2}(h2:LkE tab 12 qCj g2)(a:Int)(hp:a=2) :
  qJp.1.wp tab gl (qD 0 [.t (.int .i64 a)]) (qD 0 []) (qZ [(2,(some (37,true))),(3,none)] 0 (qK1.K a)):=by
 subst hp;have tz:List.take 32 (List.replicate 32 (0:UInt8))=z32:=rfl;obtain⟨v,e,⟨rfl,rfl⟩,e1⟩:=jQ5 (g:=g1) (n:=4) (en:=z32) (a:=2) ⟨rfl,rfl,rfl⟩;obtain⟨r,ok,⟨rfl,hR⟩,e2⟩:=jEs (g:=g2) (d:=nwV z32) ⟨rfl,1,qYx z32,zB8⟩;have hr:=hR 1 (qYx z32) zB8;have hK:r=frV:=hr;clear hr hR;generalize nwV z32=y at *;simp(disch:=omega)only[go_sem,qJp,qWf,qXb,yDd,qWh,qXd,yDf,qWg,qXc,yDe,qWe,qXa,yDc,tz,jTh,h1,e1,h2,e2];repeat refine aiG ?_
 exact jYb r true ⟨rfl,hK⟩ rfl rfl
end Go.Eng
end
