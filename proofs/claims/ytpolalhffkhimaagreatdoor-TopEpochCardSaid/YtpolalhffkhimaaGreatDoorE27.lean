/- A part of an abstract machine, its walks, their tie. -/
import Derived.Test.YtpolalhffkhimaaGreatDoorE25
import Derived.Test.YtpolalhffkhimaaGreatDoorE21
import Derived.Test.YtpolalhffkhimaaGreatDoorE26
set_option linter.all false
section
set_option maxHeartbeats 64000000
set_option maxRecDepth 20000
namespace Go.Eng
variable (tab:Tab) (gl:Gl)
variable {vv:V} {oo:List Ob}
def qTz (u:List UInt8):Pu:=⟨2,1,0,[],u⟩
def Pu.K2 (x:Pu):Prop:=(x.kd=3∧x.ar=0∧x.ht=0∧x.po.length=32∧x.un.length=32) ∨ ∃ u,x=qTz u∧u.length=17
def qNx (x:Pu):List UInt8:=blL (blL [u8I x.kd,u8I x.ar,u8I x.ht] x.po) x.un
def zMn (x:Pu):List UInt8:=qCu 6 [qNx x]
theorem zK8 {x:Pu}(h:x.K2):(qNx x).length≤71:=by
 unfold qNx;rw[vL,vL];rcases h with⟨_,_,_,h1,h2⟩ | ⟨u,rfl,h2⟩
 ·rw[h1,h2];simp only[List.length_cons,List.length_nil];omega
 ·show 3+2+0+2+u.length≤71;omega
theorem zD7 {x:Pu}:(zMn x).length=32:=qM
theorem jDt {p u:List UInt8}:qNx ⟨3,0,0,p,u⟩=zPh p u:=rfl
theorem zV7 {p u:List UInt8}:zMn ⟨3,0,0,p,u⟩=zG0 p u:=rfl
theorem qQ3 {u:List UInt8}(h:u.length=17):qNx (qTz u)=2::1::0::0::0::0::17::u:=by
 unfold qNx qTz blL;simp only[h];rfl
def qMp:ECt where
 α:=Int
 β:=Int
 aS:=fun k=>[.t (.int .i64 k)]
 pre:=fun k=>k=2∨k=3
 r:=fun r'=> .t (.int .i64 r')
 R:=fun k r'=>r'=if k=2 then 17 else 32
theorem zXa {g:EF qMp}{k:Int}(hp:k=2∨k=3):qMp.fs g [.t (.int .i64 k)] []=some (.t (.int .i64 (if k=2 then 17 else 32)),[]):=fnQ qMp k hp
theorem zCy {k:Int}(hV:vv = .t (.int .i64 (if k=2 then 17 else 32)))(hO:oo=[]):qMp.K k vv oo:=⟨_,rfl,hV,hO⟩
theorem qP9  (k:Int)(hp:k=2∨k=3) :
  wR.1.wp tab gl (qE 0 [.t (.int .i64 k)]) (qE 0 []) (zA [(2,none)] 0 (qMp.K k)):=by
 rcases hp with rfl | rfl
 ·simp(maxSteps:=9^9)(disch:=try exact dS)only[go_sem,wR];first | exact (zCy rfl rfl) | exact⟨rfl,(zCy rfl rfl)⟩ | exact⟨rfl,rfl,(zCy rfl rfl)⟩ | exact⟨rfl,rfl,rfl,(zCy rfl rfl)⟩
 ·simp(maxSteps:=9^9)(disch:=try exact dS)only[go_sem,wR];first | exact (zCy rfl rfl) | exact⟨rfl,(zCy rfl rfl)⟩ | exact⟨rfl,rfl,(zCy rfl rfl)⟩ | exact⟨rfl,rfl,rfl,(zCy rfl rfl)⟩
theorem jR5:qNk .and .i64 1 .i64 4=some (.int .i64 0):=rfl
theorem jR4:qNk .and .i64 1 .i64 1=some (.int .i64 1):=rfl
def qJh:ECt where
 α:=Pu
 β:=Int
 aS:=fun x=>[.t (puA x)]
 pre:=fun x=>x.K2
 r:=fun r'=> .t (.int .i64 r')
 R:=fun x r'=>r'=0
theorem zW7 {g:EF qJh}{x:Pu}(hp:x.K2):qJh.fs g [.t (puA x)] []=some (.t (.int .i64 (0)),[]):=fnQ qJh x hp
theorem zCx {x:Pu}(hV:vv = .t (.int .i64 (0)))(hO:oo=[]):qJh.K x vv oo:=⟨_,rfl,hV,hO⟩
theorem zCa {g1}(h1:LkE tab 239 qMp g1)(x:Pu)(hp:x.K2) :
  qCo.1.wp tab gl (qE 0 [.t (puA x)]) (qE 0 []) (zA [(2,none)] 0 (qJh.K x)):=by
 have u2 := @zXa g1 2 (.inl rfl);have u3 := @zXa g1 3 (.inr rfl);rw[if_pos rfl] at u2;rw[if_neg (by decide)] at u3;obtain⟨kd,ar,ht,po,un⟩:=x;rcases hp with⟨rfl,rfl,rfl,h1',h2'⟩ | ⟨u,e,hu⟩
 ·simp(maxSteps:=9^9)(disch:=try exact dS)only[go_sem,qCo,puA,h1,u3,h1',h2',↓jR3,↓jR1];first | exact (zCx rfl rfl) | exact⟨rfl,(zCx rfl rfl)⟩ | exact⟨rfl,rfl,(zCx rfl rfl)⟩ | exact⟨rfl,rfl,rfl,(zCx rfl rfl)⟩
 ·cases e;simp(maxSteps:=9^9)(disch:=try exact dS)only[go_sem,qCo,puA,h1,u2,hu,↓jR5,↓jR4];first | exact (zCx rfl rfl) | exact⟨rfl,(zCx rfl rfl)⟩ | exact⟨rfl,rfl,(zCx rfl rfl)⟩ | exact⟨rfl,rfl,rfl,(zCx rfl rfl)⟩
def qG2:ECt where
 α:=Pu
 β:=List UInt8
 aS:=fun x=>[.t (puA x)]
 pre:=fun x=>x.K2
 r:=fun r=> .sl 0 0 r.length
 outs:=fun r=>[.live 1 ((r.map qA).map V.t) true false]
 R:=fun x r=>r=qNx x
theorem zW8 {g:EF qG2}{x:Pu}(hp:x.K2) : ∃ (r:List UInt8),(r=qNx x)∧qG2.fs g [.t (puA x)] []=some (.sl 0 0 r.length,[.live 1 ((r.map qA).map V.t) true false]):=qG2.eq g x hp
theorem jNk {x:Pu}(r:List UInt8)(hR:r=qNx x)(hV:vv = .sl 0 0 r.length)(hO:oo=[.live 1 ((r.map qA).map V.t) true false]):qG2.K x vv oo:=⟨r,hR,hV,hO⟩
theorem zVa {b x:List UInt8}(h:b.length<100000000∧x.length≤65535):qGm.fs [.t (.sl (b.map qA)),.t (.sl (x.map qA))] []=some (.sl 0 0 (blL b x).length,[.live 1 (((blL b x).map qA).map V.t) true false]):=by
 rw[vL];exact qIb h
theorem qY9 (h1:LkC tab 66 qGm)(x:Pu)(hp:x.K2) :
  qEl.1.wp tab gl (qE 0 [.t (puA x)]) (qE 0 []) (kN [] [(2,none)] 0 (qG2.K x)):=by
 have le:=zK8 hp;have hb:x.po.length≤32∧x.un.length≤32:=by
  rcases hp with⟨_,_,_,h1,h2⟩ | ⟨u,rfl,hu⟩
  ·omega
  ·exact⟨Nat.zero_le _,by show u.length≤32;omega⟩
 have hE:blL (blL [u8I x.kd,u8I x.ar,u8I x.ht] x.po) x.un=qNx x:=rfl;have b1:=zVa (b:=[u8I x.kd,u8I x.ar,u8I x.ht]) (x:=x.po) ⟨sM,oM⟩;have l1:(blL [u8I x.kd,u8I x.ar,u8I x.ht] x.po).length≤37:=by rw[vL];simp;omega
 generalize hB:blL [u8I x.kd,u8I x.ar,u8I x.ht] x.po=B at *;have b2:=zVa (b:=B) (x:=x.un) ⟨oM,oM⟩;rw[hE] at b2;have t1:List.take B.length B=B:=List.take_length;simp only[mcn] at b1;have hK : ∀ vv oo,vv = .sl 0 0 (qNx x).length→oo=[.live 1 (((qNx x).map qA).map V.t) true false]→qG2.K x vv oo:=fun vv oo h g=>jNk (qNx x) rfl h g
 generalize qNx x=E at *;simp(maxSteps:=9^9)(disch:=try exact dS)only[go_sem,qEl,puA,h1,u8w,b1,b2,t1];first | exact (hK _ _ rfl rfl) | exact⟨rfl,(hK _ _ rfl rfl)⟩ | exact⟨rfl,rfl,(hK _ _ rfl rfl)⟩ | exact⟨rfl,rfl,rfl,(hK _ _ rfl rfl)⟩
def qG3:ECt where
 α:=Pu
 β:=List UInt8
 aS:=fun x=>[.t (puA x)]
 pre:=fun x=>x.K2
 r:=fun r'=> .t (.sl (r'.map qA))
 R:=fun x r'=>r'=zMn x
theorem zW9 {g:EF qG3}{x:Pu}(hp:x.K2):qG3.fs g [.t (puA x)] []=some (.t (.sl ((zMn x).map qA)),[]):=fnQ qG3 x hp
theorem jNl {x:Pu}(hV:vv = .t (.sl ((zMn x).map qA)))(hO:oo=[]):qG3.K x vv oo:=⟨_,rfl,hV,hO⟩
theorem zEt {g1}(h1:LkE tab 202 qG2 g1)(h2:LkC tab 103 wC)(x:Pu)(hp:x.K2) :
  qHw.1.wp tab gl (qE 0 [.t (puA x)]) (qE 0 []) (zA [(2,none)] 0 (qG3.K x)):=by
 obtain⟨E,q,e1⟩:=zW8 (g:=g1) hp;have le:=zK8 hp;have e2:=zA4 (t:=6) (fs:=[E]) ⟨oM,by rw[q];exact zLw oM⟩;have hN:qCu 6 [E]=zMn x:=by rw[q];rfl
 have l2:(zMn x).length=32:=zD7;have t1:List.take E.length E=E:=List.take_length;have t2:List.take 32 (zMn x)=zMn x:=List.take_of_length_le oM;rw[hN] at e2;rw[←q] at le;have k6:((6:Nat):Int)=6:=rfl;simp only[mcn,qG,k6] at e2;have hK : ∀ vv,vv = .t (.sl ((zMn x).map qA))→qG3.K x vv []:=fun vv h=>jNl h rfl
 clear q hN;generalize zMn x=N at *;simp only[puA] at e1;simp(maxSteps:=9^9)(disch:=try exact dS)only[go_sem,qHw,puA,h1,h2,e1,t1,e2,t2,l2];first | exact (hK _ rfl) | exact⟨rfl,(hK _ rfl)⟩ | exact⟨rfl,rfl,(hK _ rfl)⟩ | exact⟨rfl,rfl,rfl,(hK _ rfl)⟩
theorem jGe {u:List UInt8}(h:u.length=17):qQ (qNx (qTz u),0,0) 1=(2,qNx (qTz u),1,0)∧qQ (qNx (qTz u),1,0) 1=(1,qNx (qTz u),2,0)∧qQ (qNx (qTz u),2,0) 1=(0,qNx (qTz u),3,0)∧
  zU (qNx (qTz u),3,0) 32=([],qNx (qTz u),5,0)∧zU (qNx (qTz u),5,0) 32=(u,qNx (qTz u),24,0)∧xO (qNx (qTz u),24,0)=0:=by
 have l:(qNx (qTz u)).length=24:=by rw[qQ3 h];simp[h]
 refine⟨?_,?_,?_,?_,?_,?_⟩
 ·rw[qQ3 h];simp[qQ,beV]
 ·rw[qQ3 h];simp[qQ,beV]
 ·rw[qQ3 h];simp[qQ,beV]
 ·exact qOa (p:=[2,1,0]) (x:=[]) (t:=0::17::u) (by rw[qQ3 h];rfl) sM (by decide)
 ·have:=qOa (b:=qNx (qTz u)) (p:=[2,1,0,0,0]) (x:=u) (t:=[]) (most:=32) (by rw[qQ3 h,h,List.append_nil];rfl) oM (by decide);rw[h] at this;exact this
 ·rw[xO];simp[l]
def qYc:ECt where
 α:=List UInt8
 β:=Pu×Int
 aS:=fun b=>[.t (.sl (b.map qA))]
 pre:=fun b => ∃ u:List UInt8,b=qNx (qTz u)∧u.length=17
 r:=fun (x,e)=> .tup [.t (puA x),.t (.int .i64 e)]
 R:=fun b (x,e)=>x=qTz (b.drop 7)∧e=0
theorem jNj {b:List UInt8}(x:Pu)(e:Int)(hR:x=qTz (b.drop 7)∧e=0)(hV:vv = .tup [.t (puA x),.t (.int .i64 e)])(hO:oo=[]):qYc.K b vv oo:=⟨(x,e),hR,hV,hO⟩
theorem qY8 (h1:LkC tab 82 qFa)(h2:LkC tab 109 qE9)(h3:LkC tab 111 qGo)(h4:LkC tab 90 qIe){g5}(h5:LkE tab 180 qJh g5)(b:List UInt8)(hp : ∃ u:List UInt8,b=qNx (qTz u)∧u.length=17) :
  qEk.1.wp tab gl (qE 0 [.t (.sl (b.map qA))]) (qE 0 []) (zA [(2,(some (5,true))),(3,none)] 0 (qYc.K b)):=by
 obtain⟨u,hb,hu⟩:=hp;have l:b.length=24:=by rw[hb,qQ3 hu];simp[hu]
 have hd:b.drop 7=u:=by rw[hb,qQ3 hu];rfl
 obtain⟨r1,r2,r3,r4,r5,r6⟩:=jGe hu;rw[←hb] at r1 r2 r3 r4 r5 r6;have e0:=qJr (b:=b) oM;have e1:=vU (s:=(b,0,0)) (k:=1) ⟨⟨Nat.zero_le _,by show b.length<_;omega⟩,oM,oM⟩;have e2:=vU (s:=(b,1,0)) (k:=1) ⟨⟨by show 1≤b.length;omega,by show b.length<_;omega⟩,oM,oM⟩;have e3:=vU (s:=(b,2,0)) (k:=1) ⟨⟨by show 2≤b.length;omega,by show b.length<_;omega⟩,oM,oM⟩;have e4:=qG7 (s:=(b,3,0)) (k:=32) ⟨⟨by show 3≤b.length;omega,by show b.length<_;omega⟩,oM⟩;have e5:=qG7 (s:=(b,5,0)) (k:=32) ⟨⟨by show 5≤b.length;omega,by show b.length<_;omega⟩,oM⟩;have e6:=qP5 (s:=(b,24,0)) ⟨by show 24≤b.length;omega,by show b.length<_;omega⟩;rw[r1] at e1;rw[r2] at e2;rw[r3] at e3;rw[r4] at e4;rw[r5] at e5;rw[r6] at e6;have e7 := @zW7 g5 (qTz u) (.inr ⟨u,rfl,hu⟩);have cz:((0:Nat):Int)=0:=rfl;have c1:((1:Nat):Int)=1:=rfl;have c32:((32:Nat):Int)=32:=rfl;have c2:((2:Nat):Int)=2:=rfl;have c3:((3:Nat):Int)=3:=rfl;have c5:((5:Nat):Int)=5:=rfl;have c24:((24:Nat):Int)=24:=rfl;simp only[rdO,cz,c1,c2,c3,c5,c24,c32,List.map_nil] at e0 e1 e2 e3 e4 e5 e6;simp only[puA,qTz,List.map_nil] at e7;clear r1 r2 r3 r4 r5 r6 hb;simp(maxSteps:=9^9)(disch:=try exact dS)only[go_sem,qEk,h1,e0];refine qJ 4 ?_;simp(maxSteps:=9^9)(disch:=try exact dS)only[go_sem,qF,h2,e1,e2,e3];refine qJ 3 ?_;simp(maxSteps:=9^9)(disch:=try exact dS)only[go_sem,qF,h3,e4,e5,h4,e6,h5,e7];repeat refine aiG ?_
 exact jNj (qTz u) 0 ⟨by rw[hd],rfl⟩ rfl rfl
structure St.En (s:St):Prop where
 au:s.a.au=[[],[],[],[]]
 ix:s.a.ix=[] ∨ ∃ w d,s.a.ix=[cnI w d]∧d.length=8
 obs:s.obs.length=3 ∧ ∀ x∈s.obs,x.Se
theorem St.Tp.en {s:St}(h:s.Tp):s.En:=⟨h.a.au,h.a.ix,h.obs⟩
def qF9 (s:St)(h:Int):Fo×Int:=
 if 0≤h∧h≤3 then (⟨hnF h,[],[],false⟩,0)
 else if (qRf s h).2=0 then (⟨inF (s.a.ix.getD (qRf s h).1.toNat default),[],[],true⟩,0)
 else if (xV s h).2=0 then (⟨zG0 (xV s h).1.p.po (xV s h).1.p.un,(xV s h).1.s.au,(xV s h).1.p.po,true⟩,0)
 else (default,7)
theorem zK9 {s:St}(e:s.obs.length=3 ∧ ∀ x∈s.obs,x.Se){h:Int}(h0:(xV s h).2=0) : ∃ po un au sd da hh,(xV s h).1=⟨⟨3,0,0,po,un⟩,⟨au,sd,da⟩,hh⟩∧po.length=32∧un.length=32∧au.length≤32∧da.length≤128:=by
 unfold xV at *;split
 ·rw[if_pos ‹_›] at h0;cases h0
 rename_i c;rw[if_neg c] at h0;split
 ·rw[if_pos ‹_›] at h0;cases h0
 rename_i c2;have hn:(h-512).toNat<s.obs.length:=oM;have hm:s.obs.getD (h-512).toNat default∈s.obs:=by
  rw[List.getD_eq_getElem?_getD,List.getElem?_eq_getElem hn];exact List.getElem_mem hn
 have hs:=e.2 _ hm;generalize s.obs.getD (h-512).toNat default=x at *;obtain⟨⟨kd,ar,ht,po,un⟩,⟨au,sd,da⟩,hh⟩:=x;obtain⟨hd | ⟨q1,q2,q3,q4,q5⟩,q6,q7⟩:=hs
 ·rw[hd] at c2;exact absurd rfl c2
 ·refine⟨po,un,au,sd,da,hh,?_,q4,q5,q6,q7⟩;rw[show kd=3 from q1,show ar=0 from q2,show ht=0 from q3]
theorem zAv {s:St}(e:s.a.ix=[] ∨ ∃ w d,s.a.ix=[cnI w d]∧d.length=8){h:Int}(h0:(qRf s h).2=0):h=257∧(qRf s h).1=0 ∧ ∃ w d,s.a.ix=[cnI w d]∧d.length=8:=by
 rcases e with e | ⟨w,d,e,hd⟩
 ·simp[qRf,e,ixP] at h0
 ·have hI:ixP s.a.ix h 0=if h=257 then 0 else -1:=by rw[e];simp only[ixP,cnI];by_cases c:h=257<;>simp[c]
  by_cases c:h=257
  ·rw[if_pos c] at hI;exact⟨c,by rw[qRf,hI];rfl,w,d,e,hd⟩
  ·rw[if_neg c] at hI;rw[qRf,hI] at h0;cases h0
theorem qSh {s:St}(e:s.En):s.a.ix.length≤6 ∧ ∀ x∈s.a.ix,0≤x.n∧x.n≤255:=by
 rcases e.ix with e | ⟨w,d,e,hd⟩
 ·simp[e]
 ·rw[e];refine⟨sM,fun x hx=>?_⟩;obtain rfl:=List.mem_singleton.1 hx;simp[cnI]
theorem jRe:qNk .and .i64 48 .i64 64=some (.int .i64 0):=rfl
theorem jR2:qNk .and .i64 0 .i64 2=some (.int .i64 0):=rfl
def qFb:ECt where
 α:=St×Int
 β:=Fo×Int
 aS:=fun (s,h)=>[.t (stA s),.t (.int .i64 h)]
 pre:=fun (s,h)=>s.En∧tmI h
 r:=fun (x,e)=> .tup [.t (foA x),.t (.int .i64 e)]
 R:=fun (s,h) (x,e)=>(x,e)=qF9 s h
theorem zGl {g:EF qFb}{s:St}{h:Int}(hp:s.En∧tmI h) : ∃ (x:Fo) (e:Int),((x,e)=qF9 s h)∧qFb.fs g [.t (stA s),.t (.int .i64 h)] []=some (.tup [.t (foA x),.t (.int .i64 e)],[]):=by
 obtain⟨y,h1,h2⟩:=qFb.eq g (s,h) hp;exact⟨y.1,y.2,h1,h2⟩
theorem qJ6 {s:St}{h:Int}(x:Fo)(e:Int)(hR:(x,e)=qF9 s h)(hV:vv = .tup [.t (foA x),.t (.int .i64 e)])(hO:oo=[]):qFb.K (s,h) vv oo:=⟨(x,e),hR,hV,hO⟩
theorem qZe {g1}(h1:LkE tab 136 qDr g1){g2}(h2:LkE tab 135 qFc g2){g3}(h3:LkE tab 232 qLi g3){g4}(h4:LkE tab 178 qGs g4){g5}(h5:LkE tab 185 qG3 g5)(s:St)(h:Int)(hp:s.En∧tmI h) :
  wK.1.wp tab gl (qE 0 [.t (stA s),.t (.int .i64 h)]) (qE 0 []) (zA [(4,(some (4,true))),(5,none)] 0 (qFb.K (s,h))):=by
 obtain⟨he,ht⟩:=hp;obtain⟨i,ei,q1,c1⟩:=zAw (g:=g1) (s:=s) (h:=h) ⟨(qSh he).1,(qSh he).2,ht⟩;obtain⟨x,ex,q2,c2⟩:=zGm (g:=g2) (s:=s) (h:=h) ⟨he.obs.1,ht⟩;have k1:(qRf s h).2=ei:=by rw[←q1]
 have k2:(xV s h).2=ex:=by rw[←q2]
 have k3:(xV s h).1=x:=by rw[←q2]
 by_cases d0:0≤h∧h≤3
 ·have c3:=jD3 (g:=g3) d0;obtain⟨n,rfl⟩:=Int.eq_ofNat_of_zero_le d0.1;have hg:s.a.au[n]?=some []:=by
   rw[he.au];rcases (by omega:n=0∨n=1∨n=2∨n=3) with rfl | rfl | rfl | rfl<;>rfl
  have hl:s.a.au.length=4:=by rw[he.au];rfl
  have hF:qF9 s n=(⟨hnF n,[],[],false⟩,0):=by rw[qF9,if_pos d0]
  simp only[stA,qBl] at c1 c2;simp(maxSteps:=9^9)(disch:=try exact dS)only[go_sem,wK,stA,qBl,h1,h2,h3,c1,c2,c3,d0,hl,hg,oms];first | exact (qJ6 ⟨hnF n,[],[],false⟩ 0 hF.symm rfl rfl) | exact⟨rfl,(qJ6 ⟨hnF n,[],[],false⟩ 0 hF.symm rfl rfl)⟩ | exact⟨rfl,rfl,(qJ6 ⟨hnF n,[],[],false⟩ 0 hF.symm rfl rfl)⟩ | exact⟨rfl,rfl,rfl,(qJ6 ⟨hnF n,[],[],false⟩ 0 hF.symm rfl rfl)⟩
 have hb:3<h:=oM;by_cases d1:ei=0
 ·subst d1;obtain⟨rfl,hi,w,d,hix,hd⟩:=zAv he.ix k1;have ki:i=0:=by rw[←hi,←q1]
  subst ki;have c4:=zL9 (g:=g4) (x:=cnI w d) (by simp[cnI]);have hF:qF9 s 257=(⟨inF (cnI w d),[],[],true⟩,0):=by rw[qF9,if_neg d0,if_pos k1,hi,hix];rfl
  simp only[stA,hix,ixA,cnI,qBl,mcn] at c1 c2 c4;simp(maxSteps:=9^9)(disch:=try exact dS)only[go_sem,wK,stA,qBl,hix,ixA,cnI,h1,h2,h4,c1,c2,c4,jRe,mcn];first | exact (qJ6 ⟨inF (cnI w d),[],[],true⟩ 0 hF.symm rfl rfl) | exact⟨rfl,(qJ6 ⟨inF (cnI w d),[],[],true⟩ 0 hF.symm rfl rfl)⟩ | exact⟨rfl,rfl,(qJ6 ⟨inF (cnI w d),[],[],true⟩ 0 hF.symm rfl rfl)⟩ | exact⟨rfl,rfl,rfl,(qJ6 ⟨inF (cnI w d),[],[],true⟩ 0 hF.symm rfl rfl)⟩
 by_cases d2:ex=0
 ·subst d2;obtain⟨po,un,au,sd,da,hh,hx,l1,l2,l3,l4⟩:=zK9 he.obs k2;have c5:=zW9 (g:=g5) (x:=⟨3,0,0,po,un⟩) (.inl ⟨rfl,rfl,rfl,l1,l2⟩);rw[zV7] at c5;simp only[puA] at c5;have hF:qF9 s h=(⟨zG0 po un,au,po,true⟩,0):=by rw[qF9,if_neg d0,if_neg (by rw[k1];exact d1),if_pos k2,hx]
  rw[k3] at hx;subst hx;simp only[stA,qBl] at c1 c2;simp(maxSteps:=9^9)(disch:=try exact dS)only[go_sem,wK,stA,qBl,h1,h2,h5,c1,c2,c5,d1,jR2,jRe];first | exact (qJ6 ⟨zG0 po un,au,po,true⟩ 0 hF.symm rfl rfl) | exact⟨rfl,(qJ6 ⟨zG0 po un,au,po,true⟩ 0 hF.symm rfl rfl)⟩ | exact⟨rfl,rfl,(qJ6 ⟨zG0 po un,au,po,true⟩ 0 hF.symm rfl rfl)⟩ | exact⟨rfl,rfl,rfl,(qJ6 ⟨zG0 po un,au,po,true⟩ 0 hF.symm rfl rfl)⟩
 ·have hF:qF9 s h=(default,7):=by rw[qF9,if_neg d0,if_neg (by rw[k1];exact d1),if_neg (by rw[k2];exact d2)]
  simp only[stA,qBl] at c1 c2;simp(maxSteps:=9^9)(disch:=try exact dS)only[go_sem,wK,stA,qBl,h1,h2,c1,c2,d1,d2];first | exact (qJ6 default 7 hF.symm rfl rfl) | exact⟨rfl,(qJ6 default 7 hF.symm rfl rfl)⟩ | exact⟨rfl,rfl,(qJ6 default 7 hF.symm rfl rfl)⟩ | exact⟨rfl,rfl,rfl,(qJ6 default 7 hF.symm rfl rfl)⟩
def qGr:ECt where
 α:=St×Int
 β:=List UInt8×Int
 aS:=fun (s,h)=>[.t (stA s),.t (.int .i64 h)]
 pre:=fun (s,h)=>s.En∧tmI h
 r:=fun (x,e)=> .tup [.t (.sl (x.map qA)),.t (.int .i64 e)]
 R:=fun (s,h) (x,e)=>(x,e)=((qF9 s h).1.nm,(qF9 s h).2)
theorem zAu {g:EF qGr}{s:St}{h:Int}(hp:s.En∧tmI h) : ∃ (x:List UInt8) (e:Int),((x,e)=((qF9 s h).1.nm,(qF9 s h).2))∧qGr.fs g [.t (stA s),.t (.int .i64 h)] []=some (.tup [.t (.sl (x.map qA)),.t (.int .i64 e)],[]):=by
 obtain⟨y,h1,h2⟩:=qGr.eq g (s,h) hp;exact⟨y.1,y.2,h1,h2⟩
theorem zQt {s:St}{h:Int}(x:List UInt8)(e:Int)(hR:(x,e)=((qF9 s h).1.nm,(qF9 s h).2))(hV:vv = .tup [.t (.sl (x.map qA)),.t (.int .i64 e)])(hO:oo=[]):qGr.K (s,h) vv oo:=⟨(x,e),hR,hV,hO⟩
def qIn:ECt where
 α:=St×Int
 β:=List UInt8×Int
 aS:=fun (s,h)=>[.t (stA s),.t (.int .i64 h)]
 pre:=fun (s,h)=>s.En∧tmI h
 r:=fun (x,e)=> .tup [.t (.sl (x.map qA)),.t (.int .i64 e)]
 R:=fun (s,h) (x,e)=>(x,e)=((qF9 s h).1.va,(qF9 s h).2)
theorem zVo {g:EF qIn}{s:St}{h:Int}(hp:s.En∧tmI h) : ∃ (x:List UInt8) (e:Int),((x,e)=((qF9 s h).1.va,(qF9 s h).2))∧qIn.fs g [.t (stA s),.t (.int .i64 h)] []=some (.tup [.t (.sl (x.map qA)),.t (.int .i64 e)],[]):=by
 obtain⟨y,h1,h2⟩:=qIn.eq g (s,h) hp;exact⟨y.1,y.2,h1,h2⟩
theorem zQw {s:St}{h:Int}(x:List UInt8)(e:Int)(hR:(x,e)=((qF9 s h).1.va,(qF9 s h).2))(hV:vv = .tup [.t (.sl (x.map qA)),.t (.int .i64 e)])(hO:oo=[]):qIn.K (s,h) vv oo:=⟨(x,e),hR,hV,hO⟩
def qLh:ECt where
 α:=St×Int
 β:=List UInt8×Int
 aS:=fun (s,h)=>[.t (stA s),.t (.int .i64 h)]
 pre:=fun (s,h)=>s.En∧tmI h
 r:=fun (x,e)=> .tup [.t (.sl (x.map qA)),.t (.int .i64 e)]
 R:=fun (s,h) (x,e)=>(x,e)=((qF9 s h).1.po,(qF9 s h).2)
theorem jDp {g:EF qLh}{s:St}{h:Int}(hp:s.En∧tmI h) : ∃ (x:List UInt8) (e:Int),((x,e)=((qF9 s h).1.po,(qF9 s h).2))∧qLh.fs g [.t (stA s),.t (.int .i64 h)] []=some (.tup [.t (.sl (x.map qA)),.t (.int .i64 e)],[]):=by
 obtain⟨y,h1,h2⟩:=qLh.eq g (s,h) hp;exact⟨y.1,y.2,h1,h2⟩
theorem zQu {s:St}{h:Int}(x:List UInt8)(e:Int)(hR:(x,e)=((qF9 s h).1.po,(qF9 s h).2))(hV:vv = .tup [.t (.sl (x.map qA)),.t (.int .i64 e)])(hO:oo=[]):qLh.K (s,h) vv oo:=⟨(x,e),hR,hV,hO⟩
def qIm:ECt where
 α:=St×Int
 β:=Bool
 aS:=fun (s,h)=>[.t (stA s),.t (.int .i64 h)]
 pre:=fun (s,h)=>s.En∧tmI h
 r:=fun r'=> .t (.bool r')
 R:=fun (s,h) r'=>r'=(qF9 s h).1.pr
theorem jDq {g:EF qIm}{s:St}{h:Int}(hp:s.En∧tmI h):qIm.fs g [.t (stA s),.t (.int .i64 h)] []=some (.t (.bool ((qF9 s h).1.pr)),[]):=fnQ qIm (s,h) hp
theorem zQv {s:St}{h:Int}(hV:vv = .t (.bool ((qF9 s h).1.pr)))(hO:oo=[]):qIm.K (s,h) vv oo:=⟨_,rfl,hV,hO⟩
theorem qZd {g1}(h1:LkE tab 168 qFb g1)(s:St)(h:Int)(hp:s.En∧tmI h) :
  qEr.1.wp tab gl (qE 0 [.t (stA s),.t (.int .i64 h)]) (qE 0 []) (zA [(4,none),(5,none)] 0 (qGr.K (s,h))):=by
 obtain⟨x,e,q,c⟩:=zGl (g:=g1) hp;simp only[stA,foA] at c;simp(maxSteps:=9^9)(disch:=try exact dS)only[go_sem,qEr,stA,h1,c];first | exact (zQt x.nm e (by rw[←q]) rfl rfl) | exact⟨rfl,(zQt x.nm e (by rw[←q]) rfl rfl)⟩ | exact⟨rfl,rfl,(zQt x.nm e (by rw[←q]) rfl rfl)⟩ | exact⟨rfl,rfl,rfl,(zQt x.nm e (by rw[←q]) rfl rfl)⟩
theorem qV4 {g1}(h1:LkE tab 168 qFb g1)(s:St)(h:Int)(hp:s.En∧tmI h) :
  qDc.1.wp tab gl (qE 0 [.t (stA s),.t (.int .i64 h)]) (qE 0 []) (zA [(4,none),(5,none)] 0 (qIn.K (s,h))):=by
 obtain⟨x,e,q,c⟩:=zGl (g:=g1) hp;simp only[stA,foA] at c;simp(maxSteps:=9^9)(disch:=try exact dS)only[go_sem,qDc,stA,h1,c];first | exact (zQw x.va e (by rw[←q]) rfl rfl) | exact⟨rfl,(zQw x.va e (by rw[←q]) rfl rfl)⟩ | exact⟨rfl,rfl,(zQw x.va e (by rw[←q]) rfl rfl)⟩ | exact⟨rfl,rfl,rfl,(zQw x.va e (by rw[←q]) rfl rfl)⟩
theorem qU1 {g1}(h1:LkE tab 168 qFb g1)(s:St)(h:Int)(hp:s.En∧tmI h) :
  qB8.1.wp tab gl (qE 0 [.t (stA s),.t (.int .i64 h)]) (qE 0 []) (zA [(4,none),(5,none)] 0 (qLh.K (s,h))):=by
 obtain⟨x,e,q,c⟩:=zGl (g:=g1) hp;simp only[stA,foA] at c;simp(maxSteps:=9^9)(disch:=try exact dS)only[go_sem,qB8,stA,h1,c];first | exact (zQu x.po e (by rw[←q]) rfl rfl) | exact⟨rfl,(zQu x.po e (by rw[←q]) rfl rfl)⟩ | exact⟨rfl,rfl,(zQu x.po e (by rw[←q]) rfl rfl)⟩ | exact⟨rfl,rfl,rfl,(zQu x.po e (by rw[←q]) rfl rfl)⟩
theorem qOs {g1}(h1:LkE tab 168 qFb g1)(s:St)(h:Int)(hp:s.En∧tmI h) :
  xC.1.wp tab gl (qE 0 [.t (stA s),.t (.int .i64 h)]) (qE 0 []) (zA [(4,none)] 0 (qIm.K (s,h))):=by
 obtain⟨x,e,q,c⟩:=zGl (g:=g1) hp;simp only[stA,foA] at c;simp(maxSteps:=9^9)(disch:=try exact dS)only[go_sem,xC,stA,h1,c];first | exact (zQv (by rw[←q]) rfl) | exact⟨rfl,(zQv (by rw[←q]) rfl)⟩ | exact⟨rfl,rfl,(zQv (by rw[←q]) rfl)⟩ | exact⟨rfl,rfl,rfl,(zQv (by rw[←q]) rfl)⟩
structure Ckr where
 s:St
 q:Rq
 a:Az
 h:Int
 deriving Inhabited
def ckA (c:Ckr):T:= .agg [.sl (c.s.a.sd.map bsT),.sl (c.s.a.au.map bsT),.sl (c.s.a.en.map qA),.int .i64 c.s.a.act,.int .i64 c.s.a.res,.int .i64 c.s.a.rst,.int .i64 c.s.a.clk,.bool c.s.a.ord,.sl (c.s.a.bk.map wY),.int .i64 c.s.a.u,.int .i64 c.s.a.mc,.sl (c.s.a.ix.map ixA),
 .int .i64 c.s.a.lk.fa,.int .i64 c.s.a.lk.mx,.int .i64 c.s.a.lk.rc,.int .i64 c.s.a.lk.si,.int .i64 c.s.a.lk.cl,.int .i64 c.s.a.lk.pe,.sl (c.s.a.ks.map lvA),
 .bool c.s.on,.bool c.s.off,.sl (c.s.bk.map wY),.int .i64 c.s.u,.int .i64 c.s.clk,.bool c.s.safe,.int .i64 c.s.dr,.sl (c.s.ses.map jP),.sl (c.s.obs.map qBl),.sl (c.s.rl.map iT),.sl (c.s.wl.map iT),
 .int .i64 c.q.co,.sl (c.q.hs.map iT),.sl (c.q.au.map azA),.sl (c.q.ns.map iT),.sl (c.q.bl.map bsT),.int .i64 c.a.s,.sl (c.a.no.map qA),.sl (c.a.va.map qA),.int .i64 c.h]
theorem jKa:EI ckA:=kS (by
 rintro⟨s,q,⟨⟩,_⟩ ⟨t,r,⟨⟩,_⟩ h;have hs:stA s=stA t:=by
  simp only[ckA,xU] at h;simp only[stA,xU];simp only[h,and_self]
 have hq:rqA q=rqA r:=by
  simp only[ckA,xU] at h;simp only[rqA,xU];simp only[h,and_self]
 obtain rfl:=(jA4.1 s t).mp hs;obtain rfl:=(jAb.1 q r).mp hq;simp only[ckA,xU] at h;obtain⟨rfl,rfl,rfl,rfl⟩:=h;rfl)
theorem zYd:EI ckA:=jKa
def qGu:ECt where
 α:=Ckr
 β:=Int
 aS:=fun c=>[.t (ckA c)]
 pre:=fun c=>True
 r:=fun r'=> .t (.int .i64 r')
 R:=fun c r'=>r'=c.s.clk
 inj:=by rintro c c' e _;simp only[xU,qJ7,zYd] at e;obtain rfl:=e;rfl
theorem jEt {g:EF qGu}{c:Ckr}:qGu.fs g [.t (ckA c)] []=some (.t (.int .i64 (c.s.clk)),[]):=fnQ qGu c trivial
theorem zRp {c:Ckr}(hV:vv = .t (.int .i64 (c.s.clk)))(hO:oo=[]):qGu.K c vv oo:=⟨_,rfl,hV,hO⟩
theorem qFm  (c:Ckr) :
  vA.1.wp tab gl (qE 0 [.t (ckA c)]) (qE 0 []) (zA [(2,none)] 0 (qGu.K c)):=by
 simp(maxSteps:=9^9)(disch:=try exact dS)only[go_sem,vA,ckA];first | exact (zRp rfl rfl) | exact⟨rfl,(zRp rfl rfl)⟩ | exact⟨rfl,rfl,(zRp rfl rfl)⟩ | exact⟨rfl,rfl,rfl,(zRp rfl rfl)⟩
def qL8:ECt where
 α:=Int
 β:=Bool
 aS:=fun k=>[.t (.int .i64 k)]
 pre:=fun k=>True
 r:=fun r'=> .t (.bool r')
 R:=fun k r'=>r'=decide (k=24∨k=28∨k=18)
theorem jF1 {g:EF qL8}{k:Int}:qL8.fs g [.t (.int .i64 k)] []=some (.t (.bool (decide (k=24∨k=28∨k=18))),[]):=fnQ qL8 k trivial
theorem jLn {k:Int}(hV:vv = .t (.bool (decide (k=24∨k=28∨k=18))))(hO:oo=[]):qL8.K k vv oo:=⟨_,rfl,hV,hO⟩
theorem qQb  (k:Int) :
  xX.1.wp tab gl (qE 0 [.t (.int .i64 k)]) (qE 0 []) (zA [(2,none)] 0 (qL8.K k)):=by
 simp +contextual(maxSteps:=9^9)(disch:=try exact dS)only[go_sem,xX,↓qPx,↓qTf,zXu]
 (repeat' (first | apply And.intro | intro _))<;>(try rfl)
 all_goals (refine jLn ?_ rfl;simp_all<;>rfl)
def qJc:ECt where
 α:=Int×Int×Int
 β:=Int
 aS:=fun (k,r,w)=>[.t (.int .i64 k),.t (.int .i64 r),.t (.int .i64 w)]
 pre:=fun (k,r,w)=>k=25∨k=13∨k=21∨k=9
 r:=fun r'=> .t (.int .i64 r')
 R:=fun (k,r,w) r'=>r'=w
theorem jIw {g:EF qJc}{k r w:Int}(hp:k=25∨k=13∨k=21∨k=9):qJc.fs g [.t (.int .i64 k),.t (.int .i64 r),.t (.int .i64 w)] []=some (.t (.int .i64 (w)),[]):=fnQ qJc (k,r,w) hp
theorem zUp {k r w:Int}(hV:vv = .t (.int .i64 (w)))(hO:oo=[]):qJc.K (k,r,w) vv oo:=⟨_,rfl,hV,hO⟩
theorem qQc {g1}(h1:LkE tab 250 qL8 g1)(k r w:Int)(hp:k=25∨k=13∨k=21∨k=9) :
  xY.1.wp tab gl (qE 0 [.t (.int .i64 k),.t (.int .i64 r),.t (.int .i64 w)]) (qE 0 []) (zA [(6,none)] 0 (qJc.K (k,r,w))):=by
 have e := @jF1 g1 k;rw[show decide (k=24∨k=28∨k=18)=false by simp;omega] at e;simp(maxSteps:=9^9)(disch:=try exact dS)only[go_sem,xY,h1,e];first | exact (zUp rfl rfl) | exact⟨rfl,(zUp rfl rfl)⟩ | exact⟨rfl,rfl,(zUp rfl rfl)⟩ | exact⟨rfl,rfl,rfl,(zUp rfl rfl)⟩
def qIt:ECt where
 α:=Ckr×Int
 β:=Int×Bool
 aS:=fun (c,h)=>[.t (ckA c),.t (.int .i64 h)]
 pre:=fun (c,h)=>c.s.En∧tmI h
 r:=fun (n,b)=> .tup [.t (.int .i64 n),.t (.bool b)]
 R:=fun (c,h) (n,b)=>(n,b)=if (qRf c.s h).2=0 then (48,true) else (0,false)
 inj:=by rintro⟨c,h⟩ ⟨c',h'⟩ e _;simp only[xU,qJ7,zYd] at e;obtain⟨rfl,rfl⟩:=e;rfl
theorem zMc {g:EF qIt}{c:Ckr}{h:Int}(hp:c.s.En∧tmI h) : ∃ (n:Int) (b:Bool),((n,b)=if (qRf c.s h).2=0 then (48,true) else (0,false))∧qIt.fs g [.t (ckA c),.t (.int .i64 h)] []=some (.tup [.t (.int .i64 n),.t (.bool b)],[]):=by
 obtain⟨y,h1,h2⟩:=qIt.eq g (c,h) hp;exact⟨y.1,y.2,h1,h2⟩
theorem zA7 {c:Ckr}{h:Int}(n:Int)(b:Bool)(hR:(n,b)=if (qRf c.s h).2=0 then (48,true) else (0,false))(hV:vv = .tup [.t (.int .i64 n),.t (.bool b)])(hO:oo=[]):qIt.K (c,h) vv oo:=⟨(n,b),hR,hV,hO⟩
theorem qF6 {g1}(h1:LkE tab 136 qDr g1)(c:Ckr)(h:Int)(hp:c.s.En∧tmI h) :
  yD.1.wp tab gl (qE 0 [.t (ckA c),.t (.int .i64 h)]) (qE 0 []) (zA [(4,none),(5,none)] 0 (qIt.K (c,h))):=by
 obtain⟨he,ht⟩:=hp;obtain⟨i,ei,q1,c1⟩:=zAw (g:=g1) (s:=c.s) (h:=h) ⟨(qSh he).1,(qSh he).2,ht⟩;have k1:(qRf c.s h).2=ei:=by rw[←q1]
 by_cases d1:ei=0
 ·subst d1;obtain⟨rfl,hi,w,d,hix,hd⟩:=zAv he.ix k1;have ki:i=0:=by rw[←hi,←q1]
  subst ki;simp only[stA,hix,ixA,cnI,mcn] at c1;simp(maxSteps:=9^9)(disch:=try exact dS)only[go_sem,yD,ckA,hix,ixA,cnI,h1,c1,mcn];first | exact (zA7 48 true (by rw[if_pos k1]) rfl rfl) | exact⟨rfl,(zA7 48 true (by rw[if_pos k1]) rfl rfl)⟩ | exact⟨rfl,rfl,(zA7 48 true (by rw[if_pos k1]) rfl rfl)⟩ | exact⟨rfl,rfl,rfl,(zA7 48 true (by rw[if_pos k1]) rfl rfl)⟩
 ·simp only[stA] at c1;simp(maxSteps:=9^9)(disch:=try exact dS)only[go_sem,yD,ckA,h1,c1,d1];first | exact (zA7 0 false (by rw[if_neg (by rw[k1];exact d1)]) rfl rfl) | exact⟨rfl,(zA7 0 false (by rw[if_neg (by rw[k1];exact d1)]) rfl rfl)⟩ | exact⟨rfl,rfl,(zA7 0 false (by rw[if_neg (by rw[k1];exact d1)]) rfl rfl)⟩ | exact⟨rfl,rfl,rfl,(zA7 0 false (by rw[if_neg (by rw[k1];exact d1)]) rfl rfl)⟩
def qLs:ECt where
 α:=Lk×Int
 β:=Lk
 aS:=fun (l,n)=>[.t (lkA l),.t (.int .i64 n)]
 pre:=fun (l,n)=>l.fa=0
 r:=fun r'=> .t (lkA r')
 R:=fun (l,n) r'=>r' = { l with si:=n }
theorem jEx {g:EF qLs}{l:Lk}{n:Int}(hp:l.fa=0):qLs.fs g [.t (lkA l),.t (.int .i64 n)] []=some (.t (lkA ({ l with si:=n })),[]):=fnQ qLs (l,n) hp
theorem zA9 {l:Lk}{n:Int}(hV:vv = .t (lkA ({ l with si:=n })))(hO:oo=[]):qLs.K (l,n) vv oo:=⟨_,rfl,hV,hO⟩
theorem qQh  (l:Lk)(n:Int)(hp:l.fa=0) :
  wT.1.wp tab gl (qE 0 [.t (lkA l),.t (.int .i64 n)]) (qE 0 []) (zA [(4,(some (6,true)))] 0 (qLs.K (l,n))):=by
 obtain⟨fa,mx,rc,si,cl,pe⟩:=l;simp only at hp;subst hp;by_cases c:n<si
 ·simp(maxSteps:=9^9)(disch:=try exact dS)only[go_sem,wT,lkA,c];first | exact (zA9 rfl rfl) | exact⟨rfl,(zA9 rfl rfl)⟩ | exact⟨rfl,rfl,(zA9 rfl rfl)⟩ | exact⟨rfl,rfl,rfl,(zA9 rfl rfl)⟩
 ·simp(maxSteps:=9^9)(disch:=try exact dS)only[go_sem,wT,lkA,c];first | exact (zA9 rfl rfl) | exact⟨rfl,(zA9 rfl rfl)⟩ | exact⟨rfl,rfl,(zA9 rfl rfl)⟩ | exact⟨rfl,rfl,rfl,(zA9 rfl rfl)⟩
def qLt:ECt where
 α:=Lk×Int
 β:=Bool
 aS:=fun (l,n)=>[.t (lkA l),.t (.int .i64 n)]
 pre:=fun (l,n)=>l.fa=0∧1≤l.mx
 r:=fun r'=> .t (.bool r')
 R:=fun (l,n) r'=>r'=false
theorem jEy {g:EF qLt}{l:Lk}{n:Int}(hp:l.fa=0∧1≤l.mx):qLt.fs g [.t (lkA l),.t (.int .i64 n)] []=some (.t (.bool (false)),[]):=fnQ qLt (l,n) hp
theorem zRw {l:Lk}{n:Int}(hV:vv = .t (.bool (false)))(hO:oo=[]):qLt.K (l,n) vv oo:=⟨_,rfl,hV,hO⟩
theorem qRv {g1}(h1:LkE tab 287 qLs g1)(l:Lk)(n:Int)(hp:l.fa=0∧1≤l.mx) :
  qA4.1.wp tab gl (qE 0 [.t (lkA l),.t (.int .i64 n)]) (qE 0 []) (zA [(4,none)] 0 (qLt.K (l,n))):=by
 obtain⟨h0,h1'⟩:=hp;have e:=jEx (g:=g1) (l:=l) (n:=n) h0;obtain⟨fa,mx,rc,si,cl,pe⟩:=l;simp only at h0 h1';subst h0;simp only[lkA] at e;simp(maxSteps:=9^9)(disch:=try exact dS)only[go_sem,qA4,lkA,h1,e];first | exact (zRw rfl rfl) | exact⟨rfl,(zRw rfl rfl)⟩ | exact⟨rfl,rfl,(zRw rfl rfl)⟩ | exact⟨rfl,rfl,rfl,(zRw rfl rfl)⟩
def vlP (c:Ckr):Prop:=c.s.En∧(0≤c.h∧c.h≤2)∧((c.q=qC .df∧c.h=1)∨(c.q=qC .ic∧c.h=1∧(qRf c.s 257).2=0) ∨ ∃ po au da,c.q=qC (.pr c.h po au da))∧c.a=⟨0,[],[]⟩
theorem jCe:qNk .and .i64 48 .i64 32=some (.int .i64 32):=rfl
def qLp:ECt where
 α:=Ckr
 β:=Bool
 aS:=fun c=>[.t (ckA c)]
 pre:=fun c=>vlP c
 r:=fun b=> .t (.bool b)
 R:=fun c b=>b=false
 inj:=by rintro c c' e _;simp only[xU,qJ7,zYd] at e;obtain rfl:=e;rfl
theorem jEu {g:EF qLp}{c:Ckr}(hp:vlP c) : ∃ (b:Bool),(b=false)∧qLp.fs g [.t (ckA c)] []=some (.t (.bool b),[]):=qLp.eq g c hp
theorem qJ9 {c:Ckr}(b:Bool)(hR:b=false)(hV:vv = .t (.bool b))(hO:oo=[]):qLp.K c vv oo:=⟨b,hR,hV,hO⟩
theorem qCl {g1}(h1:LkE tab 135 qFc g1){g2}(h2:LkE tab 194 qIt g2){g3}(h3:LkE tab 195 qJc g3)(c:Ckr)(hp:vlP c) :
  zH.1.wp tab gl (qE 0 [.t (ckA c)]) (qE 0 []) (zA [(2,none)] 0 (qLp.K c)):=by
 obtain⟨he,hh,hq,ha⟩:=hp;obtain⟨x,ex,q2,c2⟩:=zGm (g:=g1) (s:=c.s) (h:=c.h) ⟨he.obs.1,oM⟩;obtain⟨n,b,q3,c3⟩:=zMc (g:=g2) (c:=c) (h:=c.h) ⟨he,oM⟩;have k2:ex=7:=by rw[xV,if_pos oM] at q2;cases q2;rfl
 have k3:b=false:=by
  by_cases c0:(qRf c.s c.h).2=0
  ·have:=(zAv he.ix c0).1;omega
  ·rw[if_neg c0] at q3;cases q3;rfl
 subst k2 k3;rcases hq with⟨hq,hh1⟩ | ⟨hq,h1',hx⟩ | ⟨po,au,da,hq⟩
 ·simp only[stA,qBl,ckA,hq,ha,qC,azA,mcn,iT,qG] at c2 c3;by_cases ch:c.h=1
  ·simp only[ch] at c2 c3;simp(maxSteps:=9^9)(disch:=try exact dS)only[go_sem,zH,ckA,qBl,hq,ha,ch,qC,azA,mcn,iT,qG,h1,h2,c2,c3];first | exact (qJ9 false rfl rfl rfl) | exact⟨rfl,(qJ9 false rfl rfl rfl)⟩ | exact⟨rfl,rfl,(qJ9 false rfl rfl rfl)⟩ | exact⟨rfl,rfl,rfl,(qJ9 false rfl rfl rfl)⟩
  ·exact absurd hh1 ch
 ·obtain⟨n',b',q4,c4⟩:=zMc (g:=g2) (c:=c) (h:=257) ⟨he,oM⟩;rw[if_pos hx] at q4;cases q4;have c5:=jIw (g:=g3) (k:=25) (r:=16) (w:=32) (.inl rfl);simp only[stA,qBl,ckA,hq,h1',ha,qC,azA,mcn,iT,qG] at c2 c3 c4;simp(maxSteps:=9^9)(disch:=try exact dS)only[go_sem,zH,ckA,qBl,hq,h1',ha,qC,azA,mcn,iT,qG,h1,h2,h3,c2,c3,c4,c5,jCe];first | exact (qJ9 false rfl rfl rfl) | exact⟨rfl,(qJ9 false rfl rfl rfl)⟩ | exact⟨rfl,rfl,(qJ9 false rfl rfl rfl)⟩ | exact⟨rfl,rfl,rfl,(qJ9 false rfl rfl rfl)⟩
 ·simp only[stA,qBl,ckA,hq,ha,qC,azA,mcn,iT,qG] at c2 c3;by_cases ch:c.h=1
  ·simp only[ch] at c2 c3;simp(maxSteps:=9^9)(disch:=try exact dS)only[go_sem,zH,ckA,qBl,hq,ha,ch,qC,azA,mcn,iT,qG,h1,h2,c2,c3];first | exact (qJ9 false rfl rfl rfl) | exact⟨rfl,(qJ9 false rfl rfl rfl)⟩ | exact⟨rfl,rfl,(qJ9 false rfl rfl rfl)⟩ | exact⟨rfl,rfl,rfl,(qJ9 false rfl rfl rfl)⟩
  ·have ch':(c.h==1)=false:=by simpa using ch
   simp(maxSteps:=9^9)(disch:=try exact dS)only[go_sem,zH,ckA,qBl,hq,ha,ch,ch',qC,azA,mcn,iT,qG,h1,h2,c2,c3];first | exact (qJ9 false rfl rfl rfl) | exact⟨rfl,(qJ9 false rfl rfl rfl)⟩ | exact⟨rfl,rfl,(qJ9 false rfl rfl rfl)⟩ | exact⟨rfl,rfl,rfl,(qJ9 false rfl rfl rfl)⟩
def qIv:ECt where
 α:=Ckr
 β:=Bool
 aS:=fun c=>[.t (ckA c)]
 pre:=fun c=>c.s.En∧(tmI c.h∧c.h≠3)∧c.s.a.lk.fa=0∧1≤c.s.a.lk.mx
 r:=fun b=> .t (.bool b)
 R:=fun c b=>b=false
 inj:=by rintro c c' e _;simp only[xU,qJ7,zYd] at e;obtain rfl:=e;rfl
theorem zV1 {g:EF qIv}{c:Ckr}(hp:c.s.En∧(tmI c.h∧c.h≠3)∧c.s.a.lk.fa=0∧1≤c.s.a.lk.mx) : ∃ (b:Bool),(b=false)∧qIv.fs g [.t (ckA c)] []=some (.t (.bool b),[]):=qIv.eq g c hp
theorem zRr {c:Ckr}(b:Bool)(hR:b=false)(hV:vv = .t (.bool b))(hO:oo=[]):qIv.K c vv oo:=⟨b,hR,hV,hO⟩
theorem qD3 {g1}(h1:LkE tab 196 qGu g1){g3}(h3:LkE tab 245 qIm g3){g4}(h4:LkE tab 246 qLt g4)(c:Ckr)(hp:c.s.En∧(tmI c.h∧c.h≠3)∧c.s.a.lk.fa=0∧1≤c.s.a.lk.mx) :
  yU.1.wp tab gl (qE 0 [.t (ckA c)]) (qE 0 []) (zA [(2,none)] 0 (qIv.K c)):=by
 obtain⟨he,⟨ht,h3'⟩,hf,hm⟩:=hp;have c2:=jEy (g:=g4) (l:=c.s.a.lk) (n:=c.s.clk) ⟨hf,hm⟩;have c3:=jEt (g:=g1) (c:=c);have c1:=jDq (g:=g3) (s:=c.s) (h:=c.h) ⟨he,ht⟩;cases hP:(qF9 c.s c.h).1.pr;all_goals
  simp only[hP,stA,ckA,lkA] at c1 c2 c3;simp(maxSteps:=9^9)(disch:=try exact dS)only[go_sem,yU,ckA,lkA,h1,h3,h4,c1,c2,c3,h3'];first | exact (zRr false rfl rfl rfl) | exact⟨rfl,(zRr false rfl rfl rfl)⟩ | exact⟨rfl,rfl,(zRr false rfl rfl rfl)⟩ | exact⟨rfl,rfl,rfl,(zRr false rfl rfl rfl)⟩
def qIu:ECt where
 α:=Ckr×List UInt8×List UInt8
 β:=St×Int
 aS:=fun (c,a,b)=>[.t (ckA c),.t (.sl (a.map qA)),.t (.sl (b.map qA))]
 pre:=fun (c,a,b)=>a=b∧a.length≤1000
 r:=fun (t,e)=> .tup [.t (stA t),.t (.int .i64 e)]
 R:=fun (c,a,b) (t,e)=>t=c.s∧e=0
 inj:=by rintro⟨c,a,b⟩ ⟨c',a',b'⟩ e _;simp only[xU,qJ7,zYd] at e;obtain⟨rfl,rfl,rfl⟩:=e;rfl
theorem zV0 {g:EF qIu}{c:Ckr}{a b:List UInt8}(hp:a=b∧a.length≤1000) : ∃ (t:St) (e:Int),(t=c.s∧e=0)∧qIu.fs g [.t (ckA c),.t (.sl (a.map qA)),.t (.sl (b.map qA))] []=some (.tup [.t (stA t),.t (.int .i64 e)],[]):=by
 obtain⟨y,h1,h2⟩:=qIu.eq g (c,a,b) hp;exact⟨y.1,y.2,h1,h2⟩
theorem zRq {c:Ckr}{a b:List UInt8}(t:St)(e:Int)(hR:t=c.s∧e=0)(hV:vv = .tup [.t (stA t),.t (.int .i64 e)])(hO:oo=[]):qIu.K (c,a,b) vv oo:=⟨(t,e),hR,hV,hO⟩
theorem qD0 (h1:LkC tab 247 qPm){g2}(h2:LkE tab 245 qIm g2){g3}(h3:LkE tab 196 qGu g3)(c:Ckr)(a b:List UInt8)(hp:a=b∧a.length≤1000) :
  yM.1.wp tab gl (qE 0 [.t (ckA c),.t (.sl (a.map qA)),.t (.sl (b.map qA))]) (qE 0 []) (zA [(6,(some (30,true))),(7,none)] 0 (qIu.K (c,a,b))):=by
 obtain⟨rfl,hl⟩:=hp;have e:=zNv (a:=a) (b:=a) ⟨oM,oM⟩;simp only[decide_true,beq_self_eq_true] at e;simp(maxSteps:=9^9)(disch:=try exact dS)only[go_sem,yM,ckA,h1,e];first | exact (zRq c.s 0 ⟨rfl,rfl⟩ rfl rfl) | exact⟨rfl,(zRq c.s 0 ⟨rfl,rfl⟩ rfl rfl)⟩ | exact⟨rfl,rfl,(zRq c.s 0 ⟨rfl,rfl⟩ rfl rfl)⟩ | exact⟨rfl,rfl,rfl,(zRq c.s 0 ⟨rfl,rfl⟩ rfl rfl)⟩
def qLr:ECt where
 α:=Ckr×Ses
 β:=St×Int
 aS:=fun (c,x)=>[.t (ckA c),.t (jP x)]
 pre:=fun (c,x)=>(vlP c∧c.s.a.lk.fa=0∧1≤c.s.a.lk.mx)∧x=qBw
 r:=fun (t,e)=> .tup [.t (stA t),.t (.int .i64 e)]
 R:=fun (c,x) (t,e)=>t=c.s∧e=0
 inj:=by rintro⟨c,x⟩ ⟨c',x'⟩ e _;simp only[xU,qJ7,zYd] at e;obtain⟨rfl,rfl⟩:=e;rfl
theorem jEw {g:EF qLr}{c:Ckr}{x:Ses}(hp:(vlP c∧c.s.a.lk.fa=0∧1≤c.s.a.lk.mx)∧x=qBw) : ∃ (t:St) (e:Int),(t=c.s∧e=0)∧qLr.fs g [.t (ckA c),.t (jP x)] []=some (.tup [.t (stA t),.t (.int .i64 e)],[]):=by
 obtain⟨y,h1,h2⟩:=qLr.eq g (c,x) hp;exact⟨y.1,y.2,h1,h2⟩
theorem zRs {c:Ckr}{x:Ses}(t:St)(e:Int)(hR:t=c.s∧e=0)(hV:vv = .tup [.t (stA t),.t (.int .i64 e)])(hO:oo=[]):qLr.K (c,x) vv oo:=⟨(t,e),hR,hV,hO⟩
theorem qDz {g1}(h1:LkE tab 187 qLp g1){g2}(h2:LkE tab 188 qIv g2){g3}(h3:LkE tab 189 qIn g3){g4}(h4:LkE tab 190 qIu g4){g5}(h5:LkE tab 134 qGr g5)(c:Ckr)(x:Ses)(hp:(vlP c∧c.s.a.lk.fa=0∧1≤c.s.a.lk.mx)∧x=qBw) :
  yL.1.wp tab gl (qE 0 [.t (ckA c),.t (jP x)]) (qE 0 []) (zA [(4,(some (30,true))),(5,none)] 0 (qLr.K (c,x))):=by
 obtain⟨⟨hV,hf,hm⟩,rfl⟩:=hp;have hV':=hV;obtain⟨he,hh,hq,ha⟩:=hV';obtain⟨b,rfl,c1⟩:=jEu (g:=g1) hV;obtain⟨b,rfl,c2⟩:=zV1 (g:=g2) (c:=c) ⟨he,⟨oM,oM⟩,hf,hm⟩;obtain⟨v,ev,q3,c3⟩:=zVo (g:=g3) (s:=c.s) (h:=c.h) ⟨he,oM⟩;rw[qF9,if_pos oM] at q3;cases q3;obtain⟨t,e,⟨rfl,rfl⟩,c4⟩:=zV0 (g:=g4) (c:=c) (a:=[]) (b:=[]) ⟨rfl,sM⟩;simp only[stA,ckA,ha,List.map_nil] at c1 c2 c3 c4;simp(maxSteps:=9^9)(disch:=try exact dS)only[go_sem,yL,ckA,jP,qBw,ha,h1,h2,h3,h4,c1,c2,c3,c4,List.map_nil];first | exact (zRs c.s 0 ⟨rfl,rfl⟩ rfl rfl) | exact⟨rfl,(zRs c.s 0 ⟨rfl,rfl⟩ rfl rfl)⟩ | exact⟨rfl,rfl,(zRs c.s 0 ⟨rfl,rfl⟩ rfl rfl)⟩ | exact⟨rfl,rfl,rfl,(zRs c.s 0 ⟨rfl,rfl⟩ rfl rfl)⟩
structure plP (c:Ckr) (x:Ses) (lo:Int):Prop where
 en:c.s.En
 lk:c.s.a.lk.fa=0∧1≤c.s.a.lk.mx
 h:tmI c.h∧(xV c.s c.h).2=0
 q:c.q.co=13
 lo:lo=0∧x.lo%2=1
 dl:x.dl=0
 cm:x.cm=0∨x.cm=13
 up:x.up = -1∨x.up=c.s.u
 u:0≤c.s.u
 dg:x.dg.length=32
 av:x.av=true→c.a.va=(xV c.s c.h).1.s.au
theorem zVp {s:St}{h:Int}(h0:(xV s h).2=0):512≤h∧h≤514:=by
 unfold xV at h0;split at h0
 ·cases h0
 ·omega
theorem zLu {s:St}(e:s.En){h:Int}(h0:(xV s h).2=0):qF9 s h=(⟨zG0 (xV s h).1.p.po (xV s h).1.p.un,(xV s h).1.s.au,(xV s h).1.p.po,true⟩,0):=by
 have hg:=zVp h0;rw[qF9,if_neg oM,if_neg (fun c=>by have:=(zAv e.ix c).1;omega),if_pos h0]
theorem jR6 {x:Int}(h:x%2=1):qNk .and .i64 x .i64 1=some (.int .i64 1):=by rw[jRf,h]
def qIw:ECt where
 α:=Ckr×Ses×Int
 β:=St×Int
 aS:=fun (c,x,lo)=>[.t (ckA c),.t (jP x),.t (.int .i64 lo)]
 pre:=fun (c,x,lo)=>plP c x lo
 r:=fun (t,e)=> .tup [.t (stA t),.t (.int .i64 e)]
 R:=fun (c,x,lo) (t,e)=>t=c.s∧e=if x.dg=(xV c.s c.h).1.p.po then 0 else 11
 inj:=by rintro⟨c,x,lo⟩ ⟨c',x',lo'⟩ e _;simp only[xU,qJ7,zYd] at e;obtain⟨rfl,rfl,rfl⟩:=e;rfl
theorem jEv {g:EF qIw}{c:Ckr}{x:Ses}{lo:Int}(hp:plP c x lo) : ∃ (t:St) (e:Int),(t=c.s∧e=if x.dg=(xV c.s c.h).1.p.po then 0 else 11)∧qIw.fs g [.t (ckA c),.t (jP x),.t (.int .i64 lo)] []=some (.tup [.t (stA t),.t (.int .i64 e)],[]):=by
 obtain⟨y,h1,h2⟩:=qIw.eq g (c,x,lo) hp;exact⟨y.1,y.2,h1,h2⟩
theorem jK3 {c:Ckr}{x:Ses}{lo:Int}(t:St)(e:Int)(hR:t=c.s∧e=if x.dg=(xV c.s c.h).1.p.po then 0 else 11)(hV:vv = .tup [.t (stA t),.t (.int .i64 e)])(hO:oo=[]):qIw.K (c,x,lo) vv oo:=⟨(t,e),hR,hV,hO⟩
theorem qC1 {g1}(h1:LkE tab 193 qLh g1){g2}(h2:LkE tab 194 qIt g2){g3}(h3:LkE tab 195 qJc g3){g4}(h4:LkE tab 196 qGu g4){g5}(h5:LkE tab 188 qIv g5){g6}(h6:LkE tab 189 qIn g6){g7}(h7:LkE tab 190 qIu g7)(c:Ckr)(x:Ses)(lo:Int)(hp:plP c x lo) :
  zP.1.wp tab gl (qE 0 [.t (ckA c),.t (jP x),.t (.int .i64 lo)]) (qE 0 []) (zA [(6,(some (30,true))),(7,none)] 0 (qIw.K (c,x,lo))):=by
 obtain⟨he,⟨hf,hm⟩,⟨ht,ho⟩,hq,⟨rfl,hlo⟩,hdl,hcm,hup,hu,hdg,hav⟩:=hp;obtain⟨po,ep,q1,c1⟩:=jDp (g:=g1) (s:=c.s) (h:=c.h) ⟨he,ht⟩;obtain⟨n,b,q2,c2⟩:=zMc (g:=g2) (c:=c) (h:=c.h) ⟨he,ht⟩;have hg:=zVp ho;rw[if_neg (fun d=>by have:=(zAv he.ix d).1;omega)] at q2;cases q2;rw[zLu he ho] at q1;cases q1;obtain⟨po,un,au,sd,da,hh,hx,l1,l2,l3,l4⟩:=zK9 he.obs ho;obtain⟨v,ev,q7,c7⟩:=zVo (g:=g6) (s:=c.s) (h:=c.h) ⟨he,ht⟩;rw[zLu he ho] at q7;cases q7;obtain⟨b,rfl,c5⟩:=zV1 (g:=g5) (c:=c) ⟨he,⟨ht,oM⟩,hf,hm⟩;rw[hx] at hav;simp only[hx] at c1 c7 ⊢;obtain⟨kd,no,dg,up,sl,cm,dl,av⟩:=x;simp only at hlo hdl hcm hup hdg hav;subst hdl;have c9 := @jR6 sl hlo;have hK : ∀ e,e=(if dg=po then 0 else 11)→qIw.K (c,⟨kd,no,dg,up,sl,cm,0,av⟩,0) (.tup [.t (stA c.s),.t (.int .i64 e)]) []:=fun e h=>jK3 c.s e ⟨rfl,by rw[h,hx]⟩ rfl rfl
 have hc:cm=0∨(cm=13 ∧ ¬ cm=0):=oM;have hU:up = -1∨(up=c.s.u ∧ ¬ up = -1):=oM;have hu1 : ¬ c.s.u = -1:=oM;have hs0:sl.fdiv 1=sl:=Int.fdiv_one sl;obtain⟨t8,e8,⟨q8,q8'⟩,c8⟩:=zV0 (g:=g7) (c:=c) (a:=if av=true then c.a.va else []) (b:=if av=true then au else []) ⟨by cases av;rfl;exact hav rfl,by cases av<;>simp;rw[hav rfl];omega⟩;subst q8 q8';simp only[stA,ckA,hq] at c1 c2 c5 c7 c8 hK;have hd':(dg==po)=decide (dg=po):=by by_cases h:dg=po<;>simp[h]
 by_cases hd:dg=po
 ·subst hd;rcases hc with rfl | ⟨rfl,_⟩<;>rcases hU with rfl | ⟨rfl,_⟩;all_goals
   cases av
   ·simp(maxSteps:=9^9)(disch:=try exact dS)only[go_sem,zP,ckA,jP,h1,h2,c1,c2,hdg,hq,c9,hs0,hlo,hu1];first | exact (hK _ (by rw[if_pos rfl])) | exact⟨rfl,(hK _ (by rw[if_pos rfl]))⟩ | exact⟨rfl,rfl,(hK _ (by rw[if_pos rfl]))⟩ | exact⟨rfl,rfl,rfl,(hK _ (by rw[if_pos rfl]))⟩
   ·simp only[if_true] at c8;simp(maxSteps:=9^9)(disch:=try exact dS)only[go_sem,zP,ckA,jP,h1,h2,h5,h6,h7,c1,c2,c5,c7,c8,hdg,hq,c9,hs0,hlo,hu1];first | exact (hK _ (by rw[if_pos rfl])) | exact⟨rfl,(hK _ (by rw[if_pos rfl]))⟩ | exact⟨rfl,rfl,(hK _ (by rw[if_pos rfl]))⟩ | exact⟨rfl,rfl,rfl,(hK _ (by rw[if_pos rfl]))⟩
 ·rcases hc with rfl | ⟨rfl,_⟩<;>rcases hU with rfl | ⟨rfl,_⟩;all_goals
   simp(maxSteps:=9^9)(disch:=try exact dS)only[go_sem,zP,ckA,jP,h1,h2,c1,c2,l1,hq,c9,hs0,hlo,hd,hu1];first | exact (hK _ (by rw[if_neg hd])) | exact⟨rfl,(hK _ (by rw[if_neg hd]))⟩ | exact⟨rfl,rfl,(hK _ (by rw[if_neg hd]))⟩ | exact⟨rfl,rfl,rfl,(hK _ (by rw[if_neg hd]))⟩
inductive CkP (s:St):Rq→Prop where
 | vl (q:Rq) (h:Int) (hv:vlP ⟨s,q,⟨0,[],[]⟩,h⟩) (hl:s.a.lk.fa=0∧1≤s.a.lk.mx):CkP s q
 | un (h ss:Int) (v:List UInt8) (hs:s.ses.length=3∧tmI ss∧ss≠0) (hb:(qBm s ss).2.2=true) (hk:(qBm s ss).2.1.kd=2∨(qBm s ss).2.1.kd=3) (hp:(qBm s ss).2.1.kd=2→plP ⟨s,qC (.un h ss v),⟨ss,[],v⟩,h⟩ (qBm s ss).2.1 0):CkP s (qC (.un h ss v))
def ckE (s:St)(h ss:Int):Int:=if (qBm s ss).2.1.kd=2 then (if (qBm s ss).2.1.dg=(xV s h).1.p.po then 0 else 11) else 8
def qLo:ECt where
 α:=St×Int×Rq
 β:=St×Int
 aS:=fun (s,lo,q)=>[.t (stA s),.t (.int .i64 lo),.t (rqA q)]
 pre:=fun (s,lo,q)=>CkP s q∧lo=0
 r:=fun (t,e)=> .tup [.t (stA t),.t (.int .i64 e)]
 R:=fun (s,lo,q) (t,e)=>t=s∧(q.co≠13→e=0) ∧ ∀ h ss v,q=qC (.un h ss v)→e=ckE s h ss
theorem zGs {g:EF qLo}{s:St}{lo:Int}{q:Rq}(hp:CkP s q∧lo=0) : ∃ (t:St) (e:Int),(t=s∧(q.co≠13→e=0) ∧ ∀ h ss v,q=qC (.un h ss v)→e=ckE s h ss)∧qLo.fs g [.t (stA s),.t (.int .i64 lo),.t (rqA q)] []=some (.tup [.t (stA t),.t (.int .i64 e)],[]):=by
 obtain⟨y,h1,h2⟩:=qLo.eq g (s,lo,q) hp;exact⟨y.1,y.2,h1,h2⟩
theorem qRk {s:St}{lo:Int}{q:Rq}(t:St)(e:Int)(hR:t=s∧(q.co≠13→e=0) ∧ ∀ h ss v,q=qC (.un h ss v)→e=ckE s h ss)(hV:vv = .tup [.t (stA t),.t (.int .i64 e)])(hO:oo=[]):qLo.K (s,lo,q) vv oo:=⟨(t,e),hR,hV,hO⟩
theorem vC {h ss h' ss':Int}{v v':List UInt8}(e:qC (.un h ss v)=qC (.un h' ss' v')):h=h'∧ss=ss':=by
 simp only[qC,Rq.mk.injEq,List.cons.injEq,Az.mk.injEq,and_true,true_and] at e;exact⟨e.1,e.2.1⟩
theorem qQa {g1}(h1:LkE tab 147 qLr g1){g2}(h2:LkE tab 146 qFe g2){g3}(h3:LkE tab 148 qIw g3)(s:St)(lo:Int)(q:Rq)(hp:CkP s q∧lo=0) :
  vE.1.wp tab gl (qE 0 [.t (stA s),.t (.int .i64 lo),.t (rqA q)]) (qE 0 []) (zA [(6,(some (30,true))),(7,none)] 0 (qLo.K (s,lo,q))):=by
 obtain⟨hp,rfl⟩:=hp;cases hp with
 | vl _ h hv hl=>
  obtain⟨t,e,⟨ht,rfl⟩,c1⟩:=jEw (g:=g1) ⟨⟨hv,hl⟩,rfl⟩;subst ht;obtain⟨he,hh,hq,_⟩:=hv;simp only at hq;rcases hq with⟨rfl,rfl⟩ | ⟨rfl,rfl,hx⟩ | ⟨po,au,da,rfl⟩;all_goals
   simp only[ckA,jP,qBw,qC,azA,iT,mcn,qG] at c1;simp(maxSteps:=9^9)(disch:=try exact dS)only[go_sem,vE,stA,rqA,jP,qBw,qC,azA,iT,h1,c1,mcn,qG];first | exact (qRk _ 0 ⟨rfl,fun _=>rfl,fun _ _ _ h=>by simp[qC] at h⟩ rfl rfl) | exact⟨rfl,(qRk _ 0 ⟨rfl,fun _=>rfl,fun _ _ _ h=>by simp[qC] at h⟩ rfl rfl)⟩ | exact⟨rfl,rfl,(qRk _ 0 ⟨rfl,fun _=>rfl,fun _ _ _ h=>by simp[qC] at h⟩ rfl rfl)⟩ | exact⟨rfl,rfl,rfl,(qRk _ 0 ⟨rfl,fun _=>rfl,fun _ _ _ h=>by simp[qC] at h⟩ rfl rfl)⟩
 | un h ss v hs hb hk hp=>
  obtain⟨x,ex,q2,c2⟩:=zHb (g:=g2) (s:=s) (h:=ss) ⟨hs.1,hs.2.1⟩;rw[if_pos hb] at q2;cases q2;generalize hx:(qBm s ss).2.1=x at *;have hE:ckE s h ss=if x.kd=2 then (if x.dg=(xV s h).1.p.po then 0 else 11) else 8:=by rw[ckE,hx]
  have hss : ¬ ss=0:=hs.2.2;rcases hk with hk | hk
  ·obtain⟨t,e,⟨rfl,he⟩,c3⟩:=jEv (g:=g3) (hp hk);rw[if_pos hk,←he] at hE;simp only[stA,ckA,jP,hk,qC,azA,iT,mcn] at c2 c3;simp(maxSteps:=9^9)(disch:=try exact dS)only[go_sem,vE,stA,rqA,jP,hk,qC,azA,iT,h2,h3,c2,c3,hss,mcn];first | exact (qRk _ e ⟨rfl,fun h=>absurd rfl h,fun _ _ _ g=>by rw[←(vC g).1,←(vC g).2,hE]⟩ rfl rfl) | exact⟨rfl,(qRk _ e ⟨rfl,fun h=>absurd rfl h,fun _ _ _ g=>by rw[←(vC g).1,←(vC g).2,hE]⟩ rfl rfl)⟩ | exact⟨rfl,rfl,(qRk _ e ⟨rfl,fun h=>absurd rfl h,fun _ _ _ g=>by rw[←(vC g).1,←(vC g).2,hE]⟩ rfl rfl)⟩ | exact⟨rfl,rfl,rfl,(qRk _ e ⟨rfl,fun h=>absurd rfl h,fun _ _ _ g=>by rw[←(vC g).1,←(vC g).2,hE]⟩ rfl rfl)⟩
  ·rw[if_neg oM] at hE;simp only[stA,jP,hk] at c2;simp(maxSteps:=9^9)(disch:=try exact dS)only[go_sem,vE,stA,rqA,jP,hk,qC,azA,iT,h2,c2,hss,mcn];first | exact (qRk _ 8 ⟨rfl,fun h=>absurd rfl h,fun _ _ _ g=>by rw[←(vC g).1,←(vC g).2,hE]⟩ rfl rfl) | exact⟨rfl,(qRk _ 8 ⟨rfl,fun h=>absurd rfl h,fun _ _ _ g=>by rw[←(vC g).1,←(vC g).2,hE]⟩ rfl rfl)⟩ | exact⟨rfl,rfl,(qRk _ 8 ⟨rfl,fun h=>absurd rfl h,fun _ _ _ g=>by rw[←(vC g).1,←(vC g).2,hE]⟩ rfl rfl)⟩ | exact⟨rfl,rfl,rfl,(qRk _ 8 ⟨rfl,fun h=>absurd rfl h,fun _ _ _ g=>by rw[←(vC g).1,←(vC g).2,hE]⟩ rfl rfl)⟩
def zCz (s:St)(ss:Int):St := { s with ses:=s.ses.set (ss-768).toNat qBw }
inductive FiP (s:St):Rq→Prop where
 | df:FiP s (qC .df)
 | ic:FiP s (qC .ic)
 | pr (h:Int) (po au da:List UInt8):FiP s (qC (.pr h po au da))
 | un (h ss:Int) (v:List UInt8) (hs:s.ses.length=3∧tmI ss∧ss≠0) (hb:(qBm s ss).2.2=true) (hk:(qBm s ss).2.1.kd=2):FiP s (qC (.un h ss v))
def qLq:ECt where
 α:=St×Rq
 β:=St×List (List UInt8)
 aS:=fun (s,q)=>[.t (stA s),.t (rqA q)]
 pre:=fun (s,q)=>FiP s q
 r:=fun (t,l)=> .tup [.t (stA t),.t (.sl (l.map bsT))]
 R:=fun (s,q) (t,l)=>l=[]∧(q.co≠13→t=s) ∧ ∀ h ss v,q=qC (.un h ss v)→t=zCz s ss
theorem zGt {g:EF qLq}{s:St}{q:Rq}(hp:FiP s q) : ∃ (t:St) (l:List (List UInt8)),(l=[]∧(q.co≠13→t=s) ∧ ∀ h ss v,q=qC (.un h ss v)→t=zCz s ss)∧qLq.fs g [.t (stA s),.t (rqA q)] []=some (.tup [.t (stA t),.t (.sl (l.map bsT))],[]):=by
 obtain⟨y,h1,h2⟩:=qLq.eq g (s,q) hp;exact⟨y.1,y.2,h1,h2⟩
theorem zA8 {s:St}{q:Rq}(t:St)(l:List (List UInt8))(hR:l=[]∧(q.co≠13→t=s) ∧ ∀ h ss v,q=qC (.un h ss v)→t=zCz s ss)(hV:vv = .tup [.t (stA t),.t (.sl (l.map bsT))])(hO:oo=[]):qLq.K (s,q) vv oo:=⟨(t,l),hR,hV,hO⟩
theorem qOr {g1}(h1:LkE tab 146 qFe g1){g2}(h2:LkE tab 160 qPq g2)(h3:LkC tab 161 zAo){g4}(h4:LkE tab 162 qMb g4)(s:St)(q:Rq)(hp:FiP s q) :
  vV.1.wp tab gl (qE 0 [.t (stA s),.t (rqA q)]) (qE 0 []) (zA [(4,(some (30,true))),(5,none)] 0 (qLq.K (s,q))):=by
 cases hp with
 | un h ss v hs hb hk=>
  obtain⟨x,ex,q1,c1⟩:=zHb (g:=g1) (s:=s) (h:=ss) ⟨hs.1,hs.2.1⟩;obtain⟨t,et,q4,c4⟩:=jGq (g:=g4) (s:=s) (h:=ss) ⟨hs.1,hs.2.1⟩;rw[if_pos hb] at q1 q4;cases q1;cases q4;generalize hx:(qBm s ss).2.1=x at *;have hss : ¬ ss=0:=hs.2.2;simp only[stA,jP,hk] at c1 c4;simp(maxSteps:=9^9)(disch:=try exact dS)only[go_sem,vV,stA,rqA,jP,hk,qC,azA,iT,h1,h4,c1,c4,hss,mcn];first | exact (zA8 (zCz s ss) [] ⟨rfl,fun h=>absurd rfl h,fun _ _ _ g=>by rw[←(vC g).2]⟩ rfl rfl) | exact⟨rfl,(zA8 (zCz s ss) [] ⟨rfl,fun h=>absurd rfl h,fun _ _ _ g=>by rw[←(vC g).2]⟩ rfl rfl)⟩ | exact⟨rfl,rfl,(zA8 (zCz s ss) [] ⟨rfl,fun h=>absurd rfl h,fun _ _ _ g=>by rw[←(vC g).2]⟩ rfl rfl)⟩ | exact⟨rfl,rfl,rfl,(zA8 (zCz s ss) [] ⟨rfl,fun h=>absurd rfl h,fun _ _ _ g=>by rw[←(vC g).2]⟩ rfl rfl)⟩
 | _=>
  simp(maxSteps:=9^9)(disch:=try exact dS)only[go_sem,vV,stA,rqA,qC,azA,iT,mcn,qG];first | exact (zA8 s [] ⟨rfl,fun _=>rfl,fun _ _ _ h=>by simp[qC] at h⟩ rfl rfl) | exact⟨rfl,(zA8 s [] ⟨rfl,fun _=>rfl,fun _ _ _ h=>by simp[qC] at h⟩ rfl rfl)⟩ | exact⟨rfl,rfl,(zA8 s [] ⟨rfl,fun _=>rfl,fun _ _ _ h=>by simp[qC] at h⟩ rfl rfl)⟩ | exact⟨rfl,rfl,rfl,(zA8 s [] ⟨rfl,fun _=>rfl,fun _ _ _ h=>by simp[qC] at h⟩ rfl rfl)⟩
def zF5:Ct where
 α:=List Obj
 aS x:=[.t (.sl (x.map qBl))]
 ins _:=[]
 pre x:=x≠[]∧x.length≤1000
 r x:= .sl 0 0 x.length
 outs x:=[.live 9 ((x.map qBl).map V.t) true false]
 inj:=by
  intro a b h _;simp only[List.cons.injEq,V.t.injEq,T.sl.injEq,and_true,zMu] at h;subst h;exact⟨rfl,rfl⟩
theorem jC7 {x:List Obj}(h:x≠[]∧x.length≤1000):zF5.fs [.t (.sl (x.map qBl))] []=some (.sl 0 0 x.length,[.live 9 ((x.map qBl).map V.t) true false]):=zF5.eq x h
theorem qR8 (x:List Obj)(hx:x≠[]∧x.length≤1000):zX.1.wp tab gl (qE 0 [.t (.sl (x.map qBl))]) (qE 0 []) (kN [] [(2,none)] 0 (fun r o=>r = .sl 0 0 x.length∧o=[.live 9 ((x.map qBl).map V.t) true false])):=by
 match x,hx with
 | [],hx=>exact absurd rfl hx.1
 | a::r,hx=>
  have hz:=jI8 (l:=a::r);simp only[List.length_cons] at hx;simp only[List.map_cons] at hz;simp(maxSteps:=9^9)(disch:=try exact dS)only[go_sem,zX,List.map_cons,hz];exact⟨hz,trivial⟩
def frO:List Obj→Nat→Int
 | [],_ => -1
 | x::r,k=>if x.p.kd=0 then (k:Int) else frO r (k+1)
def qMy (s:St)(x:Obj):St×Int×Int:=if frO s.obs 0 = -1 then (s,0,25) else ({ s with obs:=s.obs.set (frO s.obs 0).toNat x },512+frO s.obs 0,0)
def qL2:ECt where
 α:=St×Obj
 β:=St×Int×Int
 aS:=fun (s,x)=>[.t (stA s),.t (qBl x)]
 pre:=fun (s,x)=>s.obs.length=3
 r:=fun (t,h,e)=> .tup [.t (stA t),.t (.int .i64 h),.t (.int .i64 e)]
 R:=fun (s,x) (t,h,e)=>(t,h,e)=qMy s x
theorem jFh {g:EF qL2}{s:St}{x:Obj}(hp:s.obs.length=3) : ∃ (t:St) (h e:Int),((t,h,e)=qMy s x)∧qL2.fs g [.t (stA s),.t (qBl x)] []=some (.tup [.t (stA t),.t (.int .i64 h),.t (.int .i64 e)],[]):=by
 obtain⟨y,h1,h2⟩:=qL2.eq g (s,x) hp;exact⟨y.1,y.2.1,y.2.2,h1,h2⟩
theorem zBh {s:St}{x:Obj}(t:St)(h e:Int)(hR:(t,h,e)=qMy s x)(hV:vv = .tup [.t (stA t),.t (.int .i64 h),.t (.int .i64 e)])(hO:oo=[]):qL2.K (s,x) vv oo:=⟨(t,h,e),hR,hV,hO⟩
theorem qZk (h1:LkC tab 176 zF5)(s:St)(x:Obj)(hp:s.obs.length=3) :
  qEw.1.wp tab gl (qE 0 [.t (stA s),.t (qBl x)]) (qE 0 []) (zA [(4,(some (30,true))),(5,none),(6,none)] 0 (qL2.K (s,x))):=by
 have e:=jC7 (x:=s.obs) ⟨by intro h;rw[h] at hp;exact absurd hp (by decide),oM⟩;rw[hp] at e;simp(maxSteps:=9^9)(disch:=try exact dS)only[go_sem,qEw,stA,qBl,hp];refine vK (σ:=Nat) (fun j=>j≤3∧frO (s.obs.drop j) j=frO s.obs 0) (fun j=>3-j) (fun j=>[(2,.ref 4096 0 0),(3,.ref 4112 0 0),(4,.ref 4128 0 0),(11,.t (.sl (s.obs.map qBl))),(12,.t (.int .i64 3)),(13,.t (.int .i64 j))]) (fun j=>[(4128,.live 30 [.agg [.nil,.nil,.nil,.t (.int .i64 0),.t (.int .i64 0),.t (.int .i64 0),.t (.int .i64 0),.t (.bool false),.nil,.t (.int .i64 0),.t (.int .i64 0),.nil,.t (.int .i64 0),.t (.int .i64 0),.t (.int .i64 0),.t (.int .i64 0),.t (.int .i64 0),.t (.int .i64 0),.nil,.t (.bool false),.t (.bool false),.nil,.t (.int .i64 0),.t (.int .i64 0),.t (.bool false),.t (.int .i64 0),.nil,.nil,.nil,.nil]] true true),(4112,.live 9 [.t (qBl x)] true true),(4096,.live 30 [.t (stA s)] true true)]) 0 ⟨oM,rfl⟩ (qK.rd id ?_ ?_ rfl) ?_
 ·simp(maxSteps:=9^9)(disch:=try exact dS)only[go_sem,id,stA,qBl,hp]
 ·simp(maxSteps:=9^9)(disch:=try exact dS)only[go_sem,id,stA,qBl]
 rintro j ⟨hj,hF⟩;by_cases hlt:j<3
 ·obtain⟨y,hg,hm,hdr⟩:=zF (l:=s.obs) (k:=j) oM;rw[hdr,frO] at hF;by_cases c3:y.p.kd=0
  ·rw[if_pos c3] at hF;simp(maxSteps:=9^9)(disch:=try exact dS)only[go_sem,stA,qBl,hp,hlt,hg,oms,c3,h1,e,jI8];first | exact (zBh { s with obs:=s.obs.set j x } ((512+j:Nat):Int) 0 (by rw[qMy,←hF,if_neg oM,Int.toNat_natCast,show ((512+j:Nat):Int)=512+(j:Int) by omega]) (by rw[List.take_of_length_le (by simp[hp])];simp only[stA,List.map_set,qBl]) rfl) | exact⟨rfl,(zBh { s with obs:=s.obs.set j x } ((512+j:Nat):Int) 0 (by rw[qMy,←hF,if_neg oM,Int.toNat_natCast,show ((512+j:Nat):Int)=512+(j:Int) by omega]) (by rw[List.take_of_length_le (by simp[hp])];simp only[stA,List.map_set,qBl]) rfl)⟩ | exact⟨rfl,rfl,(zBh { s with obs:=s.obs.set j x } ((512+j:Nat):Int) 0 (by rw[qMy,←hF,if_neg oM,Int.toNat_natCast,show ((512+j:Nat):Int)=512+(j:Int) by omega]) (by rw[List.take_of_length_le (by simp[hp])];simp only[stA,List.map_set,qBl]) rfl)⟩ | exact⟨rfl,rfl,rfl,(zBh { s with obs:=s.obs.set j x } ((512+j:Nat):Int) 0 (by rw[qMy,←hF,if_neg oM,Int.toNat_natCast,show ((512+j:Nat):Int)=512+(j:Int) by omega]) (by rw[List.take_of_length_le (by simp[hp])];simp only[stA,List.map_set,qBl]) rfl)⟩
  ·rw[if_neg c3] at hF;simp(maxSteps:=9^9)(disch:=try exact dS)only[go_sem,stA,qBl,hp,hlt,hg,oms,c3];refine qTy.of (j+1) ⟨oM,hF⟩ oM (qK.rd id ?_ ?_ rfl);all_goals simp(maxSteps:=9^9)(disch:=try exact dS)only[go_sem,id,stA,qBl]
 ·have e3:j=3:=oM;subst e3;rw[List.drop_eq_nil_of_le oM,frO] at hF;simp(maxSteps:=9^9)(disch:=try exact dS)only[go_sem,stA,qBl,hp];first | exact (zBh s 0 25 (by rw[qMy,←hF,if_pos rfl]) rfl rfl) | exact⟨rfl,(zBh s 0 25 (by rw[qMy,←hF,if_pos rfl]) rfl rfl)⟩ | exact⟨rfl,rfl,(zBh s 0 25 (by rw[qMy,←hF,if_pos rfl]) rfl rfl)⟩ | exact⟨rfl,rfl,rfl,(zBh s 0 25 (by rw[qMy,←hF,if_pos rfl]) rfl rfl)⟩
def qL5:ECt where
 α:=St×Rq
 β:=St×Rs
 aS:=fun (s,q)=>[.t (stA s),.t (rqA q)]
 pre:=fun (s,q)=>s.En ∧ ∃ h ss v,q=qC (.un h ss v)∧tmI h∧(xV s h).2=0
 r:=fun (t,r)=> .tup [.t (stA t),.t (rsA r)]
 R:=fun (s,q) (t,r)=>t=s ∧ ∀ h ss v,q=qC (.un h ss v)→r=⟨0,[],[(xV s h).1.s.da],[]⟩
theorem jFk {g:EF qL5}{s:St}{q:Rq}(hp:s.En ∧ ∃ h ss v,q=qC (.un h ss v)∧tmI h∧(xV s h).2=0) : ∃ (t:St) (r:Rs),(t=s ∧ ∀ h ss v,q=qC (.un h ss v)→r=⟨0,[],[(xV s h).1.s.da],[]⟩)∧qL5.fs g [.t (stA s),.t (rqA q)] []=some (.tup [.t (stA t),.t (rsA r)],[]):=by
 obtain⟨y,h1,h2⟩:=qL5.eq g (s,q) hp;exact⟨y.1,y.2,h1,h2⟩
theorem zSf {s:St}{q:Rq}(t:St)(r:Rs)(hR:t=s ∧ ∀ h ss v,q=qC (.un h ss v)→r=⟨0,[],[(xV s h).1.s.da],[]⟩)(hV:vv = .tup [.t (stA t),.t (rsA r)])(hO:oo=[]):qL5.K (s,q) vv oo:=⟨(t,r),hR,hV,hO⟩
def qGw:ECt where
 α:=Rq
 β:=Int
 aS:=fun q=>[.t (rqA q)]
 pre:=fun q=>1≤q.hs.length
 r:=fun r'=> .t (.int .i64 r')
 R:=fun q r'=>r'=q.h0
theorem zV8 {g:EF qGw}{q:Rq}(hp:1≤q.hs.length):qGw.fs g [.t (rqA q)] []=some (.t (.int .i64 (q.h0)),[]):=fnQ qGw q hp
theorem zSd {q:Rq}(hV:vv = .t (.int .i64 (q.h0)))(hO:oo=[]):qGw.K q vv oo:=⟨_,rfl,hV,hO⟩
theorem qV7  (q:Rq)(hp:1≤q.hs.length) :
  qDe.1.wp tab gl (qE 0 [.t (rqA q)]) (qE 0 []) (zA [(2,none)] 0 (qGw.K q)):=by
 obtain⟨co,hs,au,ns,bl⟩:=q;cases hs with
 | nil=>simp at hp
 | cons a r=>
  simp only[List.length_cons] at hp;simp(maxSteps:=9^9)(disch:=try exact dS)only[go_sem,qDe,rqA,iT,List.map_cons];first | exact (zSd rfl rfl) | exact⟨rfl,(zSd rfl rfl)⟩ | exact⟨rfl,rfl,(zSd rfl rfl)⟩ | exact⟨rfl,rfl,rfl,(zSd rfl rfl)⟩
theorem qU7 {g1}(h1:LkE tab 197 qGw g1){g2}(h2:LkE tab 135 qFc g2)(s:St)(q:Rq)(hp:s.En ∧ ∃ h ss v,q=qC (.un h ss v)∧tmI h∧(xV s h).2=0) :
  qCc.1.wp tab gl (qE 0 [.t (stA s),.t (rqA q)]) (qE 0 []) (zA [(4,(some (30,true))),(5,(some (4,true)))] 0 (qL5.K (s,q))):=by
 obtain⟨he,h,ss,v,rfl,ht,h0⟩:=hp;have e1:=zV8 (g:=g1) (q:=qC (.un h ss v)) (by simp[qC]);obtain⟨x,ex,q2,e2⟩:=zGm (g:=g2) (s:=s) (h:=h) ⟨he.obs.1,ht⟩;obtain⟨po,un,au,sd,da,hh,hx,l1,l2,l3,l4⟩:=zK9 he.obs h0;have hx':xV s h=(⟨⟨3,0,0,po,un⟩,⟨au,sd,da⟩,hh⟩,0):=Prod.ext hx h0;rw[hx'] at q2;cases q2;have hK : ∀ h' ss' v',qC (.un h ss v)=qC (.un h' ss' v')→(⟨0,[],[da],[]⟩:Rs)=⟨0,[],[(xV s h').1.s.da],[]⟩:=fun h' _ _ g=>by rw[←(vC g).1,hx]
 simp only[stA,qBl,rqA,qC,azA,iT,mcn,Rq.h0,List.getD_cons_zero] at e1 e2;simp(maxSteps:=9^9)(disch:=try exact dS)only[go_sem,qCc,stA,qBl,rqA,qC,azA,iT,mcn,h1,h2,e1,e2];first | exact (zSf s ⟨0,[],[da],[]⟩ ⟨rfl,hK⟩ rfl rfl) | exact⟨rfl,(zSf s ⟨0,[],[da],[]⟩ ⟨rfl,hK⟩ rfl rfl)⟩ | exact⟨rfl,rfl,(zSf s ⟨0,[],[da],[]⟩ ⟨rfl,hK⟩ rfl rfl)⟩ | exact⟨rfl,rfl,rfl,(zSf s ⟨0,[],[da],[]⟩ ⟨rfl,hK⟩ rfl rfl)⟩
def qL3:ECt where
 α:=Rq×Int
 β:=Int
 aS:=fun (q,i)=>[.t (rqA q),.t (.int .i64 i)]
 pre:=fun (q,i)=>0≤i
 r:=fun r'=> .t (.int .i64 r')
 R:=fun (q,i) r'=>r'=q.ns.getD i.toNat 0
theorem zMs {g:EF qL3}{q:Rq}{i:Int}(hp:0≤i):qL3.fs g [.t (rqA q),.t (.int .i64 i)] []=some (.t (.int .i64 (q.ns.getD i.toNat 0)),[]):=fnQ qL3 (q,i) hp
theorem zBi {q:Rq}{i:Int}(hV:vv = .t (.int .i64 (q.ns.getD i.toNat 0)))(hO:oo=[]):qL3.K (q,i) vv oo:=⟨_,rfl,hV,hO⟩
theorem qU8  (q:Rq)(i:Int)(hp:0≤i) :
  kX.1.wp tab gl (qE 0 [.t (rqA q),.t (.int .i64 i)]) (qE 0 []) (zA [(4,none)] 0 (qL3.K (q,i))):=by
 obtain⟨n,rfl⟩:=Int.eq_ofNat_of_zero_le hp;by_cases c:n<q.ns.length
 ·obtain⟨x,hg,_⟩:=zF c;have hd:q.ns.getD n 0=x:=by rw[List.getD_eq_getElem?_getD,hg];rfl
  simp(maxSteps:=9^9)(disch:=try exact dS)only[go_sem,kX,rqA,c,hg,oms,iT];first | exact (zBi (by rw[Int.toNat_natCast,hd]) rfl) | exact⟨rfl,(zBi (by rw[Int.toNat_natCast,hd]) rfl)⟩ | exact⟨rfl,rfl,(zBi (by rw[Int.toNat_natCast,hd]) rfl)⟩ | exact⟨rfl,rfl,rfl,(zBi (by rw[Int.toNat_natCast,hd]) rfl)⟩
 ·have hd:q.ns.getD n 0=0:=by rw[List.getD_eq_getElem?_getD,List.getElem?_eq_none oM];rfl
  simp(maxSteps:=9^9)(disch:=try exact dS)only[go_sem,kX,rqA,c];first | exact (zBi (by rw[Int.toNat_natCast,hd]) rfl) | exact⟨rfl,(zBi (by rw[Int.toNat_natCast,hd]) rfl)⟩ | exact⟨rfl,rfl,(zBi (by rw[Int.toNat_natCast,hd]) rfl)⟩ | exact⟨rfl,rfl,rfl,(zBi (by rw[Int.toNat_natCast,hd]) rfl)⟩
def qFd:ECt where
 α:=Rq×Int
 β:=List UInt8
 aS:=fun (q,i)=>[.t (rqA q),.t (.int .i64 i)]
 pre:=fun (q,i)=>0≤i
 r:=fun r'=> .t (.sl (r'.map qA))
 R:=fun (q,i) r'=>r'=q.bl.getD i.toNat []
theorem zMr {g:EF qFd}{q:Rq}{i:Int}(hp:0≤i):qFd.fs g [.t (rqA q),.t (.int .i64 i)] []=some (.t (.sl ((q.bl.getD i.toNat []).map qA)),[]):=fnQ qFd (q,i) hp
theorem zBg {q:Rq}{i:Int}(hV:vv = .t (.sl ((q.bl.getD i.toNat []).map qA)))(hO:oo=[]):qFd.K (q,i) vv oo:=⟨_,rfl,hV,hO⟩
theorem qZj  (q:Rq)(i:Int)(hp:0≤i) :
  qBj.1.wp tab gl (qE 0 [.t (rqA q),.t (.int .i64 i)]) (qE 0 []) (zA [(4,none)] 0 (qFd.K (q,i))):=by
 obtain⟨n,rfl⟩:=Int.eq_ofNat_of_zero_le hp;by_cases c:n<q.bl.length
 ·obtain⟨x,hg,_⟩:=zF c;have hd:q.bl.getD n []=x:=by rw[List.getD_eq_getElem?_getD,hg];rfl
  simp(maxSteps:=9^9)(disch:=try exact dS)only[go_sem,qBj,rqA,c,hg,oms];first | exact (zBg (by rw[Int.toNat_natCast,hd]) rfl) | exact⟨rfl,(zBg (by rw[Int.toNat_natCast,hd]) rfl)⟩ | exact⟨rfl,rfl,(zBg (by rw[Int.toNat_natCast,hd]) rfl)⟩ | exact⟨rfl,rfl,rfl,(zBg (by rw[Int.toNat_natCast,hd]) rfl)⟩
 ·have hd:q.bl.getD n []=[]:=by rw[List.getD_eq_getElem?_getD,List.getElem?_eq_none oM];rfl
  simp(maxSteps:=9^9)(disch:=try exact dS)only[go_sem,qBj,rqA,c];first | exact (zBg (by rw[Int.toNat_natCast,hd];rfl) rfl) | exact⟨rfl,(zBg (by rw[Int.toNat_natCast,hd];rfl) rfl)⟩ | exact⟨rfl,rfl,(zBg (by rw[Int.toNat_natCast,hd];rfl) rfl)⟩ | exact⟨rfl,rfl,rfl,(zBg (by rw[Int.toNat_natCast,hd];rfl) rfl)⟩
def qIz:ECt where
 α:=Rq
 β:=Pu
 aS:=fun q=>[.t (rqA q)]
 pre:=fun q=>True
 r:=fun r'=> .t (puA r')
 R:=fun q r'=>r'=⟨q.ns.getD 0 0,q.ns.getD 1 0,q.ns.getD 2 0,q.bl.getD 0 [],[]⟩
theorem jFj {g:EF qIz}{q:Rq}(hp:True):qIz.fs g [.t (rqA q)] []=some (.t (puA (⟨q.ns.getD 0 0,q.ns.getD 1 0,q.ns.getD 2 0,q.bl.getD 0 [],[]⟩)),[]):=fnQ qIz q hp
theorem zSe {q:Rq}(hV:vv = .t (puA (⟨q.ns.getD 0 0,q.ns.getD 1 0,q.ns.getD 2 0,q.bl.getD 0 [],[]⟩)))(hO:oo=[]):qIz.K q vv oo:=⟨_,rfl,hV,hO⟩
theorem qQj {g1}(h1:LkE tab 174 qL3 g1){g2}(h2:LkE tab 199 qFd g2)(q:Rq)(hp:True) :
  qAc.1.wp tab gl (qE 0 [.t (rqA q)]) (qE 0 []) (zA [(2,(some (5,true)))] 0 (qIz.K q)):=by
 have e0:=zMs (g:=g1) (q:=q) (i:=0) oM;have e1:=zMs (g:=g1) (q:=q) (i:=1) oM;have e2:=zMs (g:=g1) (q:=q) (i:=2) oM;have e3:=zMr (g:=g2) (q:=q) (i:=0) oM;simp only[rqA] at e0 e1 e2 e3;simp(maxSteps:=9^9)(disch:=try exact dS)only[go_sem,qAc,rqA,h1,h2,e0,e1,e2,e3];first | exact (zSe rfl rfl) | exact⟨rfl,(zSe rfl rfl)⟩ | exact⟨rfl,rfl,(zSe rfl rfl)⟩ | exact⟨rfl,rfl,rfl,(zSe rfl rfl)⟩
end Go.Eng
end
