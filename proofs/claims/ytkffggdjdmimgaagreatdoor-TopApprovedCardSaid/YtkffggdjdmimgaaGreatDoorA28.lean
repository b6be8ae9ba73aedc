/- A part of an abstract machine, its walks, their tie. -/
import Derived.Test.YtkffggdjdmimgaaGreatDoorA26
import Derived.Test.YtkffggdjdmimgaaGreatDoorA22
import Derived.Test.YtkffggdjdmimgaaGreatDoorA27
set_option linter.all false
section
set_option maxHeartbeats 64000000
set_option maxRecDepth 20000
namespace Go.Eng
open List
variable (tab:Tab) (gl:Gl)
variable {vv:V} {oo:List Ob}
def qAe (u:List UInt8):Pu:=⟨2,1,0,[],u⟩
def Pu.K2 (x:Pu):Prop:=(x.kd=3∧x.ar=0∧x.ht=0∧x.po.length=32∧x.un.length=32) ∨ ∃ u,x=qAe u∧u.length=17
def qHq (x:Pu):List UInt8:=blL (blL [u8I x.kd,u8I x.ar,u8I x.ht] x.po) x.un
def qN1 (x:Pu):List UInt8:=vW 6 [qHq x]
theorem zDj {x:Pu}(h:x.K2):(qHq x).length≤71:=by
 unfold qHq;rw[yB,yB];rcases h with⟨_,_,_,h1,h2⟩ | ⟨u,rfl,h2⟩
 ·rw[h1,h2];simp only[length_cons,length_nil];omega
 ·show 3+2+0+2+u.length≤71;omega
theorem qFt {x:Pu}:(qN1 x).length=32:=qH
theorem jMa {p u:List UInt8}:qHq ⟨3,0,0,p,u⟩=zW2 p u:=rfl
theorem jD9 {p u:List UInt8}:qN1 ⟨3,0,0,p,u⟩=zNt p u:=rfl
theorem qMm {u:List UInt8}(h:u.length=17):qHq (qAe u)=2::1::0::0::0::0::17::u:=by
 unfold qHq qAe blL;simp only[h];rfl
def qQe:ECt where
 α:=Int
 β:=Int
 aS:=fun k=>[.t (.int .i64 k)]
 pre:=fun k=>k=2∨k=3
 r:=fun r'=> .t (.int .i64 r')
 R:=fun k r'=>r'=if k=2 then 17 else 32
theorem jFp {g:EF qQe}{k:Int}(hp:k=2∨k=3):qQe.fs g [.t (.int .i64 k)] []=some (.t (.int .i64 (if k=2 then 17 else 32)),[]):=fnQ qQe k hp
theorem zI7 {k:Int}(hV:vv = .t (.int .i64 (if k=2 then 17 else 32)))(hO:oo=[]):qQe.K k vv oo:=⟨_,rfl,hV,hO⟩
theorem qT7  (k:Int)(hp:k=2∨k=3) :
  xC.1.wp tab gl (qE 0 [.t (.int .i64 k)]) (qE 0 []) (qV [(2,none)] 0 (qQe.K k)):=by
 rcases hp with rfl | rfl
 ·simp(disch:=omega)only[go_sem,xC];first | exact (zI7 rfl rfl) | exact⟨rfl,(zI7 rfl rfl)⟩ | exact⟨rfl,rfl,(zI7 rfl rfl)⟩ | exact⟨rfl,rfl,rfl,(zI7 rfl rfl)⟩
 ·simp(disch:=omega)only[go_sem,xC];first | exact (zI7 rfl rfl) | exact⟨rfl,(zI7 rfl rfl)⟩ | exact⟨rfl,rfl,(zI7 rfl rfl)⟩ | exact⟨rfl,rfl,rfl,(zI7 rfl rfl)⟩
theorem yCo:qNf .and .i64 1 .i64 4=some (.int .i64 0):=rfl
theorem yCn:qNf .and .i64 1 .i64 1=some (.int .i64 1):=rfl
def qJl:ECt where
 α:=Pu
 β:=Int
 aS:=fun x=>[.t (puA x)]
 pre:=fun x=>x.K2
 r:=fun r'=> .t (.int .i64 r')
 R:=fun x r'=>r'=0
theorem zWs {g:EF qJl}{x:Pu}(hp:x.K2):qJl.fs g [.t (puA x)] []=some (.t (.int .i64 (0)),[]):=fnQ qJl x hp
theorem zI5 {x:Pu}(hV:vv = .t (.int .i64 (0)))(hO:oo=[]):qJl.K x vv oo:=⟨_,rfl,hV,hO⟩
theorem zH3 {g1}(h1:LkE tab 270 qQe g1)(x:Pu)(hp:x.K2) :
  qEf.1.wp tab gl (qE 0 [.t (puA x)]) (qE 0 []) (qV [(2,none)] 0 (qJl.K x)):=by
 have u2 := @jFp g1 2 (.inl rfl);have u3 := @jFp g1 3 (.inr rfl);rw[if_pos rfl] at u2;rw[if_neg (by decide)] at u3;obtain⟨kd,ar,ht,po,un⟩:=x;rcases hp with⟨rfl,rfl,rfl,h1',h2'⟩ | ⟨u,e,hu⟩
 ·simp(disch:=omega)only[go_sem,qEf,puA,h1,u3,h1',h2',↓yCm,↓yCk];first | exact (zI5 rfl rfl) | exact⟨rfl,(zI5 rfl rfl)⟩ | exact⟨rfl,rfl,(zI5 rfl rfl)⟩ | exact⟨rfl,rfl,rfl,(zI5 rfl rfl)⟩
 ·cases e;simp(disch:=omega)only[go_sem,qEf,puA,h1,u2,hu,↓yCo,↓yCn];first | exact (zI5 rfl rfl) | exact⟨rfl,(zI5 rfl rfl)⟩ | exact⟨rfl,rfl,(zI5 rfl rfl)⟩ | exact⟨rfl,rfl,rfl,(zI5 rfl rfl)⟩
def qB4:ECt where
 α:=Pu
 β:=List UInt8
 aS:=fun x=>[.t (puA x)]
 pre:=fun x=>x.K2
 r:=fun r=> .sl 0 0 r.length
 outs:=fun r=>[.live 1 ((r.map qA).map V.t) true false]
 R:=fun x r=>r=qHq x
theorem zOt {g:EF qB4}{x:Pu}(hp:x.K2) : ∃ (r:List UInt8),(r=qHq x)∧qB4.fs g [.t (puA x)] []=some (.sl 0 0 r.length,[.live 1 ((r.map qA).map V.t) true false]):=qB4.eq g x hp
theorem jRt {x:Pu}(r:List UInt8)(hR:r=qHq x)(hV:vv = .sl 0 0 r.length)(hO:oo=[.live 1 ((r.map qA).map V.t) true false]):qB4.K x vv oo:=⟨r,hR,hV,hO⟩
theorem zMk {b x:List UInt8}(h:b.length<100000000∧x.length≤65535):qFo.fs [.t (.sl (b.map qA)),.t (.sl (x.map qA))] []=some (.sl 0 0 (blL b x).length,[.live 1 (((blL b x).map qA).map V.t) true false]):=by
 rw[yB];exact qAk h
theorem zEk (h1:LkC tab 101 qFo)(x:Pu)(hp:x.K2) :
  qGn.1.wp tab gl (qE 0 [.t (puA x)]) (qE 0 []) (kG [] [(2,none)] 0 (qB4.K x)):=by
 have le:=zDj hp;have hb:x.po.length≤32∧x.un.length≤32:=by
  rcases hp with⟨_,_,_,h1,h2⟩ | ⟨u,rfl,hu⟩
  ·omega
  ·exact⟨Nat.zero_le _,by show u.length≤32;omega⟩
 have hE:blL (blL [u8I x.kd,u8I x.ar,u8I x.ht] x.po) x.un=qHq x:=rfl;have b1:=zMk (b:=[u8I x.kd,u8I x.ar,u8I x.ht]) (x:=x.po) ⟨sM,oM⟩;have l1:(blL [u8I x.kd,u8I x.ar,u8I x.ht] x.po).length≤37:=by rw[yB];simp;omega
 generalize hB:blL [u8I x.kd,u8I x.ar,u8I x.ht] x.po=B at *;have b2:=zMk (b:=B) (x:=x.un) ⟨oM,oM⟩;rw[hE] at b2;have t1:List.take B.length B=B:=take_length;simp only[mcn] at b1;have hK : ∀ vv oo,vv = .sl 0 0 (qHq x).length→oo=[.live 1 (((qHq x).map qA).map V.t) true false]→qB4.K x vv oo:=fun vv oo h g=>jRt (qHq x) rfl h g
 generalize qHq x=E at *;simp(disch:=omega)only[go_sem,qGn,puA,h1,u8w,b1,b2,t1];first | exact (hK _ _ rfl rfl) | exact⟨rfl,(hK _ _ rfl rfl)⟩ | exact⟨rfl,rfl,(hK _ _ rfl rfl)⟩ | exact⟨rfl,rfl,rfl,(hK _ _ rfl rfl)⟩
theorem qZp (h1:LkC tab 45 qFo)(x:Pu)(hp:x.K2) :
  qE8.1.wp tab gl (qE 0 [.t (puA x)]) (qE 0 []) (kG [] [(2,none)] 0 (qB4.K x)):=by
 have le:=zDj hp;have hb:x.po.length≤32∧x.un.length≤32:=by
  rcases hp with⟨_,_,_,h1,h2⟩ | ⟨u,rfl,hu⟩
  ·omega
  ·exact⟨Nat.zero_le _,by show u.length≤32;omega⟩
 have hE:blL (blL [u8I x.kd,u8I x.ar,u8I x.ht] x.po) x.un=qHq x:=rfl;have b1:=zMk (b:=[u8I x.kd,u8I x.ar,u8I x.ht]) (x:=x.po) ⟨sM,oM⟩;have l1:(blL [u8I x.kd,u8I x.ar,u8I x.ht] x.po).length≤37:=by rw[yB];simp;omega
 generalize hB:blL [u8I x.kd,u8I x.ar,u8I x.ht] x.po=B at *;have b2:=zMk (b:=B) (x:=x.un) ⟨oM,oM⟩;rw[hE] at b2;have t1:List.take B.length B=B:=take_length;simp only[mcn] at b1;have hK : ∀ vv oo,vv = .sl 0 0 (qHq x).length→oo=[.live 1 (((qHq x).map qA).map V.t) true false]→qB4.K x vv oo:=fun vv oo h g=>jRt (qHq x) rfl h g
 generalize qHq x=E at *;simp(disch:=omega)only[go_sem,qE8,puA,h1,u8w,b1,b2,t1];first | exact (hK _ _ rfl rfl) | exact⟨rfl,(hK _ _ rfl rfl)⟩ | exact⟨rfl,rfl,(hK _ _ rfl rfl)⟩ | exact⟨rfl,rfl,rfl,(hK _ _ rfl rfl)⟩
def qB5:ECt where
 α:=Pu
 β:=List UInt8
 aS:=fun x=>[.t (puA x)]
 pre:=fun x=>x.K2
 r:=fun r'=> .t (.sl (r'.map qA))
 R:=fun x r'=>r'=qN1 x
theorem zOu {g:EF qB5}{x:Pu}(hp:x.K2):qB5.fs g [.t (puA x)] []=some (.t (.sl ((qN1 x).map qA)),[]):=fnQ qB5 x hp
theorem jRu {x:Pu}(hV:vv = .t (.sl ((qN1 x).map qA)))(hO:oo=[]):qB5.K x vv oo:=⟨_,rfl,hV,hO⟩
theorem zK8 {g1}(h1:LkE tab 233 qB4 g1)(h2:LkC tab 123 jL)(x:Pu)(hp:x.K2) :
  qKj.1.wp tab gl (qE 0 [.t (puA x)]) (qE 0 []) (qV [(2,none)] 0 (qB5.K x)):=by
 obtain⟨E,q,e1⟩:=zOt (g:=g1) hp;have le:=zDj hp;have e2:=qX1 (t:=6) (fs:=[E]) ⟨oM,by rw[q];exact zGq oM⟩;have hN:vW 6 [E]=qN1 x:=by rw[q];rfl
 have l2:(qN1 x).length=32:=qFt;have t1:List.take E.length E=E:=take_length;have t2:List.take 32 (qN1 x)=qN1 x:=take_of_length_le oM;rw[hN] at e2;rw[←q] at le;have k6:((6:Nat):Int)=6:=rfl;simp only[mcn,qI,k6] at e2;have hK : ∀ vv,vv = .t (.sl ((qN1 x).map qA))→qB5.K x vv []:=fun vv h=>jRu h rfl
 clear q hN;generalize qN1 x=N at *;simp only[puA] at e1;simp(disch:=omega)only[go_sem,qKj,puA,h1,h2,e1,t1,e2,t2,l2];first | exact (hK _ rfl) | exact⟨rfl,(hK _ rfl)⟩ | exact⟨rfl,rfl,(hK _ rfl)⟩ | exact⟨rfl,rfl,rfl,(hK _ rfl)⟩
theorem zE0 {g1}(h1:LkE tab 20 qB4 g1)(h2:LkC tab 29 jL)(x:Pu)(hp:x.K2) :
  qIl.1.wp tab gl (qE 0 [.t (puA x)]) (qE 0 []) (qV [(2,none)] 0 (qB5.K x)):=by
 obtain⟨E,q,e1⟩:=zOt (g:=g1) hp;have le:=zDj hp;have e2:=qX1 (t:=6) (fs:=[E]) ⟨oM,by rw[q];exact zGq oM⟩;have hN:vW 6 [E]=qN1 x:=by rw[q];rfl
 have l2:(qN1 x).length=32:=qFt;have t1:List.take E.length E=E:=take_length;have t2:List.take 32 (qN1 x)=qN1 x:=take_of_length_le oM;rw[hN] at e2;rw[←q] at le;have k6:((6:Nat):Int)=6:=rfl;simp only[mcn,qI,k6] at e2;have hK : ∀ vv,vv = .t (.sl ((qN1 x).map qA))→qB5.K x vv []:=fun vv h=>jRu h rfl
 clear q hN;generalize qN1 x=N at *;simp only[puA] at e1;simp(disch:=omega)only[go_sem,qIl,puA,h1,h2,e1,t1,e2,t2,l2];first | exact (hK _ rfl) | exact⟨rfl,(hK _ rfl)⟩ | exact⟨rfl,rfl,(hK _ rfl)⟩ | exact⟨rfl,rfl,rfl,(hK _ rfl)⟩
theorem jOl {u:List UInt8}(h:u.length=17):qQ (qHq (qAe u),0,0) 1=(2,qHq (qAe u),1,0)∧qQ (qHq (qAe u),1,0) 1=(1,qHq (qAe u),2,0)∧qQ (qHq (qAe u),2,0) 1=(0,qHq (qAe u),3,0)∧
  zF (qHq (qAe u),3,0) 32=([],qHq (qAe u),5,0)∧zF (qHq (qAe u),5,0) 32=(u,qHq (qAe u),24,0)∧kF (qHq (qAe u),24,0)=0:=by
 have l:(qHq (qAe u)).length=24:=by rw[qMm h];simp[h]
 refine⟨?_,?_,?_,?_,?_,?_⟩
 ·rw[qMm h];simp[qQ,beV]
 ·rw[qMm h];simp[qQ,beV]
 ·rw[qMm h];simp[qQ,beV]
 ·exact qR5 (p:=[2,1,0]) (x:=[]) (t:=0::17::u) (by rw[qMm h];rfl) sM (by decide)
 ·have:=qR5 (b:=qHq (qAe u)) (p:=[2,1,0,0,0]) (x:=u) (t:=[]) (most:=32) (by rw[qMm h,h,append_nil];rfl) oM (by decide);rw[h] at this;exact this
 ·rw[kF];simp[l]
def qP8:ECt where
 α:=List UInt8
 β:=Pu×Int
 aS:=fun b=>[.t (.sl (b.map qA))]
 pre:=fun b => ∃ u:List UInt8,b=qHq (qAe u)∧u.length=17
 r:=fun (x,e)=> .tup [.t (puA x),.t (.int .i64 e)]
 R:=fun b (x,e)=>x=qAe (b.drop 7)∧e=0
theorem jRr {g:EF qP8}{b:List UInt8}(hp : ∃ u:List UInt8,b=qHq (qAe u)∧u.length=17) : ∃ (x:Pu) (e:Int),(x=qAe (b.drop 7)∧e=0)∧qP8.fs g [.t (.sl (b.map qA))] []=some (.tup [.t (puA x),.t (.int .i64 e)],[]):=by
 obtain⟨y,h1,h2⟩:=qP8.eq g b hp;exact⟨y.1,y.2,h1,h2⟩
theorem jWm {b:List UInt8}(x:Pu)(e:Int)(hR:x=qAe (b.drop 7)∧e=0)(hV:vv = .tup [.t (puA x),.t (.int .i64 e)])(hO:oo=[]):qP8.K b vv oo:=⟨(x,e),hR,hV,hO⟩
theorem zEj (h1:LkC tab 129 qFr)(h2:LkC tab 141 qFp)(h3:LkC tab 142 qGd)(h4:LkC tab 137 qI5){g5}(h5:LkE tab 211 qJl g5)(b:List UInt8)(hp : ∃ u:List UInt8,b=qHq (qAe u)∧u.length=17) :
  qGm.1.wp tab gl (qE 0 [.t (.sl (b.map qA))]) (qE 0 []) (qV [(2,(some (5,true))),(3,none)] 0 (qP8.K b)):=by
 obtain⟨u,hb,hu⟩:=hp;have l:b.length=24:=by rw[hb,qMm hu];simp[hu]
 have hd:b.drop 7=u:=by rw[hb,qMm hu];rfl
 obtain⟨r1,r2,r3,r4,r5,r6⟩:=jOl hu;rw[←hb] at r1 r2 r3 r4 r5 r6;have e0:=qJu (b:=b) oM;have e1:=wU (s:=(b,0,0)) (k:=1) ⟨⟨Nat.zero_le _,by show b.length<_;omega⟩,oM,oM⟩;have e2:=wU (s:=(b,1,0)) (k:=1) ⟨⟨by show 1≤b.length;omega,by show b.length<_;omega⟩,oM,oM⟩;have e3:=wU (s:=(b,2,0)) (k:=1) ⟨⟨by show 2≤b.length;omega,by show b.length<_;omega⟩,oM,oM⟩;have e4:=qGg (s:=(b,3,0)) (k:=32) ⟨⟨by show 3≤b.length;omega,by show b.length<_;omega⟩,oM⟩;have e5:=qGg (s:=(b,5,0)) (k:=32) ⟨⟨by show 5≤b.length;omega,by show b.length<_;omega⟩,oM⟩;have e6:=qQt (s:=(b,24,0)) ⟨by show 24≤b.length;omega,by show b.length<_;omega⟩;rw[r1] at e1;rw[r2] at e2;rw[r3] at e3;rw[r4] at e4;rw[r5] at e5;rw[r6] at e6;have e7 := @zWs g5 (qAe u) (.inr ⟨u,rfl,hu⟩);have cz:((0:Nat):Int)=0:=rfl;have c1:((1:Nat):Int)=1:=rfl;have c32:((32:Nat):Int)=32:=rfl;have c2:((2:Nat):Int)=2:=rfl;have c3:((3:Nat):Int)=3:=rfl;have c5:((5:Nat):Int)=5:=rfl;have c24:((24:Nat):Int)=24:=rfl;simp only[rdO,cz,c1,c2,c3,c5,c24,c32,map_nil] at e0 e1 e2 e3 e4 e5 e6;simp only[puA,qAe,map_nil] at e7;clear r1 r2 r3 r4 r5 r6 hb;simp(disch:=omega)only[go_sem,qGm,h1,e0];refine qG 4 ?_;simp(disch:=omega)only[go_sem,qD,h2,e1,e2,e3];refine qG 3 ?_;simp(disch:=omega)only[go_sem,qD,h3,e4,e5,h4,e6,h5,e7];repeat refine aiG ?_
 exact jWm (qAe u) 0 ⟨by rw[hd],rfl⟩ rfl rfl
structure St.En (s:St):Prop where
 au:s.a.au=[[],[],[],[]]
 ix:s.a.ix=[] ∨ ∃ w d,s.a.ix=[cnI w d]∧d.length=8
 obs:s.obs.length=3 ∧ ∀ x∈s.obs,x.Se
theorem St.Tp.en {s:St}(h:s.Tp):s.En:=⟨h.a.au,h.a.ix,h.obs⟩
def qIh (s:St)(h:Int):Fo×Int:=
 if 0≤h∧h≤3 then (⟨hnF h,[],[],false⟩,0)
 else if (qXu s h).2=0 then (⟨inF (s.a.ix.getD (qXu s h).1.toNat default),[],[],true⟩,0)
 else if (qBn s h).2=0 then (⟨zNt (qBn s h).1.p.po (qBn s h).1.p.un,(qBn s h).1.s.au,(qBn s h).1.p.po,true⟩,0)
 else (default,7)
theorem zSt {s:St}(e:s.obs.length=3 ∧ ∀ x∈s.obs,x.Se){h:Int}(h0:(qBn s h).2=0) : ∃ po un au sd da hh,(qBn s h).1=⟨⟨3,0,0,po,un⟩,⟨au,sd,da⟩,hh⟩∧po.length=32∧un.length=32∧au.length≤32∧da.length≤128:=by
 unfold qBn at *;split
 ·rw[if_pos ‹_›] at h0;cases h0
 rename_i c;rw[if_neg c] at h0;split
 ·rw[if_pos ‹_›] at h0;cases h0
 rename_i c2;have hn:(h-512).toNat<s.obs.length:=oM;have hm:s.obs.getD (h-512).toNat default∈s.obs:=by
  rw[getD_eq_getElem?_getD,getElem?_eq_getElem hn];exact getElem_mem hn
 have hs:=e.2 _ hm;generalize s.obs.getD (h-512).toNat default=x at *;obtain⟨⟨kd,ar,ht,po,un⟩,⟨au,sd,da⟩,hh⟩:=x;obtain⟨hd | ⟨q1,q2,q3,q4,q5⟩,q6,q7⟩:=hs
 ·rw[hd] at c2;exact absurd rfl c2
 ·refine⟨po,un,au,sd,da,hh,?_,q4,q5,q6,q7⟩;rw[show kd=3 from q1,show ar=0 from q2,show ht=0 from q3]
theorem zGl {s:St}(e:s.a.ix=[] ∨ ∃ w d,s.a.ix=[cnI w d]∧d.length=8){h:Int}(h0:(qXu s h).2=0):h=257∧(qXu s h).1=0 ∧ ∃ w d,s.a.ix=[cnI w d]∧d.length=8:=by
 rcases e with e | ⟨w,d,e,hd⟩
 ·simp[qXu,e,ixP] at h0
 ·have hI:ixP s.a.ix h 0=if h=257 then 0 else -1:=by rw[e];simp only[ixP,cnI];by_cases c:h=257<;>simp[c]
  by_cases c:h=257
  ·rw[if_pos c] at hI;exact⟨c,by rw[qXu,hI];rfl,w,d,e,hd⟩
  ·rw[if_neg c] at hI;rw[qXu,hI] at h0;cases h0
theorem qWr {s:St}(e:s.En):s.a.ix.length≤6 ∧ ∀ x∈s.a.ix,0≤x.n∧x.n≤255:=by
 rcases e.ix with e | ⟨w,d,e,hd⟩
 ·simp[e]
 ·rw[e];refine⟨sM,fun x hx=>?_⟩;obtain rfl:=mem_singleton.1 hx;simp[cnI]
theorem yBz:qNf .and .i64 48 .i64 64=some (.int .i64 0):=rfl
theorem yCl:qNf .and .i64 0 .i64 2=some (.int .i64 0):=rfl
def qHf:ECt where
 α:=St×Int
 β:=Fo×Int
 aS:=fun (s,h)=>[.t (stA s),.t (.int .i64 h)]
 pre:=fun (s,h)=>s.En∧tmI h
 r:=fun (x,e)=> .tup [.t (foA x),.t (.int .i64 e)]
 R:=fun (s,h) (x,e)=>(x,e)=qIh s h
theorem zNc {g:EF qHf}{s:St}{h:Int}(hp:s.En∧tmI h) : ∃ (x:Fo) (e:Int),((x,e)=qIh s h)∧qHf.fs g [.t (stA s),.t (.int .i64 h)] []=some (.tup [.t (foA x),.t (.int .i64 e)],[]):=by
 obtain⟨y,h1,h2⟩:=qHf.eq g (s,h) hp;exact⟨y.1,y.2,h1,h2⟩
theorem qNg {s:St}{h:Int}(x:Fo)(e:Int)(hR:(x,e)=qIh s h)(hV:vv = .tup [.t (foA x),.t (.int .i64 e)])(hO:oo=[]):qHf.K (s,h) vv oo:=⟨(x,e),hR,hV,hO⟩
theorem zEp {g1}(h1:LkE tab 166 qFs g1){g2}(h2:LkE tab 165 qHg g2){g3}(h3:LkE tab 263 qOv g3){g4}(h4:LkE tab 209 qJb g4){g5}(h5:LkE tab 216 qB5 g5)(s:St)(h:Int)(hp:s.En∧tmI h) :
  kW.1.wp tab gl (qE 0 [.t (stA s),.t (.int .i64 h)]) (qE 0 []) (qV [(4,(some (4,true))),(5,none)] 0 (qHf.K (s,h))):=by
 obtain⟨he,ht⟩:=hp;obtain⟨i,ei,q1,c1⟩:=zGm (g:=g1) (s:=s) (h:=h) ⟨(qWr he).1,(qWr he).2,ht⟩;obtain⟨x,ex,q2,c2⟩:=zNd (g:=g2) (s:=s) (h:=h) ⟨he.obs.1,ht⟩;have k1:(qXu s h).2=ei:=by rw[←q1]
 have k2:(qBn s h).2=ex:=by rw[←q2]
 have k3:(qBn s h).1=x:=by rw[←q2]
 by_cases d0:0≤h∧h≤3
 ·have c3:=jMg (g:=g3) d0;obtain⟨n,rfl⟩:=Int.eq_ofNat_of_zero_le d0.1;have hg:s.a.au[n]?=some []:=by
   rw[he.au];rcases (by omega:n=0∨n=1∨n=2∨n=3) with rfl | rfl | rfl | rfl<;>rfl
  have hl:s.a.au.length=4:=by rw[he.au];rfl
  have hF:qIh s n=(⟨hnF n,[],[],false⟩,0):=by rw[qIh,if_pos d0]
  simp only[stA,qC9] at c1 c2;simp(maxSteps:=9^9)(disch:=try exact dS)only[go_sem,kW,stA,qC9,h1,h2,h3,c1,c2,c3,d0,hl,hg,oms];first | exact (qNg ⟨hnF n,[],[],false⟩ 0 hF.symm rfl rfl) | exact⟨rfl,(qNg ⟨hnF n,[],[],false⟩ 0 hF.symm rfl rfl)⟩ | exact⟨rfl,rfl,(qNg ⟨hnF n,[],[],false⟩ 0 hF.symm rfl rfl)⟩ | exact⟨rfl,rfl,rfl,(qNg ⟨hnF n,[],[],false⟩ 0 hF.symm rfl rfl)⟩
 have hb:3<h:=oM;by_cases d1:ei=0
 ·subst d1;obtain⟨rfl,hi,w,d,hix,hd⟩:=zGl he.ix k1;have ki:i=0:=by rw[←hi,←q1]
  subst ki;have c4:=zTp (g:=g4) (x:=cnI w d) (by simp[cnI]);have hF:qIh s 257=(⟨inF (cnI w d),[],[],true⟩,0):=by rw[qIh,if_neg d0,if_pos k1,hi,hix];rfl
  simp only[stA,hix,ixA,cnI,qC9,mcn] at c1 c2 c4;simp(maxSteps:=9^9)(disch:=try exact dS)only[go_sem,kW,stA,qC9,hix,ixA,cnI,h1,h2,h4,c1,c2,c4,yBz,mcn];first | exact (qNg ⟨inF (cnI w d),[],[],true⟩ 0 hF.symm rfl rfl) | exact⟨rfl,(qNg ⟨inF (cnI w d),[],[],true⟩ 0 hF.symm rfl rfl)⟩ | exact⟨rfl,rfl,(qNg ⟨inF (cnI w d),[],[],true⟩ 0 hF.symm rfl rfl)⟩ | exact⟨rfl,rfl,rfl,(qNg ⟨inF (cnI w d),[],[],true⟩ 0 hF.symm rfl rfl)⟩
 by_cases d2:ex=0
 ·subst d2;obtain⟨po,un,au,sd,da,hh,hx,l1,l2,l3,l4⟩:=zSt he.obs k2;have c5:=zOu (g:=g5) (x:=⟨3,0,0,po,un⟩) (.inl ⟨rfl,rfl,rfl,l1,l2⟩);rw[jD9] at c5;simp only[puA] at c5;have hF:qIh s h=(⟨zNt po un,au,po,true⟩,0):=by rw[qIh,if_neg d0,if_neg (by rw[k1];exact d1),if_pos k2,hx]
  rw[k3] at hx;subst hx;simp only[stA,qC9] at c1 c2;simp(maxSteps:=9^9)(disch:=try exact dS)only[go_sem,kW,stA,qC9,h1,h2,h5,c1,c2,c5,d1,yCl,yBz];first | exact (qNg ⟨zNt po un,au,po,true⟩ 0 hF.symm rfl rfl) | exact⟨rfl,(qNg ⟨zNt po un,au,po,true⟩ 0 hF.symm rfl rfl)⟩ | exact⟨rfl,rfl,(qNg ⟨zNt po un,au,po,true⟩ 0 hF.symm rfl rfl)⟩ | exact⟨rfl,rfl,rfl,(qNg ⟨zNt po un,au,po,true⟩ 0 hF.symm rfl rfl)⟩
 ·have hF:qIh s h=(default,7):=by rw[qIh,if_neg d0,if_neg (by rw[k1];exact d1),if_neg (by rw[k2];exact d2)]
  simp only[stA,qC9] at c1 c2;simp(maxSteps:=9^9)(disch:=try exact dS)only[go_sem,kW,stA,qC9,h1,h2,c1,c2,d1,d2];first | exact (qNg default 7 hF.symm rfl rfl) | exact⟨rfl,(qNg default 7 hF.symm rfl rfl)⟩ | exact⟨rfl,rfl,(qNg default 7 hF.symm rfl rfl)⟩ | exact⟨rfl,rfl,rfl,(qNg default 7 hF.symm rfl rfl)⟩
def qI9:ECt where
 α:=St×Int
 β:=List UInt8×Int
 aS:=fun (s,h)=>[.t (stA s),.t (.int .i64 h)]
 pre:=fun (s,h)=>s.En∧tmI h
 r:=fun (x,e)=> .tup [.t (.sl (x.map qA)),.t (.int .i64 e)]
 R:=fun (s,h) (x,e)=>(x,e)=((qIh s h).1.nm,(qIh s h).2)
theorem zGk {g:EF qI9}{s:St}{h:Int}(hp:s.En∧tmI h) : ∃ (x:List UInt8) (e:Int),((x,e)=((qIh s h).1.nm,(qIh s h).2))∧qI9.fs g [.t (stA s),.t (.int .i64 h)] []=some (.tup [.t (.sl (x.map qA)),.t (.int .i64 e)],[]):=by
 obtain⟨y,h1,h2⟩:=qI9.eq g (s,h) hp;exact⟨y.1,y.2,h1,h2⟩
theorem zX9 {s:St}{h:Int}(x:List UInt8)(e:Int)(hR:(x,e)=((qIh s h).1.nm,(qIh s h).2))(hV:vv = .tup [.t (.sl (x.map qA)),.t (.int .i64 e)])(hO:oo=[]):qI9.K (s,h) vv oo:=⟨(x,e),hR,hV,hO⟩
def qLm:ECt where
 α:=St×Int
 β:=List UInt8×Int
 aS:=fun (s,h)=>[.t (stA s),.t (.int .i64 h)]
 pre:=fun (s,h)=>s.En∧tmI h
 r:=fun (x,e)=> .tup [.t (.sl (x.map qA)),.t (.int .i64 e)]
 R:=fun (s,h) (x,e)=>(x,e)=((qIh s h).1.va,(qIh s h).2)
theorem jDj {g:EF qLm}{s:St}{h:Int}(hp:s.En∧tmI h) : ∃ (x:List UInt8) (e:Int),((x,e)=((qIh s h).1.va,(qIh s h).2))∧qLm.fs g [.t (stA s),.t (.int .i64 h)] []=some (.tup [.t (.sl (x.map qA)),.t (.int .i64 e)],[]):=by
 obtain⟨y,h1,h2⟩:=qLm.eq g (s,h) hp;exact⟨y.1,y.2,h1,h2⟩
theorem zYc {s:St}{h:Int}(x:List UInt8)(e:Int)(hR:(x,e)=((qIh s h).1.va,(qIh s h).2))(hV:vv = .tup [.t (.sl (x.map qA)),.t (.int .i64 e)])(hO:oo=[]):qLm.K (s,h) vv oo:=⟨(x,e),hR,hV,hO⟩
def qOu:ECt where
 α:=St×Int
 β:=List UInt8×Int
 aS:=fun (s,h)=>[.t (stA s),.t (.int .i64 h)]
 pre:=fun (s,h)=>s.En∧tmI h
 r:=fun (x,e)=> .tup [.t (.sl (x.map qA)),.t (.int .i64 e)]
 R:=fun (s,h) (x,e)=>(x,e)=((qIh s h).1.po,(qIh s h).2)
theorem jL6 {g:EF qOu}{s:St}{h:Int}(hp:s.En∧tmI h) : ∃ (x:List UInt8) (e:Int),((x,e)=((qIh s h).1.po,(qIh s h).2))∧qOu.fs g [.t (stA s),.t (.int .i64 h)] []=some (.tup [.t (.sl (x.map qA)),.t (.int .i64 e)],[]):=by
 obtain⟨y,h1,h2⟩:=qOu.eq g (s,h) hp;exact⟨y.1,y.2,h1,h2⟩
theorem zYa {s:St}{h:Int}(x:List UInt8)(e:Int)(hR:(x,e)=((qIh s h).1.po,(qIh s h).2))(hV:vv = .tup [.t (.sl (x.map qA)),.t (.int .i64 e)])(hO:oo=[]):qOu.K (s,h) vv oo:=⟨(x,e),hR,hV,hO⟩
def qLl:ECt where
 α:=St×Int
 β:=Bool
 aS:=fun (s,h)=>[.t (stA s),.t (.int .i64 h)]
 pre:=fun (s,h)=>s.En∧tmI h
 r:=fun r'=> .t (.bool r')
 R:=fun (s,h) r'=>r'=(qIh s h).1.pr
theorem jL7 {g:EF qLl}{s:St}{h:Int}(hp:s.En∧tmI h):qLl.fs g [.t (stA s),.t (.int .i64 h)] []=some (.t (.bool ((qIh s h).1.pr)),[]):=fnQ qLl (s,h) hp
theorem zYb {s:St}{h:Int}(hV:vv = .t (.bool ((qIh s h).1.pr)))(hO:oo=[]):qLl.K (s,h) vv oo:=⟨_,rfl,hV,hO⟩
theorem zEo {g1}(h1:LkE tab 199 qHf g1)(s:St)(h:Int)(hp:s.En∧tmI h) :
  qGt.1.wp tab gl (qE 0 [.t (stA s),.t (.int .i64 h)]) (qE 0 []) (qV [(4,none),(5,none)] 0 (qI9.K (s,h))):=by
 obtain⟨x,e,q,c⟩:=zNc (g:=g1) hp;simp only[stA,foA] at c;simp(disch:=omega)only[go_sem,qGt,stA,h1,c];first | exact (zX9 x.nm e (by rw[←q]) rfl rfl) | exact⟨rfl,(zX9 x.nm e (by rw[←q]) rfl rfl)⟩ | exact⟨rfl,rfl,(zX9 x.nm e (by rw[←q]) rfl rfl)⟩ | exact⟨rfl,rfl,rfl,(zX9 x.nm e (by rw[←q]) rfl rfl)⟩
theorem zAi {g1}(h1:LkE tab 199 qHf g1)(s:St)(h:Int)(hp:s.En∧tmI h) :
  qE1.1.wp tab gl (qE 0 [.t (stA s),.t (.int .i64 h)]) (qE 0 []) (qV [(4,none),(5,none)] 0 (qLm.K (s,h))):=by
 obtain⟨x,e,q,c⟩:=zNc (g:=g1) hp;simp only[stA,foA] at c;simp(disch:=omega)only[go_sem,qE1,stA,h1,c];first | exact (zYc x.va e (by rw[←q]) rfl rfl) | exact⟨rfl,(zYc x.va e (by rw[←q]) rfl rfl)⟩ | exact⟨rfl,rfl,(zYc x.va e (by rw[←q]) rfl rfl)⟩ | exact⟨rfl,rfl,rfl,(zYc x.va e (by rw[←q]) rfl rfl)⟩
theorem qY9 {g1}(h1:LkE tab 199 qHf g1)(s:St)(h:Int)(hp:s.En∧tmI h) :
  qDt.1.wp tab gl (qE 0 [.t (stA s),.t (.int .i64 h)]) (qE 0 []) (qV [(4,none),(5,none)] 0 (qOu.K (s,h))):=by
 obtain⟨x,e,q,c⟩:=zNc (g:=g1) hp;simp only[stA,foA] at c;simp(disch:=omega)only[go_sem,qDt,stA,h1,c];first | exact (zYa x.po e (by rw[←q]) rfl rfl) | exact⟨rfl,(zYa x.po e (by rw[←q]) rfl rfl)⟩ | exact⟨rfl,rfl,(zYa x.po e (by rw[←q]) rfl rfl)⟩ | exact⟨rfl,rfl,rfl,(zYa x.po e (by rw[←q]) rfl rfl)⟩
theorem qSr {g1}(h1:LkE tab 199 qHf g1)(s:St)(h:Int)(hp:s.En∧tmI h) :
  qA1.1.wp tab gl (qE 0 [.t (stA s),.t (.int .i64 h)]) (qE 0 []) (qV [(4,none)] 0 (qLl.K (s,h))):=by
 obtain⟨x,e,q,c⟩:=zNc (g:=g1) hp;simp only[stA,foA] at c;simp(disch:=omega)only[go_sem,qA1,stA,h1,c];first | exact (zYb (by rw[←q]) rfl) | exact⟨rfl,(zYb (by rw[←q]) rfl)⟩ | exact⟨rfl,rfl,(zYb (by rw[←q]) rfl)⟩ | exact⟨rfl,rfl,rfl,(zYb (by rw[←q]) rfl)⟩
structure Ckr where
 s:St
 q:Rq
 a:Az
 h:Int
 deriving Inhabited
def ckA (c:Ckr):T:= .agg [.sl (c.s.a.sd.map bsT),.sl (c.s.a.au.map bsT),.sl (c.s.a.en.map qA),.int .i64 c.s.a.act,.int .i64 c.s.a.res,.int .i64 c.s.a.rst,.int .i64 c.s.a.clk,.bool c.s.a.ord,.sl (c.s.a.bk.map vS),.int .i64 c.s.a.u,.int .i64 c.s.a.mc,.sl (c.s.a.ix.map ixA),
 .int .i64 c.s.a.lk.fa,.int .i64 c.s.a.lk.mx,.int .i64 c.s.a.lk.rc,.int .i64 c.s.a.lk.si,.int .i64 c.s.a.lk.cl,.int .i64 c.s.a.lk.pe,.sl (c.s.a.ks.map lvA),
 .bool c.s.on,.bool c.s.off,.sl (c.s.bk.map vS),.int .i64 c.s.u,.int .i64 c.s.clk,.bool c.s.safe,.int .i64 c.s.dr,.sl (c.s.ses.map yD),.sl (c.s.obs.map qC9),.sl (c.s.rl.map iT),.sl (c.s.wl.map iT),
 .int .i64 c.q.co,.sl (c.q.hs.map iT),.sl (c.q.au.map azA),.sl (c.q.ns.map iT),.sl (c.q.bl.map bsT),.int .i64 c.a.s,.sl (c.a.no.map qA),.sl (c.a.va.map qA),.int .i64 c.h]
theorem jTa:EI ckA:=qAp (by
 rintro⟨s,q,⟨⟩,_⟩ ⟨t,r,⟨⟩,_⟩ h;have hs:stA s=stA t:=by
  simp only[ckA,qBk] at h;simp only[stA,qBk];simp only[h,and_self]
 have hq:rqA q=rqA r:=by
  simp only[ckA,qBk] at h;simp only[rqA,qBk];simp only[h,and_self]
 obtain rfl:=(jJe.1 s t).mp hs;obtain rfl:=(jIl.1 q r).mp hq;simp only[ckA,qBk] at h;obtain⟨rfl,rfl,rfl,rfl⟩:=h;rfl)
theorem jGn:EI ckA:=jTa
def qJd:ECt where
 α:=Ckr
 β:=Int
 aS:=fun c=>[.t (ckA c)]
 pre:=fun c=>True
 r:=fun r'=> .t (.int .i64 r')
 R:=fun c r'=>r'=c.s.clk
 inj:=by rintro c c' e _;simp only[qBk,qM7,jGn] at e;obtain rfl:=e;rfl
theorem jM7 {g:EF qJd}{c:Ckr}:qJd.fs g [.t (ckA c)] []=some (.t (.int .i64 (c.s.clk)),[]):=fnQ qJd c trivial
theorem zY4 {c:Ckr}(hV:vv = .t (.int .i64 (c.s.clk)))(hO:oo=[]):qJd.K c vv oo:=⟨_,rfl,hV,hO⟩
theorem qHt  (c:Ckr) :
  vY.1.wp tab gl (qE 0 [.t (ckA c)]) (qE 0 []) (qV [(2,none)] 0 (qJd.K c)):=by
 simp(disch:=omega)only[go_sem,vY,ckA];first | exact (zY4 rfl rfl) | exact⟨rfl,(zY4 rfl rfl)⟩ | exact⟨rfl,rfl,(zY4 rfl rfl)⟩ | exact⟨rfl,rfl,rfl,(zY4 rfl rfl)⟩
def qPn:ECt where
 α:=Int
 β:=Bool
 aS:=fun k=>[.t (.int .i64 k)]
 pre:=fun k=>True
 r:=fun r'=> .t (.bool r')
 R:=fun k r'=>r'=decide (k=24∨k=28∨k=18)
theorem jOc {g:EF qPn}{k:Int}:qPn.fs g [.t (.int .i64 k)] []=some (.t (.bool (decide (k=24∨k=28∨k=18))),[]):=fnQ qPn k trivial
theorem jUl {k:Int}(hV:vv = .t (.bool (decide (k=24∨k=28∨k=18))))(hO:oo=[]):qPn.K k vv oo:=⟨_,rfl,hV,hO⟩
theorem qT9  (k:Int) :
  qBo.1.wp tab gl (qE 0 [.t (.int .i64 k)]) (qE 0 []) (qV [(2,none)] 0 (qPn.K k)):=by
 simp +contextual(disch:=omega)only[go_sem,qBo,↓jX,↓yW,qLa]
 (repeat' (first | apply And.intro | intro _))<;>(try rfl)
 all_goals (refine jUl ?_ rfl;simp_all<;>rfl)
def qMc:ECt where
 α:=Int×Int×Int
 β:=Int
 aS:=fun (k,r,w)=>[.t (.int .i64 k),.t (.int .i64 r),.t (.int .i64 w)]
 pre:=fun (k,r,w)=>k=25∨k=13∨k=21∨k=9
 r:=fun r'=> .t (.int .i64 r')
 R:=fun (k,r,w) r'=>r'=w
theorem jRa {g:EF qMc}{k r w:Int}(hp:k=25∨k=13∨k=21∨k=9):qMc.fs g [.t (.int .i64 k),.t (.int .i64 r),.t (.int .i64 w)] []=some (.t (.int .i64 (w)),[]):=fnQ qMc (k,r,w) hp
theorem jCf {k r w:Int}(hV:vv = .t (.int .i64 (w)))(hO:oo=[]):qMc.K (k,r,w) vv oo:=⟨_,rfl,hV,hO⟩
theorem qUa {g1}(h1:LkE tab 281 qPn g1)(k r w:Int)(hp:k=25∨k=13∨k=21∨k=9) :
  qBp.1.wp tab gl (qE 0 [.t (.int .i64 k),.t (.int .i64 r),.t (.int .i64 w)]) (qE 0 []) (qV [(6,none)] 0 (qMc.K (k,r,w))):=by
 have e := @jOc g1 k;rw[show decide (k=24∨k=28∨k=18)=false by simp;omega] at e;simp(disch:=omega)only[go_sem,qBp,h1,e];first | exact (jCf rfl rfl) | exact⟨rfl,(jCf rfl rfl)⟩ | exact⟨rfl,rfl,(jCf rfl rfl)⟩ | exact⟨rfl,rfl,rfl,(jCf rfl rfl)⟩
def qLr:ECt where
 α:=Ckr×Int
 β:=Int×Bool
 aS:=fun (c,h)=>[.t (ckA c),.t (.int .i64 h)]
 pre:=fun (c,h)=>c.s.En∧tmI h
 r:=fun (n,b)=> .tup [.t (.int .i64 n),.t (.bool b)]
 R:=fun (c,h) (n,b)=>(n,b)=if (qXu c.s h).2=0 then (48,true) else (0,false)
 inj:=by rintro⟨c,h⟩ ⟨c',h'⟩ e _;simp only[qBk,qM7,jGn] at e;obtain⟨rfl,rfl⟩:=e;rfl
theorem zTs {g:EF qLr}{c:Ckr}{h:Int}(hp:c.s.En∧tmI h) : ∃ (n:Int) (b:Bool),((n,b)=if (qXu c.s h).2=0 then (48,true) else (0,false))∧qLr.fs g [.t (ckA c),.t (.int .i64 h)] []=some (.tup [.t (.int .i64 n),.t (.bool b)],[]):=by
 obtain⟨y,h1,h2⟩:=qLr.eq g (c,h) hp;exact⟨y.1,y.2,h1,h2⟩
theorem zG1 {c:Ckr}{h:Int}(n:Int)(b:Bool)(hR:(n,b)=if (qXu c.s h).2=0 then (48,true) else (0,false))(hV:vv = .tup [.t (.int .i64 n),.t (.bool b)])(hO:oo=[]):qLr.K (c,h) vv oo:=⟨(n,b),hR,hV,hO⟩
theorem qIe {g1}(h1:LkE tab 166 qFs g1)(c:Ckr)(h:Int)(hp:c.s.En∧tmI h) :
  yS.1.wp tab gl (qE 0 [.t (ckA c),.t (.int .i64 h)]) (qE 0 []) (qV [(4,none),(5,none)] 0 (qLr.K (c,h))):=by
 obtain⟨he,ht⟩:=hp;obtain⟨i,ei,q1,c1⟩:=zGm (g:=g1) (s:=c.s) (h:=h) ⟨(qWr he).1,(qWr he).2,ht⟩;have k1:(qXu c.s h).2=ei:=by rw[←q1]
 by_cases d1:ei=0
 ·subst d1;obtain⟨rfl,hi,w,d,hix,hd⟩:=zGl he.ix k1;have ki:i=0:=by rw[←hi,←q1]
  subst ki;simp only[stA,hix,ixA,cnI,mcn] at c1;simp(disch:=omega)only[go_sem,yS,ckA,hix,ixA,cnI,h1,c1,mcn];first | exact (zG1 48 true (by rw[if_pos k1]) rfl rfl) | exact⟨rfl,(zG1 48 true (by rw[if_pos k1]) rfl rfl)⟩ | exact⟨rfl,rfl,(zG1 48 true (by rw[if_pos k1]) rfl rfl)⟩ | exact⟨rfl,rfl,rfl,(zG1 48 true (by rw[if_pos k1]) rfl rfl)⟩
 ·simp only[stA] at c1;simp(disch:=omega)only[go_sem,yS,ckA,h1,c1,d1];first | exact (zG1 0 false (by rw[if_neg (by rw[k1];exact d1)]) rfl rfl) | exact⟨rfl,(zG1 0 false (by rw[if_neg (by rw[k1];exact d1)]) rfl rfl)⟩ | exact⟨rfl,rfl,(zG1 0 false (by rw[if_neg (by rw[k1];exact d1)]) rfl rfl)⟩ | exact⟨rfl,rfl,rfl,(zG1 0 false (by rw[if_neg (by rw[k1];exact d1)]) rfl rfl)⟩
def qO6:ECt where
 α:=Lk×Int
 β:=Lk
 aS:=fun (l,n)=>[.t (lkA l),.t (.int .i64 n)]
 pre:=fun (l,n)=>l.fa=0
 r:=fun r'=> .t (lkA r')
 R:=fun (l,n) r'=>r' = { l with si:=n }
theorem jNb {g:EF qO6}{l:Lk}{n:Int}(hp:l.fa=0):qO6.fs g [.t (lkA l),.t (.int .i64 n)] []=some (.t (lkA ({ l with si:=n })),[]):=fnQ qO6 (l,n) hp
theorem zG3 {l:Lk}{n:Int}(hV:vv = .t (lkA ({ l with si:=n })))(hO:oo=[]):qO6.K (l,n) vv oo:=⟨_,rfl,hV,hO⟩
theorem qUf  (l:Lk)(n:Int)(hp:l.fa=0) :
  xH.1.wp tab gl (qE 0 [.t (lkA l),.t (.int .i64 n)]) (qE 0 []) (qV [(4,(some (6,true)))] 0 (qO6.K (l,n))):=by
 obtain⟨fa,mx,rc,si,cl,pe⟩:=l;simp only at hp;subst hp;by_cases c:n<si
 ·simp(disch:=omega)only[go_sem,xH,lkA,c];first | exact (zG3 rfl rfl) | exact⟨rfl,(zG3 rfl rfl)⟩ | exact⟨rfl,rfl,(zG3 rfl rfl)⟩ | exact⟨rfl,rfl,rfl,(zG3 rfl rfl)⟩
 ·simp(disch:=omega)only[go_sem,xH,lkA,c];first | exact (zG3 rfl rfl) | exact⟨rfl,(zG3 rfl rfl)⟩ | exact⟨rfl,rfl,(zG3 rfl rfl)⟩ | exact⟨rfl,rfl,rfl,(zG3 rfl rfl)⟩
def qO7:ECt where
 α:=Lk×Int
 β:=Bool
 aS:=fun (l,n)=>[.t (lkA l),.t (.int .i64 n)]
 pre:=fun (l,n)=>l.fa=0∧1≤l.mx
 r:=fun r'=> .t (.bool r')
 R:=fun (l,n) r'=>r'=false
theorem jNc {g:EF qO7}{l:Lk}{n:Int}(hp:l.fa=0∧1≤l.mx):qO7.fs g [.t (lkA l),.t (.int .i64 n)] []=some (.t (.bool (false)),[]):=fnQ qO7 (l,n) hp
theorem zZb {l:Lk}{n:Int}(hV:vv = .t (.bool (false)))(hO:oo=[]):qO7.K (l,n) vv oo:=⟨_,rfl,hV,hO⟩
theorem qVz {g1}(h1:LkE tab 317 qO6 g1)(l:Lk)(n:Int)(hp:l.fa=0∧1≤l.mx) :
  qCn.1.wp tab gl (qE 0 [.t (lkA l),.t (.int .i64 n)]) (qE 0 []) (qV [(4,none)] 0 (qO7.K (l,n))):=by
 obtain⟨h0,h1'⟩:=hp;have e:=jNb (g:=g1) (l:=l) (n:=n) h0;obtain⟨fa,mx,rc,si,cl,pe⟩:=l;simp only at h0 h1';subst h0;simp only[lkA] at e;simp(disch:=omega)only[go_sem,qCn,lkA,h1,e];first | exact (zZb rfl rfl) | exact⟨rfl,(zZb rfl rfl)⟩ | exact⟨rfl,rfl,(zZb rfl rfl)⟩ | exact⟨rfl,rfl,rfl,(zZb rfl rfl)⟩
def vlP (c:Ckr):Prop:=c.s.En∧(0≤c.h∧c.h≤2)∧((c.q=qC .df∧c.h=1)∨(c.q=qC .ic∧c.h=1∧(qXu c.s 257).2=0) ∨ ∃ po au da,c.q=qC (.pr c.h po au da))∧c.a=⟨0,[],[]⟩
theorem jKx:qNf .and .i64 48 .i64 32=some (.int .i64 32):=rfl
def qO3:ECt where
 α:=Ckr
 β:=Bool
 aS:=fun c=>[.t (ckA c)]
 pre:=fun c=>vlP c
 r:=fun b=> .t (.bool b)
 R:=fun c b=>b=false
 inj:=by rintro c c' e _;simp only[qBk,qM7,jGn] at e;obtain rfl:=e;rfl
theorem jM8 {g:EF qO3}{c:Ckr}(hp:vlP c) : ∃ (b:Bool),(b=false)∧qO3.fs g [.t (ckA c)] []=some (.t (.bool b),[]):=qO3.eq g c hp
theorem qNh {c:Ckr}(b:Bool)(hR:b=false)(hV:vv = .t (.bool b))(hO:oo=[]):qO3.K c vv oo:=⟨b,hR,hV,hO⟩
theorem qD9 {g1}(h1:LkE tab 165 qHg g1){g2}(h2:LkE tab 225 qLr g2){g3}(h3:LkE tab 226 qMc g3)(c:Ckr)(hp:vlP c) :
  zK.1.wp tab gl (qE 0 [.t (ckA c)]) (qE 0 []) (qV [(2,none)] 0 (qO3.K c)):=by
 obtain⟨he,hh,hq,ha⟩:=hp;obtain⟨x,ex,q2,c2⟩:=zNd (g:=g1) (s:=c.s) (h:=c.h) ⟨he.obs.1,oM⟩;obtain⟨n,b,q3,c3⟩:=zTs (g:=g2) (c:=c) (h:=c.h) ⟨he,oM⟩;have k2:ex=7:=by rw[qBn,if_pos oM] at q2;cases q2;rfl
 have k3:b=false:=by
  by_cases c0:(qXu c.s c.h).2=0
  ·have:=(zGl he.ix c0).1;omega
  ·rw[if_neg c0] at q3;cases q3;rfl
 subst k2 k3;rcases hq with⟨hq,hh1⟩ | ⟨hq,h1',hx⟩ | ⟨po,au,da,hq⟩
 ·simp only[stA,qC9,ckA,hq,ha,qC,azA,mcn,iT,qI] at c2 c3;by_cases ch:c.h=1
  ·simp only[ch] at c2 c3;simp(maxSteps:=9^9)(disch:=try exact dS)only[go_sem,zK,ckA,qC9,hq,ha,ch,qC,azA,mcn,iT,qI,h1,h2,c2,c3];first | exact (qNh false rfl rfl rfl) | exact⟨rfl,(qNh false rfl rfl rfl)⟩ | exact⟨rfl,rfl,(qNh false rfl rfl rfl)⟩ | exact⟨rfl,rfl,rfl,(qNh false rfl rfl rfl)⟩
  ·exact absurd hh1 ch
 ·obtain⟨n',b',q4,c4⟩:=zTs (g:=g2) (c:=c) (h:=257) ⟨he,oM⟩;rw[if_pos hx] at q4;cases q4;have c5:=jRa (g:=g3) (k:=25) (r:=16) (w:=32) (.inl rfl);simp only[stA,qC9,ckA,hq,h1',ha,qC,azA,mcn,iT,qI] at c2 c3 c4;simp(maxSteps:=9^9)(disch:=try exact dS)only[go_sem,zK,ckA,qC9,hq,h1',ha,qC,azA,mcn,iT,qI,h1,h2,h3,c2,c3,c4,c5,jKx];first | exact (qNh false rfl rfl rfl) | exact⟨rfl,(qNh false rfl rfl rfl)⟩ | exact⟨rfl,rfl,(qNh false rfl rfl rfl)⟩ | exact⟨rfl,rfl,rfl,(qNh false rfl rfl rfl)⟩
 ·simp only[stA,qC9,ckA,hq,ha,qC,azA,mcn,iT,qI] at c2 c3;by_cases ch:c.h=1
  ·simp only[ch] at c2 c3;simp(maxSteps:=9^9)(disch:=try exact dS)only[go_sem,zK,ckA,qC9,hq,ha,ch,qC,azA,mcn,iT,qI,h1,h2,c2,c3];first | exact (qNh false rfl rfl rfl) | exact⟨rfl,(qNh false rfl rfl rfl)⟩ | exact⟨rfl,rfl,(qNh false rfl rfl rfl)⟩ | exact⟨rfl,rfl,rfl,(qNh false rfl rfl rfl)⟩
  ·have ch':(c.h==1)=false:=by simpa using ch
   simp(maxSteps:=9^9)(disch:=try exact dS)only[go_sem,zK,ckA,qC9,hq,ha,ch,ch',qC,azA,mcn,iT,qI,h1,h2,c2,c3];first | exact (qNh false rfl rfl rfl) | exact⟨rfl,(qNh false rfl rfl rfl)⟩ | exact⟨rfl,rfl,(qNh false rfl rfl rfl)⟩ | exact⟨rfl,rfl,rfl,(qNh false rfl rfl rfl)⟩
def qLt:ECt where
 α:=Ckr
 β:=Bool
 aS:=fun c=>[.t (ckA c)]
 pre:=fun c=>c.s.En∧(tmI c.h∧c.h≠3)∧c.s.a.lk.fa=0∧1≤c.s.a.lk.mx
 r:=fun b=> .t (.bool b)
 R:=fun c b=>b=false
 inj:=by rintro c c' e _;simp only[qBk,qM7,jGn] at e;obtain rfl:=e;rfl
theorem jD3 {g:EF qLt}{c:Ckr}(hp:c.s.En∧(tmI c.h∧c.h≠3)∧c.s.a.lk.fa=0∧1≤c.s.a.lk.mx) : ∃ (b:Bool),(b=false)∧qLt.fs g [.t (ckA c)] []=some (.t (.bool b),[]):=qLt.eq g c hp
theorem zY6 {c:Ckr}(b:Bool)(hR:b=false)(hV:vv = .t (.bool b))(hO:oo=[]):qLt.K c vv oo:=⟨b,hR,hV,hO⟩
theorem qF6 {g1}(h1:LkE tab 227 qJd g1){g3}(h3:LkE tab 276 qLl g3){g4}(h4:LkE tab 277 qO7 g4)(c:Ckr)(hp:c.s.En∧(tmI c.h∧c.h≠3)∧c.s.a.lk.fa=0∧1≤c.s.a.lk.mx) :
  vP.1.wp tab gl (qE 0 [.t (ckA c)]) (qE 0 []) (qV [(2,none)] 0 (qLt.K c)):=by
 obtain⟨he,⟨ht,h3'⟩,hf,hm⟩:=hp;have c2:=jNc (g:=g4) (l:=c.s.a.lk) (n:=c.s.clk) ⟨hf,hm⟩;have c3:=jM7 (g:=g1) (c:=c);have c1:=jL7 (g:=g3) (s:=c.s) (h:=c.h) ⟨he,ht⟩;cases hP:(qIh c.s c.h).1.pr;all_goals
  simp only[hP,stA,ckA,lkA] at c1 c2 c3;simp(disch:=omega)only[go_sem,vP,ckA,lkA,h1,h3,h4,c1,c2,c3,h3'];first | exact (zY6 false rfl rfl rfl) | exact⟨rfl,(zY6 false rfl rfl rfl)⟩ | exact⟨rfl,rfl,(zY6 false rfl rfl rfl)⟩ | exact⟨rfl,rfl,rfl,(zY6 false rfl rfl rfl)⟩
def qLs:ECt where
 α:=Ckr×List UInt8×List UInt8
 β:=St×Int
 aS:=fun (c,a,b)=>[.t (ckA c),.t (.sl (a.map qA)),.t (.sl (b.map qA))]
 pre:=fun (c,a,b)=>a=b∧a.length≤1000
 r:=fun (t,e)=> .tup [.t (stA t),.t (.int .i64 e)]
 R:=fun (c,a,b) (t,e)=>t=c.s∧e=0
 inj:=by rintro⟨c,a,b⟩ ⟨c',a',b'⟩ e _;simp only[qBk,qM7,jGn] at e;obtain⟨rfl,rfl,rfl⟩:=e;rfl
theorem jD2 {g:EF qLs}{c:Ckr}{a b:List UInt8}(hp:a=b∧a.length≤1000) : ∃ (t:St) (e:Int),(t=c.s∧e=0)∧qLs.fs g [.t (ckA c),.t (.sl (a.map qA)),.t (.sl (b.map qA))] []=some (.tup [.t (stA t),.t (.int .i64 e)],[]):=by
 obtain⟨y,h1,h2⟩:=qLs.eq g (c,a,b) hp;exact⟨y.1,y.2,h1,h2⟩
theorem zY5 {c:Ckr}{a b:List UInt8}(t:St)(e:Int)(hR:t=c.s∧e=0)(hV:vv = .tup [.t (stA t),.t (.int .i64 e)])(hO:oo=[]):qLs.K (c,a,b) vv oo:=⟨(t,e),hR,hV,hO⟩
theorem qF3 (h1:LkC tab 278 qOj)(c:Ckr)(a b:List UInt8)(hp:a=b∧a.length≤1000) :
  vF.1.wp tab gl (qE 0 [.t (ckA c),.t (.sl (a.map qA)),.t (.sl (b.map qA))]) (qE 0 []) (qV [(6,(some (30,true))),(7,none)] 0 (qLs.K (c,a,b))):=by
 obtain⟨rfl,hl⟩:=hp;have e:=qYq (a:=a) (b:=a) ⟨oM,oM⟩;simp only[decide_true,beq_self_eq_true] at e;simp(disch:=omega)only[go_sem,vF,ckA,h1,e];first | exact (zY5 c.s 0 ⟨rfl,rfl⟩ rfl rfl) | exact⟨rfl,(zY5 c.s 0 ⟨rfl,rfl⟩ rfl rfl)⟩ | exact⟨rfl,rfl,(zY5 c.s 0 ⟨rfl,rfl⟩ rfl rfl)⟩ | exact⟨rfl,rfl,rfl,(zY5 c.s 0 ⟨rfl,rfl⟩ rfl rfl)⟩
def qO5:ECt where
 α:=Ckr×Ses
 β:=St×Int
 aS:=fun (c,x)=>[.t (ckA c),.t (yD x)]
 pre:=fun (c,x)=>(vlP c∧c.s.a.lk.fa=0∧1≤c.s.a.lk.mx)∧x=qDk
 r:=fun (t,e)=> .tup [.t (stA t),.t (.int .i64 e)]
 R:=fun (c,x) (t,e)=>t=c.s∧e=0
 inj:=by rintro⟨c,x⟩ ⟨c',x'⟩ e _;simp only[qBk,qM7,jGn] at e;obtain⟨rfl,rfl⟩:=e;rfl
theorem jNa {g:EF qO5}{c:Ckr}{x:Ses}(hp:(vlP c∧c.s.a.lk.fa=0∧1≤c.s.a.lk.mx)∧x=qDk) : ∃ (t:St) (e:Int),(t=c.s∧e=0)∧qO5.fs g [.t (ckA c),.t (yD x)] []=some (.tup [.t (stA t),.t (.int .i64 e)],[]):=by
 obtain⟨y,h1,h2⟩:=qO5.eq g (c,x) hp;exact⟨y.1,y.2,h1,h2⟩
theorem zY7 {c:Ckr}{x:Ses}(t:St)(e:Int)(hR:t=c.s∧e=0)(hV:vv = .tup [.t (stA t),.t (.int .i64 e)])(hO:oo=[]):qO5.K (c,x) vv oo:=⟨(t,e),hR,hV,hO⟩
theorem qF2 {g1}(h1:LkE tab 218 qO3 g1){g2}(h2:LkE tab 219 qLt g2){g3}(h3:LkE tab 220 qLm g3){g4}(h4:LkE tab 221 qLs g4)(c:Ckr)(x:Ses)(hp:(vlP c∧c.s.a.lk.fa=0∧1≤c.s.a.lk.mx)∧x=qDk) :
  vE.1.wp tab gl (qE 0 [.t (ckA c),.t (yD x)]) (qE 0 []) (qV [(4,(some (30,true))),(5,none)] 0 (qO5.K (c,x))):=by
 obtain⟨⟨hV,hf,hm⟩,rfl⟩:=hp;have hV':=hV;obtain⟨he,hh,hq,ha⟩:=hV';obtain⟨b,rfl,c1⟩:=jM8 (g:=g1) hV;obtain⟨b,rfl,c2⟩:=jD3 (g:=g2) (c:=c) ⟨he,⟨oM,oM⟩,hf,hm⟩;obtain⟨v,ev,q3,c3⟩:=jDj (g:=g3) (s:=c.s) (h:=c.h) ⟨he,oM⟩;rw[qIh,if_pos oM] at q3;cases q3;obtain⟨t,e,⟨rfl,rfl⟩,c4⟩:=jD2 (g:=g4) (c:=c) (a:=[]) (b:=[]) ⟨rfl,sM⟩;simp only[stA,ckA,ha,map_nil] at c1 c2 c3 c4;simp(maxSteps:=9^9)(disch:=try exact dS)only[go_sem,vE,ckA,yD,qDk,ha,h1,h2,h3,h4,c1,c2,c3,c4,map_nil];first | exact (zY7 c.s 0 ⟨rfl,rfl⟩ rfl rfl) | exact⟨rfl,(zY7 c.s 0 ⟨rfl,rfl⟩ rfl rfl)⟩ | exact⟨rfl,rfl,(zY7 c.s 0 ⟨rfl,rfl⟩ rfl rfl)⟩ | exact⟨rfl,rfl,rfl,(zY7 c.s 0 ⟨rfl,rfl⟩ rfl rfl)⟩
structure plP (c:Ckr) (x:Ses) (lo:Int):Prop where
 en:c.s.En
 lk:c.s.a.lk.fa=0∧1≤c.s.a.lk.mx
 h:tmI c.h∧(qBn c.s c.h).2=0
 q:c.q.co=13
 lo:lo=0∧x.lo%2=1
 dl:x.dl=0
 cm:x.cm=0∨x.cm=13
 up:x.up = -1∨x.up=c.s.u
 u:0≤c.s.u
 dg:x.dg.length=32
 av:x.av=true→c.a.va=(qBn c.s c.h).1.s.au
theorem jDl {s:St}{h:Int}(h0:(qBn s h).2=0):512≤h∧h≤514:=by
 unfold qBn at h0;split at h0
 ·cases h0
 ·omega
theorem zTd {s:St}(e:s.En){h:Int}(h0:(qBn s h).2=0):qIh s h=(⟨zNt (qBn s h).1.p.po (qBn s h).1.p.un,(qBn s h).1.s.au,(qBn s h).1.p.po,true⟩,0):=by
 have hg:=jDl h0;rw[qIh,if_neg oM,if_neg (fun c=>by have:=(zGl e.ix c).1;omega),if_pos h0]
theorem yCp {x:Int}(h:x%2=1):qNf .and .i64 x .i64 1=some (.int .i64 1):=by rw[yB0,h]
def qLu:ECt where
 α:=Ckr×Ses×Int
 β:=St×Int
 aS:=fun (c,x,lo)=>[.t (ckA c),.t (yD x),.t (.int .i64 lo)]
 pre:=fun (c,x,lo)=>plP c x lo
 r:=fun (t,e)=> .tup [.t (stA t),.t (.int .i64 e)]
 R:=fun (c,x,lo) (t,e)=>t=c.s∧e=if x.dg=(qBn c.s c.h).1.p.po then 0 else 11
 inj:=by rintro⟨c,x,lo⟩ ⟨c',x',lo'⟩ e _;simp only[qBk,qM7,jGn] at e;obtain⟨rfl,rfl,rfl⟩:=e;rfl
theorem jM9 {g:EF qLu}{c:Ckr}{x:Ses}{lo:Int}(hp:plP c x lo) : ∃ (t:St) (e:Int),(t=c.s∧e=if x.dg=(qBn c.s c.h).1.p.po then 0 else 11)∧qLu.fs g [.t (ckA c),.t (yD x),.t (.int .i64 lo)] []=some (.tup [.t (stA t),.t (.int .i64 e)],[]):=by
 obtain⟨y,h1,h2⟩:=qLu.eq g (c,x,lo) hp;exact⟨y.1,y.2,h1,h2⟩
theorem jT1 {c:Ckr}{x:Ses}{lo:Int}(t:St)(e:Int)(hR:t=c.s∧e=if x.dg=(qBn c.s c.h).1.p.po then 0 else 11)(hV:vv = .tup [.t (stA t),.t (.int .i64 e)])(hO:oo=[]):qLu.K (c,x,lo) vv oo:=⟨(t,e),hR,hV,hO⟩
theorem qEr {g1}(h1:LkE tab 224 qOu g1){g2}(h2:LkE tab 225 qLr g2){g5}(h5:LkE tab 219 qLt g5){g6}(h6:LkE tab 220 qLm g6){g7}(h7:LkE tab 221 qLs g7)(c:Ckr)(x:Ses)(lo:Int)(hp:plP c x lo) :
  zV.1.wp tab gl (qE 0 [.t (ckA c),.t (yD x),.t (.int .i64 lo)]) (qE 0 []) (qV [(6,(some (30,true))),(7,none)] 0 (qLu.K (c,x,lo))):=by
 obtain⟨he,⟨hf,hm⟩,⟨ht,ho⟩,hq,⟨rfl,hlo⟩,hdl,hcm,hup,hu,hdg,hav⟩:=hp;obtain⟨po,ep,q1,c1⟩:=jL6 (g:=g1) (s:=c.s) (h:=c.h) ⟨he,ht⟩;obtain⟨n,b,q2,c2⟩:=zTs (g:=g2) (c:=c) (h:=c.h) ⟨he,ht⟩;have hg:=jDl ho;rw[if_neg (fun d=>by have:=(zGl he.ix d).1;omega)] at q2;cases q2;rw[zTd he ho] at q1;cases q1;obtain⟨po,un,au,sd,da,hh,hx,l1,l2,l3,l4⟩:=zSt he.obs ho;obtain⟨v,ev,q7,c7⟩:=jDj (g:=g6) (s:=c.s) (h:=c.h) ⟨he,ht⟩;rw[zTd he ho] at q7;cases q7;obtain⟨b,rfl,c5⟩:=jD3 (g:=g5) (c:=c) ⟨he,⟨ht,oM⟩,hf,hm⟩;rw[hx] at hav;simp only[hx] at c1 c7 ⊢;obtain⟨kd,no,dg,up,sl,cm,dl,av⟩:=x;simp only at hlo hdl hcm hup hdg hav;subst hdl;have c9 := @yCp sl hlo;have hK : ∀ e,e=(if dg=po then 0 else 11)→qLu.K (c,⟨kd,no,dg,up,sl,cm,0,av⟩,0) (.tup [.t (stA c.s),.t (.int .i64 e)]) []:=fun e h=>jT1 c.s e ⟨rfl,by rw[h,hx]⟩ rfl rfl
 have hc:cm=0∨(cm=13 ∧ ¬ cm=0):=oM;have hU:up = -1∨(up=c.s.u ∧ ¬ up = -1):=oM;have hu1 : ¬ c.s.u = -1:=oM;have hs0:sl.fdiv 1=sl:=Int.fdiv_one sl;obtain⟨t8,e8,⟨q8,q8'⟩,c8⟩:=jD2 (g:=g7) (c:=c) (a:=if av=true then c.a.va else []) (b:=if av=true then au else []) ⟨by cases av;rfl;exact hav rfl,by cases av<;>simp;rw[hav rfl];omega⟩;subst q8 q8';simp only[stA,ckA,hq] at c1 c2 c5 c7 c8 hK;have hd':(dg==po)=decide (dg=po):=by by_cases h:dg=po<;>simp[h]
 by_cases hd:dg=po
 ·subst hd;rcases hc with rfl | ⟨rfl,_⟩<;>rcases hU with rfl | ⟨rfl,_⟩;all_goals
   cases av
   ·simp(maxSteps:=9^9)(disch:=try exact dS)only[go_sem,zV,ckA,yD,h1,h2,c1,c2,hdg,hq,c9,hs0,hlo,hu1];first | exact (hK _ (by rw[if_pos rfl])) | exact⟨rfl,(hK _ (by rw[if_pos rfl]))⟩ | exact⟨rfl,rfl,(hK _ (by rw[if_pos rfl]))⟩ | exact⟨rfl,rfl,rfl,(hK _ (by rw[if_pos rfl]))⟩
   ·simp only[if_true] at c8;simp(maxSteps:=9^9)(disch:=try exact dS)only[go_sem,zV,ckA,yD,h1,h2,h5,h6,h7,c1,c2,c5,c7,c8,hdg,hq,c9,hs0,hlo,hu1];first | exact (hK _ (by rw[if_pos rfl])) | exact⟨rfl,(hK _ (by rw[if_pos rfl]))⟩ | exact⟨rfl,rfl,(hK _ (by rw[if_pos rfl]))⟩ | exact⟨rfl,rfl,rfl,(hK _ (by rw[if_pos rfl]))⟩
 ·rcases hc with rfl | ⟨rfl,_⟩<;>rcases hU with rfl | ⟨rfl,_⟩;all_goals
   simp(maxSteps:=9^9)(disch:=try exact dS)only[go_sem,zV,ckA,yD,h1,h2,c1,c2,l1,hq,c9,hs0,hlo,hd,hu1];first | exact (hK _ (by rw[if_neg hd])) | exact⟨rfl,(hK _ (by rw[if_neg hd]))⟩ | exact⟨rfl,rfl,(hK _ (by rw[if_neg hd]))⟩ | exact⟨rfl,rfl,rfl,(hK _ (by rw[if_neg hd]))⟩
inductive CkP (s:St):Rq→Prop where
 | vl (q:Rq) (h:Int) (hv:vlP ⟨s,q,⟨0,[],[]⟩,h⟩) (hl:s.a.lk.fa=0∧1≤s.a.lk.mx):CkP s q
 | un (h ss:Int) (v:List UInt8) (hs:s.ses.length=3∧tmI ss∧ss≠0) (hb:(qDa s ss).2.2=true) (hk:(qDa s ss).2.1.kd=2∨(qDa s ss).2.1.kd=3) (hp:(qDa s ss).2.1.kd=2→plP ⟨s,qC (.un h ss v),⟨ss,[],v⟩,h⟩ (qDa s ss).2.1 0):CkP s (qC (.un h ss v))
def ckE (s:St)(h ss:Int):Int:=if (qDa s ss).2.1.kd=2 then (if (qDa s ss).2.1.dg=(qBn s h).1.p.po then 0 else 11) else 8
def qO2:ECt where
 α:=St×Int×Rq
 β:=St×Int
 aS:=fun (s,lo,q)=>[.t (stA s),.t (.int .i64 lo),.t (rqA q)]
 pre:=fun (s,lo,q)=>CkP s q∧lo=0
 r:=fun (t,e)=> .tup [.t (stA t),.t (.int .i64 e)]
 R:=fun (s,lo,q) (t,e)=>t=s∧(q.co≠13→e=0) ∧ ∀ h ss v,q=qC (.un h ss v)→e=ckE s h ss
theorem zNk {g:EF qO2}{s:St}{lo:Int}{q:Rq}(hp:CkP s q∧lo=0) : ∃ (t:St) (e:Int),(t=s∧(q.co≠13→e=0) ∧ ∀ h ss v,q=qC (.un h ss v)→e=ckE s h ss)∧qO2.fs g [.t (stA s),.t (.int .i64 lo),.t (rqA q)] []=some (.tup [.t (stA t),.t (.int .i64 e)],[]):=by
 obtain⟨y,h1,h2⟩:=qO2.eq g (s,lo,q) hp;exact⟨y.1,y.2,h1,h2⟩
theorem qVo {s:St}{lo:Int}{q:Rq}(t:St)(e:Int)(hR:t=s∧(q.co≠13→e=0) ∧ ∀ h ss v,q=qC (.un h ss v)→e=ckE s h ss)(hV:vv = .tup [.t (stA t),.t (.int .i64 e)])(hO:oo=[]):qO2.K (s,lo,q) vv oo:=⟨(t,e),hR,hV,hO⟩
theorem wD {h ss h' ss':Int}{v v':List UInt8}(e:qC (.un h ss v)=qC (.un h' ss' v')):h=h'∧ss=ss':=by
 simp only[qC,Rq.mk.injEq,List.cons.injEq,Az.mk.injEq,and_true,true_and] at e;exact⟨e.1,e.2.1⟩
theorem qT8 {g1}(h1:LkE tab 177 qO5 g1){g2}(h2:LkE tab 176 qHj g2){g3}(h3:LkE tab 178 qLu g3)(s:St)(lo:Int)(q:Rq)(hp:CkP s q∧lo=0) :
  wJ.1.wp tab gl (qE 0 [.t (stA s),.t (.int .i64 lo),.t (rqA q)]) (qE 0 []) (qV [(6,(some (30,true))),(7,none)] 0 (qO2.K (s,lo,q))):=by
 obtain⟨hp,rfl⟩:=hp;cases hp with
 | vl _ h hv hl=>
  obtain⟨t,e,⟨ht,rfl⟩,c1⟩:=jNa (g:=g1) ⟨⟨hv,hl⟩,rfl⟩;subst ht;obtain⟨he,hh,hq,_⟩:=hv;simp only at hq;rcases hq with⟨rfl,rfl⟩ | ⟨rfl,rfl,hx⟩ | ⟨po,au,da,rfl⟩;all_goals
   simp only[ckA,yD,qDk,qC,azA,iT,mcn,qI] at c1;simp(maxSteps:=9^9)(disch:=try exact dS)only[go_sem,wJ,stA,rqA,yD,qDk,qC,azA,iT,h1,c1,mcn,qI];first | exact (qVo _ 0 ⟨rfl,fun _=>rfl,fun _ _ _ h=>by simp[qC] at h⟩ rfl rfl) | exact⟨rfl,(qVo _ 0 ⟨rfl,fun _=>rfl,fun _ _ _ h=>by simp[qC] at h⟩ rfl rfl)⟩ | exact⟨rfl,rfl,(qVo _ 0 ⟨rfl,fun _=>rfl,fun _ _ _ h=>by simp[qC] at h⟩ rfl rfl)⟩ | exact⟨rfl,rfl,rfl,(qVo _ 0 ⟨rfl,fun _=>rfl,fun _ _ _ h=>by simp[qC] at h⟩ rfl rfl)⟩
 | un h ss v hs hb hk hp=>
  obtain⟨x,ex,q2,c2⟩:=zOg (g:=g2) (s:=s) (h:=ss) ⟨hs.1,hs.2.1⟩;rw[if_pos hb] at q2;cases q2;generalize hx:(qDa s ss).2.1=x at *;have hE:ckE s h ss=if x.kd=2 then (if x.dg=(qBn s h).1.p.po then 0 else 11) else 8:=by rw[ckE,hx]
  have hss : ¬ ss=0:=hs.2.2;rcases hk with hk | hk
  ·obtain⟨t,e,⟨rfl,he⟩,c3⟩:=jM9 (g:=g3) (hp hk);rw[if_pos hk,←he] at hE;simp only[stA,ckA,yD,hk,qC,azA,iT,mcn] at c2 c3;simp(maxSteps:=9^9)(disch:=try exact dS)only[go_sem,wJ,stA,rqA,yD,hk,qC,azA,iT,h2,h3,c2,c3,hss,mcn];first | exact (qVo _ e ⟨rfl,fun h=>absurd rfl h,fun _ _ _ g=>by rw[←(wD g).1,←(wD g).2,hE]⟩ rfl rfl) | exact⟨rfl,(qVo _ e ⟨rfl,fun h=>absurd rfl h,fun _ _ _ g=>by rw[←(wD g).1,←(wD g).2,hE]⟩ rfl rfl)⟩ | exact⟨rfl,rfl,(qVo _ e ⟨rfl,fun h=>absurd rfl h,fun _ _ _ g=>by rw[←(wD g).1,←(wD g).2,hE]⟩ rfl rfl)⟩ | exact⟨rfl,rfl,rfl,(qVo _ e ⟨rfl,fun h=>absurd rfl h,fun _ _ _ g=>by rw[←(wD g).1,←(wD g).2,hE]⟩ rfl rfl)⟩
  ·rw[if_neg oM] at hE;simp only[stA,yD,hk] at c2;simp(maxSteps:=9^9)(disch:=try exact dS)only[go_sem,wJ,stA,rqA,yD,hk,qC,azA,iT,h2,c2,hss,mcn];first | exact (qVo _ 8 ⟨rfl,fun h=>absurd rfl h,fun _ _ _ g=>by rw[←(wD g).1,←(wD g).2,hE]⟩ rfl rfl) | exact⟨rfl,(qVo _ 8 ⟨rfl,fun h=>absurd rfl h,fun _ _ _ g=>by rw[←(wD g).1,←(wD g).2,hE]⟩ rfl rfl)⟩ | exact⟨rfl,rfl,(qVo _ 8 ⟨rfl,fun h=>absurd rfl h,fun _ _ _ g=>by rw[←(wD g).1,←(wD g).2,hE]⟩ rfl rfl)⟩ | exact⟨rfl,rfl,rfl,(qVo _ 8 ⟨rfl,fun h=>absurd rfl h,fun _ _ _ g=>by rw[←(wD g).1,←(wD g).2,hE]⟩ rfl rfl)⟩
def zBw (s:St)(ss:Int):St := { s with ses:=s.ses.set (ss-768).toNat qDk }
inductive FiP (s:St):Rq→Prop where
 | df:FiP s (qC .df)
 | ic:FiP s (qC .ic)
 | pr (h:Int) (po au da:List UInt8):FiP s (qC (.pr h po au da))
 | un (h ss:Int) (v:List UInt8) (hs:s.ses.length=3∧tmI ss∧ss≠0) (hb:(qDa s ss).2.2=true) (hk:(qDa s ss).2.1.kd=2):FiP s (qC (.un h ss v))
def qO4:ECt where
 α:=St×Rq
 β:=St×List (List UInt8)
 aS:=fun (s,q)=>[.t (stA s),.t (rqA q)]
 pre:=fun (s,q)=>FiP s q
 r:=fun (t,l)=> .tup [.t (stA t),.t (.sl (l.map bsT))]
 R:=fun (s,q) (t,l)=>l=[]∧(q.co≠13→t=s) ∧ ∀ h ss v,q=qC (.un h ss v)→t=zBw s ss
theorem zNl {g:EF qO4}{s:St}{q:Rq}(hp:FiP s q) : ∃ (t:St) (l:List (List UInt8)),(l=[]∧(q.co≠13→t=s) ∧ ∀ h ss v,q=qC (.un h ss v)→t=zBw s ss)∧qO4.fs g [.t (stA s),.t (rqA q)] []=some (.tup [.t (stA t),.t (.sl (l.map bsT))],[]):=by
 obtain⟨y,h1,h2⟩:=qO4.eq g (s,q) hp;exact⟨y.1,y.2,h1,h2⟩
theorem zG2 {s:St}{q:Rq}(t:St)(l:List (List UInt8))(hR:l=[]∧(q.co≠13→t=s) ∧ ∀ h ss v,q=qC (.un h ss v)→t=zBw s ss)(hV:vv = .tup [.t (stA t),.t (.sl (l.map bsT))])(hO:oo=[]):qO4.K (s,q) vv oo:=⟨(t,l),hR,hV,hO⟩
theorem qSq {g1}(h1:LkE tab 176 qHj g1){g4}(h4:LkE tab 192 qPr g4)(s:St)(q:Rq)(hp:FiP s q) :
  kJ.1.wp tab gl (qE 0 [.t (stA s),.t (rqA q)]) (qE 0 []) (qV [(4,(some (30,true))),(5,none)] 0 (qO4.K (s,q))):=by
 cases hp with
 | un h ss v hs hb hk=>
  obtain⟨x,ex,q1,c1⟩:=zOg (g:=g1) (s:=s) (h:=ss) ⟨hs.1,hs.2.1⟩;obtain⟨t,et,q4,c4⟩:=jO3 (g:=g4) (s:=s) (h:=ss) ⟨hs.1,hs.2.1⟩;rw[if_pos hb] at q1 q4;cases q1;cases q4;generalize hx:(qDa s ss).2.1=x at *;have hss : ¬ ss=0:=hs.2.2;simp only[stA,yD,hk] at c1 c4;simp(maxSteps:=9^9)(disch:=try exact dS)only[go_sem,kJ,stA,rqA,yD,hk,qC,azA,iT,h1,h4,c1,c4,hss,mcn];first | exact (zG2 (zBw s ss) [] ⟨rfl,fun h=>absurd rfl h,fun _ _ _ g=>by rw[←(wD g).2]⟩ rfl rfl) | exact⟨rfl,(zG2 (zBw s ss) [] ⟨rfl,fun h=>absurd rfl h,fun _ _ _ g=>by rw[←(wD g).2]⟩ rfl rfl)⟩ | exact⟨rfl,rfl,(zG2 (zBw s ss) [] ⟨rfl,fun h=>absurd rfl h,fun _ _ _ g=>by rw[←(wD g).2]⟩ rfl rfl)⟩ | exact⟨rfl,rfl,rfl,(zG2 (zBw s ss) [] ⟨rfl,fun h=>absurd rfl h,fun _ _ _ g=>by rw[←(wD g).2]⟩ rfl rfl)⟩
 | _=>
  simp(maxSteps:=9^9)(disch:=try exact dS)only[go_sem,kJ,stA,rqA,qC,azA,iT,mcn,qI];first | exact (zG2 s [] ⟨rfl,fun _=>rfl,fun _ _ _ h=>by simp[qC] at h⟩ rfl rfl) | exact⟨rfl,(zG2 s [] ⟨rfl,fun _=>rfl,fun _ _ _ h=>by simp[qC] at h⟩ rfl rfl)⟩ | exact⟨rfl,rfl,(zG2 s [] ⟨rfl,fun _=>rfl,fun _ _ _ h=>by simp[qC] at h⟩ rfl rfl)⟩ | exact⟨rfl,rfl,rfl,(zG2 s [] ⟨rfl,fun _=>rfl,fun _ _ _ h=>by simp[qC] at h⟩ rfl rfl)⟩
def zMs:Ct where
 α:=List Obj
 aS x:=[.t (.sl (x.map qC9))]
 ins _:=[]
 pre x:=x≠[]∧x.length≤1000
 r x:= .sl 0 0 x.length
 outs x:=[.live 9 ((x.map qC9).map V.t) true false]
 inj:=by
  intro a b h _;simp only[List.cons.injEq,V.t.injEq,T.sl.injEq,and_true,zUc] at h;subst h;exact⟨rfl,rfl⟩
theorem jLp {x:List Obj}(h:x≠[]∧x.length≤1000):zMs.fs [.t (.sl (x.map qC9))] []=some (.sl 0 0 x.length,[.live 9 ((x.map qC9).map V.t) true false]):=zMs.eq x h
theorem qWg (x:List Obj)(hx:x≠[]∧x.length≤1000):jF.1.wp tab gl (qE 0 [.t (.sl (x.map qC9))]) (qE 0 []) (kG [] [(2,none)] 0 (fun r o=>r = .sl 0 0 x.length∧o=[.live 9 ((x.map qC9).map V.t) true false])):=by
 match x,hx with
 | [],hx=>exact absurd rfl hx.1
 | a::r,hx=>
  have hz:=jRw (l:=a::r);simp only[length_cons] at hx;simp only[map_cons] at hz;simp(disch:=omega)only[go_sem,jF,map_cons,hz];exact⟨hz,trivial⟩
def frO:List Obj→Nat→Int
 | [],_ => -1
 | x::r,k=>if x.p.kd=0 then (k:Int) else frO r (k+1)
def qQn (s:St)(x:Obj):St×Int×Int:=if frO s.obs 0 = -1 then (s,0,25) else ({ s with obs:=s.obs.set (frO s.obs 0).toNat x },512+frO s.obs 0,0)
def qPg:ECt where
 α:=St×Obj
 β:=St×Int×Int
 aS:=fun (s,x)=>[.t (stA s),.t (qC9 x)]
 pre:=fun (s,x)=>s.obs.length=3
 r:=fun (t,h,e)=> .tup [.t (stA t),.t (.int .i64 h),.t (.int .i64 e)]
 R:=fun (s,x) (t,h,e)=>(t,h,e)=qQn s x
theorem jNt {g:EF qPg}{s:St}{x:Obj}(hp:s.obs.length=3) : ∃ (t:St) (h e:Int),((t,h,e)=qQn s x)∧qPg.fs g [.t (stA s),.t (qC9 x)] []=some (.tup [.t (stA t),.t (.int .i64 h),.t (.int .i64 e)],[]):=by
 obtain⟨y,h1,h2⟩:=qPg.eq g (s,x) hp;exact⟨y.1,y.2.1,y.2.2,h1,h2⟩
theorem zHd {s:St}{x:Obj}(t:St)(h e:Int)(hR:(t,h,e)=qQn s x)(hV:vv = .tup [.t (stA t),.t (.int .i64 h),.t (.int .i64 e)])(hO:oo=[]):qPg.K (s,x) vv oo:=⟨(t,h,e),hR,hV,hO⟩
theorem zEv (h1:LkC tab 207 zMs)(s:St)(x:Obj)(hp:s.obs.length=3) :
  qGy.1.wp tab gl (qE 0 [.t (stA s),.t (qC9 x)]) (qE 0 []) (qV [(4,(some (30,true))),(5,none),(6,none)] 0 (qPg.K (s,x))):=by
 have e:=jLp (x:=s.obs) ⟨by intro h;rw[h] at hp;exact absurd hp (by decide),oM⟩;rw[hp] at e;simp(maxSteps:=9^9)(disch:=try exact dS)only[go_sem,qGy,stA,qC9,hp];refine yU (σ:=Nat) (fun j=>j≤3∧frO (s.obs.drop j) j=frO s.obs 0) (fun j=>3-j) (fun j=>[(2,.ref 4096 0 0),(3,.ref 4112 0 0),(4,.ref 4128 0 0),(11,.t (.sl (s.obs.map qC9))),(12,.t (.int .i64 3)),(13,.t (.int .i64 j))]) (fun j=>[(4128,.live 30 [.agg [.nil,.nil,.nil,.t (.int .i64 0),.t (.int .i64 0),.t (.int .i64 0),.t (.int .i64 0),.t (.bool false),.nil,.t (.int .i64 0),.t (.int .i64 0),.nil,.t (.int .i64 0),.t (.int .i64 0),.t (.int .i64 0),.t (.int .i64 0),.t (.int .i64 0),.t (.int .i64 0),.nil,.t (.bool false),.t (.bool false),.nil,.t (.int .i64 0),.t (.int .i64 0),.t (.bool false),.t (.int .i64 0),.nil,.nil,.nil,.nil]] true true),(4112,.live 9 [.t (qC9 x)] true true),(4096,.live 30 [.t (stA s)] true true)]) 0 ⟨oM,rfl⟩ (qJ.rd id ?_ ?_ rfl) ?_
 ·simp(maxSteps:=9^9)(disch:=try exact dS)only[go_sem,id,stA,qC9,hp]
 ·simp(maxSteps:=9^9)(disch:=try exact dS)only[go_sem,id,stA,qC9]
 rintro j ⟨hj,hF⟩;by_cases hlt:j<3
 ·obtain⟨y,hg,hm,hdr⟩:=qX (l:=s.obs) (k:=j) oM;rw[hdr,frO] at hF;by_cases c3:y.p.kd=0
  ·rw[if_pos c3] at hF;simp(maxSteps:=9^9)(disch:=try exact dS)only[go_sem,stA,qC9,hp,hlt,hg,oms,c3,h1,e,jRw];first | exact (zHd { s with obs:=s.obs.set j x } ((512+j:Nat):Int) 0 (by rw[qQn,←hF,if_neg oM,Int.toNat_natCast,show ((512+j:Nat):Int)=512+(j:Int) by omega]) (by rw[take_of_length_le (by simp[hp])];simp only[stA,map_set,qC9]) rfl) | exact⟨rfl,(zHd { s with obs:=s.obs.set j x } ((512+j:Nat):Int) 0 (by rw[qQn,←hF,if_neg oM,Int.toNat_natCast,show ((512+j:Nat):Int)=512+(j:Int) by omega]) (by rw[take_of_length_le (by simp[hp])];simp only[stA,map_set,qC9]) rfl)⟩ | exact⟨rfl,rfl,(zHd { s with obs:=s.obs.set j x } ((512+j:Nat):Int) 0 (by rw[qQn,←hF,if_neg oM,Int.toNat_natCast,show ((512+j:Nat):Int)=512+(j:Int) by omega]) (by rw[take_of_length_le (by simp[hp])];simp only[stA,map_set,qC9]) rfl)⟩ | exact⟨rfl,rfl,rfl,(zHd { s with obs:=s.obs.set j x } ((512+j:Nat):Int) 0 (by rw[qQn,←hF,if_neg oM,Int.toNat_natCast,show ((512+j:Nat):Int)=512+(j:Int) by omega]) (by rw[take_of_length_le (by simp[hp])];simp only[stA,map_set,qC9]) rfl)⟩
  ·rw[if_neg c3] at hF;simp(maxSteps:=9^9)(disch:=try exact dS)only[go_sem,stA,qC9,hp,hlt,hg,oms,c3];refine qZz.of (j+1) ⟨oM,hF⟩ oM (qJ.rd id ?_ ?_ rfl);all_goals simp(maxSteps:=9^9)(disch:=try exact dS)only[go_sem,id,stA,qC9]
 ·have e3:j=3:=oM;subst e3;rw[drop_eq_nil_of_le oM,frO] at hF;simp(maxSteps:=9^9)(disch:=try exact dS)only[go_sem,stA,qC9,hp];first | exact (zHd s 0 25 (by rw[qQn,←hF,if_pos rfl]) rfl rfl) | exact⟨rfl,(zHd s 0 25 (by rw[qQn,←hF,if_pos rfl]) rfl rfl)⟩ | exact⟨rfl,rfl,(zHd s 0 25 (by rw[qQn,←hF,if_pos rfl]) rfl rfl)⟩ | exact⟨rfl,rfl,rfl,(zHd s 0 25 (by rw[qQn,←hF,if_pos rfl]) rfl rfl)⟩
def qPj:ECt where
 α:=St×Rq
 β:=St×Rs
 aS:=fun (s,q)=>[.t (stA s),.t (rqA q)]
 pre:=fun (s,q)=>s.En ∧ ∃ h ss v,q=qC (.un h ss v)∧tmI h∧(qBn s h).2=0
 r:=fun (t,r)=> .tup [.t (stA t),.t (rsA r)]
 R:=fun (s,q) (t,r)=>t=s ∧ ∀ h ss v,q=qC (.un h ss v)→r=⟨0,[],[(qBn s h).1.s.da],[]⟩
theorem jNw {g:EF qPj}{s:St}{q:Rq}(hp:s.En ∧ ∃ h ss v,q=qC (.un h ss v)∧tmI h∧(qBn s h).2=0) : ∃ (t:St) (r:Rs),(t=s ∧ ∀ h ss v,q=qC (.un h ss v)→r=⟨0,[],[(qBn s h).1.s.da],[]⟩)∧qPj.fs g [.t (stA s),.t (rqA q)] []=some (.tup [.t (stA t),.t (rsA r)],[]):=by
 obtain⟨y,h1,h2⟩:=qPj.eq g (s,q) hp;exact⟨y.1,y.2,h1,h2⟩
theorem zZv {s:St}{q:Rq}(t:St)(r:Rs)(hR:t=s ∧ ∀ h ss v,q=qC (.un h ss v)→r=⟨0,[],[(qBn s h).1.s.da],[]⟩)(hV:vv = .tup [.t (stA t),.t (rsA r)])(hO:oo=[]):qPj.K (s,q) vv oo:=⟨(t,r),hR,hV,hO⟩
def qJf:ECt where
 α:=Rq
 β:=Int
 aS:=fun q=>[.t (rqA q)]
 pre:=fun q=>1≤q.hs.length
 r:=fun r'=> .t (.int .i64 r')
 R:=fun q r'=>r'=q.h0
theorem jEa {g:EF qJf}{q:Rq}(hp:1≤q.hs.length):qJf.fs g [.t (rqA q)] []=some (.t (.int .i64 (q.h0)),[]):=fnQ qJf q hp
theorem zZt {q:Rq}(hV:vv = .t (.int .i64 (q.h0)))(hO:oo=[]):qJf.K q vv oo:=⟨_,rfl,hV,hO⟩
theorem zAl  (q:Rq)(hp:1≤q.hs.length) :
  qE3.1.wp tab gl (qE 0 [.t (rqA q)]) (qE 0 []) (qV [(2,none)] 0 (qJf.K q)):=by
 obtain⟨co,hs,au,ns,bl⟩:=q;cases hs with
 | nil=>simp at hp
 | cons a r=>
  simp only[length_cons] at hp;simp(disch:=omega)only[go_sem,qE3,rqA,iT,map_cons];first | exact (zZt rfl rfl) | exact⟨rfl,(zZt rfl rfl)⟩ | exact⟨rfl,rfl,(zZt rfl rfl)⟩ | exact⟨rfl,rfl,rfl,(zZt rfl rfl)⟩
theorem qZf {g1}(h1:LkE tab 228 qJf g1){g2}(h2:LkE tab 165 qHg g2)(s:St)(q:Rq)(hp:s.En ∧ ∃ h ss v,q=qC (.un h ss v)∧tmI h∧(qBn s h).2=0) :
  qDx.1.wp tab gl (qE 0 [.t (stA s),.t (rqA q)]) (qE 0 []) (qV [(4,(some (30,true))),(5,(some (4,true)))] 0 (qPj.K (s,q))):=by
 obtain⟨he,h,ss,v,rfl,ht,h0⟩:=hp;have e1:=jEa (g:=g1) (q:=qC (.un h ss v)) (by simp[qC]);obtain⟨x,ex,q2,e2⟩:=zNd (g:=g2) (s:=s) (h:=h) ⟨he.obs.1,ht⟩;obtain⟨po,un,au,sd,da,hh,hx,l1,l2,l3,l4⟩:=zSt he.obs h0;have hx':qBn s h=(⟨⟨3,0,0,po,un⟩,⟨au,sd,da⟩,hh⟩,0):=Prod.ext hx h0;rw[hx'] at q2;cases q2;have hK : ∀ h' ss' v',qC (.un h ss v)=qC (.un h' ss' v')→(⟨0,[],[da],[]⟩:Rs)=⟨0,[],[(qBn s h').1.s.da],[]⟩:=fun h' _ _ g=>by rw[←(wD g).1,hx]
 simp only[stA,qC9,rqA,qC,azA,iT,mcn,Rq.h0,getD_cons_zero] at e1 e2;simp(maxSteps:=9^9)(disch:=try exact dS)only[go_sem,qDx,stA,qC9,rqA,qC,azA,iT,mcn,h1,h2,e1,e2];first | exact (zZv s ⟨0,[],[da],[]⟩ ⟨rfl,hK⟩ rfl rfl) | exact⟨rfl,(zZv s ⟨0,[],[da],[]⟩ ⟨rfl,hK⟩ rfl rfl)⟩ | exact⟨rfl,rfl,(zZv s ⟨0,[],[da],[]⟩ ⟨rfl,hK⟩ rfl rfl)⟩ | exact⟨rfl,rfl,rfl,(zZv s ⟨0,[],[da],[]⟩ ⟨rfl,hK⟩ rfl rfl)⟩
def qPh:ECt where
 α:=Rq×Int
 β:=Int
 aS:=fun (q,i)=>[.t (rqA q),.t (.int .i64 i)]
 pre:=fun (q,i)=>0≤i
 r:=fun r'=> .t (.int .i64 r')
 R:=fun (q,i) r'=>r'=q.ns.getD i.toNat 0
theorem zUa {g:EF qPh}{q:Rq}{i:Int}(hp:0≤i):qPh.fs g [.t (rqA q),.t (.int .i64 i)] []=some (.t (.int .i64 (q.ns.getD i.toNat 0)),[]):=fnQ qPh (q,i) hp
theorem zHe {q:Rq}{i:Int}(hV:vv = .t (.int .i64 (q.ns.getD i.toNat 0)))(hO:oo=[]):qPh.K (q,i) vv oo:=⟨_,rfl,hV,hO⟩
theorem qZg  (q:Rq)(i:Int)(hp:0≤i) :
  qAu.1.wp tab gl (qE 0 [.t (rqA q),.t (.int .i64 i)]) (qE 0 []) (qV [(4,none)] 0 (qPh.K (q,i))):=by
 obtain⟨n,rfl⟩:=Int.eq_ofNat_of_zero_le hp;by_cases c:n<q.ns.length
 ·obtain⟨x,hg,_⟩:=qX c;have hd:q.ns.getD n 0=x:=by rw[getD_eq_getElem?_getD,hg];rfl
  simp(disch:=omega)only[go_sem,qAu,rqA,c,hg,oms,iT];first | exact (zHe (by rw[Int.toNat_natCast,hd]) rfl) | exact⟨rfl,(zHe (by rw[Int.toNat_natCast,hd]) rfl)⟩ | exact⟨rfl,rfl,(zHe (by rw[Int.toNat_natCast,hd]) rfl)⟩ | exact⟨rfl,rfl,rfl,(zHe (by rw[Int.toNat_natCast,hd]) rfl)⟩
 ·have hd:q.ns.getD n 0=0:=by rw[getD_eq_getElem?_getD,getElem?_eq_none oM];rfl
  simp(disch:=omega)only[go_sem,qAu,rqA,c];first | exact (zHe (by rw[Int.toNat_natCast,hd]) rfl) | exact⟨rfl,(zHe (by rw[Int.toNat_natCast,hd]) rfl)⟩ | exact⟨rfl,rfl,(zHe (by rw[Int.toNat_natCast,hd]) rfl)⟩ | exact⟨rfl,rfl,rfl,(zHe (by rw[Int.toNat_natCast,hd]) rfl)⟩
def qHi:ECt where
 α:=Rq×Int
 β:=List UInt8
 aS:=fun (q,i)=>[.t (rqA q),.t (.int .i64 i)]
 pre:=fun (q,i)=>0≤i
 r:=fun r'=> .t (.sl (r'.map qA))
 R:=fun (q,i) r'=>r'=q.bl.getD i.toNat []
theorem zT9 {g:EF qHi}{q:Rq}{i:Int}(hp:0≤i):qHi.fs g [.t (rqA q),.t (.int .i64 i)] []=some (.t (.sl ((q.bl.getD i.toNat []).map qA)),[]):=fnQ qHi (q,i) hp
theorem zHc {q:Rq}{i:Int}(hV:vv = .t (.sl ((q.bl.getD i.toNat []).map qA)))(hO:oo=[]):qHi.K (q,i) vv oo:=⟨_,rfl,hV,hO⟩
theorem zEu  (q:Rq)(i:Int)(hp:0≤i) :
  qC7.1.wp tab gl (qE 0 [.t (rqA q),.t (.int .i64 i)]) (qE 0 []) (qV [(4,none)] 0 (qHi.K (q,i))):=by
 obtain⟨n,rfl⟩:=Int.eq_ofNat_of_zero_le hp;by_cases c:n<q.bl.length
 ·obtain⟨x,hg,_⟩:=qX c;have hd:q.bl.getD n []=x:=by rw[getD_eq_getElem?_getD,hg];rfl
  simp(disch:=omega)only[go_sem,qC7,rqA,c,hg,oms];first | exact (zHc (by rw[Int.toNat_natCast,hd]) rfl) | exact⟨rfl,(zHc (by rw[Int.toNat_natCast,hd]) rfl)⟩ | exact⟨rfl,rfl,(zHc (by rw[Int.toNat_natCast,hd]) rfl)⟩ | exact⟨rfl,rfl,rfl,(zHc (by rw[Int.toNat_natCast,hd]) rfl)⟩
 ·have hd:q.bl.getD n []=[]:=by rw[getD_eq_getElem?_getD,getElem?_eq_none oM];rfl
  simp(disch:=omega)only[go_sem,qC7,rqA,c];first | exact (zHc (by rw[Int.toNat_natCast,hd];rfl) rfl) | exact⟨rfl,(zHc (by rw[Int.toNat_natCast,hd];rfl) rfl)⟩ | exact⟨rfl,rfl,(zHc (by rw[Int.toNat_natCast,hd];rfl) rfl)⟩ | exact⟨rfl,rfl,rfl,(zHc (by rw[Int.toNat_natCast,hd];rfl) rfl)⟩
def qLx:ECt where
 α:=Rq
 β:=Pu
 aS:=fun q=>[.t (rqA q)]
 pre:=fun q=>True
 r:=fun r'=> .t (puA r')
 R:=fun q r'=>r'=⟨q.ns.getD 0 0,q.ns.getD 1 0,q.ns.getD 2 0,q.bl.getD 0 [],[]⟩
theorem jNv {g:EF qLx}{q:Rq}(hp:True):qLx.fs g [.t (rqA q)] []=some (.t (puA (⟨q.ns.getD 0 0,q.ns.getD 1 0,q.ns.getD 2 0,q.bl.getD 0 [],[]⟩)),[]):=fnQ qLx q hp
theorem zZu {q:Rq}(hV:vv = .t (puA (⟨q.ns.getD 0 0,q.ns.getD 1 0,q.ns.getD 2 0,q.bl.getD 0 [],[]⟩)))(hO:oo=[]):qLx.K q vv oo:=⟨_,rfl,hV,hO⟩
theorem qUh {g1}(h1:LkE tab 205 qPh g1){g2}(h2:LkE tab 230 qHi g2)(q:Rq)(hp:True) :
  qBt.1.wp tab gl (qE 0 [.t (rqA q)]) (qE 0 []) (qV [(2,(some (5,true)))] 0 (qLx.K q)):=by
 have e0:=zUa (g:=g1) (q:=q) (i:=0) oM;have e1:=zUa (g:=g1) (q:=q) (i:=1) oM;have e2:=zUa (g:=g1) (q:=q) (i:=2) oM;have e3:=zT9 (g:=g2) (q:=q) (i:=0) oM;simp only[rqA] at e0 e1 e2 e3;simp(disch:=omega)only[go_sem,qBt,rqA,h1,h2,e0,e1,e2,e3];first | exact (zZu rfl rfl) | exact⟨rfl,(zZu rfl rfl)⟩ | exact⟨rfl,rfl,(zZu rfl rfl)⟩ | exact⟨rfl,rfl,rfl,(zZu rfl rfl)⟩
end Go.Eng
end
