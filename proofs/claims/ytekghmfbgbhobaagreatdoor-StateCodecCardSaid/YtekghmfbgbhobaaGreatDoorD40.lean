/- A part of an abstract machine, its walks, their tie. -/
import Derived.Test.YtekghmfbgbhobaaGreatDoorD39
import Derived.Test.YtekghmfbgbhobaaGreatDoorD26
import Derived.Test.YtekghmfbgbhobaaGreatDoorD23
import Derived.Test.YtekghmfbgbhobaaGreatDoorD22
import Derived.Test.YtekghmfbgbhobaaGreatDoorD37
set_option linter.all false
section
set_option maxHeartbeats 64000000
set_option maxRecDepth 20000
namespace Go.Eng
variable (tab:Tab) (gl:Gl)
theorem zF4  (a b:List UInt8)(hp:a.length≤4000∧b.length≤4000) :
  qId.1.wp tab gl (qE 0 [.t (.sl (a.map qA)),.t (.sl (b.map qA))]) (qE 0 []) (qX [(4,none)] 0 (qOe.K (a,b))):=by
 simp +contextual(maxSteps:=9^9)(disch:=try exact dS)only[go_sem,qId,↓qB,↓qC,qU]
 (repeat' (first | apply And.intro | intro _))<;>(try rfl)
 all_goals exact jO1 _ trivial rfl rfl
theorem qYx  (x:Sl2) :
  qEv.1.wp tab gl (qE 0 [.t (jAo x)]) (qE 0 []) (qX [(2,none)] 0 (qOz.K x)):=by
 simp +contextual(maxSteps:=9^9)(disch:=try exact dS)only[go_sem,qEv,jAo,↓qB,↓qC,qU]
 (repeat' (first | apply And.intro | intro _))<;>(try rfl)
 all_goals exact jP4 _ trivial rfl rfl
theorem qXe  (l:List (List UInt8))(hp:l.length≤8 ∧ ∀ x∈l,x.length≤4000) :
  qAs.1.wp tab gl (qE 0 [.t (.sl (l.map bsT))]) (qE 0 []) (qX [(2,none)] 0 (qM7.K l)):=by
 obtain⟨hl,hb⟩:=hp;by_cases c1:l.length<2
 ·simp(maxSteps:=9^9)(disch:=try exact dS)only[go_sem,qAs,c1];exact jBh _ trivial rfl rfl
 simp(maxSteps:=9^9)(disch:=try exact dS)only[go_sem,qAs,c1];refine zD (σ:=Nat) (fun k=>k≤l.length) (fun k=>l.length-k) (fun k=>[(0,.t (.sl (l.map bsT))),(3,.t (.int .i64 k))]) (fun _=>[]) 0 oM ?_ ?_
 ·refine qI.rd id ?_ ?_ rfl;all_goals simp(maxSteps:=9^9)(disch:=try exact dS)only[go_sem,id]
 ·intro k hk;by_cases hlt:k<l.length
  ·obtain⟨x,hg,hm,hd⟩:=qN hlt;have hx:=hb _ hm;by_cases c2:x.length=32
   ·simp(maxSteps:=9^9)(disch:=try exact dS)only[go_sem,hlt,hg,c2];refine qDa.of (k+1) oM oM (qI.rd id ?_ ?_ rfl);all_goals simp(maxSteps:=9^9)(disch:=try exact dS)only[go_sem,id]
   ·simp(maxSteps:=9^9)(disch:=try exact dS)only[go_sem,hlt,hg,c2];exact jBh _ trivial rfl rfl
  ·simp(maxSteps:=9^9)(disch:=try exact dS)only[go_sem,hlt];exact jBh _ trivial rfl rfl
theorem zF2 {g1}(h1:LkE tab 272 qOz g1){g2}(h2:LkE tab 273 qOe g2){g3}(h3:LkE tab 274 qM7 g3)(a:Asr)(hp:a.B) :
  qIa.1.wp tab gl (qE 0 [.t (vN a)]) (qE 0 []) (qX [(2,none)] 0 (qIk.K a)):=by
 obtain⟨a1,a2,a3,a4,a5,a6⟩:=hp;obtain⟨x1,_,e1⟩:=jLf (g:=g1) (x:=⟨a.s0,a.s1⟩);obtain⟨x2,_,e2⟩:=zZx (g:=g2) (a:=a.nm) (b:=a.od) ⟨a3,a2⟩;obtain⟨x3,_,e3⟩:=zZx (g:=g2) (a:=a.nm) (b:=a.rf) ⟨a3,a4⟩;obtain⟨x4,_,e4⟩:=jG3 (g:=g3) (l:=a.br) ⟨a5,a6⟩;simp only[jAo] at e1;simp +contextual(maxSteps:=9^9)(disch:=try exact dS)only[go_sem,qIa,vN,h1,h2,h3,e1,e2,e3,e4,↓qB,↓qC,qU]
 (repeat' (first | apply And.intro | intro _))<;>(try rfl)
 all_goals exact jNi _ trivial rfl rfl
theorem zF3 (h1:LkC tab 42 yT)(h2:LkC tab 191 qAt)(d:List UInt8)(a:Asr)(hp:d.length≤4000∧a.B) :
  qIb.1.wp tab gl (qE 0 [.t (.sl (d.map qA)),.t (vN a)]) (qE 0 []) (xS [] [(4,none)] 0 (qNm.K (d,a))):=by
 obtain⟨hd,a1,a2,a3,a4,a5,a6⟩:=hp;obtain⟨u1,lu1,e1⟩:=qF4 (b:=[]) (k:=2) (n:=a.s0) sM;obtain⟨u2,lu2,e2⟩:=qF4 (b:=u1) (k:=2) (n:=a.s1) (by rw[lu1];simp);obtain⟨u3,lu3,e3⟩:=qF4 (b:=[]) (k:=8) (n:=a.n) sM;simp only[List.map_nil,List.length_nil,Nat.zero_add] at e1 lu1 e3 lu3;rw[lu1,show 2+2=4 from rfl] at lu2;rw[lu1] at e1;rw[lu2] at e2;rw[lu3] at e3;have k2:((2:Nat):Int)=2:=rfl;have k8:((8:Nat):Int)=8:=rfl;simp only[k2,k8] at e1 e2 e3;have t1:u1.take 2=u1:=List.take_of_length_le oM;have t2:u2.take 4=u2:=List.take_of_length_le oM;have t3:u3.take 8=u3:=List.take_of_length_le oM;have fr : ∀ f:List (List UInt8),f.length≤20→(∀ x∈f,x.length≤4000) → ∃ y:List UInt8,y.length≤200000∧qAt.fs [.t (.int .i64 8),.t (.sl (f.map bsT))] []=some (.sl 0 0 y.length,[.live 1 ((y.map qA).map V.t) true false]):=by
  intro f h1 h2;have hl:=qL3 (t:=8) h2;have:(4+4000)*f.length≤(4+4000)*20:=Nat.mul_le_mul_left _ h1;exact⟨yB 8 f,oM,qQf (t:=8) (fs:=f) ⟨oM,oM⟩⟩
 obtain⟨bb,hk⟩ : ∃ b,u8I a.kd=b:=⟨_,rfl⟩;obtain⟨y1,l1,f1⟩:=fr [[u8I a.kd],d,u2,a.dg] sM soM;obtain⟨y2,l2,f2⟩:=fr [[u8I a.kd],d,[u8I a.n]] sM soM;obtain⟨y3,l3,f3⟩:=fr [[u8I a.kd],d,[u8I a.op],a.od,a.nm] sM soM;obtain⟨y4,l4,f4⟩:=fr [[u8I a.kd],d,[u8I a.op],u3] sM soM;obtain⟨y5,l5,f5⟩:=fr [[u8I a.kd],d,a.nm,a.rf] sM soM;obtain⟨y6,l6,f6⟩:=fr [[u8I a.kd],d] sM soM;obtain⟨y7,l7,f7⟩:=fr ([u8I a.kd]::a.br) soM (by intro x hx;rcases List.mem_cons.1 hx with rfl | hx;simp;exact a6 x hx);obtain⟨y8,l8,f8⟩:=fr [[u8I a.kd],a.nm,a.rf] sM soM;obtain⟨y9,l9,f9⟩:=fr [[u8I a.kd]] sM sM;simp only[mcn,bsT,hk] at f1 f2 f3 f4 f5 f6 f7 f8 f9;have t7:List.take (1+a.br.length) (T.sl [qA bb]::List.map bsT a.br)=T.sl [qA bb]::List.map bsT a.br:=List.take_of_length_le soM;simp +contextual(maxSteps:=9^9)(disch:=try exact dS)only[go_sem,qIb,vN,h1,h2,u8w,hk,t7,e1,e2,e3,lu1,lu2,lu3,t1,t2,t3,f1,f2,f3,f4,f5,f6,f7,f8,f9,↓qB,↓qC,qU]
 (repeat' (first | apply And.intro | intro _))<;>(try rfl)
 all_goals first | exact zAx y1 l1 rfl rfl | exact zAx y2 l2 rfl rfl | exact zAx y3 l3 rfl rfl | exact zAx y4 l4 rfl rfl | exact zAx y5 l5 rfl rfl | exact zAx y6 l6 rfl rfl | exact zAx y7 l7 rfl rfl | exact zAx y8 l8 rfl rfl | exact zAx y9 l9 rfl rfl | skip
theorem zCr {g1}(h1:LkE tab 249 qIk g1){g2}(h2:LkE tab 275 qNm g2)(h3:tab.look 102=some (qJh 32 yK).fs)(d:List UInt8)(a:Asr)(hp:d.length≤4000∧a.B) :
  qGt.1.wp tab gl (qE 0 [.t (.sl (d.map qA)),.t (vN a)]) (qE 0 []) (qX [(4,none)] 0 (qGw.K (d,a))):=by
 obtain⟨x1,_,e1⟩:=zJ2 (g:=g1) hp.2;obtain⟨y,hy,e2⟩:=jHy (g:=g2) hp;obtain⟨z,hz,e3⟩:=jLl (b:=y) oM;rw[hz] at e3;simp only[vN] at e1 e2;simp +contextual(maxSteps:=9^9)(disch:=try exact dS)only[go_sem,qGt,vN,h1,h2,h3,e1,e2,e3,List.take_length,hz,↓qB,↓qC,qU]
 (repeat' (first | apply And.intro | intro _))<;>(try rfl)
 ·exact jHs [] sM rfl rfl
 ·exact jHs (z.take 32) (by rw[List.length_take];omega) rfl rfl
theorem zCq (h1:LkC tab 246 qZj){g2}(h2:LkE tab 250 qGw g2)(l:List Asr)(hp:l.length≤8 ∧ ∀ a∈l,a.B) :
  qGs.1.wp tab gl (qE 0 [.t (.sl (l.map vN))]) (qE 0 []) (qX [(2,none)] 0 (qNg.K l)):=by
 obtain⟨hl,hb⟩:=hp;have t1:List.take 32 z32=z32:=rfl;simp(maxSteps:=9^9)(disch:=try exact dS)only[go_sem,qGs,h1,zRg];refine zD (σ:=Nat×List UInt8) (fun s=>s.1≤l.length∧s.2.length≤32) (fun s=>l.length-s.1) (fun s=>[(0,.t (.sl (l.map vN))),(3,.t (.sl (s.2.map qA))),(4,.t (.int .i64 s.1))]) (fun _=>[]) (0,z32) ⟨sM,by simp[z32]⟩ ?_ ?_
 ·refine qI.cv (hv:=[]) [8192] id ?_ rfl;simp(maxSteps:=9^9)(disch:=try exact dS)only[go_sem,id,t1,qS5];all_goals rfl
 ·rintro⟨k,d⟩ ⟨hk,hd⟩;simp only at hk hd;by_cases hlt:k<l.length
  ·obtain⟨x,hg,hm,_⟩:=qN hlt;obtain⟨y,hy,e⟩:=zDu (g:=g2) (d:=d) (a:=x) ⟨oM,hb _ hm⟩;simp only[vN] at e;by_cases c:y.length=0
   ·obtain rfl:y=[]:=List.length_eq_zero_iff.1 c;simp only[List.map_nil] at e;simp(maxSteps:=9^9)(disch:=try exact dS)only[go_sem,hlt,hg,oms,vN,h2,e];exact jHm [] sM rfl rfl
   ·simp(maxSteps:=9^9)(disch:=try exact dS)only[go_sem,hlt,hg,oms,vN,h2,e,c];repeat refine aiG ?_
    refine qDa.of (k+1,y) ⟨by show k+1≤l.length;omega,hy⟩ (by show l.length-(k+1)<l.length-k;omega) (qI.rd id ?_ ?_ rfl);all_goals simp(maxSteps:=9^9)(disch:=try exact dS)only[go_sem,id]
  ·simp(maxSteps:=9^9)(disch:=try exact dS)only[go_sem,hlt];exact jHm d hd rfl rfl
theorem qX4 {g1}(h1:LkE tab 172 qK5 g1)(h2:LkC tab 231 qA5)(s:Sn)(k h:Int)(hp:s.sd.length≤64∧s.da.length≤4000) :
  qBo.1.wp tab gl (qE 0 [.t (snA s),.t (.int .i64 k),.t (.int .i64 h)]) (qE 0 []) (qX [(6,none)] 0 (qLh.K (s,k,h))):=by
 obtain⟨q1,q2⟩:=hp;obtain⟨y,hy,e1⟩:=zZ3 (g:=g1) (s:=s.sd) (h:=h) q1;obtain⟨z,hz,e2⟩:=qQi (t:=13) (fs:=[s.sd,s.da]) oM sM soM;simp only[mcn,bsT] at e2;rw[show ((13:Nat):Int)=13 from rfl,hz] at e2;have t:z.take 32=z:=List.take_of_length_le oM;by_cases c:k=2
 ·simp(maxSteps:=9^9)(disch:=try exact dS)only[go_sem,qBo,snA,h1,e1,c];exact jL0 y oM rfl rfl
 ·simp(maxSteps:=9^9)(disch:=try exact dS)only[go_sem,qBo,snA,h2,e2,c,t,hz];exact jL0 z oM rfl rfl
theorem zIp (h1:LkC tab 43 qBy)(s:Sn)(nm:List UInt8)(hp:s.sd.length≤64∧nm.length≤100000) :
  qJt.1.wp tab gl (qE 0 [.t (snA s),.t (.sl (nm.map qA))]) (qE 0 []) (qX [(4,none)] 0 (qK0.K (s,nm))):=by
 obtain⟨y,hy,e⟩:=zMa (k:=s.sd) (l:=[112,114,105,118,97,116,101]) (c:=nm) (n:=32) ⟨hp.1,sM,oM,oM,oM⟩;rw[show ((32:Nat):Int)=32 from rfl] at e;simp(maxSteps:=9^9)(disch:=try exact dS)only[go_sem,qJt,snA,h1,e];exact jOn y hy rfl rfl
theorem zFa {g1}(h1:LkE tab 220 qLi g1){g2}(h2:LkE tab 221 qIv g2)(h3:LkC tab 43 qBy){g4}(h4:LkE tab 222 qLh g4)(s:List UInt8)(p:Pu)(au da:List UInt8)(hp:s.length≤64∧p.po.length≤4000∧au.length≤4000∧da.length≤4000) :
  qDu.1.wp tab gl (qE 0 [.t (.sl (s.map qA)),.t (puA p),.t (.sl (au.map qA)),.t (.sl (da.map qA))]) (qE 0 []) (qX [(8,(some (5,true))),(9,(some (3,true))),(10,none)] 0 (qIr.K (s,p,au,da))):=by
 obtain⟨q1,q2,q3,q4⟩:=hp;obtain⟨y,hy,e1⟩:=zMa (k:=s) (l:=[115,101,101,100]) (c:=[]) (n:=32) ⟨q1,sM,sM,oM,oM⟩;rw[show ((32:Nat):Int)=32 from rfl] at e1;simp only[List.map_nil] at e1;obtain⟨n,hn,hn'⟩ : ∃ n:Nat,(if p.kd=2 then (17:Int) else 32)=n∧n≤32:=by split;exact⟨17,rfl,oM⟩;exact⟨32,rfl,oM⟩
 have e2 := @jAx g1 p.kd;rw[hn] at e2;have t:(List.replicate n (0:UInt8)).take n=List.replicate n 0:=sM;obtain⟨kd,ar,ht,po,un⟩:=p;simp only at *;obtain⟨x,hx,e3⟩:=zRi (g:=g2) (p:=⟨kd,ar,ht,po,List.replicate n 0⟩) soM;obtain⟨z,hz,e4⟩:=jAw (g:=g4) (s:=⟨au,y,da⟩) (k:=kd) (h:=ht) ⟨by simp only;omega,q4⟩;simp only[puA,snA] at e3 e4;have tz:List.take z.length z=z:=List.take_length;have rp : ∀ {n:Nat},True:=fun {_}=>trivial
 have fin : ∀ {v:V} {e:Int},x=0 → ¬ (32:Int)<au.length → ¬ (128:Int)<da.length→e=0→Pu.Ok ⟨kd,ar,ht,po,z⟩∧Sn.Ok ⟨au,y,da⟩:=by
  intro v e hx0 a1 a2 _;have:=hx hx0;simp only[Pu.Ok,Sn.Ok] at *;omega
 by_cases k3:kd=3
 ·subst k3;simp +contextual(maxSteps:=9^9)(disch:=try exact dS)only[go_sem,qDu,puA,snA,h1,h2,h3,h4,e1,e2,e3,e4,t,↓qB,↓qC,qU]
  (repeat' (first | apply And.intro | intro _))<;>(try rfl)
  all_goals first | exact zEe default default x oM rfl rfl | exact zEe default default 4 oM rfl rfl | exact zEe default default 1 oM rfl rfl | (refine zEe ⟨3,ar,ht,po,z⟩ ⟨au,y,da⟩ 0 (fin (v:= .nil) (by assumption) oM oM) rfl rfl) | skip
 ·simp +contextual(maxSteps:=9^9)(disch:=try exact dS)only[go_sem,qDu,puA,snA,h1,h2,h3,h4,e1,e2,e3,e4,t,k3,↓qB,↓qC,qU]
  (repeat' (first | apply And.intro | intro _))<;>(try rfl)
  all_goals first | exact zEe default default x oM rfl rfl | exact zEe default default 4 oM rfl rfl | exact zEe default default 1 oM rfl rfl | (refine zEe ⟨kd,ar,ht,po,z⟩ ⟨au,y,da⟩ 0 (fin (v:= .nil) (by assumption) oM oM) rfl rfl) | skip
theorem zCk (h1:LkC tab 43 qBy)(k no b:List UInt8)(hp:k.length≤64∧no.length≤64∧b.length≤1024) :
  qGn.1.wp tab gl (qE 0 [.t (.sl (k.map qA)),.t (.sl (no.map qA)),.t (.sl (b.map qA))]) (qE 0 []) (xS [] [(6,none)] 0 (qLd.K (k,no,b))):=by
 obtain⟨q1,q2,q3⟩:=hp;obtain⟨y,hy,e⟩ : ∃ y:List UInt8,y.length=b.length∧qBy.fs [.t (.sl (k.map qA)),.t (qL6 [101,110,99,114,121,112,116]),.t (.sl (no.map qA)),.t (.int .i64 b.length)] []=some (.t (.sl (y.map qA)),[]):=by
  rcases Nat.eq_zero_or_pos b.length with h0 | h0
  ·rw[h0];exact⟨[],rfl,jBx ⟨q1,sM,oM⟩⟩
  ·exact zMa ⟨q1,sM,oM,h0,q3⟩
 simp(maxSteps:=9^9)(disch:=try exact dS)only[go_sem,qGn,h1,e];refine zD (σ:=Nat×List UInt8) (fun t=>t.1≤b.length∧t.2.length=b.length) (fun t=>b.length-t.1) (fun t=>[(2,.t (.sl (b.map qA))),(7,.t (.sl (y.map qA))),(8,.sl 12320 0 b.length),(9,.t (.int .i64 t.1))]) (fun t=>[(12320,.live 1 ((t.2.map qA).map V.t) true false)]) (0,List.replicate b.length 0) ⟨sM,sM⟩ (qI.rd id ?_ ?_ rfl) ?_
 ·simp(maxSteps:=9^9)(disch:=try exact dS)only[go_sem,id]
 ·simp(maxSteps:=9^9)(disch:=try exact dS)only[go_sem,id]
 rintro⟨i,r⟩ ⟨hi,hr⟩;simp only at hi hr;by_cases hlt:i<b.length
 ·simp(maxSteps:=9^9)(disch:=try exact dS)only[go_sem,hlt,hr,hy];repeat refine aiG ?_
  refine qDa.of (i+1,r.set i (b.getD i 0 ^^^ y.getD i 0)) ⟨by show i+1≤b.length;omega,by simp[hr]⟩ (by show b.length-(i+1)<b.length-i;omega) (qI.rd id ?_ ?_ rfl);all_goals simp(maxSteps:=9^9)(disch:=try exact dS)only[go_sem,id]
  all_goals rfl
 ·simp(maxSteps:=9^9)(disch:=try exact dS)only[go_sem,hlt,hr];exact jP5 r hr (by rw[hr]) rfl
theorem zIy {g1}(h1:LkE tab 255 qLd g1)(h2:LkC tab 44 qDg)(h3:LkC tab 256 qMz)(k no ad p:List UInt8)(hp:k.length≤64∧no.length≤64∧ad.length≤4000∧1≤p.length∧p.length≤1000) :
  qKa.1.wp tab gl (qE 0 [.t (.sl (k.map qA)),.t (.sl (no.map qA)),.t (.sl (ad.map qA)),.t (.sl (p.map qA))]) (qE 0 []) (xS [] [(8,none)] 0 (qOw.K (k,no,ad,p))):=by
 obtain⟨q1,q2,q3,q4⟩:=hp;obtain⟨c,hc,e1⟩:=jAp (g:=g1) (k:=k) (no:=no) (b:=p) ⟨q1,q2,oM⟩;obtain⟨x,hx,e2⟩:=qJg (b:=[]) (x:=no) ⟨sM,oM⟩;simp only[List.map_nil,List.length_nil,Nat.zero_add] at e2 hx;obtain⟨y,hy,e3⟩:=qJg (b:=x) (x:=c) ⟨oM,oM⟩;obtain⟨w,hw,e4⟩ : ∃ w:List UInt8,w.length=32∧qMz.fs [.t (.sl (k.map qA)),.t (.sl (no.map qA)),.t (.sl (ad.map qA)),.t (.sl (c.map qA))] []=some (.sl 0 0 32,[.live 1 ((w.map qA).map V.t) true false]):=⟨_,qWy,zOv ⟨q1,q2,oM,oM⟩⟩;have tc:List.take c.length c=c:=List.take_length;have tx:List.take x.length x=x:=List.take_length;simp(maxSteps:=9^9)(disch:=try exact dS)only[go_sem,qKa,h1,h2,h3,e1,e2,e3,e4,tc,tx,hw];repeat refine aiG ?_
 exact jPz (y++w.take 32) soM (by simp[hw]) rfl
theorem zIw (h1:LkC tab 56 qDi)(h2:LkC tab 59 qAu)(h3:LkC tab 137 qKj)(h4:LkC tab 62 qDh)(h5:LkC tab 256 qMz)(h6:LkC tab 20 xM){g7}(h7:LkE tab 255 qLd g7)(k ad b:List UInt8)(hp:k.length≤64∧ad.length≤4000∧b.length≤4000) :
  qJ9.1.wp tab gl (qE 0 [.t (.sl (k.map qA)),.t (.sl (ad.map qA)),.t (.sl (b.map qA))]) (qE 0 []) (qX [(6,none),(7,none)] 0 (qOk.K (k,ad,b))):=by
 obtain⟨q1,q2,q3⟩:=hp;have e1:=qLr (b:=b) oM;obtain⟨no,b1,a1,r1,l1,o1,e2⟩:=qPh (s:=(b,0,0)) (k:=64) ⟨sM,by show b.length<_;omega⟩ oM;obtain⟨c,b2,a2,r2,l2,o2,e3⟩:=qPh (k:=1024) o1 oM;obtain⟨t,b3,a3,r3,l3,o3,e4⟩:=jKp (k:=32) o2 oM;have e5:=jAe o3;obtain⟨w,hw,e6⟩ : ∃ w:List UInt8,w.length=32∧qMz.fs [.t (.sl (k.map qA)),.t (.sl (no.map qA)),.t (.sl (ad.map qA)),.t (.sl (c.map qA))] []=some (.sl 0 0 32,[.live 1 ((w.map qA).map V.t) true false]):=⟨_,qWy,zOv ⟨q1,l1,oM,oM⟩⟩;have e7:=kV (a:=t) (b:=w) ⟨oM,oM⟩;obtain⟨z,hz,e8⟩:=jAp (g:=g7) (k:=k) (no:=no) (b:=c) ⟨q1,l1,l2⟩;have tw:List.take 32 w=w:=List.take_of_length_le oM;have tz:List.take z.length z=z:=List.take_length;simp only[rdO,Int.ofNat_zero] at e1 e2 e3 e4 e5;rw[show ((64:Nat):Int)=64 from rfl] at e2;rw[show ((1024:Nat):Int)=1024 from rfl] at e3;rw[show ((32:Nat):Int)=32 from rfl] at e4;generalize vS (b3,a3,r3)=u at *;simp +contextual(maxSteps:=9^9)(disch:=try exact dS)only[go_sem,qJ9,h1,h2,h3,h4,h5,h6,h7,e1,e2,e3,e4,e5,e6,e7,e8,tw,tz,↓qB,↓qC,qU]
 (repeat' (first | apply And.intro | intro _))<;>(try rfl)
 ·exact jDf [] u sM rfl rfl
 ·exact jDf [] 18 sM rfl rfl
 ·exact jDf z 0 oM rfl rfl
theorem qW1 {g1}(h1:LkE tab 223 qCp g1)(h2:LkC tab 44 qDg){g3}(h3:LkE tab 225 qK0 g3){g4}(h4:LkE tab 171 qCq g4){g5}(h5:LkE tab 224 qOw g5)(s:Sn)(p:Pu)(z:Sn)(hp:s.Ok∧p.Ok∧z.Ok) :
  qDc.1.wp tab gl (qE 0 [.t (snA s),.t (puA p),.t (snA z)]) (qE 0 []) (xS [] [(6,none)] 0 (qK9.K (s,p,z))):=by
 obtain⟨⟨s1,s2,s3⟩,⟨p1,p2,p3,p4,p5⟩,z1,z2,z3⟩:=hp;obtain⟨n,hn,e1⟩:=qWa (g:=g1) (p:=p) ⟨oM,oM⟩;obtain⟨x1,l1,e2⟩:=qJg (b:=[]) (x:=z.au) ⟨sM,oM⟩;simp only[List.map_nil,List.length_nil,Nat.zero_add] at e2 l1;obtain⟨x2,l2,e3⟩:=qJg (b:=x1) (x:=z.sd) ⟨oM,oM⟩;obtain⟨x3,l3,e4⟩:=qJg (b:=x2) (x:=z.da) ⟨oM,oM⟩;obtain⟨k,hk,e5⟩:=zZq (g:=g3) (s:=s) (nm:=n) ⟨oM,oM⟩;obtain⟨ad,ha,e6⟩:=qWb (g:=g4) (p:=p) ⟨oM,oM⟩;obtain⟨r,hr,e7⟩:=jK3 (g:=g5) (k:=k) (no:=n.take 16) (ad:=ad) (p:=x3) ⟨oM,soM,oM,oM,oM⟩;have t1:List.take x1.length x1=x1:=List.take_length;have t2:List.take x2.length x2=x2:=List.take_length;have t3:List.take x3.length x3=x3:=List.take_length;have t4:List.take ad.length ad=ad:=List.take_length;simp only[puA,snA] at e1 e5 e6;simp(maxSteps:=9^9)(disch:=try exact dS)only[go_sem,qDc,puA,snA,h1,h2,h3,h4,h5,e1,e2,e3,e4,e5,e6,e7,t1,t2,t3,t4,hn];exact⟨rfl,rfl,jO9 r hr rfl rfl⟩
theorem zFb {g1}(h1:LkE tab 223 qCp g1){g2}(h2:LkE tab 225 qK0 g2){g3}(h3:LkE tab 171 qCq g3){g4}(h4:LkE tab 265 qOk g4)(h5:LkC tab 56 qDi)(h6:LkC tab 59 qAu)(h7:LkC tab 62 qDh){g8}(h8:LkE tab 222 qLh g8)(h9:LkC tab 20 xM)(s:Sn)(p:Pu)(b:List UInt8)(hp:s.Ok∧p.Ok∧b.length≤4000) :
  qHr.1.wp tab gl (qE 0 [.t (snA s),.t (puA p),.t (.sl (b.map qA))]) (qE 0 []) (qX [(6,(some (3,true))),(7,none)] 0 (qOj.K (s,p,b))):=by
 obtain⟨⟨s1,s2,s3⟩,⟨p1,p2,p3,p4,p5⟩,q⟩:=hp;obtain⟨n,hn,e1⟩:=qWa (g:=g1) (p:=p) ⟨oM,oM⟩;obtain⟨k,hk,e2⟩:=zZq (g:=g2) (s:=s) (nm:=n) ⟨oM,oM⟩;obtain⟨ad,ha,e3⟩:=qWb (g:=g3) (p:=p) ⟨oM,oM⟩;obtain⟨c,e,lc,e4⟩:=jJs (g:=g4) (k:=k) (ad:=ad) (b:=b) ⟨oM,oM,oM⟩;have e5:=qLr (b:=c) oM;obtain⟨x1,b1,a1,r1,l1,o1,e6⟩:=qPh (s:=(c,0,0)) (k:=32) ⟨sM,by show c.length<_;omega⟩ oM;obtain⟨x2,b2,a2,r2,l2,o2,e7⟩:=qPh (k:=32) o1 oM;obtain⟨x3,b3,a3,r3,l3,o3,e8⟩:=qPh (k:=128) o2 oM;have e9:=jAe o3;obtain⟨u,hu,e10⟩:=jAw (g:=g8) (s:=⟨x1,x2,x3⟩) (k:=p.kd) (h:=p.ht) ⟨by simp only;omega,by simp only;omega⟩;have e11:=kV (a:=u) (b:=p.un) ⟨oM,oM⟩;have t4:List.take ad.length ad=ad:=List.take_length;simp only[rdO,Int.ofNat_zero,puA,snA] at e1 e2 e3 e5 e6 e7 e8 e9 e10;rw[show ((32:Nat):Int)=32 from rfl] at e6 e7;rw[show ((128:Nat):Int)=128 from rfl] at e8;generalize vS (b3,a3,r3)=w at *;simp +contextual(maxSteps:=9^9)(disch:=try exact dS)only[go_sem,qHr,puA,snA,h1,h2,h3,h4,h5,h6,h7,h8,h9,e1,e2,e3,e4,e5,e6,e7,e8,e9,e10,e11,t4,↓qB,↓qC,qU]
 (repeat' (first | apply And.intro | intro _))<;>(try rfl)
 ·exact zV7 default e oM rfl rfl
 ·exact zV7 default w oM rfl rfl
 ·exact zV7 default 18 oM rfl rfl
 ·exact zV7 ⟨x1,x2,x3⟩ 0 (fun _=>⟨l1,l2,l3⟩) rfl rfl
theorem zB2   :
  qGf.1.wp tab gl (qE 0 []) (qE 0 []) (qX [(0,none)] 0 (qOb.K ())):=by
 simp(maxSteps:=9^9)(disch:=try exact dS)only[go_sem,qGf];exact jOy [83,87,81,49] rfl rfl rfl
theorem qYa {g1}(h1:LkE tab 267 qOb g1)(h2:LkC tab 44 qDg)(h3:LkC tab 42 yT)(a:Att)(hp:a.key.length≤4000∧a.no.length≤4000∧a.dg.length≤4000) :
  qBp.1.wp tab gl (qE 0 [.t (zT9 a)]) (qE 0 []) (qX [(2,none)] 0 (qM2.K a)):=by
 obtain⟨q1,q2,q3⟩:=hp;obtain⟨m,lm,e0⟩:=jJb (g:=g1);obtain⟨x1,l1,e1⟩:=qJg (b:=m) (x:=a.key) ⟨oM,oM⟩;obtain⟨x2,l2,e2⟩:=qJg (b:=x1) (x:=a.no) ⟨oM,oM⟩;obtain⟨x3,l3,e3⟩:=qF4 (b:=x2) (k:=8) (n:=a.res) ⟨oM,oM,oM⟩;obtain⟨x4,l4,e4⟩:=qF4 (b:=x3) (k:=8) (n:=a.rst) ⟨oM,oM,oM⟩;obtain⟨x5,l5,e5⟩:=qF4 (b:=x4) (k:=8) (n:=a.clk) ⟨oM,oM,oM⟩;have go : ∀ c:UInt8,∃ x8:List UInt8,x8.length≤12000∧(∃ x6 x7:List UInt8,yT.fs [.t (.sl ((x5++[c]).map qA)),.t (.int .i64 8),.t (.int .i64 a.u)] []=some (.sl 0 0 x6.length,[.live 1 ((x6.map qA).map V.t) true false])∧yT.fs [.t (.sl (x6.map qA)),.t (.int .i64 2),.t (.int .i64 a.s0)] []=some (.sl 0 0 x7.length,[.live 1 ((x7.map qA).map V.t) true false])∧
   yT.fs [.t (.sl (x7.map qA)),.t (.int .i64 2),.t (.int .i64 a.s1)] []=some (.sl 0 0 x8.length,[.live 1 ((x8.map qA).map V.t) true false])):=by
  intro c;obtain⟨x6,l6,e6⟩:=qF4 (b:=x5++[c]) (k:=8) (n:=a.u) ⟨soM,oM,oM⟩;obtain⟨x7,l7,e7⟩:=qF4 (b:=x6) (k:=2) (n:=a.s0) ⟨by simp at l6;omega,oM,oM⟩;obtain⟨x8,l8,e8⟩:=qF4 (b:=x7) (k:=2) (n:=a.s1) ⟨by simp at l6;omega,oM,oM⟩;exact⟨x8,by simp at l6;omega,x6,x7,e6,e7,e8⟩
 rw[show ((8:Nat):Int)=8 from rfl] at e3 e4 e5;have t1:List.take x1.length x1=x1:=List.take_length;have t2:List.take x2.length x2=x2:=List.take_length;have t3:List.take x3.length x3=x3:=List.take_length;have t4:List.take x4.length x4=x4:=List.take_length;have tt5:List.take x5.length x5=x5:=List.take_length;obtain⟨x8,l8,x6,x7,f6,f7,f8⟩:=go (u8I 1);obtain⟨y8,m8,y6,y7,g6,g7,g8⟩:=go (u8I 0);have t6:List.take x6.length x6=x6:=List.take_length;have t7:List.take x7.length x7=x7:=List.take_length;have s6:List.take y6.length y6=y6:=List.take_length;have s7:List.take y7.length y7=y7:=List.take_length;obtain⟨ak,an,ar,at',ac,aS,au,a0,a1,ad⟩:=a;simp only at *;have tS : ∀ c:UInt8,List.take (x5.length+1) (x5++[c])=x5++[c]:=fun c=>List.take_of_length_le sM
 cases aS
 ·simp(maxSteps:=9^9)(disch:=try exact dS)only[go_sem,qBp,zT9,h1,h2,h3,e0,e1,e2,e3,e4,e5,g6,g7,g8,t1,t2,t3,t4,tt5,s6,s7,lm,u8w,tS];repeat refine aiG ?_
  exact jGi (y8++ad) soM (by first | rfl | (rw[List.take_of_length_le sM];try simp)) rfl
 ·simp(maxSteps:=9^9)(disch:=try exact dS)only[go_sem,qBp,zT9,h1,h2,h3,e0,e1,e2,e3,e4,e5,f6,f7,f8,t1,t2,t3,t4,tt5,t6,t7,lm,u8w,tS];repeat refine aiG ?_
  exact jGi (x8++ad) soM (by first | rfl | (rw[List.take_of_length_le sM];try simp)) rfl
theorem zEs:(List.replicate 136 (T.int .i64 0))[0]?=some (.int .i64 0):=rfl
theorem qV4:qV3 (List.map V.t (List.replicate 136 (T.int .i64 0)))=true:=rfl
theorem qYq   :
  qEq.1.wp tab gl (qE 0 []) (qE 0 []) (qX [(0,(some (136,true)))] 0 (qIy.K ())):=by
 simp(maxSteps:=9^9)(disch:=try exact dS)only[go_sem,qEq,zEs,qV4,oms];exact jLc .u trivial rfl rfl
theorem zCe {g1}(h1:LkE tab 180 qIy g1)(k:Int) :
  kL.1.wp tab gl (qE 0 [.t (.int .i64 k)]) (qE 0 []) (qX [(2,(some (4,true))),(3,none)] 0 (qOy.K k)):=by
 obtain⟨⟨⟩,_,e⟩:=jE8 (g:=g1);have e':=e.trans (show _=some (V.t (.agg (jNg.flatMap fun t=>[.int .i64 t.1,.int .i64 t.2.1,.int .i64 t.2.2.1,.int .i64 t.2.2.2])),[]) from rfl);simp only[jNg,List.flatMap_cons,List.flatMap_nil,List.cons_append,List.nil_append,List.append_nil] at e';clear e;by_cases c1:k<0
 ·simp(maxSteps:=9^9)(disch:=try exact dS)only[go_sem,kL,h1,e',c1,zEs,qV4,oms];exact zXt default false sM rfl rfl
 by_cases c2:34≤k
 ·simp(maxSteps:=9^9)(disch:=try exact dS)only[go_sem,kL,h1,e',c1,c2,zEs,qV4,oms];exact zXt default false sM rfl rfl
 obtain⟨n,rfl⟩:=Int.eq_ofNat_of_zero_le (by omega:0≤k);have hn:n<34:=oM;clear c1 c2;have key:n=0∨n=3∨n=1∨n=2∨n=4∨n=5∨n=6∨n=7∨n=8∨n=9∨n=10∨n=11∨n=12∨n=13∨n=14∨n=15∨n=16∨n=17∨n=18∨n=19∨n=20∨n=21∨n=22∨n=23∨n=24∨n=25∨n=26∨n=27∨n=28∨n=29∨n=30∨n=31∨n=32∨n=33:=oM;rcases key with rfl | rfl | rfl | rfl | rfl | rfl | rfl | rfl | rfl | rfl | rfl | rfl | rfl | rfl | rfl | rfl | rfl | rfl | rfl | rfl | rfl | rfl | rfl | rfl | rfl | rfl | rfl | rfl | rfl | rfl | rfl | rfl | rfl | rfl;iterate 2
  ·simp(maxSteps:=9^9)(disch:=try exact dS)only[go_sem,kL,h1,e',zEs,qV4,oms];exact zXt default false sM rfl rfl
 all_goals
  simp(maxSteps:=9^9)(disch:=try exact dS)only[go_sem,kL,h1,e',zEs,qV4,oms];exact zXt (k:=((_:Nat):Int)) ⟨_,_,_,_⟩ true (fun _=>⟨by decide,by decide,rfl⟩) rfl rfl
end Go.Eng
end
