/- A part of an abstract machine, its walks, their tie. -/
import Derived.Test.YtekghmfbgbhobaaGreatDoorD37
import Derived.Test.YtekghmfbgbhobaaGreatDoorD26
import Derived.Test.YtekghmfbgbhobaaGreatDoorD23
import Derived.Test.YtekghmfbgbhobaaGreatDoorD22
import Derived.Test.YtekghmfbgbhobaaGreatDoorD28
set_option linter.all false
section
set_option maxHeartbeats 64000000
set_option maxRecDepth 20000
namespace Go.Eng
variable (tab:Tab) (gl:Gl)
theorem zF9  (a b:List UInt8)(hp:a.length≤4000∧b.length≤4000) :
  qIi.1.wp tab gl (qE 0 [.t (.sl (a.map qA)),.t (.sl (b.map qA))]) (qE 0 []) (qX [(4,none)] 0 (qOj.K (a,b))):=by
 simp +contextual(maxSteps:=9^9)(disch:=try exact dS)only[go_sem,qIi,↓qB,↓qC,qU]
 (repeat' (first | apply And.intro | intro _))<;>(try rfl)
 all_goals exact jO6 _ trivial rfl rfl
theorem qY2  (x:Sl2) :
  qEz.1.wp tab gl (qE 0 [.t (jAt x)]) (qE 0 []) (qX [(2,none)] 0 (qO4.K x)):=by
 simp +contextual(maxSteps:=9^9)(disch:=try exact dS)only[go_sem,qEz,jAt,↓qB,↓qC,qU]
 (repeat' (first | apply And.intro | intro _))<;>(try rfl)
 all_goals exact jP9 _ trivial rfl rfl
theorem qXj  (l:List (List UInt8))(hp:l.length≤8 ∧ ∀ x∈l,x.length≤4000) :
  qAv.1.wp tab gl (qE 0 [.t (.sl (l.map bsT))]) (qE 0 []) (qX [(2,none)] 0 (qNc.K l)):=by
 obtain⟨hl,hb⟩:=hp;by_cases c1:l.length<2
 ·simp(maxSteps:=9^9)(disch:=try exact dS)only[go_sem,qAv,c1];exact jBm _ trivial rfl rfl
 simp(maxSteps:=9^9)(disch:=try exact dS)only[go_sem,qAv,c1];refine zD (σ:=Nat) (fun k=>k≤l.length) (fun k=>l.length-k) (fun k=>[(0,.t (.sl (l.map bsT))),(3,.t (.int .i64 k))]) (fun _=>[]) 0 oM ?_ ?_
 ·refine qI.rd id ?_ ?_ rfl;all_goals simp(maxSteps:=9^9)(disch:=try exact dS)only[go_sem,id]
 ·intro k hk;by_cases hlt:k<l.length
  ·obtain⟨x,hg,hm,hd⟩:=qN hlt;have hx:=hb _ hm;by_cases c2:x.length=32
   ·simp(maxSteps:=9^9)(disch:=try exact dS)only[go_sem,hlt,hg,c2];refine qDd.of (k+1) oM oM (qI.rd id ?_ ?_ rfl);all_goals simp(maxSteps:=9^9)(disch:=try exact dS)only[go_sem,id]
   ·simp(maxSteps:=9^9)(disch:=try exact dS)only[go_sem,hlt,hg,c2];exact jBm _ trivial rfl rfl
  ·simp(maxSteps:=9^9)(disch:=try exact dS)only[go_sem,hlt];exact jBm _ trivial rfl rfl
theorem zF7 {g1}(h1:LkE tab 272 qO4 g1){g2}(h2:LkE tab 273 qOj g2){g3}(h3:LkE tab 274 qNc g3)(a:Asr)(hp:a.B) :
  qIf.1.wp tab gl (qE 0 [.t (vN a)]) (qE 0 []) (qX [(2,none)] 0 (qIp.K a)):=by
 obtain⟨a1,a2,a3,a4,a5,a6⟩:=hp;obtain⟨x1,_,e1⟩:=jLk (g:=g1) (x:=⟨a.s0,a.s1⟩);obtain⟨x2,_,e2⟩:=zZ2 (g:=g2) (a:=a.nm) (b:=a.od) ⟨a3,a2⟩;obtain⟨x3,_,e3⟩:=zZ2 (g:=g2) (a:=a.nm) (b:=a.rf) ⟨a3,a4⟩;obtain⟨x4,_,e4⟩:=jG8 (g:=g3) (l:=a.br) ⟨a5,a6⟩;simp only[jAt] at e1;simp +contextual(maxSteps:=9^9)(disch:=try exact dS)only[go_sem,qIf,vN,h1,h2,h3,e1,e2,e3,e4,↓qB,↓qC,qU]
 (repeat' (first | apply And.intro | intro _))<;>(try rfl)
 all_goals exact jNn _ trivial rfl rfl
theorem zF8 (h1:LkC tab 42 yT)(h2:LkC tab 191 qAw)(d:List UInt8)(a:Asr)(hp:d.length≤4000∧a.B) :
  qIg.1.wp tab gl (qE 0 [.t (.sl (d.map qA)),.t (vN a)]) (qE 0 []) (xU [] [(4,none)] 0 (qNr.K (d,a))):=by
 obtain⟨hd,a1,a2,a3,a4,a5,a6⟩:=hp;obtain⟨u1,lu1,e1⟩:=qF8 (b:=[]) (k:=2) (n:=a.s0) sM;obtain⟨u2,lu2,e2⟩:=qF8 (b:=u1) (k:=2) (n:=a.s1) (by rw[lu1];simp);obtain⟨u3,lu3,e3⟩:=qF8 (b:=[]) (k:=8) (n:=a.n) sM;simp only[List.map_nil,List.length_nil,Nat.zero_add] at e1 lu1 e3 lu3;rw[lu1,show 2+2=4 from rfl] at lu2;rw[lu1] at e1;rw[lu2] at e2;rw[lu3] at e3;have k2:((2:Nat):Int)=2:=rfl;have k8:((8:Nat):Int)=8:=rfl;simp only[k2,k8] at e1 e2 e3;have t1:u1.take 2=u1:=List.take_of_length_le oM;have t2:u2.take 4=u2:=List.take_of_length_le oM;have t3:u3.take 8=u3:=List.take_of_length_le oM;have fr : ∀ f:List (List UInt8),f.length≤20→(∀ x∈f,x.length≤4000) → ∃ y:List UInt8,y.length≤200000∧qAw.fs [.t (.int .i64 8),.t (.sl (f.map bsT))] []=some (.sl 0 0 y.length,[.live 1 ((y.map qA).map V.t) true false]):=by
  intro f h1 h2;have hl:=qL8 (t:=8) h2;have:(4+4000)*f.length≤(4+4000)*20:=Nat.mul_le_mul_left _ h1;exact⟨yB 8 f,oM,qQk (t:=8) (fs:=f) ⟨oM,oM⟩⟩
 obtain⟨bb,hk⟩ : ∃ b,u8I a.kd=b:=⟨_,rfl⟩;obtain⟨y1,l1,f1⟩:=fr [[u8I a.kd],d,u2,a.dg] sM soM;obtain⟨y2,l2,f2⟩:=fr [[u8I a.kd],d,[u8I a.n]] sM soM;obtain⟨y3,l3,f3⟩:=fr [[u8I a.kd],d,[u8I a.op],a.od,a.nm] sM soM;obtain⟨y4,l4,f4⟩:=fr [[u8I a.kd],d,[u8I a.op],u3] sM soM;obtain⟨y5,l5,f5⟩:=fr [[u8I a.kd],d,a.nm,a.rf] sM soM;obtain⟨y6,l6,f6⟩:=fr [[u8I a.kd],d] sM soM;obtain⟨y7,l7,f7⟩:=fr ([u8I a.kd]::a.br) soM (by intro x hx;rcases List.mem_cons.1 hx with rfl | hx;simp;exact a6 x hx);obtain⟨y8,l8,f8⟩:=fr [[u8I a.kd],a.nm,a.rf] sM soM;obtain⟨y9,l9,f9⟩:=fr [[u8I a.kd]] sM sM;simp only[mcn,bsT,hk] at f1 f2 f3 f4 f5 f6 f7 f8 f9;have t7:List.take (1+a.br.length) (T.sl [qA bb]::List.map bsT a.br)=T.sl [qA bb]::List.map bsT a.br:=List.take_of_length_le soM;simp +contextual(maxSteps:=9^9)(disch:=try exact dS)only[go_sem,qIg,vN,h1,h2,u8w,hk,t7,e1,e2,e3,lu1,lu2,lu3,t1,t2,t3,f1,f2,f3,f4,f5,f6,f7,f8,f9,↓qB,↓qC,qU]
 (repeat' (first | apply And.intro | intro _))<;>(try rfl)
 all_goals first | exact zA2 y1 l1 rfl rfl | exact zA2 y2 l2 rfl rfl | exact zA2 y3 l3 rfl rfl | exact zA2 y4 l4 rfl rfl | exact zA2 y5 l5 rfl rfl | exact zA2 y6 l6 rfl rfl | exact zA2 y7 l7 rfl rfl | exact zA2 y8 l8 rfl rfl | exact zA2 y9 l9 rfl rfl | skip
theorem zCw {g1}(h1:LkE tab 249 qIp g1){g2}(h2:LkE tab 275 qNr g2)(h3:tab.look 102=some (qJm 32 yK).fs)(d:List UInt8)(a:Asr)(hp:d.length≤4000∧a.B) :
  qGx.1.wp tab gl (qE 0 [.t (.sl (d.map qA)),.t (vN a)]) (qE 0 []) (qX [(4,none)] 0 (qG0.K (d,a))):=by
 obtain⟨x1,_,e1⟩:=zJ7 (g:=g1) hp.2;obtain⟨y,hy,e2⟩:=jH3 (g:=g2) hp;obtain⟨z,hz,e3⟩:=jLq (b:=y) oM;rw[hz] at e3;simp only[vN] at e1 e2;simp +contextual(maxSteps:=9^9)(disch:=try exact dS)only[go_sem,qGx,vN,h1,h2,h3,e1,e2,e3,List.take_length,hz,↓qB,↓qC,qU]
 (repeat' (first | apply And.intro | intro _))<;>(try rfl)
 ·exact jHx [] sM rfl rfl
 ·exact jHx (z.take 32) (by rw[List.length_take];omega) rfl rfl
theorem zCv (h1:LkC tab 246 qZo){g2}(h2:LkE tab 250 qG0 g2)(l:List Asr)(hp:l.length≤8 ∧ ∀ a∈l,a.B) :
  qGw.1.wp tab gl (qE 0 [.t (.sl (l.map vN))]) (qE 0 []) (qX [(2,none)] 0 (qNl.K l)):=by
 obtain⟨hl,hb⟩:=hp;have t1:List.take 32 z32=z32:=rfl;simp(maxSteps:=9^9)(disch:=try exact dS)only[go_sem,qGw,h1,zRl];refine zD (σ:=Nat×List UInt8) (fun s=>s.1≤l.length∧s.2.length≤32) (fun s=>l.length-s.1) (fun s=>[(0,.t (.sl (l.map vN))),(3,.t (.sl (s.2.map qA))),(4,.t (.int .i64 s.1))]) (fun _=>[]) (0,z32) ⟨sM,by simp[z32]⟩ ?_ ?_
 ·refine qI.cv (hv:=[]) [8192] id ?_ rfl;simp(maxSteps:=9^9)(disch:=try exact dS)only[go_sem,id,t1,qTa];all_goals rfl
 ·rintro⟨k,d⟩ ⟨hk,hd⟩;simp only at hk hd;by_cases hlt:k<l.length
  ·obtain⟨x,hg,hm,_⟩:=qN hlt;obtain⟨y,hy,e⟩:=zDz (g:=g2) (d:=d) (a:=x) ⟨oM,hb _ hm⟩;simp only[vN] at e;by_cases c:y.length=0
   ·obtain rfl:y=[]:=List.length_eq_zero_iff.1 c;simp only[List.map_nil] at e;simp(maxSteps:=9^9)(disch:=try exact dS)only[go_sem,hlt,hg,oms,vN,h2,e];exact jHr [] sM rfl rfl
   ·simp(maxSteps:=9^9)(disch:=try exact dS)only[go_sem,hlt,hg,oms,vN,h2,e,c];repeat refine aiG ?_
    refine qDd.of (k+1,y) ⟨by show k+1≤l.length;omega,hy⟩ (by show l.length-(k+1)<l.length-k;omega) (qI.rd id ?_ ?_ rfl);all_goals simp(maxSteps:=9^9)(disch:=try exact dS)only[go_sem,id]
  ·simp(maxSteps:=9^9)(disch:=try exact dS)only[go_sem,hlt];exact jHr d hd rfl rfl
theorem qX9 {g1}(h1:LkE tab 172 qLa g1)(h2:LkC tab 231 qA8)(s:Sn)(k h:Int)(hp:s.sd.length≤64∧s.da.length≤4000) :
  qBr.1.wp tab gl (qE 0 [.t (snA s),.t (.int .i64 k),.t (.int .i64 h)]) (qE 0 []) (qX [(6,none)] 0 (qLm.K (s,k,h))):=by
 obtain⟨q1,q2⟩:=hp;obtain⟨y,hy,e1⟩:=zZ8 (g:=g1) (s:=s.sd) (h:=h) q1;obtain⟨z,hz,e2⟩:=qQn (t:=13) (fs:=[s.sd,s.da]) oM sM soM;simp only[mcn,bsT] at e2;rw[show ((13:Nat):Int)=13 from rfl,hz] at e2;have t:z.take 32=z:=List.take_of_length_le oM;by_cases c:k=2
 ·simp(maxSteps:=9^9)(disch:=try exact dS)only[go_sem,qBr,snA,h1,e1,c];exact jL5 y oM rfl rfl
 ·simp(maxSteps:=9^9)(disch:=try exact dS)only[go_sem,qBr,snA,h2,e2,c,t,hz];exact jL5 z oM rfl rfl
theorem zIu (h1:LkC tab 43 qB1)(s:Sn)(nm:List UInt8)(hp:s.sd.length≤64∧nm.length≤100000) :
  qJy.1.wp tab gl (qE 0 [.t (snA s),.t (.sl (nm.map qA))]) (qE 0 []) (qX [(4,none)] 0 (qK5.K (s,nm))):=by
 obtain⟨y,hy,e⟩:=zMf (k:=s.sd) (l:=[112,114,105,118,97,116,101]) (c:=nm) (n:=32) ⟨hp.1,sM,oM,oM,oM⟩;rw[show ((32:Nat):Int)=32 from rfl] at e;simp(maxSteps:=9^9)(disch:=try exact dS)only[go_sem,qJy,snA,h1,e];exact jOs y hy rfl rfl
theorem zFf {g1}(h1:LkE tab 220 qLn g1){g2}(h2:LkE tab 221 qI0 g2)(h3:LkC tab 43 qB1){g4}(h4:LkE tab 222 qLm g4)(s:List UInt8)(p:Pu)(au da:List UInt8)(hp:s.length≤64∧p.po.length≤4000∧au.length≤4000∧da.length≤4000) :
  qDx.1.wp tab gl (qE 0 [.t (.sl (s.map qA)),.t (puA p),.t (.sl (au.map qA)),.t (.sl (da.map qA))]) (qE 0 []) (qX [(8,(some (5,true))),(9,(some (3,true))),(10,none)] 0 (qIw.K (s,p,au,da))):=by
 obtain⟨q1,q2,q3,q4⟩:=hp;obtain⟨y,hy,e1⟩:=zMf (k:=s) (l:=[115,101,101,100]) (c:=[]) (n:=32) ⟨q1,sM,sM,oM,oM⟩;rw[show ((32:Nat):Int)=32 from rfl] at e1;simp only[List.map_nil] at e1;obtain⟨n,hn,hn'⟩ : ∃ n:Nat,(if p.kd=2 then (17:Int) else 32)=n∧n≤32:=by split;exact⟨17,rfl,oM⟩;exact⟨32,rfl,oM⟩
 have e2 := @jA2 g1 p.kd;rw[hn] at e2;have t:(List.replicate n (0:UInt8)).take n=List.replicate n 0:=sM;obtain⟨kd,ar,ht,po,un⟩:=p;simp only at *;obtain⟨x,hx,e3⟩:=zRn (g:=g2) (p:=⟨kd,ar,ht,po,List.replicate n 0⟩) soM;obtain⟨z,hz,e4⟩:=jA1 (g:=g4) (s:=⟨au,y,da⟩) (k:=kd) (h:=ht) ⟨by simp only;omega,q4⟩;simp only[puA,snA] at e3 e4;have tz:List.take z.length z=z:=List.take_length;have rp : ∀ {n:Nat},True:=fun {_}=>trivial
 have fin : ∀ {v:V} {e:Int},x=0 → ¬ (32:Int)<au.length → ¬ (128:Int)<da.length→e=0→Pu.Ok ⟨kd,ar,ht,po,z⟩∧Sn.Ok ⟨au,y,da⟩:=by
  intro v e hx0 a1 a2 _;have:=hx hx0;simp only[Pu.Ok,Sn.Ok] at *;omega
 by_cases k3:kd=3
 ·subst k3;simp +contextual(maxSteps:=9^9)(disch:=try exact dS)only[go_sem,qDx,puA,snA,h1,h2,h3,h4,e1,e2,e3,e4,t,↓qB,↓qC,qU]
  (repeat' (first | apply And.intro | intro _))<;>(try rfl)
  all_goals first | exact zEj default default x oM rfl rfl | exact zEj default default 4 oM rfl rfl | exact zEj default default 1 oM rfl rfl | (refine zEj ⟨3,ar,ht,po,z⟩ ⟨au,y,da⟩ 0 (fin (v:= .nil) (by assumption) oM oM) rfl rfl) | skip
 ·simp +contextual(maxSteps:=9^9)(disch:=try exact dS)only[go_sem,qDx,puA,snA,h1,h2,h3,h4,e1,e2,e3,e4,t,k3,↓qB,↓qC,qU]
  (repeat' (first | apply And.intro | intro _))<;>(try rfl)
  all_goals first | exact zEj default default x oM rfl rfl | exact zEj default default 4 oM rfl rfl | exact zEj default default 1 oM rfl rfl | (refine zEj ⟨kd,ar,ht,po,z⟩ ⟨au,y,da⟩ 0 (fin (v:= .nil) (by assumption) oM oM) rfl rfl) | skip
theorem zCp (h1:LkC tab 43 qB1)(k no b:List UInt8)(hp:k.length≤64∧no.length≤64∧b.length≤1024) :
  qGr.1.wp tab gl (qE 0 [.t (.sl (k.map qA)),.t (.sl (no.map qA)),.t (.sl (b.map qA))]) (qE 0 []) (xU [] [(6,none)] 0 (qLi.K (k,no,b))):=by
 obtain⟨q1,q2,q3⟩:=hp;obtain⟨y,hy,e⟩ : ∃ y:List UInt8,y.length=b.length∧qB1.fs [.t (.sl (k.map qA)),.t (qMb [101,110,99,114,121,112,116]),.t (.sl (no.map qA)),.t (.int .i64 b.length)] []=some (.t (.sl (y.map qA)),[]):=by
  rcases Nat.eq_zero_or_pos b.length with h0 | h0
  ·rw[h0];exact⟨[],rfl,jB2 ⟨q1,sM,oM⟩⟩
  ·exact zMf ⟨q1,sM,oM,h0,q3⟩
 simp(maxSteps:=9^9)(disch:=try exact dS)only[go_sem,qGr,h1,e];refine zD (σ:=Nat×List UInt8) (fun t=>t.1≤b.length∧t.2.length=b.length) (fun t=>b.length-t.1) (fun t=>[(2,.t (.sl (b.map qA))),(7,.t (.sl (y.map qA))),(8,.sl 12320 0 b.length),(9,.t (.int .i64 t.1))]) (fun t=>[(12320,.live 1 ((t.2.map qA).map V.t) true false)]) (0,List.replicate b.length 0) ⟨sM,sM⟩ (qI.rd id ?_ ?_ rfl) ?_
 ·simp(maxSteps:=9^9)(disch:=try exact dS)only[go_sem,id]
 ·simp(maxSteps:=9^9)(disch:=try exact dS)only[go_sem,id]
 rintro⟨i,r⟩ ⟨hi,hr⟩;simp only at hi hr;by_cases hlt:i<b.length
 ·simp(maxSteps:=9^9)(disch:=try exact dS)only[go_sem,hlt,hr,hy];repeat refine aiG ?_
  refine qDd.of (i+1,r.set i (b.getD i 0 ^^^ y.getD i 0)) ⟨by show i+1≤b.length;omega,by simp[hr]⟩ (by show b.length-(i+1)<b.length-i;omega) (qI.rd id ?_ ?_ rfl);all_goals simp(maxSteps:=9^9)(disch:=try exact dS)only[go_sem,id]
  all_goals rfl
 ·simp(maxSteps:=9^9)(disch:=try exact dS)only[go_sem,hlt,hr];exact jQa r hr (by rw[hr]) rfl
theorem zI3 {g1}(h1:LkE tab 255 qLi g1)(h2:LkC tab 44 qDj)(h3:LkC tab 256 qM4)(k no ad p:List UInt8)(hp:k.length≤64∧no.length≤64∧ad.length≤4000∧1≤p.length∧p.length≤1000) :
  qKf.1.wp tab gl (qE 0 [.t (.sl (k.map qA)),.t (.sl (no.map qA)),.t (.sl (ad.map qA)),.t (.sl (p.map qA))]) (qE 0 []) (xU [] [(8,none)] 0 (qO1.K (k,no,ad,p))):=by
 obtain⟨q1,q2,q3,q4⟩:=hp;obtain⟨c,hc,e1⟩:=jAu (g:=g1) (k:=k) (no:=no) (b:=p) ⟨q1,q2,oM⟩;obtain⟨x,hx,e2⟩:=qJl (b:=[]) (x:=no) ⟨sM,oM⟩;simp only[List.map_nil,List.length_nil,Nat.zero_add] at e2 hx;obtain⟨y,hy,e3⟩:=qJl (b:=x) (x:=c) ⟨oM,oM⟩;obtain⟨w,hw,e4⟩ : ∃ w:List UInt8,w.length=32∧qM4.fs [.t (.sl (k.map qA)),.t (.sl (no.map qA)),.t (.sl (ad.map qA)),.t (.sl (c.map qA))] []=some (.sl 0 0 32,[.live 1 ((w.map qA).map V.t) true false]):=⟨_,qW3,zO0 ⟨q1,q2,oM,oM⟩⟩;have tc:List.take c.length c=c:=List.take_length;have tx:List.take x.length x=x:=List.take_length;simp(maxSteps:=9^9)(disch:=try exact dS)only[go_sem,qKf,h1,h2,h3,e1,e2,e3,e4,tc,tx,hw];repeat refine aiG ?_
 exact jP4 (y++w.take 32) soM (by simp[hw]) rfl
theorem zI2 (h1:LkC tab 56 qDl)(h2:LkC tab 59 qAx)(h3:LkC tab 137 qKo)(h4:LkC tab 62 qDk)(h5:LkC tab 256 qM4)(h6:LkC tab 20 xO){g7}(h7:LkE tab 255 qLi g7)(k ad b:List UInt8)(hp:k.length≤64∧ad.length≤4000∧b.length≤4000) :
  qKe.1.wp tab gl (qE 0 [.t (.sl (k.map qA)),.t (.sl (ad.map qA)),.t (.sl (b.map qA))]) (qE 0 []) (qX [(6,none),(7,none)] 0 (qOp.K (k,ad,b))):=by
 obtain⟨q1,q2,q3⟩:=hp;have e1:=qLw (b:=b) oM;obtain⟨no,b1,a1,r1,l1,o1,e2⟩:=qPm (s:=(b,0,0)) (k:=64) ⟨sM,by show b.length<_;omega⟩ oM;obtain⟨c,b2,a2,r2,l2,o2,e3⟩:=qPm (k:=1024) o1 oM;obtain⟨t,b3,a3,r3,l3,o3,e4⟩:=jKu (k:=32) o2 oM;have e5:=jAj o3;obtain⟨w,hw,e6⟩ : ∃ w:List UInt8,w.length=32∧qM4.fs [.t (.sl (k.map qA)),.t (.sl (no.map qA)),.t (.sl (ad.map qA)),.t (.sl (c.map qA))] []=some (.sl 0 0 32,[.live 1 ((w.map qA).map V.t) true false]):=⟨_,qW3,zO0 ⟨q1,l1,oM,oM⟩⟩;have e7:=kX (a:=t) (b:=w) ⟨oM,oM⟩;obtain⟨z,hz,e8⟩:=jAu (g:=g7) (k:=k) (no:=no) (b:=c) ⟨q1,l1,l2⟩;have tw:List.take 32 w=w:=List.take_of_length_le oM;have tz:List.take z.length z=z:=List.take_length;simp only[rdO,Int.ofNat_zero] at e1 e2 e3 e4 e5;rw[show ((64:Nat):Int)=64 from rfl] at e2;rw[show ((1024:Nat):Int)=1024 from rfl] at e3;rw[show ((32:Nat):Int)=32 from rfl] at e4;generalize vS (b3,a3,r3)=u at *;simp +contextual(maxSteps:=9^9)(disch:=try exact dS)only[go_sem,qKe,h1,h2,h3,h4,h5,h6,h7,e1,e2,e3,e4,e5,e6,e7,e8,tw,tz,↓qB,↓qC,qU]
 (repeat' (first | apply And.intro | intro _))<;>(try rfl)
 ·exact jDk [] u sM rfl rfl
 ·exact jDk [] 18 sM rfl rfl
 ·exact jDk z 0 oM rfl rfl
theorem qW6 {g1}(h1:LkE tab 223 qCs g1)(h2:LkC tab 44 qDj){g3}(h3:LkE tab 225 qK5 g3){g4}(h4:LkE tab 171 qCt g4){g5}(h5:LkE tab 224 qO1 g5)(s:Sn)(p:Pu)(z:Sn)(hp:s.Ok∧p.Ok∧z.Ok) :
  qDf.1.wp tab gl (qE 0 [.t (snA s),.t (puA p),.t (snA z)]) (qE 0 []) (xU [] [(6,none)] 0 (qLe.K (s,p,z))):=by
 obtain⟨⟨s1,s2,s3⟩,⟨p1,p2,p3,p4,p5⟩,z1,z2,z3⟩:=hp;obtain⟨n,hn,e1⟩:=qWf (g:=g1) (p:=p) ⟨oM,oM⟩;obtain⟨x1,l1,e2⟩:=qJl (b:=[]) (x:=z.au) ⟨sM,oM⟩;simp only[List.map_nil,List.length_nil,Nat.zero_add] at e2 l1;obtain⟨x2,l2,e3⟩:=qJl (b:=x1) (x:=z.sd) ⟨oM,oM⟩;obtain⟨x3,l3,e4⟩:=qJl (b:=x2) (x:=z.da) ⟨oM,oM⟩;obtain⟨k,hk,e5⟩:=zZv (g:=g3) (s:=s) (nm:=n) ⟨oM,oM⟩;obtain⟨ad,ha,e6⟩:=qWg (g:=g4) (p:=p) ⟨oM,oM⟩;obtain⟨r,hr,e7⟩:=jK8 (g:=g5) (k:=k) (no:=n.take 16) (ad:=ad) (p:=x3) ⟨oM,soM,oM,oM,oM⟩;have t1:List.take x1.length x1=x1:=List.take_length;have t2:List.take x2.length x2=x2:=List.take_length;have t3:List.take x3.length x3=x3:=List.take_length;have t4:List.take ad.length ad=ad:=List.take_length;simp only[puA,snA] at e1 e5 e6;simp(maxSteps:=9^9)(disch:=try exact dS)only[go_sem,qDf,puA,snA,h1,h2,h3,h4,h5,e1,e2,e3,e4,e5,e6,e7,t1,t2,t3,t4,hn];exact⟨rfl,rfl,jPe r hr rfl rfl⟩
theorem zFg {g1}(h1:LkE tab 223 qCs g1){g2}(h2:LkE tab 225 qK5 g2){g3}(h3:LkE tab 171 qCt g3){g4}(h4:LkE tab 265 qOp g4)(h5:LkC tab 56 qDl)(h6:LkC tab 59 qAx)(h7:LkC tab 62 qDk){g8}(h8:LkE tab 222 qLm g8)(h9:LkC tab 20 xO)(s:Sn)(p:Pu)(b:List UInt8)(hp:s.Ok∧p.Ok∧b.length≤4000) :
  qHw.1.wp tab gl (qE 0 [.t (snA s),.t (puA p),.t (.sl (b.map qA))]) (qE 0 []) (qX [(6,(some (3,true))),(7,none)] 0 (qOo.K (s,p,b))):=by
 obtain⟨⟨s1,s2,s3⟩,⟨p1,p2,p3,p4,p5⟩,q⟩:=hp;obtain⟨n,hn,e1⟩:=qWf (g:=g1) (p:=p) ⟨oM,oM⟩;obtain⟨k,hk,e2⟩:=zZv (g:=g2) (s:=s) (nm:=n) ⟨oM,oM⟩;obtain⟨ad,ha,e3⟩:=qWg (g:=g3) (p:=p) ⟨oM,oM⟩;obtain⟨c,e,lc,e4⟩:=jJx (g:=g4) (k:=k) (ad:=ad) (b:=b) ⟨oM,oM,oM⟩;have e5:=qLw (b:=c) oM;obtain⟨x1,b1,a1,r1,l1,o1,e6⟩:=qPm (s:=(c,0,0)) (k:=32) ⟨sM,by show c.length<_;omega⟩ oM;obtain⟨x2,b2,a2,r2,l2,o2,e7⟩:=qPm (k:=32) o1 oM;obtain⟨x3,b3,a3,r3,l3,o3,e8⟩:=qPm (k:=128) o2 oM;have e9:=jAj o3;obtain⟨u,hu,e10⟩:=jA1 (g:=g8) (s:=⟨x1,x2,x3⟩) (k:=p.kd) (h:=p.ht) ⟨by simp only;omega,by simp only;omega⟩;have e11:=kX (a:=u) (b:=p.un) ⟨oM,oM⟩;have t4:List.take ad.length ad=ad:=List.take_length;simp only[rdO,Int.ofNat_zero,puA,snA] at e1 e2 e3 e5 e6 e7 e8 e9 e10;rw[show ((32:Nat):Int)=32 from rfl] at e6 e7;rw[show ((128:Nat):Int)=128 from rfl] at e8;generalize vS (b3,a3,r3)=w at *;simp +contextual(maxSteps:=9^9)(disch:=try exact dS)only[go_sem,qHw,puA,snA,h1,h2,h3,h4,h5,h6,h7,h8,h9,e1,e2,e3,e4,e5,e6,e7,e8,e9,e10,e11,t4,↓qB,↓qC,qU]
 (repeat' (first | apply And.intro | intro _))<;>(try rfl)
 ·exact zWc default e oM rfl rfl
 ·exact zWc default w oM rfl rfl
 ·exact zWc default 18 oM rfl rfl
 ·exact zWc ⟨x1,x2,x3⟩ 0 (fun _=>⟨l1,l2,l3⟩) rfl rfl
theorem zB7   :
  qGj.1.wp tab gl (qE 0 []) (qE 0 []) (qX [(0,none)] 0 (qOg.K ())):=by
 simp(maxSteps:=9^9)(disch:=try exact dS)only[go_sem,qGj];exact jO3 [83,87,81,49] rfl rfl rfl
theorem qYf {g1}(h1:LkE tab 267 qOg g1)(h2:LkC tab 44 qDj)(h3:LkC tab 42 yT)(a:Att)(hp:a.key.length≤4000∧a.no.length≤4000∧a.dg.length≤4000) :
  qBs.1.wp tab gl (qE 0 [.t (zUe a)]) (qE 0 []) (qX [(2,none)] 0 (qM7.K a)):=by
 obtain⟨q1,q2,q3⟩:=hp;obtain⟨m,lm,e0⟩:=jJg (g:=g1);obtain⟨x1,l1,e1⟩:=qJl (b:=m) (x:=a.key) ⟨oM,oM⟩;obtain⟨x2,l2,e2⟩:=qJl (b:=x1) (x:=a.no) ⟨oM,oM⟩;obtain⟨x3,l3,e3⟩:=qF8 (b:=x2) (k:=8) (n:=a.res) ⟨oM,oM,oM⟩;obtain⟨x4,l4,e4⟩:=qF8 (b:=x3) (k:=8) (n:=a.rst) ⟨oM,oM,oM⟩;obtain⟨x5,l5,e5⟩:=qF8 (b:=x4) (k:=8) (n:=a.clk) ⟨oM,oM,oM⟩;have go : ∀ c:UInt8,∃ x8:List UInt8,x8.length≤12000∧(∃ x6 x7:List UInt8,yT.fs [.t (.sl ((x5++[c]).map qA)),.t (.int .i64 8),.t (.int .i64 a.u)] []=some (.sl 0 0 x6.length,[.live 1 ((x6.map qA).map V.t) true false])∧yT.fs [.t (.sl (x6.map qA)),.t (.int .i64 2),.t (.int .i64 a.s0)] []=some (.sl 0 0 x7.length,[.live 1 ((x7.map qA).map V.t) true false])∧
   yT.fs [.t (.sl (x7.map qA)),.t (.int .i64 2),.t (.int .i64 a.s1)] []=some (.sl 0 0 x8.length,[.live 1 ((x8.map qA).map V.t) true false])):=by
  intro c;obtain⟨x6,l6,e6⟩:=qF8 (b:=x5++[c]) (k:=8) (n:=a.u) ⟨soM,oM,oM⟩;obtain⟨x7,l7,e7⟩:=qF8 (b:=x6) (k:=2) (n:=a.s0) ⟨by simp at l6;omega,oM,oM⟩;obtain⟨x8,l8,e8⟩:=qF8 (b:=x7) (k:=2) (n:=a.s1) ⟨by simp at l6;omega,oM,oM⟩;exact⟨x8,by simp at l6;omega,x6,x7,e6,e7,e8⟩
 rw[show ((8:Nat):Int)=8 from rfl] at e3 e4 e5;have t1:List.take x1.length x1=x1:=List.take_length;have t2:List.take x2.length x2=x2:=List.take_length;have t3:List.take x3.length x3=x3:=List.take_length;have t4:List.take x4.length x4=x4:=List.take_length;have tt5:List.take x5.length x5=x5:=List.take_length;obtain⟨x8,l8,x6,x7,f6,f7,f8⟩:=go (u8I 1);obtain⟨y8,m8,y6,y7,g6,g7,g8⟩:=go (u8I 0);have t6:List.take x6.length x6=x6:=List.take_length;have t7:List.take x7.length x7=x7:=List.take_length;have s6:List.take y6.length y6=y6:=List.take_length;have s7:List.take y7.length y7=y7:=List.take_length;obtain⟨ak,an,ar,at',ac,aS,au,a0,a1,ad⟩:=a;simp only at *;have tS : ∀ c:UInt8,List.take (x5.length+1) (x5++[c])=x5++[c]:=fun c=>List.take_of_length_le sM
 cases aS
 ·simp(maxSteps:=9^9)(disch:=try exact dS)only[go_sem,qBs,zUe,h1,h2,h3,e0,e1,e2,e3,e4,e5,g6,g7,g8,t1,t2,t3,t4,tt5,s6,s7,lm,u8w,tS];repeat refine aiG ?_
  exact jGn (y8++ad) soM (by first | rfl | (rw[List.take_of_length_le sM];try simp)) rfl
 ·simp(maxSteps:=9^9)(disch:=try exact dS)only[go_sem,qBs,zUe,h1,h2,h3,e0,e1,e2,e3,e4,e5,f6,f7,f8,t1,t2,t3,t4,tt5,t6,t7,lm,u8w,tS];repeat refine aiG ?_
  exact jGn (x8++ad) soM (by first | rfl | (rw[List.take_of_length_le sM];try simp)) rfl
theorem zEx:(List.replicate 136 (T.int .i64 0))[0]?=some (.int .i64 0):=rfl
theorem qV9:qV8 (List.map V.t (List.replicate 136 (T.int .i64 0)))=true:=rfl
theorem qYv   :
  qEt.1.wp tab gl (qE 0 []) (qE 0 []) (qX [(0,(some (136,true)))] 0 (qI3.K ())):=by
 simp(maxSteps:=9^9)(disch:=try exact dS)only[go_sem,qEt,zEx,qV9,oms];exact jLh .u trivial rfl rfl
theorem zCj {g1}(h1:LkE tab 180 qI3 g1)(k:Int) :
  kN.1.wp tab gl (qE 0 [.t (.int .i64 k)]) (qE 0 []) (qX [(2,(some (4,true))),(3,none)] 0 (qO3.K k)):=by
 obtain⟨⟨⟩,_,e⟩:=jFd (g:=g1);have e':=e.trans (show _=some (V.t (.agg (jNl.flatMap fun t=>[.int .i64 t.1,.int .i64 t.2.1,.int .i64 t.2.2.1,.int .i64 t.2.2.2])),[]) from rfl);simp only[jNl,List.flatMap_cons,List.flatMap_nil,List.cons_append,List.nil_append,List.append_nil] at e';clear e;by_cases c1:k<0
 ·simp(maxSteps:=9^9)(disch:=try exact dS)only[go_sem,kN,h1,e',c1,zEx,qV9,oms];exact zXy default false sM rfl rfl
 by_cases c2:34≤k
 ·simp(maxSteps:=9^9)(disch:=try exact dS)only[go_sem,kN,h1,e',c1,c2,zEx,qV9,oms];exact zXy default false sM rfl rfl
 obtain⟨n,rfl⟩:=Int.eq_ofNat_of_zero_le (by omega:0≤k);have hn:n<34:=oM;clear c1 c2;have key:n=0∨n=3∨n=1∨n=2∨n=4∨n=5∨n=6∨n=7∨n=8∨n=9∨n=10∨n=11∨n=12∨n=13∨n=14∨n=15∨n=16∨n=17∨n=18∨n=19∨n=20∨n=21∨n=22∨n=23∨n=24∨n=25∨n=26∨n=27∨n=28∨n=29∨n=30∨n=31∨n=32∨n=33:=oM;rcases key with rfl | rfl | rfl | rfl | rfl | rfl | rfl | rfl | rfl | rfl | rfl | rfl | rfl | rfl | rfl | rfl | rfl | rfl | rfl | rfl | rfl | rfl | rfl | rfl | rfl | rfl | rfl | rfl | rfl | rfl | rfl | rfl | rfl | rfl;iterate 2
  ·simp(maxSteps:=9^9)(disch:=try exact dS)only[go_sem,kN,h1,e',zEx,qV9,oms];exact zXy default false sM rfl rfl
 all_goals
  simp(maxSteps:=9^9)(disch:=try exact dS)only[go_sem,kN,h1,e',zEx,qV9,oms];exact zXy (k:=((_:Nat):Int)) ⟨_,_,_,_⟩ true (fun _=>⟨by decide,by decide,rfl⟩) rfl rfl
end Go.Eng
end
