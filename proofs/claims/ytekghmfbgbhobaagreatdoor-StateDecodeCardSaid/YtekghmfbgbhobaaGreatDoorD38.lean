/- A part of an abstract machine, its walks, their tie. -/
import Derived.Test.YtekghmfbgbhobaaGreatDoorD28
import Derived.Test.YtekghmfbgbhobaaGreatDoorD35
import Derived.Test.YtekghmfbgbhobaaGreatDoorD27
set_option linter.all false
section
set_option maxHeartbeats 64000000
set_option maxRecDepth 20000
namespace Go.Eng
variable (tab:Tab) (gl:Gl)
theorem St.ses_go {s t:St}{k:Int}{x:Ses}(h:s.Go 1 t)(hx:x.Ok):s.Go 1 (t.sput k x):=⟨St.sput_ok h.1 hx,fun m hm=>h.2 m hm⟩
theorem qYo {g1}(h1:LkE tab 145 qCr g1){g2}(h2:LkE tab 19 qDo g2){g3}(h3:LkE tab 166 qB5 g3){g4}(h4:LkE tab 167 qKw g4)(s:St)(q:Rq)(hp:s.Ok∧s.cn 2000000∧q.au.length=1∧q.Ok) :
  vK.1.wp tab gl (qE 0 [.t (stA s),.t (rqA q)]) (qE 0 []) (qX [(4,(some (30,true))),(5,none)] 0 (qNo.K (s,q))):=by
 obtain⟨hs,hc,hau,hq⟩:=hp;obtain⟨_,_,q3,_,_⟩:=hq;obtain⟨co,hh,au,ns,bl⟩:=q;simp only at hau q3;obtain⟨az,rfl⟩:=List.length_eq_one_iff.1 hau;have ha:=q3.2 az sM;obtain⟨x,e,⟨hx,hf⟩,e1⟩:=qQi (g:=g1) (s:=s) (h:=az.s) ⟨hs,ha.1⟩;simp only[stA,jL] at e1;by_cases c0:az.s=0
 ·rw[c0] at e1;simp(maxSteps:=9^9)(disch:=try exact dS)only[go_sem,vK,stA,rqA,azA,mcn,h1,e1,c0];repeat refine aiG ?_
  exact zPz s [] (St.go_rfl hs oM) rfl rfl
 by_cases c1:e=0
 rotate_left
 ·simp(maxSteps:=9^9)(disch:=try exact dS)only[go_sem,vK,stA,rqA,azA,mcn,h1,e1,c0,c1];repeat refine aiG ?_
  exact zPz s [] (St.go_rfl hs oM) rfl rfl
 obtain⟨f1,f2⟩:=hf c1;subst c1;by_cases c2:x.kd=1
 ·obtain⟨t,b,⟨ht,hb⟩,e2⟩:=zR0 (g:=g2) (s:=s) (n:=16) ⟨hs.a.en,⟨hs.dr,by have:=hc.2.2.2.2.1;omega⟩,oM,oM⟩;have lb:b.length=16:=by rw[hb];exact qEc
  have o1:=St.more_go hs;subst ht;have e3:=qZx (g:=g3) (s := { s with dr:=s.dr+1 }) (k:=az.s-768) (x := { x with kd:=1,no:=b }) ⟨hs.ses.1,oM,oM⟩;have hgo:=St.ses_go (k:=az.s-768) (x := { x with kd:=1,no:=b }) o1 ⟨by simp only;omega,by simp only;omega,hx.2.2⟩;simp only[stA,jL] at e2 e3;rw[c2] at e1;simp(maxSteps:=9^9)(disch:=try exact dS)only[go_sem,vK,stA,rqA,azA,mcn,h1,h2,h3,e1,e2,e3,c0,c2];repeat refine aiG ?_
  exact zPz _ [b] hgo rfl rfl
 by_cases c3:x.kd=2
 ·obtain⟨t,e,⟨hg,he⟩,e2⟩:=zY6 (g:=g4) (s:=s) (h:=az.s) ⟨hs,ha.1⟩;simp only[stA] at e2;simp(maxSteps:=9^9)(disch:=try exact dS)only[go_sem,vK,stA,rqA,azA,mcn,h1,h4,e1,e2,c0,c2,c3];repeat refine aiG ?_
  exact zPz t [] ((hg (he f2)).le oM) rfl rfl
 ·simp(maxSteps:=9^9)(disch:=try exact dS)only[go_sem,vK,stA,rqA,azA,mcn,h1,e1,c0,c2,c3];repeat refine aiG ?_
  exact zPz s [] (St.go_rfl hs oM) rfl rfl
theorem zCc {g1}(h1:LkE tab 145 qCr g1){g2}(h2:LkE tab 146 qLo g2){g3}(h3:LkE tab 147 qNd g3){g4}(h4:LkE tab 148 qOa g4)(h5:LkC tab 20 xO){g6}(h6:LkE tab 149 qPe g6){g7}(h7:LkE tab 150 qOt g7){g8}(h8:LkE tab 153 qK8 g8){g9}(h9:LkE tab 152 qKu g9){g10}(h10:LkE tab 151 qKx g10)(s:St)(lo:Int)(q:Rq)(hp:s.Ok∧(0≤lo∧lo≤4)∧1≤q.hs.length∧q.au.length=1∧q.B∧q.Ok) :
  zX.1.wp tab gl (qE 0 [.t (stA s),.t (.int .i64 lo),.t (rqA q)]) (qE 0 []) (qX [(6,(some (30,true))),(7,none)] 0 (qNe.K (s,lo,q))):=by
 obtain⟨hs,hlo,hh1,hau,hB,hq⟩:=hp;obtain⟨_,_,q3,_,_⟩:=hq;have hB':=hB;obtain⟨B1,B2,B3,B4,B5,B6⟩:=hB;obtain⟨co,hh,au,ns,bl⟩:=q;simp only at hau q3 hh1 B1 B6;obtain⟨az,rfl⟩:=List.length_eq_one_iff.1 hau;obtain⟨a,no,va⟩:=az;have ha:=q3.2 ⟨a,no,va⟩ sM;simp only at ha;obtain⟨h0,g0,_⟩:=jCk hh1;obtain⟨x,e,⟨hx,_⟩,e1⟩:=qQi (g:=g1) (s:=s) (h:=a) ⟨hs,ha.1⟩;obtain⟨w,hw,e2⟩:=jA5 (g:=g2) (s:=s) (h:=h0) hs;obtain⟨b,eb,_,e3⟩:=jHe (g:=g3) (s:=s) (lo:=lo) (q:=⟨co,hh,[⟨a,no,va⟩],ns,bl⟩) (x:=x) ⟨hs,hlo,hh1,hx⟩;obtain⟨k,_,e4⟩:=jI9 (g:=g4) (s:=s) (h:=h0) hs;have e5:=kX (a:=va) (b:=w) ⟨oM,oM⟩;obtain⟨t,et,ht,e6⟩:=jA4 (g:=g6) (s:=s) (h:=h0) (ok:=decide (va=w)) hs;obtain⟨p,_,e7⟩:=jJ5 (g:=g7) (s:=s) (q:=⟨co,hh,[⟨a,no,va⟩],ns,bl⟩) ⟨hs,hh1⟩;obtain⟨l,hl,e8⟩:=zZ4 (g:=g8) (s:=s) (q:=⟨co,hh,[⟨a,no,va⟩],ns,bl⟩) ⟨hs,B1⟩;obtain⟨d,hd,e9⟩:=zO2 (g:=g9) (l:=l) (q:=⟨co,hh,[⟨a,no,va⟩],ns,bl⟩) ⟨hl,hB'⟩;obtain⟨w',hw',e10⟩:=zO6 (g:=g10) (v:=w) (d:=d) (m:=x.no) (c:=no) ⟨oM,oM,by have:=hx.2.1;omega,oM⟩;have f5:=kX (a:=va) (b:=w') ⟨oM,oM⟩;obtain⟨t',et',ht',f6⟩:=jA4 (g:=g6) (s:=s) (h:=h0) (ok:=decide (va=w')) hs;generalize decide (va=w)=o at *;generalize decide (va=w')=o' at *;have hself : ∃ l:Lk,l.Ok∧s=s.lkd l:=⟨s.a.lk,hs.a.lk,rfl⟩;simp only[stA,rqA,azA,jL,mcn] at e1 e2 e3 e4 e6 e7 e8 e9 f6;by_cases c0:a=0
 ·subst c0;cases p
  ·simp(maxSteps:=9^9)(disch:=try exact dS)only[go_sem,zX,stA,rqA,azA,jL,mcn,g0,oms,iT,h1,h2,h7,e1,e2,e7];repeat refine aiG ?_
   exact qTu s 20 hself rfl rfl
  cases k
  ·simp(maxSteps:=9^9)(disch:=try exact dS)only[go_sem,zX,stA,rqA,azA,jL,mcn,g0,oms,iT,h1,h2,h4,h5,h6,h7,e1,e2,e4,e5,e6,e7];repeat refine aiG ?_
   exact qTu t et ht rfl rfl
  ·simp(maxSteps:=9^9)(disch:=try exact dS)only[go_sem,zX,stA,rqA,azA,jL,mcn,g0,oms,iT,h1,h2,h4,h7,e1,e2,e4,e7];repeat refine aiG ?_
   exact qTu s 10 hself rfl rfl
 by_cases c1:e=0
 rotate_left
 ·simp(maxSteps:=9^9)(disch:=try exact dS)only[go_sem,zX,stA,rqA,azA,jL,mcn,g0,oms,iT,h1,e1,c0,c1];repeat refine aiG ?_
  exact qTu s 8 hself rfl rfl
 subst c1;obtain⟨xk,xn,xd,xu,xl,xc,xdl,xa⟩:=x;simp only at e1 e3 e10;by_cases c2:xk=3
 ·subst c2;simp(maxSteps:=9^9)(disch:=try exact dS)only[go_sem,zX,stA,rqA,azA,jL,mcn,g0,oms,iT,h1,e1,c0];repeat refine aiG ?_
  exact qTu s 8 hself rfl rfl
 by_cases c3:xk=2
 ·subst c3;by_cases c4:eb=0
  rotate_left
  ·simp(maxSteps:=9^9)(disch:=try exact dS)only[go_sem,zX,stA,rqA,azA,jL,mcn,g0,oms,iT,h1,h2,h3,e1,e2,e3,c0,c4];repeat refine aiG ?_
   exact qTu s eb hself rfl rfl
  subst c4;cases b
  ·simp(maxSteps:=9^9)(disch:=try exact dS)only[go_sem,zX,stA,rqA,azA,jL,mcn,g0,oms,iT,h1,h2,h3,e1,e2,e3,c0];repeat refine aiG ?_
   exact qTu s 0 hself rfl rfl
  cases k
  ·simp(maxSteps:=9^9)(disch:=try exact dS)only[go_sem,zX,stA,rqA,azA,jL,mcn,g0,oms,iT,h1,h2,h3,h4,h5,h6,e1,e2,e3,e4,e5,e6,c0];repeat refine aiG ?_
   exact qTu t et ht rfl rfl
  ·simp(maxSteps:=9^9)(disch:=try exact dS)only[go_sem,zX,stA,rqA,azA,jL,mcn,g0,oms,iT,h1,h2,h3,h4,e1,e2,e3,e4,c0];repeat refine aiG ?_
   exact qTu s 10 hself rfl rfl
 cases p
 ·simp(maxSteps:=9^9)(disch:=try exact dS)only[go_sem,zX,stA,rqA,azA,jL,mcn,g0,oms,iT,h1,h2,h7,e1,e2,e7,c0,c2,c3];repeat refine aiG ?_
  exact qTu s 20 hself rfl rfl
 cases k
 ·simp(maxSteps:=9^9)(disch:=try exact dS)only[go_sem,zX,stA,rqA,azA,jL,mcn,g0,oms,iT,h1,h2,h4,h5,h6,h7,h8,h9,h10,e1,e2,e4,e7,e8,e9,e10,f5,f6,c0,c2,c3];repeat refine aiG ?_
  exact qTu t' et' ht' rfl rfl
 ·simp(maxSteps:=9^9)(disch:=try exact dS)only[go_sem,zX,stA,rqA,azA,jL,mcn,g0,oms,iT,h1,h2,h4,h7,e1,e2,e4,e7,c0,c2,c3];repeat refine aiG ?_
  exact qTu s 10 hself rfl rfl
theorem jP7 {q:Rq}(hq:q.Ok):q.au=[]∨1≤q.hs.length∧q.au.length=1:=by
 obtain⟨kc,hkc⟩:=jLc hq.co.1;have T:=jLe kc;rw[hkc] at T;obtain⟨_,_,_,T⟩:=T hq.co.2;have h1:=hq.hs.1;have h2:=hq.au.1;rcases T with T | ⟨T,U⟩
 ·exact .inl (List.length_eq_zero_iff.1 oM)
 ·exact .inr ⟨oM,oM⟩
theorem qXd {g1}(h1:LkE tab 107 qIr g1){g2}(h2:LkE tab 108 kW g2){g3}(h3:LkE tab 109 qM8 g3){g4}(h4:LkE tab 110 qNe g4){g5}(h5:LkE tab 111 qKt g5){g6}(h6:LkE tab 112 qNo g6)(s:St)(lo:Int)(q:Rq)(hp:(s.Ok∧s.cn 1000000)∧q.B) :
  qW.1.wp tab gl (qE 0 [.t (stA s),.t (.int .i64 lo),.t (rqA q)]) (qE 0 []) (qX [(6,(some (30,true))),(7,(some (4,true)))] 0 (qNm.K (s,lo,q))):=by
 obtain⟨⟨hs,hc⟩,hB⟩:=hp;obtain⟨e,hok,e1⟩:=jBq (g:=g1) (q:=q) hB;simp only[rqA] at e1;by_cases c0:e=0
 rotate_left
 ·obtain⟨rb,eb⟩:=qCc (g:=g2) (s:=s) (e:=e);simp only[stA,rsA] at eb;simp(maxSteps:=9^9)(disch:=try exact dS)only[go_sem,qW,stA,rqA,h1,h2,e1,eb,c0];repeat refine aiG ?_
  exact qJt s rb (St.go_rfl hs oM) rfl rfl
 have hq:=hok c0;subst c0;obtain⟨ra,ea⟩:=qCc (g:=g2) (s:=s) (e:=13);obtain⟨rb,eb⟩:=qCc (g:=g2) (s:=s) (e:=28);obtain⟨rc,ec⟩:=qCc (g:=g2) (s:=s) (e:=7);simp only[stA,rsA] at ea eb ec;by_cases c1:lo<0
 ·simp(maxSteps:=9^9)(disch:=try exact dS)only[go_sem,qW,stA,rqA,h1,h2,e1,ea,c1];repeat refine aiG ?_
  exact qJt s ra (St.go_rfl hs oM) rfl rfl
 by_cases c2:4<lo
 ·simp(maxSteps:=9^9)(disch:=try exact dS)only[go_sem,qW,stA,rqA,h1,h2,e1,ea,c1,c2];repeat refine aiG ?_
  exact qJt s ra (St.go_rfl hs oM) rfl rfl
 by_cases c3:q.co≠1∧s.on=false
 ·obtain⟨c3,c4⟩:=c3;simp only[c4] at eb;simp(maxSteps:=9^9)(disch:=try exact dS)only[go_sem,qW,stA,rqA,h1,h2,e1,eb,c1,c2,c3,c4];repeat refine aiG ?_
  exact qJt s rb (St.go_rfl hs oM) (by simp only[stA,rsA,c4]) rfl
 have c5:q.co=1∨q.co≠1∧s.on=true:=by
  by_cases c:q.co=1
  ·exact .inl c
  ·exact .inr ⟨c,by cases h:s.on<;>simp_all⟩
 clear c3 eb;obtain⟨v,hal,e3⟩:=jGp (g:=g3) (s:=s) (q:=q) ⟨hs,hq⟩;have hau:=jP7 hq;have main:v=true → ∃ (t:St) (r:Rs),s.Go 3 t∧qKt.fs g5 [.t (stA s),.t (.int .i64 lo),.t (rqA q)] []=some (.tup [.t (stA t),.t (rsA r)],[]):=by
  intro h;obtain⟨t,r,hg,e⟩:=jG6 (g:=g5) (s:=s) (lo:=lo) (q:=q) ⟨⟨hs,hc⟩,hq,hal h⟩;exact⟨t,r,hg,e⟩
 obtain⟨co,hh,au,ns,bl⟩:=q;simp only at c5 hau;simp only[stA,rqA] at e3;rcases c5 with rfl | ⟨c3,c4⟩
 ·skip
  rcases hau with rfl | ⟨hh1,hau1⟩
  ·simp only[List.map_nil] at e1 e3;cases v
   ·simp(maxSteps:=9^9)(disch:=try exact dS)only[go_sem,qW,stA,rqA,rsA,List.map_nil,h1,h2,h3,e1,e3,ec,c1,c2];repeat refine aiG ?_
    exact qJt s rc (St.go_rfl hs oM) rfl rfl
   ·obtain⟨t,r,hg,e4⟩:=main rfl;simp only[stA,rqA,rsA,List.map_nil] at e4;by_cases c6:r.e=0
    ·rw[c6] at e4;simp(maxSteps:=9^9)(disch:=try exact dS)only[go_sem,qW,stA,rqA,rsA,List.map_nil,h1,h3,h5,e1,e3,e4,c1,c2,c6];repeat refine aiG ?_
     exact qJt t ⟨0,r.ns,r.bl,r.no⟩ (hg.le oM) rfl rfl
    ·simp(maxSteps:=9^9)(disch:=try exact dS)only[go_sem,qW,stA,rqA,rsA,List.map_nil,h1,h3,h5,e1,e3,e4,c1,c2,c6];repeat refine aiG ?_
     exact qJt t r (hg.le oM) rfl rfl
  ·obtain⟨az,rfl⟩:=List.length_eq_one_iff.1 hau1;simp only[mcn] at e1 e3;cases v
   ·simp(maxSteps:=9^9)(disch:=try exact dS)only[go_sem,qW,stA,rqA,rsA,mcn,h1,h2,h3,e1,e3,ec,c1,c2];repeat refine aiG ?_
    exact qJt s rc (St.go_rfl hs oM) rfl rfl
   obtain⟨t0,e5,⟨l,hl,ht0⟩,e6⟩:=zY5 (g:=g4) (s:=s) (lo:=lo) (q:=⟨1,hh,[az],ns,bl⟩) ⟨hs,⟨oM,oM⟩,hh1,rfl,hB,hq⟩;have hg0:s.Go 0 t0:=by rw[ht0];exact St.lkd_go hs hl
   clear ht0;simp only[stA,rqA,mcn] at e6;by_cases c6:e5=0
   rotate_left
   ·obtain⟨rd,ed⟩:=qCc (g:=g2) (s:=t0) (e:=e5);simp only[stA,rsA] at ed;simp(maxSteps:=9^9)(disch:=try exact dS)only[go_sem,qW,stA,rqA,rsA,mcn,h1,h2,h3,h4,e1,e3,e6,ed,c1,c2,c6];repeat refine aiG ?_
    exact qJt t0 rd (hg0.le oM) rfl rfl
   subst c6;obtain⟨t,r,hg,e4⟩:=main rfl;obtain⟨t2,l2,hg2,e7⟩:=zZl (g:=g6) (s:=t) (q:=⟨1,hh,[az],ns,bl⟩) ⟨hg.1,(hg.2 _ hc).le oM,rfl,hq⟩;simp only[stA,rqA,rsA,mcn] at e4 e7;by_cases c7:r.e=0
   ·rw[c7] at e4;simp(maxSteps:=9^9)(disch:=try exact dS)only[go_sem,qW,stA,rqA,rsA,mcn,h1,h3,h4,h5,h6,e1,e3,e4,e6,e7,c1,c2];repeat refine aiG ?_
    exact qJt t2 ⟨0,r.ns,r.bl,l2⟩ ⟨hg2.1,(hg.2.trans hg2.2).le oM⟩ rfl rfl
   ·simp(maxSteps:=9^9)(disch:=try exact dS)only[go_sem,qW,stA,rqA,rsA,mcn,h1,h3,h4,h5,e1,e3,e4,e6,c1,c2,c7];repeat refine aiG ?_
    exact qJt t r (hg.le oM) rfl rfl
 ·simp only[c4] at e3 ec;rcases hau with rfl | ⟨hh1,hau1⟩
  ·simp only[List.map_nil] at e1 e3;cases v
   ·simp(maxSteps:=9^9)(disch:=try exact dS)only[go_sem,qW,stA,rqA,rsA,List.map_nil,h1,h2,h3,e1,e3,ec,c1,c2,c3,c4];repeat refine aiG ?_
    exact qJt s rc (St.go_rfl hs oM) (by simp only[stA,rsA,c4]) rfl
   ·obtain⟨t,r,hg,e4⟩:=main rfl;simp only[stA,rqA,rsA,List.map_nil,c4] at e4;by_cases c6:r.e=0
    ·rw[c6] at e4;simp(maxSteps:=9^9)(disch:=try exact dS)only[go_sem,qW,stA,rqA,rsA,List.map_nil,h1,h3,h5,e1,e3,e4,c1,c2,c6,c3,c4];repeat refine aiG ?_
     exact qJt t ⟨0,r.ns,r.bl,r.no⟩ (hg.le oM) rfl rfl
    ·simp(maxSteps:=9^9)(disch:=try exact dS)only[go_sem,qW,stA,rqA,rsA,List.map_nil,h1,h3,h5,e1,e3,e4,c1,c2,c6,c3,c4];repeat refine aiG ?_
     exact qJt t r (hg.le oM) rfl rfl
  ·obtain⟨az,rfl⟩:=List.length_eq_one_iff.1 hau1;simp only[mcn] at e1 e3;cases v
   ·simp(maxSteps:=9^9)(disch:=try exact dS)only[go_sem,qW,stA,rqA,rsA,mcn,h1,h2,h3,e1,e3,ec,c1,c2,c3,c4];repeat refine aiG ?_
    exact qJt s rc (St.go_rfl hs oM) (by simp only[stA,rsA,c4]) rfl
   obtain⟨t0,e5,⟨l,hl,ht0⟩,e6⟩:=zY5 (g:=g4) (s:=s) (lo:=lo) (q:=⟨co,hh,[az],ns,bl⟩) ⟨hs,⟨oM,oM⟩,hh1,rfl,hB,hq⟩;have hg0:s.Go 0 t0:=by rw[ht0];exact St.lkd_go hs hl
   clear ht0;simp only[stA,rqA,mcn,c4] at e6;by_cases c6:e5=0
   rotate_left
   ·obtain⟨rd,ed⟩:=qCc (g:=g2) (s:=t0) (e:=e5);simp only[stA,rsA] at ed;simp(maxSteps:=9^9)(disch:=try exact dS)only[go_sem,qW,stA,rqA,rsA,mcn,h1,h2,h3,h4,e1,e3,e6,ed,c1,c2,c6,c3,c4];repeat refine aiG ?_
    exact qJt t0 rd (hg0.le oM) rfl rfl
   subst c6;obtain⟨t,r,hg,e4⟩:=main rfl;obtain⟨t2,l2,hg2,e7⟩:=zZl (g:=g6) (s:=t) (q:=⟨co,hh,[az],ns,bl⟩) ⟨hg.1,(hg.2 _ hc).le oM,rfl,hq⟩;simp only[stA,rqA,rsA,mcn,c4] at e4 e7;by_cases c7:r.e=0
   ·rw[c7] at e4;simp(maxSteps:=9^9)(disch:=try exact dS)only[go_sem,qW,stA,rqA,rsA,mcn,h1,h3,h4,h5,h6,e1,e3,e4,e6,e7,c1,c2,c3,c4];repeat refine aiG ?_
    exact qJt t2 ⟨0,r.ns,r.bl,l2⟩ ⟨hg2.1,(hg.2.trans hg2.2).le oM⟩ rfl rfl
   ·simp(maxSteps:=9^9)(disch:=try exact dS)only[go_sem,qW,stA,rqA,rsA,mcn,h1,h3,h4,h5,e1,e3,e4,e6,c1,c2,c7,c3,c4];repeat refine aiG ?_
    exact qJt t r (hg.le oM) rfl rfl
end Go.Eng
end
