/- A part of an abstract machine, its walks, their tie. -/
import Derived.Test.YtkffggdjdmimgaaGreatDoorA24
import Derived.Test.YtkffggdjdmimgaaGreatDoorA23
set_option linter.all false
section
set_option maxHeartbeats 64000000
set_option maxRecDepth 20000
namespace Go.Eng
open List
variable (tab:Tab) (gl:Gl)
variable {vv:V} {oo:List Ob}
def wH (h:Int):List UInt8:=beI 2 h 2
def wA (a:Az):List UInt8:=beI 2 a.s 2++(wB a.no++wB a.va)
def w8 (n:Int):List UInt8:=beI 8 n 8
def rqT (q:Rq):List UInt8:=q.hs.flatMap wH++(q.au.flatMap wA++(q.ns.flatMap w8++(u8I q.bl.length::q.bl.flatMap wB)))
theorem zD1 (q:Rq):rqG q=83::87::0::0::u8I q.co::rqT q:=by
 unfold rqG rq3 rq2 rq1 rq0 rqT;simp only[qMn (f:=hsF) (w:=wH) (fun _ _=>rfl),qMn (f:=azE) (w:=wA) (fun b a=>by unfold azE wA;rw[zF3,zF3,append_assoc,append_assoc]),qMn (f:=nsF) (w:=w8) (fun _ _=>rfl),qMn (f:=blL) (fun b k=>zF3),append_assoc,cons_append,nil_append]
theorem jF1 {n:Int}(h:0≤n∧n<65536) : ∃ x y:UInt8,beI 2 n 2=[x,y]∧((x.toNat:Int)*256+y.toNat=n):=by
 have hl:(beI 2 n 2).length=2:=by simp[beI]
 match hb:beI 2 n 2,hl with
 | [x,y],_=>
  refine⟨x,y,rfl,?_⟩;have e:((beV (beI 2 n 2):Nat):Int)=n:=by
   rw[qOh];have:=qR1 (n:=n) oM;have e:(256:Nat)^2=65536:=by decide
   rw[e];omega
  rw[hb] at e;have e2:beV [x,y]=256*(256*0+x.toNat)+y.toNat:=rfl;rw[e2] at e;omega
theorem jA3 (q:Rq)(hl:(rqG q).length≤2048) : ∃ x y:UInt8,rqB q=83::87::x::y::u8I q.co::rqT q∧((x.toNat:Int)*256+y.toNat=(rqB q).length)∧(rqB q).length=(rqG q).length:=by
 have hb:(rqB q).length=(rqG q).length:=by
  unfold rqB;rw[length_append,length_append,qU,zD1];simp only[length_take,length_drop,length_cons];omega
 obtain⟨x,y,e,h⟩:=jF1 (n:=((rqG q).length:Int)) oM;refine⟨x,y,?_,by rw[hb];exact h,hb⟩;unfold rqB;rw[e,zD1];rfl
theorem jP1 {n:Int}(h:0≤n∧n<256):((u8I n).toNat:Int)=n:=by
 unfold u8I;rw[UInt8.toNat_ofNat'];omega
theorem qY1 {n:Int}(h:0≤n∧n<256):u8I n=bY n:=by
 unfold u8I bY;congr 1;unfold m64;omega
theorem qBl (s:Rd):vD s = .live 3 [.t (.agg [.sl (s.1.map qA),.int .i64 (s.2.1:Int),.int .i64 s.2.2])] true true:=rfl
theorem At.wblm {b x r:List UInt8}{p:Nat}(m:Nat)(h:At b p (wB x++r))(hx:x.length≤m)(hm:m≤4096):zF (b,p,0) m=(x,(b,p+2+x.length,0))∧At b (p+2+x.length) r:=by
 have h1:=(At.wbl h oM).2;unfold wB at h;rw[append_assoc] at h;obtain⟨t,rfl,hb⟩:=h;exact⟨qR5 (b:=b) (p:=t) (x:=x) (t:=r) (most:=m) (by rw[hb];simp only[append_assoc]) hx oM,h1⟩
theorem At.ok {b r:List UInt8}{p:Nat}(h:At b p r)(hb:b.length<1000000000):qEo (b,p,0):=by
 obtain⟨t,rfl,e⟩:=h;refine⟨?_,hb⟩;rw[e];simp
theorem At.end {b:List UInt8}{p:Nat}(h:At b p []):p=b.length:=by
 obtain⟨t,rfl,e⟩:=h;rw[e];simp
theorem At.w2 {b r:List UInt8}{p:Nat}{n:Int}(h:At b p (wH n++r))(hn:0≤n∧n≤65535):qQ (b,p,0) 2=(n,(b,p+2,0))∧At b (p+2) r:=At.uint h (.inr (.inl ⟨rfl,oM⟩))
theorem At.w8 {b r:List UInt8}{p:Nat}{n:Int}(h:At b p (w8 n++r))(hn:tmI n):qQ (b,p,0) 8=(n,(b,p+8,0))∧At b (p+8) r:=At.uint h (.inl ⟨rfl,by unfold tmI at hn;omega⟩)
def jOd (s:Rd):Nat→List Int×Rd
 | 0=>([],s)
 | n+1=>((jOd s n).1++[(qQ (jOd s n).2 2).1],(qQ (jOd s n).2 2).2)
def jSd (s:Rd):Az×Rd:=
 match qQ s 2 with
 | (a,s1)=>match zF s1 128 with
 | (no,s2)=>match zF s2 128 with
 | (va,s3)=>(⟨a,no,va⟩,s3)
def jOb (s:Rd):Nat→List Az×Rd
 | 0=>([],s)
 | n+1=>((jOb s n).1++[(jSd (jOb s n).2).1],(jSd (jOb s n).2).2)
def jAa (s:Rd):Nat→List (List UInt8)×Rd
 | 0=>([],s)
 | n+1=>((jAa s n).1++[(zF (jAa s n).2 1024).1],(zF (jAa s n).2 1024).2)
theorem At.az {b r:List UInt8}{p:Nat}{a:Az}(h:At b p (wA a++r))(ha:(0≤a.s∧a.s≤65535)∧a.no.length≤128∧a.va.length≤128) :
  qQ (b,p,0) 2=(a.s,(b,p+2,0))∧zF (b,p+2,0) 128=(a.no,(b,p+2+2+a.no.length,0))∧zF (b,p+2+2+a.no.length,0) 128=(a.va,(b,p+2+2+a.no.length+2+a.va.length,0))∧At b (p+2+2+a.no.length+2+a.va.length) r
  ∧ At b (p+2) (wB a.no++(wB a.va++r))∧At b (p+2+2+a.no.length) (wB a.va++r):=by
 unfold wA at h;rw[append_assoc,append_assoc] at h;obtain⟨a1,h1⟩:=At.w2 (n:=a.s) h ha.1;obtain⟨a2,h2⟩:=h1.wblm 128 ha.2.1 oM;obtain⟨a3,h3⟩:=h2.wblm 128 ha.2.2 oM;exact⟨a1,a2,a3,h3,h1,h2⟩
def rdQ (b:List UInt8):Rq:=
 let k:Int:=(b.getD 4 0).toNat
 match jOd (b.drop 5,0,0) (qNn k).1.toNat with
 | (hs,s1)=>match jOb s1 (qNn k).2.1.toNat with
 | (au,s2)=>match jH3 s2 (qNn k).2.2.1.toNat with
 | (ns,s3)=>match qQ s3 1 with
 | (n,s4)=>⟨k,hs,au,ns,(jAa s4 n.toNat).1⟩
theorem jC8 {k:Int}(h:coK k):0≤k∧k<256:=by
 rcases h with rfl | rfl | rfl | rfl | rfl | rfl | rfl | rfl | rfl | rfl<;>decide
theorem zN8 {q:Rq}(h:q.W):rdQ (rqB q)=q:=by
 obtain⟨x,y,e,-,-⟩:=jA3 q h.le;have hc:=jC8 h.co;have e5:(rqB q).drop 5=rqT q:=by rw[e];rfl
 have e4:(((rqB q).getD 4 0).toNat:Int)=q.co:=by rw[e];exact jP1 oM
 have h0:At (rqT q) 0 (rqT q):=⟨[],rfl,rfl⟩;obtain⟨p1,f1,h1⟩:=At.many (w:=wH) (f:=fun s=>qQ s 2) (F:=jOd) (fun _=>rfl) (fun _ _=>rfl) (l:=q.hs) (fun x hm p r g=>⟨_,(At.w2 g (h.hs.2 x hm)).1,(At.w2 g (h.hs.2 x hm)).2⟩) h0;obtain⟨p2,f2,h2⟩:=At.many (w:=wA) (f:=jSd) (F:=jOb) (fun _=>rfl) (fun _ _=>rfl) (l:=q.au) (fun x hm p r g=>by
  obtain⟨a1,a2,a3,a4,-,-⟩:=At.az g (h.au.2 x hm);exact⟨_,by simp only[jSd,a1,a2,a3],a4⟩) h1
 obtain⟨p3,f3,h3⟩:=At.many (w:=w8) (f:=fun s=>qQ s 8) (F:=jH3) (fun _=>rfl) (fun _ _=>rfl) (l:=q.ns) (fun x hm p r g=>⟨_,(At.w8 g (h.ns.2 x hm)).1,(At.w8 g (h.ns.2 x hm)).2⟩) h2;have hb:(0:Int)≤q.bl.length∧(q.bl.length:Int)<256:=by have:=h.B.2.2.2.1;omega
 rw[qY1 hb] at h3;obtain⟨f4,h4⟩:=h3.byte hb;have h4':At (rqT q) (p3+1) (q.bl.flatMap wB++[]):=by rw[append_nil];exact h4
 obtain⟨p5,f5,h5⟩:=At.many (w:=wB) (f:=fun s=>zF s 1024) (F:=jAa) (fun _=>rfl) (fun _ _=>rfl) (l:=q.bl) (fun x hm p r g=>⟨_,(At.wblm 1024 g (h.bl.2 x hm) oM).1,(At.wblm 1024 g (h.bl.2 x hm) oM).2⟩) h4';have n1:(qNn q.co).1.toNat=q.hs.length:=by have:=h.hs.1;omega
 have n2:(qNn q.co).2.1.toNat=q.au.length:=by have:=h.au.1;omega
 have n3:(qNn q.co).2.2.1.toNat=q.ns.length:=by have:=h.ns.1;omega
 simp only[rdQ,e5,e4,n1,n2,n3,f1,f2,f3,f4,f5,Int.toNat_natCast]
theorem jIm {q r:Rq}(h:q.W)(h':r.W)(e:rqB q=rqB r):q=r:=by
 rw[←zN8 h,←zN8 h',e]
def mkB (n:Int)(p:List UInt8):List UInt8:=vW 12 [beI 8 n 8,p]
def qJt (n:Int)(p:List UInt8):List UInt8:=mkB n p++beI 8 n 8++beI 4 (p.length:Int) 4++p
def zDz (n:Int)(p:List UInt8):Prop:=(1≤n∧n≤1000000)∧p.length≤60000
theorem qH8 {n:Int}{p:List UInt8}:(mkB n p).length=32:=qH
theorem qFy {n:Int}{p:List UInt8}:(qJt n p).length=44+p.length:=by
 unfold qJt;simp only[length_append,qH8,qU]
theorem zXl {a b:Int}(ha:0≤a∧a<9223372036854775808)(hb:0≤b∧b<9223372036854775808)(h:beI 8 a 8=beI 8 b 8):a=b:=by
 have e:=congrArg beV h;rw[qOh,qOh] at e;have h1:=qR1 (n:=a) oM;have h2:=qR1 (n:=b) oM;have e8:(256:Nat)^8=18446744073709551616:=by decide
 rw[e8] at e;omega
theorem qR7 {n m:Int}{p x:List UInt8}(h1:zDz n p)(h2:zDz m x)(h:qJt n p=qJt m x):n=m∧p=x:=by
 unfold qJt at h;have hl:p.length=x.length:=by have:=congrArg List.length h;simp only[length_append,qH8,qU] at this;omega
 obtain⟨h3,h4⟩:=append_inj' h hl;obtain⟨h5,-⟩:=append_inj' h3 (by simp only[qU]);obtain⟨-,h7⟩:=append_inj' h5 (by simp only[qU]);exact⟨zXl (by have:=h1.1;omega) (by have:=h2.1;omega) h7,h4⟩
def qLp:ECt where
 α:=Int
 β:=Bool
 aS:=fun n=>[.t (.int .i64 n)]
 pre:=fun n=>n=0
 r:=fun r'=> .t (.bool r')
 R:=fun n r'=>r'=true
theorem jDy {g:EF qLp}{n:Int}(hp:n=0):qLp.fs g [.t (.int .i64 n)] []=some (.t (.bool (true)),[]):=fnQ qLp n hp
theorem zY1 {n:Int}(hV:vv = .t (.bool (true)))(hO:oo=[]):qLp.K n vv oo:=⟨_,rfl,hV,hO⟩
theorem qZb  (n:Int)(hp:n=0) :
  qDv.1.wp tab gl (qE 0 [.t (.int .i64 n)]) (qE 0 []) (qV [(2,none)] 0 (qLp.K n)):=by
 subst hp;simp(disch:=omega)only[go_sem,qDv];first | exact (zY1 rfl rfl) | exact⟨rfl,(zY1 rfl rfl)⟩ | exact⟨rfl,rfl,(zY1 rfl rfl)⟩ | exact⟨rfl,rfl,rfl,(zY1 rfl rfl)⟩
def qLq:ECt where
 α:=Int×List UInt8
 β:=List UInt8
 aS:=fun (n,p)=>[.t (.int .i64 n),.t (.sl (p.map qA))]
 pre:=fun (n,p)=>p.length≤60000
 r:=fun r'=> .t (.sl (r'.map qA))
 R:=fun (n,p) r'=>r'=mkB n p
theorem jD0 {g:EF qLq}{n:Int}{p:List UInt8}(hp:p.length≤60000):qLq.fs g [.t (.int .i64 n),.t (.sl (p.map qA))] []=some (.t (.sl ((mkB n p).map qA)),[]):=fnQ qLq (n,p) hp
theorem zY2 {n:Int}{p:List UInt8}(hV:vv = .t (.sl ((mkB n p).map qA)))(hO:oo=[]):qLq.K (n,p) vv oo:=⟨_,rfl,hV,hO⟩
theorem zAj (h1:LkC tab 98 vB)(h2:LkC tab 123 jL)(n:Int)(p:List UInt8)(hp:p.length≤60000) :
  qE2.1.wp tab gl (qE 0 [.t (.int .i64 n),.t (.sl (p.map qA))]) (qE 0 []) (qV [(4,none)] 0 (qLq.K (n,p))):=by
 have u:=qVt (b:=[]) (n:=n) sM;simp only[map_nil,nil_append,length_nil] at u;have hf:(qZ 12 [beI 8 n 8,p]).length<1000000000:=by simp[qZ,qAy,qU];omega
 have e:jL.fs [.t (.int .i64 12),.t (.sl [.sl ((beI 8 n 8).map qA),.sl (p.map qA)])] []=some (.sl 0 0 32,[.live 1 (((vW 12 [beI 8 n 8,p]).map qA).map V.t) true false]):=jL.eq (12,[beI 8 n 8,p]) ⟨by show 12<256;omega,hf⟩;have l8:(beI 8 n 8).length=8:=qU;have t8:List.take 8 (beI 8 n 8)=beI 8 n 8:=take_of_length_le oM;have hm:vW 12 [beI 8 n 8,p]=mkB n p:=rfl;have lm:(mkB n p).length=32:=qH8;have tm:List.take 32 (mkB n p)=mkB n p:=take_of_length_le oM;rw[hm] at e;simp(disch:=omega)only[go_sem,qE2,h1,u,t8,h2,e,tm];repeat refine aiG ?_
 first | exact (zY2 rfl rfl) | exact⟨rfl,(zY2 rfl rfl)⟩ | exact⟨rfl,rfl,(zY2 rfl rfl)⟩ | exact⟨rfl,rfl,rfl,(zY2 rfl rfl)⟩
def qJc:ECt where
 α:=Dk×Int×Int×List UInt8
 β:=Dk×Int
 aS:=fun (k,b,n,p)=>[.t (dkA k),.t (.int .i64 b),.t (.int .i64 n),.t (.sl (p.map qA))]
 pre:=fun (k,b,n,p)=>okD k∧b=0∧zDz n p
 r:=fun (r,e)=> .tup [.t (dkA r),.t (.int .i64 e)]
 R:=fun (k,b,n,p) (r,e)=>r = { k with wr:=k.wr+1,ar:=k.ar.set (n%2).toNat (qJt n p) }∧e=0
 inj:=by rintro⟨k,b,n,p⟩ ⟨k',b',n',p'⟩ e _;simp only[qBk,qM7,qVl] at e;obtain⟨rfl,rfl,rfl,rfl⟩:=e;rfl
theorem jDz {g:EF qJc}{k:Dk}{b n:Int}{p:List UInt8}(hp:okD k∧b=0∧zDz n p) : ∃ (r:Dk) (e:Int),(r = { k with wr:=k.wr+1,ar:=k.ar.set (n%2).toNat (qJt n p) }∧e=0)∧qJc.fs g [.t (dkA k),.t (.int .i64 b),.t (.int .i64 n),.t (.sl (p.map qA))] []=some (.tup [.t (dkA r),.t (.int .i64 e)],[]):=by
 obtain⟨y,h1,h2⟩:=qJc.eq g (k,b,n,p) hp;exact⟨y.1,y.2,h1,h2⟩
theorem jT0 {k:Dk}{b n:Int}{p:List UInt8}(r:Dk)(e:Int)(hR:r = { k with wr:=k.wr+1,ar:=k.ar.set (n%2).toNat (qJt n p) }∧e=0)(hV:vv = .tup [.t (dkA r),.t (.int .i64 e)])(hO:oo=[]):qJc.K (k,b,n,p) vv oo:=⟨(r,e),hR,hV,hO⟩
theorem qVy {g1}(h1:LkE tab 97 qLp g1){g2}(h2:LkE tab 99 qLq g2)(h3:LkC tab 98 vB){g4}(h4:LkE tab 100 qOs g4)(k:Dk)(b n:Int)(p:List UInt8)(hp:okD k∧b=0∧zDz n p) :
  qCm.1.wp tab gl (qE 0 [.t (dkA k),.t (.int .i64 b),.t (.int .i64 n),.t (.sl (p.map qA))]) (qE 0 []) (qV [(8,(some (5,true))),(9,none)] 0 (qJc.K (k,b,n,p))):=by
 obtain⟨hk,rfl,hn,hl⟩:=hp;have e1:=jDy (g:=g1) (n:=0) rfl;have e2:=jD0 (g:=g2) (n:=n) hl;have lm:(mkB n p).length=32:=qH8;have hr:qJt n p=mkB n p++beI 8 n 8++beI 4 (p.length:Int) 4++p:=rfl;have lr:(qJt n p).length=44+p.length:=qFy;have u1:=qVt (b:=mkB n p) (n:=n) oM;have l1:(mkB n p++beI 8 n 8).length=40:=by simp only[length_append,qU,lm]
 generalize mkB n p=M at *;generalize M++beI 8 n 8=M8 at *;have u2:vB.fs [.t (.sl (M8.map qA)),.t (.int .i64 4),.t (.int .i64 (p.length:Int))] []=some (.sl 0 0 (M8.length+4),[.live 1 (((M8++beI 4 (p.length:Int) 4).map qA).map V.t) true false]):=by
  have:=vB.eq (M8,4,(p.length:Int)) ⟨by show M8.length<1000000000;omega,by show 1≤4;omega,by show 4≤8;omega⟩;exact this
 have l2:(M8++beI 4 (p.length:Int) 4).length=44:=by simp only[length_append,qU,l1]
 generalize M8++beI 4 (p.length:Int) 4=M4 at *;obtain⟨r,e,⟨q1,rfl⟩,e4⟩:=jLw (g:=g4) (k:=k) (i:=n%2) (b:=qJt n p) ⟨hk,oM,oM⟩;have t1:List.take (M.length+8) M8=M8:=take_of_length_le oM;have t2:List.take (M8.length+4) M4=M4:=take_of_length_le oM;have hK : ∀ vv,vv = .tup [.t (dkA r),.t (.int .i64 0)]→qJc.K (k,0,n,p) vv []:=fun vv h=>jT0 r 0 ⟨q1,rfl⟩ h rfl
 clear q1;rw[hr] at e4;have hn0 : ¬ n<1:=oM;have hn1 : ¬ 1099511627776<n:=oM;have hz:(0:Int)+n%2=n%2:=Int.zero_add _;have t3:List.take (M8.length+4+p.length) (M4++p)=M4++p:=take_of_length_le (by rw[length_append];omega);have ht:n.tmod 2=n%2:=Int.tmod_eq_emod_of_nonneg oM;simp only[dkA] at e4;simp(disch:=omega)only[go_sem,qCm,dkA,hn0,hn1,ht,h1,e1,hl,h2,e2,h3,u1,t1,u2,t2,h4,e4,hz,t3];repeat refine aiG ?_
 exact hK _ rfl
def qO0:ECt where
 α:=List UInt8×Int
 β:=List UInt8×Int×Bool
 aS:=fun (b,w)=>[.t (.sl (b.map qA)),.t (.int .i64 w)]
 pre:=fun (b,w)=>b=[] ∨ ∃ n p,zDz n p∧b=qJt n p∧n%2=w
 r:=fun (p,n,ok)=> .tup [.t (.sl (p.map qA)),.t (.int .i64 n),.t (.bool ok)]
 R:=fun (b,w) (p,n,ok)=>(b=[]→p=[]∧n=0∧ok=false) ∧ ∀ m x,zDz m x→b=qJt m x→p=x∧n=m∧ok=true
theorem zB5 {g:EF qO0}{b:List UInt8}{w:Int}(hp:b=[] ∨ ∃ n p,zDz n p∧b=qJt n p∧n%2=w) : ∃ (p:List UInt8) (n:Int) (ok:Bool),((b=[]→p=[]∧n=0∧ok=false) ∧ ∀ m x,zDz m x→b=qJt m x→p=x∧n=m∧ok=true)∧qO0.fs g [.t (.sl (b.map qA)),.t (.int .i64 w)] []=some (.tup [.t (.sl (p.map qA)),.t (.int .i64 n),.t (.bool ok)],[]):=by
 obtain⟨y,h1,h2⟩:=qO0.eq g (b,w) hp;exact⟨y.1,y.2.1,y.2.2,h1,h2⟩
theorem jM4 {b:List UInt8}{w:Int}(p:List UInt8)(n:Int)(ok:Bool)(hR:(b=[]→p=[]∧n=0∧ok=false) ∧ ∀ m x,zDz m x→b=qJt m x→p=x∧n=m∧ok=true)(hV:vv = .tup [.t (.sl (p.map qA)),.t (.int .i64 n),.t (.bool ok)])(hO:oo=[]):qO0.K (b,w) vv oo:=⟨(p,n,ok),hR,hV,hO⟩
theorem qZc (h1:LkC tab 129 qFr)(h2:LkC tab 157 qXs)(h3:LkC tab 141 qFp)(h4:LkC tab 143 qLc){g5}(h5:LkE tab 99 qLq g5)(b:List UInt8)(w:Int)(hp:b=[] ∨ ∃ n p,zDz n p∧b=qJt n p∧n%2=w) :
  qAt.1.wp tab gl (qE 0 [.t (.sl (b.map qA)),.t (.int .i64 w)]) (qE 0 []) (qV [(4,none),(5,none),(6,none)] 0 (qO0.K (b,w))):=by
 have k4:((4:Nat):Int)=4:=rfl;have k8:((8:Nat):Int)=8:=rfl;have k32:((32:Nat):Int)=32:=rfl;rcases hp with rfl | ⟨n,p,hp,rfl,hw⟩
 ·have e1:=qJu (b:=[]) sM;have o:qEo (([]:List UInt8),0,0):=⟨sM,sM⟩;have o2:qEo (([]:List UInt8),0,2):=⟨sM,sM⟩;have e2:=qMy (s:=([],0,0)) (k:=32) ⟨o,oM⟩;rw[show qDh ([],0,0) 32=([],([],0,2)) from rfl,k32] at e2;have e3:=wU (s:=([],0,2)) (k:=8) ⟨o2,oM,oM⟩;rw[show qQ ([],0,2) 8=(0,([],0,2)) from rfl,k8] at e3;have e4:=wU (s:=([],0,2)) (k:=4) ⟨o2,oM,oM⟩;rw[show qQ ([],0,2) 4=(0,([],0,2)) from rfl,k4] at e4;have e5:=qMy (s:=([],0,2)) (k:=0) ⟨o2,oM⟩;rw[show qDh ([],0,2) 0=([],([],0,2)) from rfl,show ((0:Nat):Int)=0 from rfl] at e5;have e6:=qQu (s:=([],0,2)) o2;have hK : ∀ m x,zDz m x→[]=qJt m x→([]:List UInt8)=x∧(0:Int)=m∧false=true:=by
   intro m x _ h;have:=congrArg List.length h;rw[qFy,length_nil] at this;omega
  have cz:((0:Nat):Int)=0:=rfl;simp only[rdO,map_nil,cz] at e1 e2 e3 e4 e5 e6;simp(disch:=omega)only[go_sem,qAt,h1,e1,h2,e2,h3,e3,e4,e5,h4,e6,map_nil];repeat refine aiG ?_
  exact jM4 [] 0 false ⟨fun _=>⟨rfl,rfl,rfl⟩,hK⟩ rfl rfl
 have lm:(mkB n p).length=32:=qH8;have lr:(qJt n p).length=44+p.length:=qFy;have hr:qJt n p=mkB n p++beI 8 n 8++beI 4 (p.length:Int) 4++p:=rfl;have hK : ∀ m x,zDz m x→qJt n p=qJt m x→p=x∧n=m∧true=true:=fun m x h e=>⟨(qR7 hp h e).2,(qR7 hp h e).1,rfl⟩
 have hE:qJt n p=[]→p=[]∧n=0∧true=false:=by
  intro h;have:=congrArg List.length h;rw[lr,length_nil] at this;omega
 obtain⟨hn,hl⟩:=hp;have e5:=jD0 (g:=g5) (n:=n) hl;generalize mkB n p=M at *;have A0:At (qJt n p) 0 (M++(beI 8 n 8++(beI 4 (p.length:Int) 4++(p++[])))):=⟨[],rfl,by rw[hr];simp only[append_assoc,nil_append,append_nil]⟩;generalize qJt n p=B at *;have hB:B.length<1000000000:=oM;obtain⟨p1,f1,A1⟩ : ∃ p1,qDh (B,0,0) 32=(M,(B,p1,0))∧At B p1 (beI 8 n 8++(beI 4 (p.length:Int) 4++(p++[]))):=by
  refine⟨32,?_,by have:=A0.next;rw[lm] at this;exact this⟩;obtain⟨t,h0,hb⟩:=A0;have:=zDy (b:=B) (p:=t) (q:=M) (by rw[hb,←append_assoc]) lm;rw[h0] at this;exact this
 obtain⟨p2,f2,A2⟩ : ∃ p2,qQ (B,p1,0) 8=(n,(B,p2,0))∧At B p2 (beI 4 (p.length:Int) 4++(p++[])):=⟨_,At.uint A1 (.inl ⟨rfl,oM⟩)⟩;obtain⟨p3,f3,A3⟩ : ∃ p3,qQ (B,p2,0) 4=((p.length:Int),(B,p3,0))∧At B p3 (p++[]):=by
  refine⟨p2+4,?_,by have:=A2.next;rw[qU] at this;exact this⟩;obtain⟨t,h0,hb⟩:=A2;have v:beV (beI 4 (p.length:Int) 4)=p.length:=by
   rw[qOh];have:=qR1 (n:=(p.length:Int)) oM;have e:(256:Nat)^4=4294967296:=by decide
   rw[e];omega
  have:=qR6 (b:=B) (p:=t) (q:=beI 4 (p.length:Int) 4) (k:=4) (by rw[hb,←append_assoc]) qU oM;rw[h0,v] at this;exact this
 obtain⟨p4,f4,A4⟩ : ∃ p4,qDh (B,p3,0) p.length=(p,(B,p4,0))∧At B p4 []:=by
  refine⟨p3+p.length,?_,A3.next⟩;obtain⟨t,h0,hb⟩:=A3;have:=zDy (b:=B) (p:=t) (q:=p) (by rw[hb,←append_assoc]) rfl;rw[h0] at this;exact this
 have e1:=qJu (b:=B) hB;have e2:=qMy (s:=(B,0,0)) (k:=32) ⟨A0.ok hB,oM⟩;have e3:=wU (s:=(B,p1,0)) (k:=8) ⟨A1.ok hB,oM,oM⟩;have e4:=wU (s:=(B,p2,0)) (k:=4) ⟨A2.ok hB,oM,oM⟩;have e6:=qMy (s:=(B,p3,0)) (k:=p.length) ⟨A3.ok hB,oM⟩;have e7:=qQu (s:=(B,p4,0)) (A4.ok hB);rw[f1,k32] at e2;rw[f2,k8] at e3;rw[f3,k4] at e4;rw[f4] at e6;clear A0 A1 A2 A3 A4 f1 f2 f3 f4;have cz:((0:Nat):Int)=0:=rfl;have hn0 : ¬ n<1:=oM;have ht:n.tmod 2=n%2:=Int.tmod_eq_emod_of_nonneg oM;subst hw;simp only[rdO,cz] at e1 e2 e3 e4 e6 e7;simp(disch:=omega)only[go_sem,qAt,h1,e1,h2,e2,h3,e3,e4,e6,h4,e7,h5,e5,hn0,ht];repeat refine aiG ?_
 exact jM4 p n true ⟨hE,hK⟩ rfl rfl
def jOk (ar:List (List UInt8))(n:Int)(p:List UInt8):Prop:=zDz n p∧ar.getD (n%2).toNat []=qJt n p∧(ar.getD ((n+1)%2).toNat []=[] ∨ ∃ q,zDz (n-1) q∧ar.getD ((n+1)%2).toNat []=qJt (n-1) q)
theorem jM3 {ar:List (List UInt8)}{n:Int}{p:List UInt8}(h:jOk ar n p):(ar.getD (Int.toNat 0) []).length≤65536∧(ar.getD (Int.toNat 1) []).length≤65536:=by
 obtain⟨h1,h2,h3⟩:=h;have a : ∀ m q,zDz m q→(qJt m q).length≤65536:=fun m q hq=>by rw[qFy];have:=hq.2;omega
 have b:(ar.getD ((n+1)%2).toNat []).length≤65536:=by
  rcases h3 with h3 | ⟨q,h4,h5⟩
  ·rw[h3];simp
  ·rw[h5];exact a _ _ h4
 have c:(ar.getD (n%2).toNat []).length≤65536:=by rw[h2];exact a _ _ h1
 rcases (by omega:n%2=0∧(n+1)%2=1∨n%2=1∧(n+1)%2=0) with⟨e1,e2⟩ | ⟨e1,e2⟩
 ·rw[e1] at c;rw[e2] at b;exact⟨c,b⟩
 ·rw[e1] at c;rw[e2] at b;exact⟨b,c⟩
theorem zKc {ar:List (List UInt8)}{n m:Int}{p x:List UInt8}(h:jOk ar n p)(g:jOk ar m x):p=x∧n=m:=by
 obtain⟨h1,h2,h3⟩:=h;obtain⟨g1,g2,g3⟩:=g;by_cases c:n%2=m%2
 ·rw[c,g2] at h2;have:=qR7 g1 h1 h2;exact⟨this.2.symm,this.1.symm⟩
 ·exfalso;have e1:(n+1)%2=m%2:=oM;have e2:(m+1)%2=n%2:=oM;have ne : ∀ n p,qJt n p≠[]:=by
   intro n p h;have:=congrArg List.length h;rw[qFy,length_nil] at this;omega
  rw[e1,g2] at h3;rw[e2,h2] at g3;rcases h3 with h3 | ⟨q,h4,h5⟩
  ·exact ne _ _ h3
  rcases g3 with g3 | ⟨r,g4,g5⟩
  ·exact ne _ _ g3
  have a1:=(qR7 g1 h4 h5).1;have a2:=(qR7 h1 g4 g5).1;omega
def qO1:ECt where
 α:=Dk×Int
 β:=List UInt8×Int×Int
 aS:=fun (k,b)=>[.t (dkA k),.t (.int .i64 b)]
 pre:=fun (k,b)=>k.off=false∧k.ar.length=4∧b=0 ∧ ∃ n p,jOk k.ar n p
 r:=fun (p,n,e)=> .tup [.t (.sl (p.map qA)),.t (.int .i64 n),.t (.int .i64 e)]
 R:=fun (k,b) (p,n,e)=>e=0 ∧ ∀ m x,jOk k.ar m x→p=x∧n=m
 inj:=by rintro⟨k,b⟩ ⟨k',b'⟩ e _;simp only[qBk,qM7,qVl] at e;obtain⟨rfl,rfl⟩:=e;rfl
theorem jM5 {g:EF qO1}{k:Dk}{b:Int}(hp:k.off=false∧k.ar.length=4∧b=0 ∧ ∃ n p,jOk k.ar n p) : ∃ (p:List UInt8) (n e:Int),(e=0 ∧ ∀ m x,jOk k.ar m x→p=x∧n=m)∧qO1.fs g [.t (dkA k),.t (.int .i64 b)] []=some (.tup [.t (.sl (p.map qA)),.t (.int .i64 n),.t (.int .i64 e)],[]):=by
 obtain⟨y,h1,h2⟩:=qO1.eq g (k,b) hp;exact⟨y.1,y.2.1,y.2.2,h1,h2⟩
theorem zY3 {k:Dk}{b:Int}(p:List UInt8)(n e:Int)(hR:e=0 ∧ ∀ m x,jOk k.ar m x→p=x∧n=m)(hV:vv = .tup [.t (.sl (p.map qA)),.t (.int .i64 n),.t (.int .i64 e)])(hO:oo=[]):qO1.K (k,b) vv oo:=⟨(p,n,e),hR,hV,hO⟩
theorem qUe {g1}(h1:LkE tab 97 qLp g1){g2}(h2:LkE tab 127 qOp g2){g3}(h3:LkE tab 128 qO0 g3)(k:Dk)(b:Int)(hp:k.off=false∧k.ar.length=4∧b=0 ∧ ∃ n p,jOk k.ar n p) :
  yZ.1.wp tab gl (qE 0 [.t (dkA k),.t (.int .i64 b)]) (qE 0 []) (qV [(4,none),(5,none),(6,none)] 0 (qO1.K (k,b))):=by
 obtain⟨ho,hl,rfl,n,p,hj⟩:=hp;have e1:=jDy (g:=g1) (n:=0) rfl;obtain⟨z0,z1⟩:=jM3 hj;obtain⟨b0,x0,⟨q0,rfl⟩,d0⟩:=jDb (g:=g2) (k:=k) (i:=0) ⟨ho,hl,.inl rfl,z0⟩;obtain⟨b1,x1,⟨q1,rfl⟩,d1⟩:=jDb (g:=g2) (k:=k) (i:=1) ⟨ho,hl,.inr rfl,z1⟩;have hK : ∀ m x,jOk k.ar m x→p=x∧n=m:=fun m x h=>zKc hj h
 obtain⟨hp,h4,h5⟩:=hj;have hn:=hp.1;simp only[dkA] at d0 d1;rcases (by omega:n%2=0∨n%2=1) with c | c
 ·have c':(n+1)%2=1:=oM;rw[c,show (0:Int).toNat=0 from rfl] at h4;rw[c',show (1:Int).toNat=1 from rfl] at h5;obtain⟨y0,m0,o0,⟨-,r0⟩,p0⟩:=zB5 (g:=g3) (b:=b0) (w:=0) (.inr ⟨n,p,hp,by rw[q0];exact h4,c⟩);obtain⟨rfl,rfl,rfl⟩:=r0 n p hp (by rw[q0];exact h4);have hb1:b1=[] ∨ ∃ q,zDz (m0-1) q∧b1=qJt (m0-1) q:=by rw[q1];exact h5
  have hn0:(0:Int)<m0:=oM;rcases hb1 with rfl | ⟨q,hq,hb⟩
  ·obtain⟨y1,m1,o1,⟨r1,-⟩,p1⟩:=zB5 (g:=g3) (b:=[]) (w:=1) (.inl rfl);obtain⟨rfl,rfl,rfl⟩:=r1 rfl;simp only[map_nil] at p1 d1;simp(disch:=omega)only[go_sem,yZ,dkA,h1,e1];refine qG 3 ?_;simp(disch:=omega)only[go_sem,qD,dkA,h2,d0,d1];refine qG 3 ?_;simp(disch:=omega)only[go_sem,qD,h3,p0,p1,hn0];exact zY3 y0 m0 0 ⟨rfl,hK⟩ rfl rfl
  ·obtain⟨y1,m1,o1,⟨-,r1⟩,p1⟩:=zB5 (g:=g3) (b:=b1) (w:=1) (.inr ⟨m0-1,q,hq,hb,oM⟩);obtain⟨rfl,rfl,rfl⟩:=r1 _ q hq hb;have hn1 : ¬ m0<m0-1:=oM;simp(disch:=omega)only[go_sem,yZ,dkA,h1,e1];refine qG 3 ?_;simp(disch:=omega)only[go_sem,qD,dkA,h2,d0,d1];refine qG 3 ?_;simp(disch:=omega)only[go_sem,qD,h3,p0,p1,hn0,hn1];exact zY3 y0 m0 0 ⟨rfl,hK⟩ rfl rfl
 ·have c':(n+1)%2=0:=oM;rw[c,show (1:Int).toNat=1 from rfl] at h4;rw[c',show (0:Int).toNat=0 from rfl] at h5;obtain⟨y1,m1,o1,⟨-,r1⟩,p1⟩:=zB5 (g:=g3) (b:=b1) (w:=1) (.inr ⟨n,p,hp,by rw[q1];exact h4,c⟩);obtain⟨rfl,rfl,rfl⟩:=r1 n p hp (by rw[q1];exact h4);have hb0:b0=[] ∨ ∃ q,zDz (m1-1) q∧b0=qJt (m1-1) q:=by rw[q0];exact h5
  have hn0:(0:Int)<m1:=oM;rcases hb0 with rfl | ⟨q,hq,hb⟩
  ·obtain⟨y0,m0,o0,⟨r0,-⟩,p0⟩:=zB5 (g:=g3) (b:=[]) (w:=0) (.inl rfl);obtain⟨rfl,rfl,rfl⟩:=r0 rfl;simp only[map_nil] at p0 d0;simp(disch:=omega)only[go_sem,yZ,dkA,h1,e1];refine qG 3 ?_;simp(disch:=omega)only[go_sem,qD,dkA,h2,d0,d1];refine qG 3 ?_;simp(disch:=omega)only[go_sem,qD,h3,p0,p1,hn0];exact zY3 y1 m1 0 ⟨rfl,hK⟩ rfl rfl
  ·obtain⟨y0,m0,o0,⟨-,r0⟩,p0⟩:=zB5 (g:=g3) (b:=b0) (w:=0) (.inr ⟨m1-1,q,hq,hb,oM⟩);obtain⟨rfl,rfl,rfl⟩:=r0 _ q hq hb;have hn1:m1-1<m1:=oM;have hn2:(0:Int)<m1-1:=by have:=hq.1;omega
   simp(disch:=omega)only[go_sem,yZ,dkA,h1,e1];refine qG 3 ?_;simp(disch:=omega)only[go_sem,qD,dkA,h2,d0,d1];refine qG 3 ?_;simp(disch:=omega)only[go_sem,qD,h3,p0,p1,hn0,hn1,hn2];exact zY3 y1 m1 0 ⟨rfl,hK⟩ rfl rfl
def zYq:List (Int×Int×Int×Int×Int):=[(1,0,0,1,0),(2,0,0,1,0),(4,0,0,0,0),(5,0,0,2,0),(6,0,0,1,2),(7,0,0,1,1),(8,0,0,1,0),
 (9,1,1,3,3),(10,1,1,3,3),(11,1,1,0,2),(12,0,0,1,0),(13,1,1,0,0),(14,1,1,0,1),(15,1,1,2,1),(16,0,0,1,0),(17,0,0,6,-1),(18,1,1,2,1),(19,0,0,1,3),(20,0,0,1,0),
 (21,1,1,4,2),(22,1,1,1,0),(23,2,1,1,1),(24,2,1,2,0),(25,2,1,0,0),(26,2,1,0,1),(27,2,1,0,1),(28,2,1,0,0),(29,2,1,0,0),(30,1,1,0,1),(31,1,1,0,0),(32,1,1,0,0),(33,1,1,3,0)]
def zW3:List T:=zYq.flatMap fun t=>[.int .i64 t.1,.int .i64 t.2.1,.int .i64 t.2.2.1,.int .i64 t.2.2.2.1,.int .i64 t.2.2.2.2]
def qLj:ECt where
 α:=Int
 β:=Bool
 aS:=fun n=>[.t (.int .i64 n)]
 pre:=fun n=>True
 r:=fun r'=> .t (.bool r')
 R:=fun n r'=>r'=decide (0≤n∧n≤65535)
theorem jLj {g:EF qLj}{n:Int}:qLj.fs g [.t (.int .i64 n)] []=some (.t (.bool (decide (0≤n∧n≤65535))),[]):=fnQ qLj n trivial
theorem jS7 {n:Int}(hV:vv = .t (.bool (decide (0≤n∧n≤65535))))(hO:oo=[]):qLj.K n vv oo:=⟨_,rfl,hV,hO⟩
theorem zAf  (n:Int) :
  xP.1.wp tab gl (qE 0 [.t (.int .i64 n)]) (qE 0 []) (qV [(2,none)] 0 (qLj.K n)):=by
 have key : ∀ r,r=decide (0≤n∧n≤65535)→qLj.K n (.t (.bool r)) []:=fun r e=>jS7 (by rw[e]) rfl
 by_cases c1:n<0
 ·simp(disch:=omega)only[go_sem,xP,c1];refine key _ ?_;simp;omega
 by_cases c2:65535<n
 ·simp(disch:=omega)only[go_sem,xP,c1,c2];refine key _ ?_;simp;omega
 simp(disch:=omega)only[go_sem,xP,c1,c2];refine key _ ?_;simp;omega
def qI7:ECt where
 α:=Int×Int
 β:=Bool
 aS:=fun (n,s)=>[.t (.int .i64 n),.t (.int .i64 s)]
 pre:=fun (n,s)=>True
 r:=fun r'=> .t (.bool r')
 R:=fun (n,s) r'=>r'=decide (n=s∨s<0∧n≤8)
theorem jC5 {g:EF qI7}{n s:Int}:qI7.fs g [.t (.int .i64 n),.t (.int .i64 s)] []=some (.t (.bool (decide (n=s∨s<0∧n≤8))),[]):=fnQ qI7 (n,s) trivial
theorem jS3 {n s:Int}(hV:vv = .t (.bool (decide (n=s∨s<0∧n≤8))))(hO:oo=[]):qI7.K (n,s) vv oo:=⟨_,rfl,hV,hO⟩
theorem qUb  (n s:Int) :
  yY.1.wp tab gl (qE 0 [.t (.int .i64 n),.t (.int .i64 s)]) (qE 0 []) (qV [(4,none)] 0 (qI7.K (n,s))):=by
 have key : ∀ r,r=decide (n=s∨s<0∧n≤8)→qI7.K (n,s) (.t (.bool r)) []:=fun r e=>jS3 (by rw[e]) rfl
 by_cases c1:n=s
 ·subst c1;simp(disch:=omega)only[go_sem,yY];refine key _ ?_;simp
 by_cases c2:s<0
 ·by_cases c3:8<n
  ·simp(disch:=omega)only[go_sem,yY,c1,c2,c3];refine key _ ?_;simp;omega
  ·simp(disch:=omega)only[go_sem,yY,c1,c2,c3];refine key _ ?_;simp;omega
 ·simp(disch:=omega)only[go_sem,yY,c1,c2];refine key _ ?_;simp;omega
theorem jMb {α:Type}{f:α→List T}(hf : ∀ x,(f x).length=5) : ∀ {l:List α} {j:Nat} {x:α},l[j]?=some x→((l.flatMap f).drop (j*5)).take 5=f x
 | [],j,x,h=>by simp at h
 | y::r,0,x,h=>by
  simp at h;subst h;rw[Nat.zero_mul,drop_zero,flatMap_cons,take_append_of_le_length (by rw[hf];omega),take_of_length_le (by rw[hf];omega)]
 | y::r,j+1,x,h=>by
  have e:(j+1)*5=(f y).length+j*5:=by rw[hf];omega
  rw[flatMap_cons,e,drop_length_add_append];exact jMb hf (by simpa using h)
theorem jMe {j:Nat}{x:Int×Int×Int×Int×Int}(h:zYq[j]?=some x):List.take 5 (List.drop (j*5) zW3)=[.int .i64 x.1,.int .i64 x.2.1,.int .i64 x.2.2.1,.int .i64 x.2.2.2.1,.int .i64 x.2.2.2.2]:=jMb (fun _=>rfl) h
theorem zDl:zW3.length=160:=rfl
def jMd (k:Int):List (Int×Int×Int×Int×Int)→Option (Int×Int×Int×Int)
 | []=>none
 | x::r=>if x.1=k then some x.2 else jMd k r
theorem zYo {k:Int}(h:coK k):jMd k zYq=some (qNn k):=by
 rcases h with rfl | rfl | rfl | rfl | rfl | rfl | rfl | rfl | rfl | rfl<;>rfl
def qLh:ECt where
 α:=Int
 β:=Int×Int×Int×Int×Bool
 aS:=fun k=>[.t (.int .i64 k)]
 pre:=fun k=>coK k
 r:=fun (h,a,i,l,b)=> .tup [.t (.int .i64 h),.t (.int .i64 a),.t (.int .i64 i),.t (.int .i64 l),.t (.bool b)]
 R:=fun k (h,a,i,l,b)=>b=true∧(h,a,i,l)=qNn k
theorem jC6 {g:EF qLh}{k:Int}(hp:coK k) : ∃ (h a i l:Int) (b:Bool),(b=true∧(h,a,i,l)=qNn k)∧qLh.fs g [.t (.int .i64 k)] []=some (.tup [.t (.int .i64 h),.t (.int .i64 a),.t (.int .i64 i),.t (.int .i64 l),.t (.bool b)],[]):=by
 obtain⟨y,h1,h2⟩:=qLh.eq g k hp;exact⟨y.1,y.2.1,y.2.2.1,y.2.2.2.1,y.2.2.2.2,h1,h2⟩
theorem zXw {k:Int}(h a i l:Int)(b:Bool)(hR:b=true∧(h,a,i,l)=qNn k)(hV:vv = .tup [.t (.int .i64 h),.t (.int .i64 a),.t (.int .i64 i),.t (.int .i64 l),.t (.bool b)])(hO:oo=[]):qLh.K k vv oo:=⟨(h,a,i,l,b),hR,hV,hO⟩
theorem qY4 (h1:gl 1=some zW3)(k:Int)(hp:coK k) :
  qDp.1.wp tab gl (qE 0 [.t (.int .i64 k)]) (qE 0 []) (qV [(2,none),(3,none),(4,none),(5,none),(6,none)] 0 (qLh.K k)):=by
 have hS:=zYo hp;have tF:List.take 160 zW3=zW3:=rfl;simp(disch:=omega)only[go_sem,qDp,h1,zDl,tF];refine yU (σ:=Nat) (fun j=>j≤32∧jMd k (zYq.drop j)=some (qNn k)) (fun j=>32-j) (fun j=>[(0,.t (.int .i64 k)),(9,.t (.agg zW3)),(10,.t (.int .i64 (j:Nat)))]) (fun _=>[]) 0 ⟨oM,hS⟩ (qJ.rd id ?_ ?_ rfl) ?_
 ·simp(disch:=omega)only[go_sem,id]
 ·simp(disch:=omega)only[go_sem,id]
 rintro j ⟨hj,hF⟩;by_cases hlt:j<32
 ·obtain⟨x,hg,hm,hdr⟩:=qX (l:=zYq) (k:=j) hlt;have d:=jMe hg;rw[hdr,jMd] at hF;obtain⟨x1,x2,x3,x4,x5⟩:=x;simp only at d hF;by_cases c:x1=k
  ·rw[if_pos c] at hF;simp(disch:=omega)only[go_sem,hlt,d,zDl,c];first | exact (zXw x2 x3 x4 x5 true ⟨rfl,Option.some.inj hF⟩ rfl rfl) | exact⟨rfl,(zXw x2 x3 x4 x5 true ⟨rfl,Option.some.inj hF⟩ rfl rfl)⟩ | exact⟨rfl,rfl,(zXw x2 x3 x4 x5 true ⟨rfl,Option.some.inj hF⟩ rfl rfl)⟩ | exact⟨rfl,rfl,rfl,(zXw x2 x3 x4 x5 true ⟨rfl,Option.some.inj hF⟩ rfl rfl)⟩
  ·rw[if_neg c] at hF;simp(disch:=omega)only[go_sem,hlt,d,zDl,c];refine qZz.of (j+1) ⟨oM,hF⟩ oM (qJ.rd id ?_ ?_ rfl);all_goals simp(disch:=omega)only[go_sem,id]
 ·rw[drop_eq_nil_of_le (by show 32≤j;omega),jMd] at hF;cases hF
def qOn:ECt where
 α:=Rq
 β:=Int
 aS:=fun q=>[.t (rqA q)]
 pre:=fun q=>q.W
 r:=fun e=> .t (.int .i64 e)
 R:=fun q e=>e=0
theorem jLf {g:EF qOn}{q:Rq}(hp:q.W) : ∃ (e:Int),(e=0)∧qOn.fs g [.t (rqA q)] []=some (.t (.int .i64 e),[]):=qOn.eq g q hp
theorem zXv {q:Rq}(e:Int)(hR:e=0)(hV:vv = .t (.int .i64 e))(hO:oo=[]):qOn.K q vv oo:=⟨e,hR,hV,hO⟩
theorem zU4 {q:Rq}(h:q.W):(rqB q).length≤2048:=by
 obtain⟨x,y,-,-,e⟩:=jA3 q h.le;rw[e];exact h.le
theorem qY3 {g1}(h1:LkE tab 140 qLh g1){g2}(h2:LkE tab 144 qI7 g2){g3}(h3:LkE tab 162 qLj g3){g4}(h4:LkE tab 163 qLk g4)(q:Rq)(hp:q.W) :
  qDo.1.wp tab gl (qE 0 [.t (rqA q)]) (qE 0 []) (qV [(2,none)] 0 (qOn.K q)):=by
 obtain⟨th,ta,ti,tl,b,⟨rfl,ht⟩,e1⟩:=jC6 (g:=g1) hp.co;have e2 := @jC5 g2 q.bl.length tl;have e3 := @jLj g3;obtain⟨w,hw,e4⟩:=jLk (g:=g4) hp.B;have hl:w.length≤2048:=by rw[hw];exact zU4 hp
 have hB:=hp.B;have s1:=hp.hs;have s2:=hp.au;have s3:=hp.ns;have s4:=hp.bl;rw[←ht] at s1 s2 s3 s4;clear ht hp hw;obtain⟨co,hh,au,ns,bl⟩:=q;simp only at s1 s2 s3 s4;have hd:decide ((bl.length:Int)=tl∨tl<0∧(bl.length:Int)≤8)=true:=by simp only[decide_eq_true_eq];omega
 simp only[rqA] at *;rw[hd] at e2;obtain⟨rfl,s1⟩:=s1;obtain⟨rfl,s2⟩:=s2;obtain⟨rfl,s3⟩:=s3;obtain⟨-,s4⟩:=s4;have b1:hh.length≤8:=hB.1;have b2:au.length≤8:=hB.2.1;have b3:ns.length≤8:=hB.2.2.1;have b4:bl.length≤8:=hB.2.2.2.1;simp(disch:=omega)only[go_sem,qDo,rqA,h1,h2,e1,e2];refine qB hh.length (fun k=>[(1,.ref 4096 0 0),(8,.t (.bool true)),(57,.t (.sl (hh.map iT))),(58,.t (.int .i64 hh.length)),(59,.t (.int .i64 (k:Nat)))]) (fun k=>[(4096,.live 5 [.t (rqA ⟨co,hh,au,ns,bl⟩)] true true)]) (qJ.rd id ?_ ?_ rfl) (fun k hk=>?_)
 ·simp(disch:=omega)only[go_sem,id,rqA]
 ·simp(disch:=omega)only[go_sem,id,rqA]
 by_cases c:k<hh.length
 ·obtain⟨x,hg,hm,_⟩:=qX c;have e := @e3 x;rw[show decide (0≤x∧x≤65535)=true by simpa using s1 x hm] at e;simp(disch:=omega)only[go_sem,rqA,c,hg,oms,iT,h3,e];refine qJ.rd id ?_ ?_ rfl;all_goals simp(disch:=omega)only[go_sem,id,rqA]
 obtain rfl:k=hh.length:=oM;simp(disch:=omega)only[go_sem,rqA];refine qB au.length (fun k=>[(1,.ref 4096 0 0),(8,.t (.bool true)),(70,.t (.sl (au.map azA))),(71,.t (.int .i64 au.length)),(72,.t (.int .i64 (k:Nat)))]) (fun k=>[(4096,.live 5 [.t (rqA ⟨co,hh,au,ns,bl⟩)] true true)]) (qJ.rd id ?_ ?_ rfl) (fun k hk=>?_)
 ·simp(disch:=omega)only[go_sem,id,rqA]
 ·simp(disch:=omega)only[go_sem,id,rqA]
 by_cases c:k<au.length
 ·obtain⟨x,hg,hm,_⟩:=qX c;have e := @e3 x.s;rw[show decide (0≤x.s∧x.s≤65535)=true by simpa using (s2 x hm).1] at e;simp(disch:=omega)only[go_sem,rqA,c,hg,oms,azA,h3,e];refine qJ.rd id ?_ ?_ rfl;all_goals simp(disch:=omega)only[go_sem,id,rqA]
 obtain rfl:k=au.length:=oM;simp(disch:=omega)only[go_sem,rqA];refine qB ns.length (fun k=>[(1,.ref 4096 0 0),(8,.t (.bool true)),(84,.t (.sl (ns.map iT))),(85,.t (.int .i64 ns.length)),(86,.t (.int .i64 (k:Nat)))]) (fun k=>[(4096,.live 5 [.t (rqA ⟨co,hh,au,ns,bl⟩)] true true)]) (qJ.rd id ?_ ?_ rfl) (fun k hk=>?_)
 ·simp(disch:=omega)only[go_sem,id,rqA]
 ·simp(disch:=omega)only[go_sem,id,rqA]
 by_cases c:k<ns.length
 ·obtain⟨x,hg,hm,_⟩:=qX c;have hx:=s3 x hm;unfold tmI at hx;simp(disch:=omega)only[go_sem,rqA,c,hg,oms,iT];refine qJ.rd id ?_ ?_ rfl;all_goals simp(disch:=omega)only[go_sem,id,rqA]
 obtain rfl:k=ns.length:=oM;simp(disch:=omega)only[go_sem,rqA];refine qB au.length (fun k=>[(1,.ref 4096 0 0),(8,.t (.bool true)),(103,.t (.sl (au.map azA))),(104,.t (.int .i64 au.length)),(105,.t (.int .i64 (k:Nat)))]) (fun k=>[(4096,.live 5 [.t (rqA ⟨co,hh,au,ns,bl⟩)] true true)]) (qJ.rd id ?_ ?_ rfl) (fun k hk=>?_)
 ·simp(disch:=omega)only[go_sem,id,rqA]
 ·simp(disch:=omega)only[go_sem,id,rqA]
 by_cases c:k<au.length
 ·obtain⟨x,hg,hm,_⟩:=qX c;have hx:=(s2 x hm).2;simp(disch:=omega)only[go_sem,rqA,c,hg,oms,azA];refine qJ.rd id ?_ ?_ rfl;all_goals simp(disch:=omega)only[go_sem,id,rqA]
 obtain rfl:k=au.length:=oM;simp(disch:=omega)only[go_sem,rqA];refine qB bl.length (fun k=>[(1,.ref 4096 0 0),(8,.t (.bool true)),(124,.t (.sl (bl.map bsT))),(125,.t (.int .i64 bl.length)),(126,.t (.int .i64 (k:Nat)))]) (fun k=>[(4096,.live 5 [.t (rqA ⟨co,hh,au,ns,bl⟩)] true true)]) (qJ.rd id ?_ ?_ rfl) (fun k hk=>?_)
 ·simp(disch:=omega)only[go_sem,id,rqA]
 ·simp(disch:=omega)only[go_sem,id,rqA]
 by_cases c:k<bl.length
 ·obtain⟨x,hg,hm,_⟩:=qX c;have hx:=s4 x hm;simp(disch:=omega)only[go_sem,rqA,c,hg];refine qJ.rd id ?_ ?_ rfl;all_goals simp(disch:=omega)only[go_sem,id,rqA]
 obtain rfl:k=bl.length:=oM;simp(disch:=omega)only[go_sem,rqA,h4,e4];first | exact (zXv 0 rfl rfl rfl) | exact⟨rfl,(zXv 0 rfl rfl rfl)⟩ | exact⟨rfl,rfl,(zXv 0 rfl rfl rfl)⟩ | exact⟨rfl,rfl,rfl,(zXv 0 rfl rfl rfl)⟩
def qLi:ECt where
 α:=List UInt8
 β:=Int×Int
 aS:=fun b=>[.t (.sl (b.map qA))]
 pre:=fun b => ∃ q:Rq,q.W∧b=rqB q
 r:=fun (c,e)=> .tup [.t (.int .i64 c),.t (.int .i64 e)]
 R:=fun b (c,e)=>c=(b.getD 4 0).toNat∧e=0
theorem jLi {g:EF qLi}{b:List UInt8}(hp : ∃ q:Rq,q.W∧b=rqB q) : ∃ (c e:Int),(c=(b.getD 4 0).toNat∧e=0)∧qLi.fs g [.t (.sl (b.map qA))] []=some (.tup [.t (.int .i64 c),.t (.int .i64 e)],[]):=by
 obtain⟨y,h1,h2⟩:=qLi.eq g b hp;exact⟨y.1,y.2,h1,h2⟩
theorem jS6 {b:List UInt8}(c e:Int)(hR:c=(b.getD 4 0).toNat∧e=0)(hV:vv = .tup [.t (.int .i64 c),.t (.int .i64 e)])(hO:oo=[]):qLi.K b vv oo:=⟨(c,e),hR,hV,hO⟩
theorem qY5 (h1:gl 0=some jD7)(b:List UInt8)(hp : ∃ q:Rq,q.W∧b=rqB q) :
  qDq.1.wp tab gl (qE 0 [.t (.sl (b.map qA))]) (qE 0 []) (qV [(2,none),(3,none)] 0 (qLi.K b)):=by
 obtain⟨q,hq,rfl⟩:=hp;obtain⟨x,y,e,hn,hl⟩:=jA3 q hq.le;have hle:=zU4 hq;have hK : ∀ vv,vv = .tup [.t (.int .i64 (u8I q.co).toNat),.t (.int .i64 0)]→qLi.K (rqB q) vv []:=fun vv h=>jS6 _ 0 ⟨by rw[e];rfl,rfl⟩ h rfl
 rw[e] at hK hn hle ⊢;clear e hl hq;generalize rqT q=t at *;generalize u8I q.co=c at *;simp only[length_cons] at hn hle;simp only[jD7] at h1;simp(disch:=omega)only[go_sem,qDq,h1];exact⟨rfl,rfl,hK _ rfl⟩
def qLf:ECt where
 α:=List UInt8
 β:=Rq×Int
 aS:=fun b=>[.t (.sl (b.map qA))]
 pre:=fun b => ∃ q:Rq,q.W∧b=rqB q
 r:=fun (q,e)=> .tup [.t (rqA q),.t (.int .i64 e)]
 R:=fun b (q,e)=>q=rdQ b∧e=0
theorem jLg {g:EF qLf}{b:List UInt8}(hp : ∃ q:Rq,q.W∧b=rqB q) : ∃ (q:Rq) (e:Int),(q=rdQ b∧e=0)∧qLf.fs g [.t (.sl (b.map qA))] []=some (.tup [.t (rqA q),.t (.int .i64 e)],[]):=by
 obtain⟨y,h1,h2⟩:=qLf.eq g b hp;exact⟨y.1,y.2,h1,h2⟩
theorem jS4 {b:List UInt8}(q:Rq)(e:Int)(hR:q=rdQ b∧e=0)(hV:vv = .tup [.t (rqA q),.t (.int .i64 e)])(hO:oo=[]):qLf.K b vv oo:=⟨(q,e),hR,hV,hO⟩
theorem qQy {α:Type}{l:List α}{k:Nat}{x:α}(h:l[k]?=some x):l.take (k+1)=l.take k++[x]:=by
 rw[take_add_one,h];rfl
theorem qVv {g1}(h1:LkE tab 139 qLi g1){g2}(h2:LkE tab 140 qLh g2)(h3:LkC tab 129 qFr)(h4:LkC tab 141 qFp)(h5:LkC tab 142 qGd)(h6:LkC tab 143 qLc){g7}(h7:LkE tab 144 qI7 g7)(h8:LkC tab 137 qI5)(b:List UInt8)(hp : ∃ q:Rq,q.W∧b=rqB q) :
  qCk.1.wp tab gl (qE 0 [.t (.sl (b.map qA))]) (qE 0 []) (qV [(2,(some (5,true))),(3,none)] 0 (qLf.K b)):=by
 obtain⟨q,hq,rfl⟩:=hp;have hQ:=zN8 hq;have hK : ∀ vv,vv = .tup [.t (rqA q),.t (.int .i64 0)]→qLf.K (rqB q) vv []:=fun vv h=>jS4 q 0 ⟨hQ.symm,rfl⟩ h rfl
 obtain⟨cc,ee,⟨hc,rfl⟩,e1⟩:=jLi (g:=g1) (b:=rqB q) ⟨q,hq,rfl⟩;obtain⟨th,ta,ti,tl,b,⟨rfl,ht⟩,e2⟩:=jC6 (g:=g2) hq.co;obtain⟨x,y,e,hn,hl⟩:=jA3 q hq.le;have hle:=zU4 hq;have hcc:cc=q.co:=by rw[hc,e];exact jP1 (by have:=jC8 hq.co;omega)
 have A0:At (rqT q) 0 (q.hs.flatMap wH++(q.au.flatMap wA++(q.ns.flatMap w8++(u8I q.bl.length::q.bl.flatMap wB)))):=⟨[],rfl,rfl⟩;have hlt:(rqT q).length<1000000000:=by rw[e] at hle;simp only[length_cons] at hle;omega
 have hB:=hq.B;have s1:=hq.hs;have s2:=hq.au;have s3:=hq.ns;have s4:=hq.bl;rw[←ht] at s1 s2 s3 s4;rw[hcc] at e1;rw[e] at hK e1 ⊢;clear ht hq hc hcc hQ e hn hl hle;generalize rqT q=B at *;generalize u8I q.co=c0 at *;obtain⟨co,hh,au,ns,bl⟩:=q;simp only at s1 s2 s3 s4;have e7 := @jC5 g7 bl.length tl;have hd:decide ((bl.length:Int)=tl∨tl<0∧(bl.length:Int)≤8)=true:=by simp only[decide_eq_true_eq];omega
 rw[hd] at e7;obtain⟨rfl,s1⟩:=s1;obtain⟨rfl,s2⟩:=s2;obtain⟨rfl,s3⟩:=s3;obtain⟨-,s4⟩:=s4;have b1:hh.length≤8:=hB.1;have b2:au.length≤8:=hB.2.1;have b3:ns.length≤8:=hB.2.2.1;have b4:bl.length≤8:=hB.2.2.2.1;clear hd hB;have e3:=qJu (b:=B) hlt;have k1:((1:Nat):Int)=1:=rfl;have k2:((2:Nat):Int)=2:=rfl;have k8:((8:Nat):Int)=8:=rfl;have k128:((128:Nat):Int)=128:=rfl;have zTr:((1024:Nat):Int)=1024:=rfl;have cz:((0:Nat):Int)=0:=rfl;simp only[rdO,map_cons,cz] at e1 e2 e3;have tB:List.take (B.length+1+1+1+1+1-5) B=B:=take_of_length_le oM;simp(disch:=omega)only[go_sem,qCk,h1,e1,h2,e2,h3,e3,map_cons,tB];repeat refine aiG ?_
 refine yU (σ:=Nat×List Int×Nat) (fun t=>t.1≤hh.length∧t.2.1=hh.take t.1∧At B t.2.2 ((hh.drop t.1).flatMap wH++(au.flatMap wA++(ns.flatMap w8++(u8I bl.length::bl.flatMap wB))))) (fun t=>hh.length-t.1) (fun t=>[(2,.ref 4096 0 0),(7,.t (.int .i64 au.length)),(8,.t (.int .i64 ns.length)),(9,.t (.int .i64 tl)),(11,.ref 32800 0 0),(12,.ref 36896 0 0),(42,.t (.int .i64 hh.length)),(43,.t (.int .i64 t.1))]) (fun t=>[(9001,.live 1 ((t.2.1.map iT).map V.t) true false),(36896,.live 5 [.agg [.t (.int .i64 co),.sl 9001 0 t.1,.nil,.nil,.nil]] true true),(32800,vD (B,t.2.2,0)),(4096,.live 5 [.agg [.t (.int .i64 0),.nil,.nil,.nil,.nil]] true true)]) (0,[],0) ⟨sM,rfl,A0⟩ ?_ ?_
 ·refine qJ.cv0 (hv:=[(9001,.live 1 [] true false)]) (ho:=[(36896,.live 5 [.agg [.t (.int .i64 co),.sl 9001 0 0,.nil,.nil,.nil]] true true),(32800,vD (B,0,0)),(4096,.live 5 [.agg [.t (.int .i64 0),.nil,.nil,.nil,.nil]] true true)]) id ?_ ?_ rfl rfl;all_goals simp(disch:=omega)only[go_sem,id,qBl]
  all_goals rfl
 rintro⟨k,l,p⟩ ⟨hk,hl,hA⟩;simp only at hk hl hA;have ll:l.length=k:=by rw[hl,length_take];omega
 rcases (by omega:k<hh.length∨k=hh.length) with c | hke
 ·obtain⟨x,hg,hm,hdr⟩:=qX c;rw[hdr,flatMap_cons,append_assoc] at hA;obtain⟨f,hA'⟩:=At.w2 hA (s1 x hm);have e:=wU (s:=(B,p,0)) (k:=2) ⟨hA.ok hlt,oM,oM⟩;rw[f,k2] at e;simp only[rdO] at e;simp(disch:=omega)only[go_sem,qBl,c,h4,e,ll];repeat refine aiG ?_
  refine qZz.of (k+1,l++[x],p+2) ⟨by show k+1≤_;omega,by rw[hl];exact (qQy hg).symm,hA'⟩ (by show hh.length-(k+1)<hh.length-k;omega) (qJ.rd (fun j=>if j=9001 then 49232 else j) ?_ ?_ rfl);all_goals simp(disch:=omega)only[go_sem,id,qBl,iT]
  all_goals simp only[map_append,mcn,iT]
 subst hke;rw[take_length] at hl;subst hl;rw[drop_length,flatMap_nil,nil_append] at hA;clear A0;simp(disch:=omega)only[go_sem,qBl];repeat refine aiG ?_
 refine yU (σ:=Nat×List Az×Nat) (fun t=>t.1≤au.length∧t.2.1=au.take t.1∧At B t.2.2 ((au.drop t.1).flatMap wA++(ns.flatMap w8++(u8I bl.length::bl.flatMap wB)))) (fun t=>au.length-t.1) (fun t=>[(2,.ref 4096 0 0),(8,.t (.int .i64 ns.length)),(9,.t (.int .i64 tl)),(11,.ref 32800 0 0),(12,.ref 36896 0 0),(53,.t (.int .i64 au.length)),(54,.t (.int .i64 t.1))]) (fun t=>[(9002,.live 3 ((t.2.1.map azA).map V.t) true false),(9001,.live 1 ((l.map iT).map V.t) true false),(36896,.live 5 [.agg [.t (.int .i64 co),.sl 9001 0 l.length,.sl 9002 0 t.1,.nil,.nil]] true true),(32800,vD (B,t.2.2,0)),(4096,.live 5 [.agg [.t (.int .i64 0),.nil,.nil,.nil,.nil]] true true)]) (0,[],p) ⟨sM,rfl,hA⟩ ?_ ?_
 ·refine qJ.cv0 (hv:=[(9002,.live 3 [] true false)]) (ho:=[(9001,.live 1 ((l.map iT).map V.t) true false),(36896,.live 5 [.agg [.t (.int .i64 co),.sl 9001 0 l.length,.sl 9002 0 0,.nil,.nil]] true true),(32800,vD (B,p,0)),(4096,.live 5 [.agg [.t (.int .i64 0),.nil,.nil,.nil,.nil]] true true)]) id ?_ ?_ rfl rfl;all_goals simp(disch:=omega)only[go_sem,id,qBl]
  all_goals rfl
 clear hA p hk;rintro⟨k,m,p⟩ ⟨hk,hl,hA⟩;simp only at hk hl hA;have lm:m.length=k:=by rw[hl,length_take];omega
 rcases (by omega:k<au.length∨k=au.length) with c | hke
 ·obtain⟨x,hg,hm,hdr⟩:=qX c;rw[hdr,flatMap_cons,append_assoc] at hA;obtain⟨f1,f2,f3,hA',hA1,hA2⟩:=At.az hA (s2 x hm);have e:=wU (s:=(B,p,0)) (k:=2) ⟨hA.ok hlt,oM,oM⟩;have d1:=qGg (s:=(B,p+2,0)) (k:=128) ⟨hA1.ok hlt,oM⟩;have d2:=qGg (s:=(B,p+2+2+x.no.length,0)) (k:=128) ⟨hA2.ok hlt,oM⟩;rw[f1,k2] at e;rw[f2,k128] at d1;rw[f3,k128] at d2;simp only[rdO] at e d1 d2;simp(disch:=omega)only[go_sem,qBl,c,h4,h5,e,d1,d2,lm];repeat refine aiG ?_
  refine qZz.of (k+1,m++[x],p+2+2+x.no.length+2+x.va.length) ⟨by show k+1≤_;omega,by rw[hl];exact (qQy hg).symm,hA'⟩ (by show au.length-(k+1)<au.length-k;omega) (qJ.rd (fun j=>if j=9002 then 77888 else j) ?_ ?_ rfl);all_goals simp(disch:=omega)only[go_sem,id,qBl,azA]
  all_goals simp only[map_append,mcn,azA]
 subst hke;rw[take_length] at hl;subst hl;rw[drop_length,flatMap_nil,nil_append] at hA;simp(disch:=omega)only[go_sem,qBl];repeat refine aiG ?_
 refine yU (σ:=Nat×List Int×Nat) (fun t=>t.1≤ns.length∧t.2.1=ns.take t.1∧At B t.2.2 ((ns.drop t.1).flatMap w8++(u8I bl.length::bl.flatMap wB))) (fun t=>ns.length-t.1) (fun t=>[(2,.ref 4096 0 0),(9,.t (.int .i64 tl)),(11,.ref 32800 0 0),(12,.ref 36896 0 0),(72,.t (.int .i64 ns.length)),(73,.t (.int .i64 t.1))]) (fun t=>[(9003,.live 1 ((t.2.1.map iT).map V.t) true false),(9002,.live 3 ((m.map azA).map V.t) true false),(9001,.live 1 ((l.map iT).map V.t) true false),(36896,.live 5 [.agg [.t (.int .i64 co),.sl 9001 0 l.length,.sl 9002 0 m.length,.sl 9003 0 t.1,.nil]] true true),(32800,vD (B,t.2.2,0)),(4096,.live 5 [.agg [.t (.int .i64 0),.nil,.nil,.nil,.nil]] true true)]) (0,[],p) ⟨sM,rfl,hA⟩ ?_ ?_
 ·refine qJ.cv0 (hv:=[(9003,.live 1 [] true false)]) (ho:=[(9002,.live 3 ((m.map azA).map V.t) true false),(9001,.live 1 ((l.map iT).map V.t) true false),(36896,.live 5 [.agg [.t (.int .i64 co),.sl 9001 0 l.length,.sl 9002 0 m.length,.sl 9003 0 0,.nil]] true true),(32800,vD (B,p,0)),(4096,.live 5 [.agg [.t (.int .i64 0),.nil,.nil,.nil,.nil]] true true)]) id ?_ ?_ rfl rfl;all_goals simp(disch:=omega)only[go_sem,id,qBl]
  all_goals rfl
 clear hA p hk;rintro⟨k,n,p⟩ ⟨hk,hl,hA⟩;simp only at hk hl hA;have ln:n.length=k:=by rw[hl,length_take];omega
 rcases (by omega:k<ns.length∨k=ns.length) with c | hke
 ·obtain⟨x,hg,hm,hdr⟩:=qX c;rw[hdr,flatMap_cons,append_assoc] at hA;obtain⟨f,hA'⟩:=At.w8 hA (s3 x hm);have hx:=s3 x hm;unfold tmI at hx;have e:=wU (s:=(B,p,0)) (k:=8) ⟨hA.ok hlt,oM,oM⟩;have d:=qQu (s:=(B,p+8,0)) (hA'.ok hlt);rw[f,k8] at e;simp only[rdO] at e d;simp(disch:=omega)only[go_sem,qBl,c,h4,h6,e,d,ln];repeat refine aiG ?_
  refine qZz.of (k+1,n++[x],p+8) ⟨by show k+1≤_;omega,by rw[hl];exact (qQy hg).symm,hA'⟩ (by show ns.length-(k+1)<ns.length-k;omega) (qJ.rd (fun j=>if j=9003 then 106560 else j) ?_ ?_ rfl);all_goals simp(disch:=omega)only[go_sem,id,qBl,iT]
  all_goals simp only[map_append,mcn,iT]
 subst hke;rw[take_length] at hl;subst hl;rw[drop_length,flatMap_nil,nil_append,qY1 oM] at hA;obtain⟨f,hA'⟩:=hA.byte oM;have e:=wU (s:=(B,p,0)) (k:=1) ⟨hA.ok hlt,oM,oM⟩;have d:=qQu (s:=(B,p+1,0)) (hA'.ok hlt);rw[f,k1] at e;simp only[rdO] at e d;simp(disch:=omega)only[go_sem,qBl,h4,h6,h7,e,d,e7];repeat refine aiG ?_
 refine yU (σ:=Nat×List (List UInt8)×Nat) (fun t=>t.1≤bl.length∧t.2.1=bl.take t.1∧At B t.2.2 ((bl.drop t.1).flatMap wB)) (fun t=>bl.length-t.1) (fun t=>[(2,.ref 4096 0 0),(11,.ref 32800 0 0),(12,.ref 36896 0 0),(104,.t (.int .i64 bl.length)),(105,.t (.int .i64 t.1))]) (fun t=>[(9004,.live 1 ((t.2.1.map bsT).map V.t) true false),(9003,.live 1 ((n.map iT).map V.t) true false),(9002,.live 3 ((m.map azA).map V.t) true false),(9001,.live 1 ((l.map iT).map V.t) true false),(36896,.live 5 [.agg [.t (.int .i64 co),.sl 9001 0 l.length,.sl 9002 0 m.length,.sl 9003 0 n.length,.sl 9004 0 t.1]] true true),(32800,vD (B,t.2.2,0)),(4096,.live 5 [.agg [.t (.int .i64 0),.nil,.nil,.nil,.nil]] true true)]) (0,[],p+1) ⟨sM,rfl,hA'⟩ ?_ ?_
 ·refine qJ.cv0 (hv:=[(9004,.live 1 [] true false)]) (ho:=[(9003,.live 1 ((n.map iT).map V.t) true false),(9002,.live 3 ((m.map azA).map V.t) true false),(9001,.live 1 ((l.map iT).map V.t) true false),(36896,.live 5 [.agg [.t (.int .i64 co),.sl 9001 0 l.length,.sl 9002 0 m.length,.sl 9003 0 n.length,.sl 9004 0 0]] true true),(32800,vD (B,p+1,0)),(4096,.live 5 [.agg [.t (.int .i64 0),.nil,.nil,.nil,.nil]] true true)]) id ?_ ?_ rfl rfl;all_goals simp(disch:=omega)only[go_sem,id,qBl]
  all_goals rfl
 clear hA hA' e d f p hk;rintro⟨k,o,p⟩ ⟨hk,hl,hA⟩;simp only at hk hl hA;have lo:o.length=k:=by rw[hl,length_take];omega
 rcases (by omega:k<bl.length∨k=bl.length) with c | hke
 ·obtain⟨x,hg,hm,hdr⟩:=qX c;rw[hdr,flatMap_cons] at hA;obtain⟨f,hA'⟩:=At.wblm 1024 hA (s4 x hm) oM;have e:=qGg (s:=(B,p,0)) (k:=1024) ⟨hA.ok hlt,oM⟩;rw[f,zTr] at e;simp only[rdO] at e;simp(disch:=omega)only[go_sem,qBl,c,h5,e,lo];repeat refine aiG ?_
  refine qZz.of (k+1,o++[x],p+2+x.length) ⟨by show k+1≤_;omega,by rw[hl];exact (qQy hg).symm,hA'⟩ (by show bl.length-(k+1)<bl.length-k;omega) (qJ.rd (fun j=>if j=9004 then 135248 else j) ?_ ?_ rfl);all_goals simp(disch:=omega)only[go_sem,id,qBl,qI]
  all_goals simp only[map_append,mcn,qI]
 subst hke;rw[take_length] at hl;subst hl;rw[drop_length,flatMap_nil] at hA;have hp:=hA.end;have e:=qQt (s:=(B,p,0)) (hA.ok hlt);rw[show kF (B,p,0)=0 from if_neg (by simp only;omega)] at e;simp only[rdO] at e;simp(disch:=omega)only[go_sem,qBl,h8,e,take_length];repeat refine aiG ?_
 exact hK _ rfl
end Go.Eng
end
