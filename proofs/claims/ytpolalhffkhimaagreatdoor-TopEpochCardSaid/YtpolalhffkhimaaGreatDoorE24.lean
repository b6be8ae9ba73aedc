/- A part of an abstract machine, its walks, their tie. -/
import Derived.Test.YtpolalhffkhimaaGreatDoorE23
import Derived.Test.YtpolalhffkhimaaGreatDoorE22
set_option linter.all false
section
set_option maxHeartbeats 64000000
set_option maxRecDepth 20000
namespace Go.Eng
variable (tab:Tab) (gl:Gl)
variable {vv:V} {oo:List Ob}
def wH (h:Int):List UInt8:=beI 2 h 2
def wA (a:Az):List UInt8:=beI 2 a.s 2++(wB a.no++wB a.va)
def w8 (n:Int):List UInt8:=beI 8 n 8
def rqT (q:Rq):List UInt8:=q.hs.flatMap wH++(q.au.flatMap wA++(q.ns.flatMap w8++(u8I q.bl.length::q.bl.flatMap wB)))
theorem qYs (q:Rq):rqG q=83::87::0::0::u8I q.co::rqT q:=by
 unfold rqG rq3 rq2 rq1 rq0 rqT;simp only[qJj (f:=hsF) (w:=wH) (fun _ _=>rfl),qJj (f:=azE) (w:=wA) (fun b a=>by unfold azE wA;rw[zAh,zAh,List.append_assoc,List.append_assoc]),qJj (f:=nsF) (w:=w8) (fun _ _=>rfl),qJj (f:=blL) (fun b k=>zAh),List.append_assoc,List.cons_append,List.nil_append]
theorem zXm {n:Int}(h:0≤n∧n<65536) : ∃ x y:UInt8,beI 2 n 2=[x,y]∧((x.toNat:Int)*256+y.toNat=n):=by
 have hl:(beI 2 n 2).length=2:=by simp[beI]
 match hb:beI 2 n 2,hl with
 | [x,y],_=>
  refine⟨x,y,rfl,?_⟩;have e:((beV (beI 2 n 2):Nat):Int)=n:=by
   rw[qK6];have:=qN7 (n:=n) oM;have e:(256:Nat)^2=65536:=by decide
   rw[e];omega
  rw[hb] at e;have e2:beV [x,y]=256*(256*0+x.toNat)+y.toNat:=rfl;rw[e2] at e;omega
theorem zTf (q:Rq)(hl:(rqG q).length≤2048) : ∃ x y:UInt8,rqB q=83::87::x::y::u8I q.co::rqT q∧((x.toNat:Int)*256+y.toNat=(rqB q).length)∧(rqB q).length=(rqG q).length:=by
 have hb:(rqB q).length=(rqG q).length:=by
  unfold rqB;rw[List.length_append,List.length_append,qR,qYs];simp only[List.length_take,List.length_drop,List.length_cons];omega
 obtain⟨x,y,e,h⟩:=zXm (n:=((rqG q).length:Int)) oM;refine⟨x,y,?_,by rw[hb];exact h,hb⟩;unfold rqB;rw[e,qYs];rfl
theorem jHo {n:Int}(h:0≤n∧n<256):((u8I n).toNat:Int)=n:=by
 unfold u8I;rw[UInt8.toNat_ofNat'];omega
theorem qUt {n:Int}(h:0≤n∧n<256):u8I n=bY n:=by
 unfold u8I bY;congr 1;unfold m64;omega
theorem xS (s:Rd):kH s = .live 3 [.t (.agg [.sl (s.1.map qA),.int .i64 (s.2.1:Int),.int .i64 s.2.2])] true true:=rfl
theorem At.wblm {b x r:List UInt8}{p:Nat}(m:Nat)(h:At b p (wB x++r))(hx:x.length≤m)(hm:m≤4096):zU (b,p,0) m=(x,(b,p+2+x.length,0))∧At b (p+2+x.length) r:=by
 have h1:=(At.wbl h oM).2;unfold wB at h;rw[List.append_assoc] at h;obtain⟨t,rfl,hb⟩:=h;exact⟨qOa (b:=b) (p:=t) (x:=x) (t:=r) (most:=m) (by rw[hb];simp only[List.append_assoc]) hx oM,h1⟩
theorem At.ok {b r:List UInt8}{p:Nat}(h:At b p r)(hb:b.length<1000000000):qD2 (b,p,0):=by
 obtain⟨t,rfl,e⟩:=h;refine⟨?_,hb⟩;rw[e];simp
theorem At.end {b:List UInt8}{p:Nat}(h:At b p []):p=b.length:=by
 obtain⟨t,rfl,e⟩:=h;rw[e];simp
theorem At.w2 {b r:List UInt8}{p:Nat}{n:Int}(h:At b p (wH n++r))(hn:0≤n∧n≤65535):qQ (b,p,0) 2=(n,(b,p+2,0))∧At b (p+2) r:=At.uint h (.inr (.inl ⟨rfl,oM⟩))
theorem At.w8 {b r:List UInt8}{p:Nat}{n:Int}(h:At b p (w8 n++r))(hn:tmI n):qQ (b,p,0) 8=(n,(b,p+8,0))∧At b (p+8) r:=At.uint h (.inl ⟨rfl,by unfold tmI at hn;omega⟩)
def jF2 (s:Rd):Nat→List Int×Rd
 | 0=>([],s)
 | n+1=>((jF2 s n).1++[(qQ (jF2 s n).2 2).1],(qQ (jF2 s n).2 2).2)
def jJh (s:Rd):Az×Rd:=
 match qQ s 2 with
 | (a,s1)=>match zU s1 128 with
 | (no,s2)=>match zU s2 128 with
 | (va,s3)=>(⟨a,no,va⟩,s3)
def jF0 (s:Rd):Nat→List Az×Rd
 | 0=>([],s)
 | n+1=>((jF0 s n).1++[(jJh (jF0 s n).2).1],(jJh (jF0 s n).2).2)
def zSs (s:Rd):Nat→List (List UInt8)×Rd
 | 0=>([],s)
 | n+1=>((zSs s n).1++[(zU (zSs s n).2 1024).1],(zU (zSs s n).2 1024).2)
theorem At.az {b r:List UInt8}{p:Nat}{a:Az}(h:At b p (wA a++r))(ha:(0≤a.s∧a.s≤65535)∧a.no.length≤128∧a.va.length≤128) :
  qQ (b,p,0) 2=(a.s,(b,p+2,0))∧zU (b,p+2,0) 128=(a.no,(b,p+2+2+a.no.length,0))∧zU (b,p+2+2+a.no.length,0) 128=(a.va,(b,p+2+2+a.no.length+2+a.va.length,0))∧At b (p+2+2+a.no.length+2+a.va.length) r
  ∧ At b (p+2) (wB a.no++(wB a.va++r))∧At b (p+2+2+a.no.length) (wB a.va++r):=by
 unfold wA at h;rw[List.append_assoc,List.append_assoc] at h;obtain⟨a1,h1⟩:=At.w2 (n:=a.s) h ha.1;obtain⟨a2,h2⟩:=h1.wblm 128 ha.2.1 oM;obtain⟨a3,h3⟩:=h2.wblm 128 ha.2.2 oM;exact⟨a1,a2,a3,h3,h1,h2⟩
def rdQ (b:List UInt8):Rq:=
 let k:Int:=(b.getD 4 0).toNat
 match jF2 (b.drop 5,0,0) (qKf k).1.toNat with
 | (hs,s1)=>match jF0 s1 (qKf k).2.1.toNat with
 | (au,s2)=>match zZt s2 (qKf k).2.2.1.toNat with
 | (ns,s3)=>match qQ s3 1 with
 | (n,s4)=>⟨k,hs,au,ns,(zSs s4 n.toNat).1⟩
theorem zVg {k:Int}(h:coK k):0≤k∧k<256:=by
 rcases h with rfl | rfl | rfl | rfl | rfl | rfl | rfl | rfl | rfl | rfl<;>decide
theorem zG8 {q:Rq}(h:q.W):rdQ (rqB q)=q:=by
 obtain⟨x,y,e,-,-⟩:=zTf q h.le;have hc:=zVg h.co;have e5:(rqB q).drop 5=rqT q:=by rw[e];rfl
 have e4:(((rqB q).getD 4 0).toNat:Int)=q.co:=by rw[e];exact jHo oM
 have h0:At (rqT q) 0 (rqT q):=⟨[],rfl,rfl⟩;obtain⟨p1,f1,h1⟩:=At.many (w:=wH) (f:=fun s=>qQ s 2) (F:=jF2) (fun _=>rfl) (fun _ _=>rfl) (l:=q.hs) (fun x hm p r g=>⟨_,(At.w2 g (h.hs.2 x hm)).1,(At.w2 g (h.hs.2 x hm)).2⟩) h0;obtain⟨p2,f2,h2⟩:=At.many (w:=wA) (f:=jJh) (F:=jF0) (fun _=>rfl) (fun _ _=>rfl) (l:=q.au) (fun x hm p r g=>by
  obtain⟨a1,a2,a3,a4,-,-⟩:=At.az g (h.au.2 x hm);exact⟨_,by simp only[jJh,a1,a2,a3],a4⟩) h1
 obtain⟨p3,f3,h3⟩:=At.many (w:=w8) (f:=fun s=>qQ s 8) (F:=zZt) (fun _=>rfl) (fun _ _=>rfl) (l:=q.ns) (fun x hm p r g=>⟨_,(At.w8 g (h.ns.2 x hm)).1,(At.w8 g (h.ns.2 x hm)).2⟩) h2;have hb:(0:Int)≤q.bl.length∧(q.bl.length:Int)<256:=by have:=h.B.2.2.2.1;omega
 rw[qUt hb] at h3;obtain⟨f4,h4⟩:=h3.byte hb;have h4':At (rqT q) (p3+1) (q.bl.flatMap wB++[]):=by rw[List.append_nil];exact h4
 obtain⟨p5,f5,h5⟩:=At.many (w:=wB) (f:=fun s=>zU s 1024) (F:=zSs) (fun _=>rfl) (fun _ _=>rfl) (l:=q.bl) (fun x hm p r g=>⟨_,(At.wblm 1024 g (h.bl.2 x hm) oM).1,(At.wblm 1024 g (h.bl.2 x hm) oM).2⟩) h4';have n1:(qKf q.co).1.toNat=q.hs.length:=by have:=h.hs.1;omega
 have n2:(qKf q.co).2.1.toNat=q.au.length:=by have:=h.au.1;omega
 have n3:(qKf q.co).2.2.1.toNat=q.ns.length:=by have:=h.ns.1;omega
 simp only[rdQ,e5,e4,n1,n2,n3,f1,f2,f3,f4,f5,Int.toNat_natCast]
theorem jAc {q r:Rq}(h:q.W)(h':r.W)(e:rqB q=rqB r):q=r:=by
 rw[←zG8 h,←zG8 h',e]
def mkB (n:Int)(p:List UInt8):List UInt8:=qCu 12 [beI 8 n 8,p]
def qFq (n:Int)(p:List UInt8):List UInt8:=mkB n p++beI 8 n 8++beI 4 (p.length:Int) 4++p
def qYp (n:Int)(p:List UInt8):Prop:=(1≤n∧n≤1000000)∧p.length≤60000
theorem qFz {n:Int}{p:List UInt8}:(mkB n p).length=32:=qM
theorem qDu {n:Int}{p:List UInt8}:(qFq n p).length=44+p.length:=by
 unfold qFq;simp only[List.length_append,qFz,qR]
theorem zP4 {a b:Int}(ha:0≤a∧a<9223372036854775808)(hb:0≤b∧b<9223372036854775808)(h:beI 8 a 8=beI 8 b 8):a=b:=by
 have e:=congrArg beV h;rw[qK6,qK6] at e;have h1:=qN7 (n:=a) oM;have h2:=qN7 (n:=b) oM;have e8:(256:Nat)^8=18446744073709551616:=by decide
 rw[e8] at e;omega
theorem qOc {n m:Int}{p x:List UInt8}(h1:qYp n p)(h2:qYp m x)(h:qFq n p=qFq m x):n=m∧p=x:=by
 unfold qFq at h;have hl:p.length=x.length:=by have:=congrArg List.length h;simp only[List.length_append,qFz,qR] at this;omega
 obtain⟨h3,h4⟩:=List.append_inj' h hl;obtain⟨h5,-⟩:=List.append_inj' h3 (by simp only[qR]);obtain⟨-,h7⟩:=List.append_inj' h5 (by simp only[qR]);exact⟨zP4 (by have:=h1.1;omega) (by have:=h2.1;omega) h7,h4⟩
def qIr:ECt where
 α:=Int
 β:=Bool
 aS:=fun n=>[.t (.int .i64 n)]
 pre:=fun n=>n=0
 r:=fun r'=> .t (.bool r')
 R:=fun n r'=>r'=true
theorem zVx {g:EF qIr}{n:Int}(hp:n=0):qIr.fs g [.t (.int .i64 n)] []=some (.t (.bool (true)),[]):=fnQ qIr n hp
theorem zRm {n:Int}(hV:vv = .t (.bool (true)))(hO:oo=[]):qIr.K n vv oo:=⟨_,rfl,hV,hO⟩
theorem qU3  (n:Int)(hp:n=0) :
  qCa.1.wp tab gl (qE 0 [.t (.int .i64 n)]) (qE 0 []) (zA [(2,none)] 0 (qIr.K n)):=by
 subst hp;simp(maxSteps:=9^9)(disch:=try exact dS)only[go_sem,qCa];first | exact (zRm rfl rfl) | exact⟨rfl,(zRm rfl rfl)⟩ | exact⟨rfl,rfl,(zRm rfl rfl)⟩ | exact⟨rfl,rfl,rfl,(zRm rfl rfl)⟩
def qIs:ECt where
 α:=Int×List UInt8
 β:=List UInt8
 aS:=fun (n,p)=>[.t (.int .i64 n),.t (.sl (p.map qA))]
 pre:=fun (n,p)=>p.length≤60000
 r:=fun r'=> .t (.sl (r'.map qA))
 R:=fun (n,p) r'=>r'=mkB n p
theorem zVz {g:EF qIs}{n:Int}{p:List UInt8}(hp:p.length≤60000):qIs.fs g [.t (.int .i64 n),.t (.sl (p.map qA))] []=some (.t (.sl ((mkB n p).map qA)),[]):=fnQ qIs (n,p) hp
theorem zRn {n:Int}{p:List UInt8}(hV:vv = .t (.sl ((mkB n p).map qA)))(hO:oo=[]):qIs.K (n,p) vv oo:=⟨_,rfl,hV,hO⟩
theorem qV5 (h1:LkC tab 63 yY)(h2:LkC tab 103 wC)(n:Int)(p:List UInt8)(hp:p.length≤60000) :
  qDd.1.wp tab gl (qE 0 [.t (.int .i64 n),.t (.sl (p.map qA))]) (qE 0 []) (zA [(4,none)] 0 (qIs.K (n,p))):=by
 have u:=zB8 (b:=[]) (n:=n) sM;simp only[List.map_nil,List.nil_append,List.length_nil] at u;have hf:(qY 12 [beI 8 n 8,p]).length<1000000000:=by simp[qY,qAl,qR];omega
 have e:wC.fs [.t (.int .i64 12),.t (.sl [.sl ((beI 8 n 8).map qA),.sl (p.map qA)])] []=some (.sl 0 0 32,[.live 1 (((qCu 12 [beI 8 n 8,p]).map qA).map V.t) true false]):=wC.eq (12,[beI 8 n 8,p]) ⟨by show 12<256;omega,hf⟩;have l8:(beI 8 n 8).length=8:=qR;have t8:List.take 8 (beI 8 n 8)=beI 8 n 8:=List.take_of_length_le oM;have hm:qCu 12 [beI 8 n 8,p]=mkB n p:=rfl;have lm:(mkB n p).length=32:=qFz;have tm:List.take 32 (mkB n p)=mkB n p:=List.take_of_length_le oM;rw[hm] at e;simp(maxSteps:=9^9)(disch:=try exact dS)only[go_sem,qDd,h1,u,t8,h2,e,tm];repeat refine aiG ?_
 first | exact (zRn rfl rfl) | exact⟨rfl,(zRn rfl rfl)⟩ | exact⟨rfl,rfl,(zRn rfl rfl)⟩ | exact⟨rfl,rfl,rfl,(zRn rfl rfl)⟩
def qGt:ECt where
 α:=Dk×Int×Int×List UInt8
 β:=Dk×Int
 aS:=fun (k,b,n,p)=>[.t (dkA k),.t (.int .i64 b),.t (.int .i64 n),.t (.sl (p.map qA))]
 pre:=fun (k,b,n,p)=>okD k∧b=0∧qYp n p
 r:=fun (r,e)=> .tup [.t (dkA r),.t (.int .i64 e)]
 R:=fun (k,b,n,p) (r,e)=>r = { k with wr:=k.wr+1,ar:=k.ar.set (n%2).toNat (qFq n p) }∧e=0
 inj:=by rintro⟨k,b,n,p⟩ ⟨k',b',n',p'⟩ e _;simp only[xU,qJ7,qSf] at e;obtain⟨rfl,rfl,rfl,rfl⟩:=e;rfl
theorem zVy {g:EF qGt}{k:Dk}{b n:Int}{p:List UInt8}(hp:okD k∧b=0∧qYp n p) : ∃ (r:Dk) (e:Int),(r = { k with wr:=k.wr+1,ar:=k.ar.set (n%2).toNat (qFq n p) }∧e=0)∧qGt.fs g [.t (dkA k),.t (.int .i64 b),.t (.int .i64 n),.t (.sl (p.map qA))] []=some (.tup [.t (dkA r),.t (.int .i64 e)],[]):=by
 obtain⟨y,h1,h2⟩:=qGt.eq g (k,b,n,p) hp;exact⟨y.1,y.2,h1,h2⟩
theorem jK2 {k:Dk}{b n:Int}{p:List UInt8}(r:Dk)(e:Int)(hR:r = { k with wr:=k.wr+1,ar:=k.ar.set (n%2).toNat (qFq n p) }∧e=0)(hV:vv = .tup [.t (dkA r),.t (.int .i64 e)])(hO:oo=[]):qGt.K (k,b,n,p) vv oo:=⟨(r,e),hR,hV,hO⟩
theorem qRu {g1}(h1:LkE tab 62 qIr g1){g2}(h2:LkE tab 64 qIs g2)(h3:LkC tab 63 yY){g4}(h4:LkE tab 65 qLg g4)(k:Dk)(b n:Int)(p:List UInt8)(hp:okD k∧b=0∧qYp n p) :
  qA3.1.wp tab gl (qE 0 [.t (dkA k),.t (.int .i64 b),.t (.int .i64 n),.t (.sl (p.map qA))]) (qE 0 []) (zA [(8,(some (5,true))),(9,none)] 0 (qGt.K (k,b,n,p))):=by
 obtain⟨hk,rfl,hn,hl⟩:=hp;have e1:=zVx (g:=g1) (n:=0) rfl;have e2:=zVz (g:=g2) (n:=n) hl;have lm:(mkB n p).length=32:=qFz;have hr:qFq n p=mkB n p++beI 8 n 8++beI 4 (p.length:Int) 4++p:=rfl;have lr:(qFq n p).length=44+p.length:=qDu;have u1:=zB8 (b:=mkB n p) (n:=n) oM;have l1:(mkB n p++beI 8 n 8).length=40:=by simp only[List.length_append,qR,lm]
 generalize mkB n p=M at *;generalize M++beI 8 n 8=M8 at *;have u2:yY.fs [.t (.sl (M8.map qA)),.t (.int .i64 4),.t (.int .i64 (p.length:Int))] []=some (.sl 0 0 (M8.length+4),[.live 1 (((M8++beI 4 (p.length:Int) 4).map qA).map V.t) true false]):=by
  have:=yY.eq (M8,4,(p.length:Int)) ⟨by show M8.length<1000000000;omega,by show 1≤4;omega,by show 4≤8;omega⟩;exact this
 have l2:(M8++beI 4 (p.length:Int) 4).length=44:=by simp only[List.length_append,qR,l1]
 generalize M8++beI 4 (p.length:Int) 4=M4 at *;obtain⟨r,e,⟨q1,rfl⟩,e4⟩:=jDf (g:=g4) (k:=k) (i:=n%2) (b:=qFq n p) ⟨hk,oM,oM⟩;have t1:List.take (M.length+8) M8=M8:=List.take_of_length_le oM;have t2:List.take (M8.length+4) M4=M4:=List.take_of_length_le oM;have hK : ∀ vv,vv = .tup [.t (dkA r),.t (.int .i64 0)]→qGt.K (k,0,n,p) vv []:=fun vv h=>jK2 r 0 ⟨q1,rfl⟩ h rfl
 clear q1;rw[hr] at e4;have hn0 : ¬ n<1:=oM;have hn1 : ¬ 1099511627776<n:=oM;have hz:(0:Int)+n%2=n%2:=Int.zero_add _;have t3:List.take (M8.length+4+p.length) (M4++p)=M4++p:=List.take_of_length_le (by rw[List.length_append];omega);have ht:n.tmod 2=n%2:=Int.tmod_eq_emod_of_nonneg oM;simp only[dkA] at e4;simp(maxSteps:=9^9)(disch:=try exact dS)only[go_sem,qA3,dkA,hn0,hn1,ht,h1,e1,hl,h2,e2,h3,u1,t1,u2,t2,h4,e4,hz,t3];repeat refine aiG ?_
 exact hK _ rfl
def qLm:ECt where
 α:=List UInt8×Int
 β:=List UInt8×Int×Bool
 aS:=fun (b,w)=>[.t (.sl (b.map qA)),.t (.int .i64 w)]
 pre:=fun (b,w)=>b=[] ∨ ∃ n p,qYp n p∧b=qFq n p∧n%2=w
 r:=fun (p,n,ok)=> .tup [.t (.sl (p.map qA)),.t (.int .i64 n),.t (.bool ok)]
 R:=fun (b,w) (p,n,ok)=>(b=[]→p=[]∧n=0∧ok=false) ∧ ∀ m x,qYp m x→b=qFq m x→p=x∧n=m∧ok=true
theorem qW6 {g:EF qLm}{b:List UInt8}{w:Int}(hp:b=[] ∨ ∃ n p,qYp n p∧b=qFq n p∧n%2=w) : ∃ (p:List UInt8) (n:Int) (ok:Bool),((b=[]→p=[]∧n=0∧ok=false) ∧ ∀ m x,qYp m x→b=qFq m x→p=x∧n=m∧ok=true)∧qLm.fs g [.t (.sl (b.map qA)),.t (.int .i64 w)] []=some (.tup [.t (.sl (p.map qA)),.t (.int .i64 n),.t (.bool ok)],[]):=by
 obtain⟨y,h1,h2⟩:=qLm.eq g (b,w) hp;exact⟨y.1,y.2.1,y.2.2,h1,h2⟩
theorem jEr {b:List UInt8}{w:Int}(p:List UInt8)(n:Int)(ok:Bool)(hR:(b=[]→p=[]∧n=0∧ok=false) ∧ ∀ m x,qYp m x→b=qFq m x→p=x∧n=m∧ok=true)(hV:vv = .tup [.t (.sl (p.map qA)),.t (.int .i64 n),.t (.bool ok)])(hO:oo=[]):qLm.K (b,w) vv oo:=⟨(p,n,ok),hR,hV,hO⟩
theorem qU4 (h1:LkC tab 82 qFa)(h2:LkC tab 108 qTj)(h3:LkC tab 109 qE9)(h4:LkC tab 110 qPk){g5}(h5:LkE tab 64 qIs g5)(b:List UInt8)(w:Int)(hp:b=[] ∨ ∃ n p,qYp n p∧b=qFq n p∧n%2=w) :
  kW.1.wp tab gl (qE 0 [.t (.sl (b.map qA)),.t (.int .i64 w)]) (qE 0 []) (zA [(4,none),(5,none),(6,none)] 0 (qLm.K (b,w))):=by
 have k4:((4:Nat):Int)=4:=rfl;have k8:((8:Nat):Int)=8:=rfl;have k32:((32:Nat):Int)=32:=rfl;rcases hp with rfl | ⟨n,p,hp,rfl,hw⟩
 ·have e1:=qJr (b:=[]) sM;have o:qD2 (([]:List UInt8),0,0):=⟨sM,sM⟩;have o2:qD2 (([]:List UInt8),0,2):=⟨sM,sM⟩;have e2:=qJs (s:=([],0,0)) (k:=32) ⟨o,oM⟩;rw[show qBt ([],0,0) 32=([],([],0,2)) from rfl,k32] at e2;have e3:=vU (s:=([],0,2)) (k:=8) ⟨o2,oM,oM⟩;rw[show qQ ([],0,2) 8=(0,([],0,2)) from rfl,k8] at e3;have e4:=vU (s:=([],0,2)) (k:=4) ⟨o2,oM,oM⟩;rw[show qQ ([],0,2) 4=(0,([],0,2)) from rfl,k4] at e4;have e5:=qJs (s:=([],0,2)) (k:=0) ⟨o2,oM⟩;rw[show qBt ([],0,2) 0=([],([],0,2)) from rfl,show ((0:Nat):Int)=0 from rfl] at e5;have e6:=qUc (s:=([],0,2)) o2;have hK : ∀ m x,qYp m x→[]=qFq m x→([]:List UInt8)=x∧(0:Int)=m∧false=true:=by
   intro m x _ h;have:=congrArg List.length h;rw[qDu,List.length_nil] at this;omega
  have cz:((0:Nat):Int)=0:=rfl;simp only[rdO,List.map_nil,cz] at e1 e2 e3 e4 e5 e6;simp(maxSteps:=9^9)(disch:=try exact dS)only[go_sem,kW,h1,e1,h2,e2,h3,e3,e4,e5,h4,e6,List.map_nil];repeat refine aiG ?_
  exact jEr [] 0 false ⟨fun _=>⟨rfl,rfl,rfl⟩,hK⟩ rfl rfl
 have lm:(mkB n p).length=32:=qFz;have lr:(qFq n p).length=44+p.length:=qDu;have hr:qFq n p=mkB n p++beI 8 n 8++beI 4 (p.length:Int) 4++p:=rfl;have hK : ∀ m x,qYp m x→qFq n p=qFq m x→p=x∧n=m∧true=true:=fun m x h e=>⟨(qOc hp h e).2,(qOc hp h e).1,rfl⟩
 have hE:qFq n p=[]→p=[]∧n=0∧true=false:=by
  intro h;have:=congrArg List.length h;rw[lr,List.length_nil] at this;omega
 obtain⟨hn,hl⟩:=hp;have e5:=zVz (g:=g5) (n:=n) hl;generalize mkB n p=M at *;have A0:At (qFq n p) 0 (M++(beI 8 n 8++(beI 4 (p.length:Int) 4++(p++[])))):=⟨[],rfl,by rw[hr];simp only[List.append_assoc,List.nil_append,List.append_nil]⟩;generalize qFq n p=B at *;have hB:B.length<1000000000:=oM;obtain⟨p1,f1,A1⟩ : ∃ p1,qBt (B,0,0) 32=(M,(B,p1,0))∧At B p1 (beI 8 n 8++(beI 4 (p.length:Int) 4++(p++[]))):=by
  refine⟨32,?_,by have:=A0.next;rw[lm] at this;exact this⟩;obtain⟨t,h0,hb⟩:=A0;have:=qYo (b:=B) (p:=t) (q:=M) (by rw[hb,←List.append_assoc]) lm;rw[h0] at this;exact this
 obtain⟨p2,f2,A2⟩ : ∃ p2,qQ (B,p1,0) 8=(n,(B,p2,0))∧At B p2 (beI 4 (p.length:Int) 4++(p++[])):=⟨_,At.uint A1 (.inl ⟨rfl,oM⟩)⟩;obtain⟨p3,f3,A3⟩ : ∃ p3,qQ (B,p2,0) 4=((p.length:Int),(B,p3,0))∧At B p3 (p++[]):=by
  refine⟨p2+4,?_,by have:=A2.next;rw[qR] at this;exact this⟩;obtain⟨t,h0,hb⟩:=A2;have v:beV (beI 4 (p.length:Int) 4)=p.length:=by
   rw[qK6];have:=qN7 (n:=(p.length:Int)) oM;have e:(256:Nat)^4=4294967296:=by decide
   rw[e];omega
  have:=qOb (b:=B) (p:=t) (q:=beI 4 (p.length:Int) 4) (k:=4) (by rw[hb,←List.append_assoc]) qR oM;rw[h0,v] at this;exact this
 obtain⟨p4,f4,A4⟩ : ∃ p4,qBt (B,p3,0) p.length=(p,(B,p4,0))∧At B p4 []:=by
  refine⟨p3+p.length,?_,A3.next⟩;obtain⟨t,h0,hb⟩:=A3;have:=qYo (b:=B) (p:=t) (q:=p) (by rw[hb,←List.append_assoc]) rfl;rw[h0] at this;exact this
 have e1:=qJr (b:=B) hB;have e2:=qJs (s:=(B,0,0)) (k:=32) ⟨A0.ok hB,oM⟩;have e3:=vU (s:=(B,p1,0)) (k:=8) ⟨A1.ok hB,oM,oM⟩;have e4:=vU (s:=(B,p2,0)) (k:=4) ⟨A2.ok hB,oM,oM⟩;have e6:=qJs (s:=(B,p3,0)) (k:=p.length) ⟨A3.ok hB,oM⟩;have e7:=qUc (s:=(B,p4,0)) (A4.ok hB);rw[f1,k32] at e2;rw[f2,k8] at e3;rw[f3,k4] at e4;rw[f4] at e6;clear A0 A1 A2 A3 A4 f1 f2 f3 f4;have cz:((0:Nat):Int)=0:=rfl;have hn0 : ¬ n<1:=oM;have ht:n.tmod 2=n%2:=Int.tmod_eq_emod_of_nonneg oM;subst hw;simp only[rdO,cz] at e1 e2 e3 e4 e6 e7;simp(maxSteps:=9^9)(disch:=try exact dS)only[go_sem,kW,h1,e1,h2,e2,h3,e3,e4,e6,h4,e7,h5,e5,hn0,ht];repeat refine aiG ?_
 exact jEr p n true ⟨hE,hK⟩ rfl rfl
def jOk (ar:List (List UInt8))(n:Int)(p:List UInt8):Prop:=qYp n p∧ar.getD (n%2).toNat []=qFq n p∧(ar.getD ((n+1)%2).toNat []=[] ∨ ∃ q,qYp (n-1) q∧ar.getD ((n+1)%2).toNat []=qFq (n-1) q)
theorem jEq {ar:List (List UInt8)}{n:Int}{p:List UInt8}(h:jOk ar n p):(ar.getD (Int.toNat 0) []).length≤65536∧(ar.getD (Int.toNat 1) []).length≤65536:=by
 obtain⟨h1,h2,h3⟩:=h;have a : ∀ m q,qYp m q→(qFq m q).length≤65536:=fun m q hq=>by rw[qDu];have:=hq.2;omega
 have b:(ar.getD ((n+1)%2).toNat []).length≤65536:=by
  rcases h3 with h3 | ⟨q,h4,h5⟩
  ·rw[h3];simp
  ·rw[h5];exact a _ _ h4
 have c:(ar.getD (n%2).toNat []).length≤65536:=by rw[h2];exact a _ _ h1
 rcases (by omega:n%2=0∧(n+1)%2=1∨n%2=1∧(n+1)%2=0) with⟨e1,e2⟩ | ⟨e1,e2⟩
 ·rw[e1] at c;rw[e2] at b;exact⟨c,b⟩
 ·rw[e1] at c;rw[e2] at b;exact⟨b,c⟩
theorem zD3 {ar:List (List UInt8)}{n m:Int}{p x:List UInt8}(h:jOk ar n p)(g:jOk ar m x):p=x∧n=m:=by
 obtain⟨h1,h2,h3⟩:=h;obtain⟨g1,g2,g3⟩:=g;by_cases c:n%2=m%2
 ·rw[c,g2] at h2;have:=qOc g1 h1 h2;exact⟨this.2.symm,this.1.symm⟩
 ·exfalso;have e1:(n+1)%2=m%2:=oM;have e2:(m+1)%2=n%2:=oM;have ne : ∀ n p,qFq n p≠[]:=by
   intro n p h;have:=congrArg List.length h;rw[qDu,List.length_nil] at this;omega
  rw[e1,g2] at h3;rw[e2,h2] at g3;rcases h3 with h3 | ⟨q,h4,h5⟩
  ·exact ne _ _ h3
  rcases g3 with g3 | ⟨r,g4,g5⟩
  ·exact ne _ _ g3
  have a1:=(qOc g1 h4 h5).1;have a2:=(qOc h1 g4 g5).1;omega
def qLn:ECt where
 α:=Dk×Int
 β:=List UInt8×Int×Int
 aS:=fun (k,b)=>[.t (dkA k),.t (.int .i64 b)]
 pre:=fun (k,b)=>k.off=false∧k.ar.length=4∧b=0 ∧ ∃ n p,jOk k.ar n p
 r:=fun (p,n,e)=> .tup [.t (.sl (p.map qA)),.t (.int .i64 n),.t (.int .i64 e)]
 R:=fun (k,b) (p,n,e)=>e=0 ∧ ∀ m x,jOk k.ar m x→p=x∧n=m
 inj:=by rintro⟨k,b⟩ ⟨k',b'⟩ e _;simp only[xU,qJ7,qSf] at e;obtain⟨rfl,rfl⟩:=e;rfl
theorem jEs {g:EF qLn}{k:Dk}{b:Int}(hp:k.off=false∧k.ar.length=4∧b=0 ∧ ∃ n p,jOk k.ar n p) : ∃ (p:List UInt8) (n e:Int),(e=0 ∧ ∀ m x,jOk k.ar m x→p=x∧n=m)∧qLn.fs g [.t (dkA k),.t (.int .i64 b)] []=some (.tup [.t (.sl (p.map qA)),.t (.int .i64 n),.t (.int .i64 e)],[]):=by
 obtain⟨y,h1,h2⟩:=qLn.eq g (k,b) hp;exact⟨y.1,y.2.1,y.2.2,h1,h2⟩
theorem zRo {k:Dk}{b:Int}(p:List UInt8)(n e:Int)(hR:e=0 ∧ ∀ m x,jOk k.ar m x→p=x∧n=m)(hV:vv = .tup [.t (.sl (p.map qA)),.t (.int .i64 n),.t (.int .i64 e)])(hO:oo=[]):qLn.K (k,b) vv oo:=⟨(p,n,e),hR,hV,hO⟩
theorem qQg {g1}(h1:LkE tab 62 qIr g1){g2}(h2:LkE tab 80 qLd g2){g3}(h3:LkE tab 81 qLm g3)(k:Dk)(b:Int)(hp:k.off=false∧k.ar.length=4∧b=0 ∧ ∃ n p,jOk k.ar n p) :
  yI.1.wp tab gl (qE 0 [.t (dkA k),.t (.int .i64 b)]) (qE 0 []) (zA [(4,none),(5,none),(6,none)] 0 (qLn.K (k,b))):=by
 obtain⟨ho,hl,rfl,n,p,hj⟩:=hp;have e1:=zVx (g:=g1) (n:=0) rfl;obtain⟨z0,z1⟩:=jEq hj;obtain⟨b0,x0,⟨q0,rfl⟩,d0⟩:=zVk (g:=g2) (k:=k) (i:=0) ⟨ho,hl,.inl rfl,z0⟩;obtain⟨b1,x1,⟨q1,rfl⟩,d1⟩:=zVk (g:=g2) (k:=k) (i:=1) ⟨ho,hl,.inr rfl,z1⟩;have hK : ∀ m x,jOk k.ar m x→p=x∧n=m:=fun m x h=>zD3 hj h
 obtain⟨hp,h4,h5⟩:=hj;have hn:=hp.1;simp only[dkA] at d0 d1;rcases (by omega:n%2=0∨n%2=1) with c | c
 ·have c':(n+1)%2=1:=oM;rw[c,show (0:Int).toNat=0 from rfl] at h4;rw[c',show (1:Int).toNat=1 from rfl] at h5;obtain⟨y0,m0,o0,⟨-,r0⟩,p0⟩:=qW6 (g:=g3) (b:=b0) (w:=0) (.inr ⟨n,p,hp,by rw[q0];exact h4,c⟩);obtain⟨rfl,rfl,rfl⟩:=r0 n p hp (by rw[q0];exact h4);have hb1:b1=[] ∨ ∃ q,qYp (m0-1) q∧b1=qFq (m0-1) q:=by rw[q1];exact h5
  have hn0:(0:Int)<m0:=oM;rcases hb1 with rfl | ⟨q,hq,hb⟩
  ·obtain⟨y1,m1,o1,⟨r1,-⟩,p1⟩:=qW6 (g:=g3) (b:=[]) (w:=1) (.inl rfl);obtain⟨rfl,rfl,rfl⟩:=r1 rfl;simp only[List.map_nil] at p1 d1;simp(maxSteps:=9^9)(disch:=try exact dS)only[go_sem,yI,dkA,h1,e1];refine qJ 3 ?_;simp(maxSteps:=9^9)(disch:=try exact dS)only[go_sem,qF,dkA,h2,d0,d1];refine qJ 3 ?_;simp(maxSteps:=9^9)(disch:=try exact dS)only[go_sem,qF,h3,p0,p1,hn0];exact zRo y0 m0 0 ⟨rfl,hK⟩ rfl rfl
  ·obtain⟨y1,m1,o1,⟨-,r1⟩,p1⟩:=qW6 (g:=g3) (b:=b1) (w:=1) (.inr ⟨m0-1,q,hq,hb,oM⟩);obtain⟨rfl,rfl,rfl⟩:=r1 _ q hq hb;have hn1 : ¬ m0<m0-1:=oM;simp(maxSteps:=9^9)(disch:=try exact dS)only[go_sem,yI,dkA,h1,e1];refine qJ 3 ?_;simp(maxSteps:=9^9)(disch:=try exact dS)only[go_sem,qF,dkA,h2,d0,d1];refine qJ 3 ?_;simp(maxSteps:=9^9)(disch:=try exact dS)only[go_sem,qF,h3,p0,p1,hn0,hn1];exact zRo y0 m0 0 ⟨rfl,hK⟩ rfl rfl
 ·have c':(n+1)%2=0:=oM;rw[c,show (1:Int).toNat=1 from rfl] at h4;rw[c',show (0:Int).toNat=0 from rfl] at h5;obtain⟨y1,m1,o1,⟨-,r1⟩,p1⟩:=qW6 (g:=g3) (b:=b1) (w:=1) (.inr ⟨n,p,hp,by rw[q1];exact h4,c⟩);obtain⟨rfl,rfl,rfl⟩:=r1 n p hp (by rw[q1];exact h4);have hb0:b0=[] ∨ ∃ q,qYp (m1-1) q∧b0=qFq (m1-1) q:=by rw[q0];exact h5
  have hn0:(0:Int)<m1:=oM;rcases hb0 with rfl | ⟨q,hq,hb⟩
  ·obtain⟨y0,m0,o0,⟨r0,-⟩,p0⟩:=qW6 (g:=g3) (b:=[]) (w:=0) (.inl rfl);obtain⟨rfl,rfl,rfl⟩:=r0 rfl;simp only[List.map_nil] at p0 d0;simp(maxSteps:=9^9)(disch:=try exact dS)only[go_sem,yI,dkA,h1,e1];refine qJ 3 ?_;simp(maxSteps:=9^9)(disch:=try exact dS)only[go_sem,qF,dkA,h2,d0,d1];refine qJ 3 ?_;simp(maxSteps:=9^9)(disch:=try exact dS)only[go_sem,qF,h3,p0,p1,hn0];exact zRo y1 m1 0 ⟨rfl,hK⟩ rfl rfl
  ·obtain⟨y0,m0,o0,⟨-,r0⟩,p0⟩:=qW6 (g:=g3) (b:=b0) (w:=0) (.inr ⟨m1-1,q,hq,hb,oM⟩);obtain⟨rfl,rfl,rfl⟩:=r0 _ q hq hb;have hn1:m1-1<m1:=oM;have hn2:(0:Int)<m1-1:=by have:=hq.1;omega
   simp(maxSteps:=9^9)(disch:=try exact dS)only[go_sem,yI,dkA,h1,e1];refine qJ 3 ?_;simp(maxSteps:=9^9)(disch:=try exact dS)only[go_sem,qF,dkA,h2,d0,d1];refine qJ 3 ?_;simp(maxSteps:=9^9)(disch:=try exact dS)only[go_sem,qF,h3,p0,p1,hn0,hn1,hn2];exact zRo y1 m1 0 ⟨rfl,hK⟩ rfl rfl
def zRb:List (Int×Int×Int×Int×Int):=[(1,0,0,1,0),(2,0,0,1,0),(4,0,0,0,0),(5,0,0,2,0),(6,0,0,1,2),(7,0,0,1,1),(8,0,0,1,0),
 (9,1,1,3,3),(10,1,1,3,3),(11,1,1,0,2),(12,0,0,1,0),(13,1,1,0,0),(14,1,1,0,1),(15,1,1,2,1),(16,0,0,1,0),(17,0,0,6,-1),(18,1,1,2,1),(19,0,0,1,3),(20,0,0,1,0),
 (21,1,1,4,2),(22,1,1,1,0),(23,2,1,1,1),(24,2,1,2,0),(25,2,1,0,0),(26,2,1,0,1),(27,2,1,0,1),(28,2,1,0,0),(29,2,1,0,0),(30,1,1,0,1),(31,1,1,0,0),(32,1,1,0,0),(33,1,1,3,0)]
def zPi:List T:=zRb.flatMap fun t=>[.int .i64 t.1,.int .i64 t.2.1,.int .i64 t.2.2.1,.int .i64 t.2.2.2.1,.int .i64 t.2.2.2.2]
def qIk:ECt where
 α:=Int
 β:=Bool
 aS:=fun n=>[.t (.int .i64 n)]
 pre:=fun n=>True
 r:=fun r'=> .t (.bool r')
 R:=fun n r'=>r'=decide (0≤n∧n≤65535)
theorem jC1 {g:EF qIk}{n:Int}:qIk.fs g [.t (.int .i64 n)] []=some (.t (.bool (decide (0≤n∧n≤65535))),[]):=fnQ qIk n trivial
theorem jJ7 {n:Int}(hV:vv = .t (.bool (decide (0≤n∧n≤65535))))(hO:oo=[]):qIk.K n vv oo:=⟨_,rfl,hV,hO⟩
theorem qV1  (n:Int) :
  kB.1.wp tab gl (qE 0 [.t (.int .i64 n)]) (qE 0 []) (zA [(2,none)] 0 (qIk.K n)):=by
 have key : ∀ r,r=decide (0≤n∧n≤65535)→qIk.K n (.t (.bool r)) []:=fun r e=>jJ7 (by rw[e]) rfl
 by_cases c1:n<0
 ·simp(maxSteps:=9^9)(disch:=try exact dS)only[go_sem,kB,c1];refine key _ ?_;simp;omega
 by_cases c2:65535<n
 ·simp(maxSteps:=9^9)(disch:=try exact dS)only[go_sem,kB,c1,c2];refine key _ ?_;simp;omega
 simp(maxSteps:=9^9)(disch:=try exact dS)only[go_sem,kB,c1,c2];refine key _ ?_;simp;omega
def qGp:ECt where
 α:=Int×Int
 β:=Bool
 aS:=fun (n,s)=>[.t (.int .i64 n),.t (.int .i64 s)]
 pre:=fun (n,s)=>True
 r:=fun r'=> .t (.bool r')
 R:=fun (n,s) r'=>r'=decide (n=s∨s<0∧n≤8)
theorem zVd {g:EF qGp}{n s:Int}:qGp.fs g [.t (.int .i64 n),.t (.int .i64 s)] []=some (.t (.bool (decide (n=s∨s<0∧n≤8))),[]):=fnQ qGp (n,s) trivial
theorem jJ3 {n s:Int}(hV:vv = .t (.bool (decide (n=s∨s<0∧n≤8))))(hO:oo=[]):qGp.K (n,s) vv oo:=⟨_,rfl,hV,hO⟩
theorem qQd  (n s:Int) :
  yH.1.wp tab gl (qE 0 [.t (.int .i64 n),.t (.int .i64 s)]) (qE 0 []) (zA [(4,none)] 0 (qGp.K (n,s))):=by
 have key : ∀ r,r=decide (n=s∨s<0∧n≤8)→qGp.K (n,s) (.t (.bool r)) []:=fun r e=>jJ3 (by rw[e]) rfl
 by_cases c1:n=s
 ·subst c1;simp(maxSteps:=9^9)(disch:=try exact dS)only[go_sem,yH];refine key _ ?_;simp
 by_cases c2:s<0
 ·by_cases c3:8<n
  ·simp(maxSteps:=9^9)(disch:=try exact dS)only[go_sem,yH,c1,c2,c3];refine key _ ?_;simp;omega
  ·simp(maxSteps:=9^9)(disch:=try exact dS)only[go_sem,yH,c1,c2,c3];refine key _ ?_;simp;omega
 ·simp(maxSteps:=9^9)(disch:=try exact dS)only[go_sem,yH,c1,c2];refine key _ ?_;simp;omega
theorem jDx {α:Type}{f:α→List T}(hf : ∀ x,(f x).length=5) : ∀ {l:List α} {j:Nat} {x:α},l[j]?=some x→((l.flatMap f).drop (j*5)).take 5=f x
 | [],j,x,h=>by simp at h
 | y::r,0,x,h=>by
  simp at h;subst h;rw[Nat.zero_mul,List.drop_zero,List.flatMap_cons,List.take_append_of_le_length (by rw[hf];omega),List.take_of_length_le (by rw[hf];omega)]
 | y::r,j+1,x,h=>by
  have e:(j+1)*5=(f y).length+j*5:=by rw[hf];omega
  rw[List.flatMap_cons,e,List.drop_length_add_append];exact jDx hf (by simpa using h)
theorem jD1 {j:Nat}{x:Int×Int×Int×Int×Int}(h:zRb[j]?=some x):List.take 5 (List.drop (j*5) zPi)=[.int .i64 x.1,.int .i64 x.2.1,.int .i64 x.2.2.1,.int .i64 x.2.2.2.1,.int .i64 x.2.2.2.2]:=jDx (fun _=>rfl) h
theorem qYd:zPi.length=160:=rfl
def jDz (k:Int):List (Int×Int×Int×Int×Int)→Option (Int×Int×Int×Int)
 | []=>none
 | x::r=>if x.1=k then some x.2 else jDz k r
theorem zQ9 {k:Int}(h:coK k):jDz k zRb=some (qKf k):=by
 rcases h with rfl | rfl | rfl | rfl | rfl | rfl | rfl | rfl | rfl | rfl<;>rfl
def qIi:ECt where
 α:=Int
 β:=Int×Int×Int×Int×Bool
 aS:=fun k=>[.t (.int .i64 k)]
 pre:=fun k=>coK k
 r:=fun (h,a,i,l,b)=> .tup [.t (.int .i64 h),.t (.int .i64 a),.t (.int .i64 i),.t (.int .i64 l),.t (.bool b)]
 R:=fun k (h,a,i,l,b)=>b=true∧(h,a,i,l)=qKf k
theorem zVe {g:EF qIi}{k:Int}(hp:coK k) : ∃ (h a i l:Int) (b:Bool),(b=true∧(h,a,i,l)=qKf k)∧qIi.fs g [.t (.int .i64 k)] []=some (.tup [.t (.int .i64 h),.t (.int .i64 a),.t (.int .i64 i),.t (.int .i64 l),.t (.bool b)],[]):=by
 obtain⟨y,h1,h2⟩:=qIi.eq g k hp;exact⟨y.1,y.2.1,y.2.2.1,y.2.2.2.1,y.2.2.2.2,h1,h2⟩
theorem zQf {k:Int}(h a i l:Int)(b:Bool)(hR:b=true∧(h,a,i,l)=qKf k)(hV:vv = .tup [.t (.int .i64 h),.t (.int .i64 a),.t (.int .i64 i),.t (.int .i64 l),.t (.bool b)])(hO:oo=[]):qIi.K k vv oo:=⟨(h,a,i,l,b),hR,hV,hO⟩
theorem qUw (h1:gl 1=some zPi)(k:Int)(hp:coK k) :
  qB4.1.wp tab gl (qE 0 [.t (.int .i64 k)]) (qE 0 []) (zA [(2,none),(3,none),(4,none),(5,none),(6,none)] 0 (qIi.K k)):=by
 have hS:=zQ9 hp;have tF:List.take 160 zPi=zPi:=rfl;simp(maxSteps:=9^9)(disch:=try exact dS)only[go_sem,qB4,h1,qYd,tF];refine vK (σ:=Nat) (fun j=>j≤32∧jDz k (zRb.drop j)=some (qKf k)) (fun j=>32-j) (fun j=>[(0,.t (.int .i64 k)),(9,.t (.agg zPi)),(10,.t (.int .i64 (j:Nat)))]) (fun _=>[]) 0 ⟨oM,hS⟩ (qK.rd id ?_ ?_ rfl) ?_
 ·simp(maxSteps:=9^9)(disch:=try exact dS)only[go_sem,id]
 ·simp(maxSteps:=9^9)(disch:=try exact dS)only[go_sem,id]
 rintro j ⟨hj,hF⟩;by_cases hlt:j<32
 ·obtain⟨x,hg,hm,hdr⟩:=zF (l:=zRb) (k:=j) hlt;have d:=jD1 hg;rw[hdr,jDz] at hF;obtain⟨x1,x2,x3,x4,x5⟩:=x;simp only at d hF;by_cases c:x1=k
  ·rw[if_pos c] at hF;simp(maxSteps:=9^9)(disch:=try exact dS)only[go_sem,hlt,d,qYd,c];first | exact (zQf x2 x3 x4 x5 true ⟨rfl,Option.some.inj hF⟩ rfl rfl) | exact⟨rfl,(zQf x2 x3 x4 x5 true ⟨rfl,Option.some.inj hF⟩ rfl rfl)⟩ | exact⟨rfl,rfl,(zQf x2 x3 x4 x5 true ⟨rfl,Option.some.inj hF⟩ rfl rfl)⟩ | exact⟨rfl,rfl,rfl,(zQf x2 x3 x4 x5 true ⟨rfl,Option.some.inj hF⟩ rfl rfl)⟩
  ·rw[if_neg c] at hF;simp(maxSteps:=9^9)(disch:=try exact dS)only[go_sem,hlt,d,qYd,c];refine qTy.of (j+1) ⟨oM,hF⟩ oM (qK.rd id ?_ ?_ rfl);all_goals simp(maxSteps:=9^9)(disch:=try exact dS)only[go_sem,id]
 ·rw[List.drop_eq_nil_of_le (by show 32≤j;omega),jDz] at hF;cases hF
def qLb:ECt where
 α:=Rq
 β:=Int
 aS:=fun q=>[.t (rqA q)]
 pre:=fun q=>q.W
 r:=fun e=> .t (.int .i64 e)
 R:=fun q e=>e=0
theorem jCx {g:EF qLb}{q:Rq}(hp:q.W) : ∃ (e:Int),(e=0)∧qLb.fs g [.t (rqA q)] []=some (.t (.int .i64 e),[]):=qLb.eq g q hp
theorem zQe {q:Rq}(e:Int)(hR:e=0)(hV:vv = .t (.int .i64 e))(hO:oo=[]):qLb.K q vv oo:=⟨e,hR,hV,hO⟩
theorem zNk {q:Rq}(h:q.W):(rqB q).length≤2048:=by
 obtain⟨x,y,-,-,e⟩:=zTf q h.le;rw[e];exact h.le
theorem qUv {g1}(h1:LkE tab 116 qIi g1){g2}(h2:LkE tab 117 qGp g2){g3}(h3:LkE tab 132 qIk g3){g4}(h4:LkE tab 133 qIl g4)(q:Rq)(hp:q.W) :
  qB3.1.wp tab gl (qE 0 [.t (rqA q)]) (qE 0 []) (zA [(2,none)] 0 (qLb.K q)):=by
 obtain⟨th,ta,ti,tl,b,⟨rfl,ht⟩,e1⟩:=zVe (g:=g1) hp.co;have e2 := @zVd g2 q.bl.length tl;have e3 := @jC1 g3;obtain⟨w,hw,e4⟩:=jC2 (g:=g4) hp.B;have hl:w.length≤2048:=by rw[hw];exact zNk hp
 have hB:=hp.B;have s1:=hp.hs;have s2:=hp.au;have s3:=hp.ns;have s4:=hp.bl;rw[←ht] at s1 s2 s3 s4;clear ht hp hw;obtain⟨co,hh,au,ns,bl⟩:=q;simp only at s1 s2 s3 s4;have hd:decide ((bl.length:Int)=tl∨tl<0∧(bl.length:Int)≤8)=true:=by simp only[decide_eq_true_eq];omega
 simp only[rqA] at *;rw[hd] at e2;obtain⟨rfl,s1⟩:=s1;obtain⟨rfl,s2⟩:=s2;obtain⟨rfl,s3⟩:=s3;obtain⟨-,s4⟩:=s4;have b1:hh.length≤8:=hB.1;have b2:au.length≤8:=hB.2.1;have b3:ns.length≤8:=hB.2.2.1;have b4:bl.length≤8:=hB.2.2.2.1;simp(maxSteps:=9^9)(disch:=try exact dS)only[go_sem,qB3,rqA,h1,h2,e1,e2];refine qB hh.length (fun k=>[(1,.ref 4096 0 0),(8,.t (.bool true)),(57,.t (.sl (hh.map iT))),(58,.t (.int .i64 hh.length)),(59,.t (.int .i64 (k:Nat)))]) (fun k=>[(4096,.live 5 [.t (rqA ⟨co,hh,au,ns,bl⟩)] true true)]) (qK.rd id ?_ ?_ rfl) (fun k hk=>?_)
 ·simp(maxSteps:=9^9)(disch:=try exact dS)only[go_sem,id,rqA]
 ·simp(maxSteps:=9^9)(disch:=try exact dS)only[go_sem,id,rqA]
 by_cases c:k<hh.length
 ·obtain⟨x,hg,hm,_⟩:=zF c;have e := @e3 x;rw[show decide (0≤x∧x≤65535)=true by simpa using s1 x hm] at e;simp(maxSteps:=9^9)(disch:=try exact dS)only[go_sem,rqA,c,hg,oms,iT,h3,e];refine qK.rd id ?_ ?_ rfl;all_goals simp(maxSteps:=9^9)(disch:=try exact dS)only[go_sem,id,rqA]
 obtain rfl:k=hh.length:=oM;simp(maxSteps:=9^9)(disch:=try exact dS)only[go_sem,rqA];refine qB au.length (fun k=>[(1,.ref 4096 0 0),(8,.t (.bool true)),(70,.t (.sl (au.map azA))),(71,.t (.int .i64 au.length)),(72,.t (.int .i64 (k:Nat)))]) (fun k=>[(4096,.live 5 [.t (rqA ⟨co,hh,au,ns,bl⟩)] true true)]) (qK.rd id ?_ ?_ rfl) (fun k hk=>?_)
 ·simp(maxSteps:=9^9)(disch:=try exact dS)only[go_sem,id,rqA]
 ·simp(maxSteps:=9^9)(disch:=try exact dS)only[go_sem,id,rqA]
 by_cases c:k<au.length
 ·obtain⟨x,hg,hm,_⟩:=zF c;have e := @e3 x.s;rw[show decide (0≤x.s∧x.s≤65535)=true by simpa using (s2 x hm).1] at e;simp(maxSteps:=9^9)(disch:=try exact dS)only[go_sem,rqA,c,hg,oms,azA,h3,e];refine qK.rd id ?_ ?_ rfl;all_goals simp(maxSteps:=9^9)(disch:=try exact dS)only[go_sem,id,rqA]
 obtain rfl:k=au.length:=oM;simp(maxSteps:=9^9)(disch:=try exact dS)only[go_sem,rqA];refine qB ns.length (fun k=>[(1,.ref 4096 0 0),(8,.t (.bool true)),(84,.t (.sl (ns.map iT))),(85,.t (.int .i64 ns.length)),(86,.t (.int .i64 (k:Nat)))]) (fun k=>[(4096,.live 5 [.t (rqA ⟨co,hh,au,ns,bl⟩)] true true)]) (qK.rd id ?_ ?_ rfl) (fun k hk=>?_)
 ·simp(maxSteps:=9^9)(disch:=try exact dS)only[go_sem,id,rqA]
 ·simp(maxSteps:=9^9)(disch:=try exact dS)only[go_sem,id,rqA]
 by_cases c:k<ns.length
 ·obtain⟨x,hg,hm,_⟩:=zF c;have hx:=s3 x hm;unfold tmI at hx;simp(maxSteps:=9^9)(disch:=try exact dS)only[go_sem,rqA,c,hg,oms,iT];refine qK.rd id ?_ ?_ rfl;all_goals simp(maxSteps:=9^9)(disch:=try exact dS)only[go_sem,id,rqA]
 obtain rfl:k=ns.length:=oM;simp(maxSteps:=9^9)(disch:=try exact dS)only[go_sem,rqA];refine qB au.length (fun k=>[(1,.ref 4096 0 0),(8,.t (.bool true)),(103,.t (.sl (au.map azA))),(104,.t (.int .i64 au.length)),(105,.t (.int .i64 (k:Nat)))]) (fun k=>[(4096,.live 5 [.t (rqA ⟨co,hh,au,ns,bl⟩)] true true)]) (qK.rd id ?_ ?_ rfl) (fun k hk=>?_)
 ·simp(maxSteps:=9^9)(disch:=try exact dS)only[go_sem,id,rqA]
 ·simp(maxSteps:=9^9)(disch:=try exact dS)only[go_sem,id,rqA]
 by_cases c:k<au.length
 ·obtain⟨x,hg,hm,_⟩:=zF c;have hx:=(s2 x hm).2;simp(maxSteps:=9^9)(disch:=try exact dS)only[go_sem,rqA,c,hg,oms,azA];refine qK.rd id ?_ ?_ rfl;all_goals simp(maxSteps:=9^9)(disch:=try exact dS)only[go_sem,id,rqA]
 obtain rfl:k=au.length:=oM;simp(maxSteps:=9^9)(disch:=try exact dS)only[go_sem,rqA];refine qB bl.length (fun k=>[(1,.ref 4096 0 0),(8,.t (.bool true)),(124,.t (.sl (bl.map bsT))),(125,.t (.int .i64 bl.length)),(126,.t (.int .i64 (k:Nat)))]) (fun k=>[(4096,.live 5 [.t (rqA ⟨co,hh,au,ns,bl⟩)] true true)]) (qK.rd id ?_ ?_ rfl) (fun k hk=>?_)
 ·simp(maxSteps:=9^9)(disch:=try exact dS)only[go_sem,id,rqA]
 ·simp(maxSteps:=9^9)(disch:=try exact dS)only[go_sem,id,rqA]
 by_cases c:k<bl.length
 ·obtain⟨x,hg,hm,_⟩:=zF c;have hx:=s4 x hm;simp(maxSteps:=9^9)(disch:=try exact dS)only[go_sem,rqA,c,hg];refine qK.rd id ?_ ?_ rfl;all_goals simp(maxSteps:=9^9)(disch:=try exact dS)only[go_sem,id,rqA]
 obtain rfl:k=bl.length:=oM;simp(maxSteps:=9^9)(disch:=try exact dS)only[go_sem,rqA,h4,e4];first | exact (zQe 0 rfl rfl rfl) | exact⟨rfl,(zQe 0 rfl rfl rfl)⟩ | exact⟨rfl,rfl,(zQe 0 rfl rfl rfl)⟩ | exact⟨rfl,rfl,rfl,(zQe 0 rfl rfl rfl)⟩
def qIj:ECt where
 α:=List UInt8
 β:=Int×Int
 aS:=fun b=>[.t (.sl (b.map qA))]
 pre:=fun b => ∃ q:Rq,q.W∧b=rqB q
 r:=fun (c,e)=> .tup [.t (.int .i64 c),.t (.int .i64 e)]
 R:=fun b (c,e)=>c=(b.getD 4 0).toNat∧e=0
theorem jC0 {g:EF qIj}{b:List UInt8}(hp : ∃ q:Rq,q.W∧b=rqB q) : ∃ (c e:Int),(c=(b.getD 4 0).toNat∧e=0)∧qIj.fs g [.t (.sl (b.map qA))] []=some (.tup [.t (.int .i64 c),.t (.int .i64 e)],[]):=by
 obtain⟨y,h1,h2⟩:=qIj.eq g b hp;exact⟨y.1,y.2,h1,h2⟩
theorem jJ6 {b:List UInt8}(c e:Int)(hR:c=(b.getD 4 0).toNat∧e=0)(hV:vv = .tup [.t (.int .i64 c),.t (.int .i64 e)])(hO:oo=[]):qIj.K b vv oo:=⟨(c,e),hR,hV,hO⟩
theorem qUx (h1:gl 0=some zV4)(b:List UInt8)(hp : ∃ q:Rq,q.W∧b=rqB q) :
  qB5.1.wp tab gl (qE 0 [.t (.sl (b.map qA))]) (qE 0 []) (zA [(2,none),(3,none)] 0 (qIj.K b)):=by
 obtain⟨q,hq,rfl⟩:=hp;obtain⟨x,y,e,hn,hl⟩:=zTf q hq.le;have hle:=zNk hq;have hK : ∀ vv,vv = .tup [.t (.int .i64 (u8I q.co).toNat),.t (.int .i64 0)]→qIj.K (rqB q) vv []:=fun vv h=>jJ6 _ 0 ⟨by rw[e];rfl,rfl⟩ h rfl
 rw[e] at hK hn hle ⊢;clear e hl hq;generalize rqT q=t at *;generalize u8I q.co=c at *;simp only[List.length_cons] at hn hle;simp only[zV4] at h1;simp(maxSteps:=9^9)(disch:=try exact dS)only[go_sem,qB5,h1];exact⟨rfl,rfl,hK _ rfl⟩
def qIg:ECt where
 α:=List UInt8
 β:=Rq×Int
 aS:=fun b=>[.t (.sl (b.map qA))]
 pre:=fun b => ∃ q:Rq,q.W∧b=rqB q
 r:=fun (q,e)=> .tup [.t (rqA q),.t (.int .i64 e)]
 R:=fun b (q,e)=>q=rdQ b∧e=0
theorem jCy {g:EF qIg}{b:List UInt8}(hp : ∃ q:Rq,q.W∧b=rqB q) : ∃ (q:Rq) (e:Int),(q=rdQ b∧e=0)∧qIg.fs g [.t (.sl (b.map qA))] []=some (.tup [.t (rqA q),.t (.int .i64 e)],[]):=by
 obtain⟨y,h1,h2⟩:=qIg.eq g b hp;exact⟨y.1,y.2,h1,h2⟩
theorem jJ4 {b:List UInt8}(q:Rq)(e:Int)(hR:q=rdQ b∧e=0)(hV:vv = .tup [.t (rqA q),.t (.int .i64 e)])(hO:oo=[]):qIg.K b vv oo:=⟨(q,e),hR,hV,hO⟩
theorem qM6 {α:Type}{l:List α}{k:Nat}{x:α}(h:l[k]?=some x):l.take (k+1)=l.take k++[x]:=by
 rw[List.take_add_one,h];rfl
theorem qRr {g1}(h1:LkE tab 115 qIj g1){g2}(h2:LkE tab 116 qIi g2)(h3:LkC tab 82 qFa)(h4:LkC tab 109 qE9)(h5:LkC tab 111 qGo)(h6:LkC tab 110 qPk){g7}(h7:LkE tab 117 qGp g7)(h8:LkC tab 90 qIe)(b:List UInt8)(hp : ∃ q:Rq,q.W∧b=rqB q) :
  qA1.1.wp tab gl (qE 0 [.t (.sl (b.map qA))]) (qE 0 []) (zA [(2,(some (5,true))),(3,none)] 0 (qIg.K b)):=by
 obtain⟨q,hq,rfl⟩:=hp;have hQ:=zG8 hq;have hK : ∀ vv,vv = .tup [.t (rqA q),.t (.int .i64 0)]→qIg.K (rqB q) vv []:=fun vv h=>jJ4 q 0 ⟨hQ.symm,rfl⟩ h rfl
 obtain⟨cc,ee,⟨hc,rfl⟩,e1⟩:=jC0 (g:=g1) (b:=rqB q) ⟨q,hq,rfl⟩;obtain⟨th,ta,ti,tl,b,⟨rfl,ht⟩,e2⟩:=zVe (g:=g2) hq.co;obtain⟨x,y,e,hn,hl⟩:=zTf q hq.le;have hle:=zNk hq;have hcc:cc=q.co:=by rw[hc,e];exact jHo (by have:=zVg hq.co;omega)
 have A0:At (rqT q) 0 (q.hs.flatMap wH++(q.au.flatMap wA++(q.ns.flatMap w8++(u8I q.bl.length::q.bl.flatMap wB)))):=⟨[],rfl,rfl⟩;have hlt:(rqT q).length<1000000000:=by rw[e] at hle;simp only[List.length_cons] at hle;omega
 have hB:=hq.B;have s1:=hq.hs;have s2:=hq.au;have s3:=hq.ns;have s4:=hq.bl;rw[←ht] at s1 s2 s3 s4;rw[hcc] at e1;rw[e] at hK e1 ⊢;clear ht hq hc hcc hQ e hn hl hle;generalize rqT q=B at *;generalize u8I q.co=c0 at *;obtain⟨co,hh,au,ns,bl⟩:=q;simp only at s1 s2 s3 s4;have e7 := @zVd g7 bl.length tl;have hd:decide ((bl.length:Int)=tl∨tl<0∧(bl.length:Int)≤8)=true:=by simp only[decide_eq_true_eq];omega
 rw[hd] at e7;obtain⟨rfl,s1⟩:=s1;obtain⟨rfl,s2⟩:=s2;obtain⟨rfl,s3⟩:=s3;obtain⟨-,s4⟩:=s4;have b1:hh.length≤8:=hB.1;have b2:au.length≤8:=hB.2.1;have b3:ns.length≤8:=hB.2.2.1;have b4:bl.length≤8:=hB.2.2.2.1;clear hd hB;have e3:=qJr (b:=B) hlt;have k1:((1:Nat):Int)=1:=rfl;have k2:((2:Nat):Int)=2:=rfl;have k8:((8:Nat):Int)=8:=rfl;have k128:((128:Nat):Int)=128:=rfl;have zMb:((1024:Nat):Int)=1024:=rfl;have cz:((0:Nat):Int)=0:=rfl;simp only[rdO,List.map_cons,cz] at e1 e2 e3;have tB:List.take (B.length+1+1+1+1+1-5) B=B:=List.take_of_length_le oM;simp(maxSteps:=9^9)(disch:=try exact dS)only[go_sem,qA1,h1,e1,h2,e2,h3,e3,List.map_cons,tB];repeat refine aiG ?_
 refine vK (σ:=Nat×List Int×Nat) (fun t=>t.1≤hh.length∧t.2.1=hh.take t.1∧At B t.2.2 ((hh.drop t.1).flatMap wH++(au.flatMap wA++(ns.flatMap w8++(u8I bl.length::bl.flatMap wB))))) (fun t=>hh.length-t.1) (fun t=>[(2,.ref 4096 0 0),(7,.t (.int .i64 au.length)),(8,.t (.int .i64 ns.length)),(9,.t (.int .i64 tl)),(11,.ref 32800 0 0),(12,.ref 36896 0 0),(42,.t (.int .i64 hh.length)),(43,.t (.int .i64 t.1))]) (fun t=>[(9001,.live 1 ((t.2.1.map iT).map V.t) true false),(36896,.live 5 [.agg [.t (.int .i64 co),.sl 9001 0 t.1,.nil,.nil,.nil]] true true),(32800,kH (B,t.2.2,0)),(4096,.live 5 [.agg [.t (.int .i64 0),.nil,.nil,.nil,.nil]] true true)]) (0,[],0) ⟨sM,rfl,A0⟩ ?_ ?_
 ·refine qK.cv0 (hv:=[(9001,.live 1 [] true false)]) (ho:=[(36896,.live 5 [.agg [.t (.int .i64 co),.sl 9001 0 0,.nil,.nil,.nil]] true true),(32800,kH (B,0,0)),(4096,.live 5 [.agg [.t (.int .i64 0),.nil,.nil,.nil,.nil]] true true)]) id ?_ ?_ rfl rfl;all_goals simp(maxSteps:=9^9)(disch:=try exact dS)only[go_sem,id,xS]
  all_goals rfl
 rintro⟨k,l,p⟩ ⟨hk,hl,hA⟩;simp only at hk hl hA;have ll:l.length=k:=by rw[hl,List.length_take];omega
 rcases (by omega:k<hh.length∨k=hh.length) with c | hke
 ·obtain⟨x,hg,hm,hdr⟩:=zF c;rw[hdr,List.flatMap_cons,List.append_assoc] at hA;obtain⟨f,hA'⟩:=At.w2 hA (s1 x hm);have e:=vU (s:=(B,p,0)) (k:=2) ⟨hA.ok hlt,oM,oM⟩;rw[f,k2] at e;simp only[rdO] at e;simp(maxSteps:=9^9)(disch:=try exact dS)only[go_sem,xS,c,h4,e,ll];repeat refine aiG ?_
  refine qTy.of (k+1,l++[x],p+2) ⟨by show k+1≤_;omega,by rw[hl];exact (qM6 hg).symm,hA'⟩ (by show hh.length-(k+1)<hh.length-k;omega) (qK.rd (fun j=>if j=9001 then 49232 else j) ?_ ?_ rfl);all_goals simp(maxSteps:=9^9)(disch:=try exact dS)only[go_sem,id,xS,iT]
  all_goals simp only[List.map_append,mcn,iT]
 subst hke;rw[List.take_length] at hl;subst hl;rw[List.drop_length,List.flatMap_nil,List.nil_append] at hA;clear A0;simp(maxSteps:=9^9)(disch:=try exact dS)only[go_sem,xS];repeat refine aiG ?_
 refine vK (σ:=Nat×List Az×Nat) (fun t=>t.1≤au.length∧t.2.1=au.take t.1∧At B t.2.2 ((au.drop t.1).flatMap wA++(ns.flatMap w8++(u8I bl.length::bl.flatMap wB)))) (fun t=>au.length-t.1) (fun t=>[(2,.ref 4096 0 0),(8,.t (.int .i64 ns.length)),(9,.t (.int .i64 tl)),(11,.ref 32800 0 0),(12,.ref 36896 0 0),(53,.t (.int .i64 au.length)),(54,.t (.int .i64 t.1))]) (fun t=>[(9002,.live 3 ((t.2.1.map azA).map V.t) true false),(9001,.live 1 ((l.map iT).map V.t) true false),(36896,.live 5 [.agg [.t (.int .i64 co),.sl 9001 0 l.length,.sl 9002 0 t.1,.nil,.nil]] true true),(32800,kH (B,t.2.2,0)),(4096,.live 5 [.agg [.t (.int .i64 0),.nil,.nil,.nil,.nil]] true true)]) (0,[],p) ⟨sM,rfl,hA⟩ ?_ ?_
 ·refine qK.cv0 (hv:=[(9002,.live 3 [] true false)]) (ho:=[(9001,.live 1 ((l.map iT).map V.t) true false),(36896,.live 5 [.agg [.t (.int .i64 co),.sl 9001 0 l.length,.sl 9002 0 0,.nil,.nil]] true true),(32800,kH (B,p,0)),(4096,.live 5 [.agg [.t (.int .i64 0),.nil,.nil,.nil,.nil]] true true)]) id ?_ ?_ rfl rfl;all_goals simp(maxSteps:=9^9)(disch:=try exact dS)only[go_sem,id,xS]
  all_goals rfl
 clear hA p hk;rintro⟨k,m,p⟩ ⟨hk,hl,hA⟩;simp only at hk hl hA;have lm:m.length=k:=by rw[hl,List.length_take];omega
 rcases (by omega:k<au.length∨k=au.length) with c | hke
 ·obtain⟨x,hg,hm,hdr⟩:=zF c;rw[hdr,List.flatMap_cons,List.append_assoc] at hA;obtain⟨f1,f2,f3,hA',hA1,hA2⟩:=At.az hA (s2 x hm);have e:=vU (s:=(B,p,0)) (k:=2) ⟨hA.ok hlt,oM,oM⟩;have d1:=qG7 (s:=(B,p+2,0)) (k:=128) ⟨hA1.ok hlt,oM⟩;have d2:=qG7 (s:=(B,p+2+2+x.no.length,0)) (k:=128) ⟨hA2.ok hlt,oM⟩;rw[f1,k2] at e;rw[f2,k128] at d1;rw[f3,k128] at d2;simp only[rdO] at e d1 d2;simp(maxSteps:=9^9)(disch:=try exact dS)only[go_sem,xS,c,h4,h5,e,d1,d2,lm];repeat refine aiG ?_
  refine qTy.of (k+1,m++[x],p+2+2+x.no.length+2+x.va.length) ⟨by show k+1≤_;omega,by rw[hl];exact (qM6 hg).symm,hA'⟩ (by show au.length-(k+1)<au.length-k;omega) (qK.rd (fun j=>if j=9002 then 77888 else j) ?_ ?_ rfl);all_goals simp(maxSteps:=9^9)(disch:=try exact dS)only[go_sem,id,xS,azA]
  all_goals simp only[List.map_append,mcn,azA]
 subst hke;rw[List.take_length] at hl;subst hl;rw[List.drop_length,List.flatMap_nil,List.nil_append] at hA;simp(maxSteps:=9^9)(disch:=try exact dS)only[go_sem,xS];repeat refine aiG ?_
 refine vK (σ:=Nat×List Int×Nat) (fun t=>t.1≤ns.length∧t.2.1=ns.take t.1∧At B t.2.2 ((ns.drop t.1).flatMap w8++(u8I bl.length::bl.flatMap wB))) (fun t=>ns.length-t.1) (fun t=>[(2,.ref 4096 0 0),(9,.t (.int .i64 tl)),(11,.ref 32800 0 0),(12,.ref 36896 0 0),(72,.t (.int .i64 ns.length)),(73,.t (.int .i64 t.1))]) (fun t=>[(9003,.live 1 ((t.2.1.map iT).map V.t) true false),(9002,.live 3 ((m.map azA).map V.t) true false),(9001,.live 1 ((l.map iT).map V.t) true false),(36896,.live 5 [.agg [.t (.int .i64 co),.sl 9001 0 l.length,.sl 9002 0 m.length,.sl 9003 0 t.1,.nil]] true true),(32800,kH (B,t.2.2,0)),(4096,.live 5 [.agg [.t (.int .i64 0),.nil,.nil,.nil,.nil]] true true)]) (0,[],p) ⟨sM,rfl,hA⟩ ?_ ?_
 ·refine qK.cv0 (hv:=[(9003,.live 1 [] true false)]) (ho:=[(9002,.live 3 ((m.map azA).map V.t) true false),(9001,.live 1 ((l.map iT).map V.t) true false),(36896,.live 5 [.agg [.t (.int .i64 co),.sl 9001 0 l.length,.sl 9002 0 m.length,.sl 9003 0 0,.nil]] true true),(32800,kH (B,p,0)),(4096,.live 5 [.agg [.t (.int .i64 0),.nil,.nil,.nil,.nil]] true true)]) id ?_ ?_ rfl rfl;all_goals simp(maxSteps:=9^9)(disch:=try exact dS)only[go_sem,id,xS]
  all_goals rfl
 clear hA p hk;rintro⟨k,n,p⟩ ⟨hk,hl,hA⟩;simp only at hk hl hA;have ln:n.length=k:=by rw[hl,List.length_take];omega
 rcases (by omega:k<ns.length∨k=ns.length) with c | hke
 ·obtain⟨x,hg,hm,hdr⟩:=zF c;rw[hdr,List.flatMap_cons,List.append_assoc] at hA;obtain⟨f,hA'⟩:=At.w8 hA (s3 x hm);have hx:=s3 x hm;unfold tmI at hx;have e:=vU (s:=(B,p,0)) (k:=8) ⟨hA.ok hlt,oM,oM⟩;have d:=qUc (s:=(B,p+8,0)) (hA'.ok hlt);rw[f,k8] at e;simp only[rdO] at e d;simp(maxSteps:=9^9)(disch:=try exact dS)only[go_sem,xS,c,h4,h6,e,d,ln];repeat refine aiG ?_
  refine qTy.of (k+1,n++[x],p+8) ⟨by show k+1≤_;omega,by rw[hl];exact (qM6 hg).symm,hA'⟩ (by show ns.length-(k+1)<ns.length-k;omega) (qK.rd (fun j=>if j=9003 then 106560 else j) ?_ ?_ rfl);all_goals simp(maxSteps:=9^9)(disch:=try exact dS)only[go_sem,id,xS,iT]
  all_goals simp only[List.map_append,mcn,iT]
 subst hke;rw[List.take_length] at hl;subst hl;rw[List.drop_length,List.flatMap_nil,List.nil_append,qUt oM] at hA;obtain⟨f,hA'⟩:=hA.byte oM;have e:=vU (s:=(B,p,0)) (k:=1) ⟨hA.ok hlt,oM,oM⟩;have d:=qUc (s:=(B,p+1,0)) (hA'.ok hlt);rw[f,k1] at e;simp only[rdO] at e d;simp(maxSteps:=9^9)(disch:=try exact dS)only[go_sem,xS,h4,h6,h7,e,d,e7];repeat refine aiG ?_
 refine vK (σ:=Nat×List (List UInt8)×Nat) (fun t=>t.1≤bl.length∧t.2.1=bl.take t.1∧At B t.2.2 ((bl.drop t.1).flatMap wB)) (fun t=>bl.length-t.1) (fun t=>[(2,.ref 4096 0 0),(11,.ref 32800 0 0),(12,.ref 36896 0 0),(104,.t (.int .i64 bl.length)),(105,.t (.int .i64 t.1))]) (fun t=>[(9004,.live 1 ((t.2.1.map bsT).map V.t) true false),(9003,.live 1 ((n.map iT).map V.t) true false),(9002,.live 3 ((m.map azA).map V.t) true false),(9001,.live 1 ((l.map iT).map V.t) true false),(36896,.live 5 [.agg [.t (.int .i64 co),.sl 9001 0 l.length,.sl 9002 0 m.length,.sl 9003 0 n.length,.sl 9004 0 t.1]] true true),(32800,kH (B,t.2.2,0)),(4096,.live 5 [.agg [.t (.int .i64 0),.nil,.nil,.nil,.nil]] true true)]) (0,[],p+1) ⟨sM,rfl,hA'⟩ ?_ ?_
 ·refine qK.cv0 (hv:=[(9004,.live 1 [] true false)]) (ho:=[(9003,.live 1 ((n.map iT).map V.t) true false),(9002,.live 3 ((m.map azA).map V.t) true false),(9001,.live 1 ((l.map iT).map V.t) true false),(36896,.live 5 [.agg [.t (.int .i64 co),.sl 9001 0 l.length,.sl 9002 0 m.length,.sl 9003 0 n.length,.sl 9004 0 0]] true true),(32800,kH (B,p+1,0)),(4096,.live 5 [.agg [.t (.int .i64 0),.nil,.nil,.nil,.nil]] true true)]) id ?_ ?_ rfl rfl;all_goals simp(maxSteps:=9^9)(disch:=try exact dS)only[go_sem,id,xS]
  all_goals rfl
 clear hA hA' e d f p hk;rintro⟨k,o,p⟩ ⟨hk,hl,hA⟩;simp only at hk hl hA;have lo:o.length=k:=by rw[hl,List.length_take];omega
 rcases (by omega:k<bl.length∨k=bl.length) with c | hke
 ·obtain⟨x,hg,hm,hdr⟩:=zF c;rw[hdr,List.flatMap_cons] at hA;obtain⟨f,hA'⟩:=At.wblm 1024 hA (s4 x hm) oM;have e:=qG7 (s:=(B,p,0)) (k:=1024) ⟨hA.ok hlt,oM⟩;rw[f,zMb] at e;simp only[rdO] at e;simp(maxSteps:=9^9)(disch:=try exact dS)only[go_sem,xS,c,h5,e,lo];repeat refine aiG ?_
  refine qTy.of (k+1,o++[x],p+2+x.length) ⟨by show k+1≤_;omega,by rw[hl];exact (qM6 hg).symm,hA'⟩ (by show bl.length-(k+1)<bl.length-k;omega) (qK.rd (fun j=>if j=9004 then 135248 else j) ?_ ?_ rfl);all_goals simp(maxSteps:=9^9)(disch:=try exact dS)only[go_sem,id,xS,qG]
  all_goals simp only[List.map_append,mcn,qG]
 subst hke;rw[List.take_length] at hl;subst hl;rw[List.drop_length,List.flatMap_nil] at hA;have hp:=hA.end;have e:=qP5 (s:=(B,p,0)) (hA.ok hlt);rw[show xO (B,p,0)=0 from if_neg (by simp only;omega)] at e;simp only[rdO] at e;simp(maxSteps:=9^9)(disch:=try exact dS)only[go_sem,xS,h8,e,List.take_length];repeat refine aiG ?_
 exact hK _ rfl
end Go.Eng
end
