/- A part of an abstract machine, its walks, their tie. -/
import Derived.Test.YteglhhgmfnbalaaGreatDoorK23
set_option linter.all false
section
set_option maxHeartbeats 64000000
set_option maxRecDepth 20000
namespace Go.Eng
open List
variable (tab:Tab)(gl:Gl)
variable {vv:V}{oo:List Ob}
def wH (h:Int):List UInt8:=beI 2 h 2
def wA (a:Az):List UInt8:=beI 2 a.s 2++(wB a.no++wB a.va)
def w8 (n:Int):List UInt8:=beI 8 n 8
def rqT (q:Rq):List UInt8:=q.hs.flatMap wH++(q.au.flatMap wA++(q.ns.flatMap w8++(u8I q.bl.length::q.bl.flatMap wB)))
theorem qW9 (q:Rq):rqG q=83::87::0::0::u8I q.co::rqT q:=by
 unfold rqG rq3 rq2 rq1 rq0 rqT;simp only[qLe (f:=hsF) (w:=wH) (λ_ _=>rfl),qLe (f:=azE) (w:=wA) (λb a=>by unfold azE wA;rw[zD8,zD8,append_assoc,append_assoc]),qLe (f:=nsF) (w:=w8) (λ_ _=>rfl),qLe (f:=blL) (λb k=>zD8),append_assoc,cons_append,nil_append]
theorem jFa {n:Int}(h:0<=n/\n<65536):∃x y:UInt8,beI 2 n 2=[x,y]/\((x.toNat:Int)*256+y.toNat=n):=by
 have hl:(beI 2 n 2).length=2:=by simp[beI]
 match hb:beI 2 n 2,hl with
 |[x,y],_=>
  refine⟨x,y,rfl,?_⟩;have e:((beV (beI 2 n 2):Nat):Int)=n:=by
   rw[qJt];have:=qMu (n:=n) oM;have e:(256:Nat)^2=65536:=by decide
   rw[e];omega
  rw[hb]at e;have e2:beV [x,y]=256*(256*0+x.toNat)+y.toNat:=rfl;rw[e2]at e;omega
theorem zZ8 (q:Rq)(hl:(rqG q).length<=2048):∃x y:UInt8,rqB q=83::87::x::y::u8I q.co::rqT q/\((x.toNat:Int)*256+y.toNat=(rqB q).length)/\(rqB q).length=(rqG q).length:=by
 have hb:(rqB q).length=(rqG q).length:=by
  unfold rqB;rw[length_append,length_append,qN,qW9];simp only[length_take,length_drop,length_cons];omega
 obtain⟨x,y,e,h⟩:=jFa (n:=((rqG q).length:Int)) oM;refine⟨x,y,?_,by rw[hb];exact h,hb⟩;unfold rqB;rw[e,qW9];rfl
theorem jQn {n:Int}(h:0<=n/\n<256):((u8I n).toNat:Int)=n:=by
 unfold u8I;rw[UInt8.toNat_ofNat'];omega
theorem qXq {n:Int}(h:0<=n/\n<256):u8I n=bY n:=by
 unfold u8I bY;congr 1;unfold m64;omega
theorem qA3 (s:Rd):yS s=.live 3 [.t (.agg [.sl (s.1.map qA),.int .i64 (s.2.1:Int),.int .i64 s.2.2])] true true:=rfl
theorem At.wblm {b x r:List UInt8}{p:Nat}(m:Nat)(h:At b p (wB x++r))(hx:x.length<=m)(hm:m<=4096):zF (b,p,0) m=(x,(b,p+2+x.length,0))/\At b (p+2+x.length) r:=by
 have h1:=(At.wbl h oM).2;unfold wB at h;rw[append_assoc]at h;obtain⟨t,rfl,hb⟩:=h;exact⟨qQw (b:=b) (p:=t) (x:=x) (t:=r) (most:=m) (by rw[hb];simp only[append_assoc]) hx oM,h1⟩
theorem At.ok {b r:List UInt8}{p:Nat}(h:At b p r)(hb:b.length<1000000000):qG4 (b,p,0):=by
 obtain⟨t,rfl,e⟩:=h;refine⟨?_,hb⟩;rw[e];simp
theorem At.end {b:List UInt8}{p:Nat}(h:At b p []):p=b.length:=by
 obtain⟨t,rfl,e⟩:=h;rw[e];simp
theorem At.w2 {b r:List UInt8}{p:Nat}{n:Int}(h:At b p (wH n++r))(hn:0<=n/\n<=65535):qI (b,p,0) 2=(n,(b,p+2,0))/\At b (p+2) r:=At.uint h (.inr (.inl ⟨rfl,oM⟩))
theorem At.w8 {b r:List UInt8}{p:Nat}{n:Int}(h:At b p (w8 n++r))(hn:tmI n):qI (b,p,0) 8=(n,(b,p+8,0))/\At b (p+8) r:=At.uint h (.inl ⟨rfl,by unfold tmI at hn;omega⟩)
def jOy (s:Rd):Nat->List Int×Rd
 |0=>([],s)
 |n+1=>((jOy s n).1++[(qI (jOy s n).2 2).1],(qI (jOy s n).2 2).2)
def jS4 (s:Rd):Az×Rd:=
 match qI s 2 with
 |(a,s1)=>match zF s1 128 with
 |(no,s2)=>match zF s2 128 with
 |(va,s3)=>(⟨a,no,va⟩,s3)
def jOv (s:Rd):Nat->List Az×Rd
 |0=>([],s)
 |n+1=>((jOv s n).1++[(jS4 (jOv s n).2).1],(jS4 (jOv s n).2).2)
def zZh (s:Rd):Nat->List (List UInt8)×Rd
 |0=>([],s)
 |n+1=>((zZh s n).1++[(zF (zZh s n).2 1024).1],(zF (zZh s n).2 1024).2)
theorem At.az {b r:List UInt8}{p:Nat}{a:Az}(h:At b p (wA a++r))(ha:(0<=a.s/\a.s<=65535)/\a.no.length<=128/\a.va.length<=128) :
  qI (b,p,0) 2=(a.s,(b,p+2,0))/\zF (b,p+2,0) 128=(a.no,(b,p+2+2+a.no.length,0))/\zF (b,p+2+2+a.no.length,0) 128=(a.va,(b,p+2+2+a.no.length+2+a.va.length,0))/\At b (p+2+2+a.no.length+2+a.va.length) r
  /\ At b (p+2) (wB a.no++(wB a.va++r))/\At b (p+2+2+a.no.length) (wB a.va++r):=by
 unfold wA at h;rw[append_assoc,append_assoc]at h;obtain⟨a1,h1⟩:=At.w2 (n:=a.s) h ha.1;obtain⟨a2,h2⟩:=h1.wblm 128 ha.2.1 oM;obtain⟨a3,h3⟩:=h2.wblm 128 ha.2.2 oM;exact⟨a1,a2,a3,h3,h1,h2⟩
def rdQ (b:List UInt8):Rq:=
 let k:Int:=(b.getD 4 0).toNat
 match jOy (b.drop 5,0,0) (qMe k).1.toNat with
 |(hs,s1)=>match jOv s1 (qMe k).2.1.toNat with
 |(au,s2)=>match jHn s2 (qMe k).2.2.1.toNat with
 |(ns,s3)=>match qI s3 1 with
 |(n,s4)=>⟨k,hs,au,ns,(zZh s4 n.toNat).1⟩
theorem jCk {k:Int}(h:coK k):0<=k/\k<256:=by
 rcases h with rfl|rfl|rfl|rfl|rfl|rfl|rfl|rfl|rfl|rfl|rfl|rfl<;>decide
theorem zLz {q:Rq}(h:q.W):rdQ (rqB q)=q:=by
 obtain⟨x,y,e,-,-⟩:=zZ8 q h.le;have hc:=jCk h.co;have e5:(rqB q).drop 5=rqT q:=by rw[e];rfl
 have e4:(((rqB q).getD 4 0).toNat:Int)=q.co:=by rw[e];exact jQn oM
 have h0:At (rqT q) 0 (rqT q):=⟨[],rfl,rfl⟩;obtain⟨p1,f1,h1⟩:=At.many (w:=wH) (f:=λs=>qI s 2) (F:=jOy) (λ_=>rfl) (λ_ _=>rfl) (l:=q.hs) (λx hm p r g=>⟨_,(At.w2 g (h.hs.2 x hm)).1,(At.w2 g (h.hs.2 x hm)).2⟩) h0;obtain⟨p2,f2,h2⟩:=At.many (w:=wA) (f:=jS4) (F:=jOv) (λ_=>rfl) (λ_ _=>rfl) (l:=q.au) (λx hm p r g=>by
  obtain⟨a1,a2,a3,a4,-,-⟩:=At.az g (h.au.2 x hm);exact⟨_,by simp only[jS4,a1,a2,a3],a4⟩) h1
 obtain⟨p3,f3,h3⟩:=At.many (w:=w8) (f:=λs=>qI s 8) (F:=jHn) (λ_=>rfl) (λ_ _=>rfl) (l:=q.ns) (λx hm p r g=>⟨_,(At.w8 g (h.ns.2 x hm)).1,(At.w8 g (h.ns.2 x hm)).2⟩) h2;have hb:(0:Int)<=q.bl.length/\(q.bl.length:Int)<256:=by have:=h.B.2.2.2.1;omega
 rw[qXq hb]at h3;obtain⟨f4,h4⟩:=h3.byte hb;have h4':At (rqT q) (p3+1) (q.bl.flatMap wB++[]):=by rw[append_nil];exact h4
 obtain⟨p5,f5,h5⟩:=At.many (w:=wB) (f:=λs=>zF s 1024) (F:=zZh) (λ_=>rfl) (λ_ _=>rfl) (l:=q.bl) (λx hm p r g=>⟨_,(At.wblm 1024 g (h.bl.2 x hm) oM).1,(At.wblm 1024 g (h.bl.2 x hm) oM).2⟩) h4';have n1:(qMe q.co).1.toNat=q.hs.length:=by have:=h.hs.1;omega
 have n2:(qMe q.co).2.1.toNat=q.au.length:=by have:=h.au.1;omega
 have n3:(qMe q.co).2.2.1.toNat=q.ns.length:=by have:=h.ns.1;omega
 simp only[rdQ,e5,e4,n1,n2,n3,f1,f2,f3,f4,f5,Int.toNat_natCast]
theorem jH9 {q r:Rq}(h:q.W)(h':r.W)(e:rqB q=rqB r):q=r:=by
 rw[<-zLz h,<-zLz h',e]
def mkB (n:Int)(p:List UInt8):List UInt8:=kX 12 [beI 8 n 8,p]
def qAe (n:Int)(p:List UInt8):List UInt8:=mkB n p++beI 8 n 8++beI 4 (p.length:Int) 4++p
def jD0 (n:Int)(p:List UInt8):Prop:=(1<=n/\n<=1000000)/\p.length<=60000
theorem qCl {n:Int}{p:List UInt8}:(mkB n p).length=32:=qO
theorem qFd {n:Int}{p:List UInt8}:(qAe n p).length=44+p.length:=by
 unfold qAe;simp only[length_append,qCl,qN]
theorem zWe {a b:Int}(ha:0<=a/\a<9223372036854775808)(hb:0<=b/\b<9223372036854775808)(h:beI 8 a 8=beI 8 b 8):a=b:=by
 have e:=congrArg beV h;rw[qJt,qJt]at e;have h1:=qMu (n:=a) oM;have h2:=qMu (n:=b) oM;have e8:(256:Nat)^8=18446744073709551616:=by decide
 rw[e8]at e;omega
def qKb:ECt where
 α:=Int
 β:=Bool
 aS:=λn=>[.t (.int .i64 n)]
 pre:=λn=>n=0
 r:=λr'=>.t (.bool r')
 R:=λn r'=>r'=true
theorem jDd {g:EF qKb}{n:Int}(hp:n=0):qKb.fs g [.t (.int .i64 n)] []=some (.t (.bool (true)),[]):=fnQ qKb n hp
theorem zX3 {n:Int}(hV:vv=.t (.bool (true)))(hO:oo=[]):qKb.K n vv oo:=⟨_,rfl,hV,hO⟩
theorem qX0  (n:Int)(hp:n=0) :
  qDe.1.wp tab gl (qD 0 [.t (.int .i64 n)]) (qD 0 []) (qZ [(2,none)] 0 (qKb.K n)):=by
 subst hp;simp(disch:=omega)only[go_sem,qDe];.repeat first|exact(zX3 rfl rfl)|refine⟨rfl,?_⟩
def qKc:ECt where
 α:=Int×List UInt8
 β:=List UInt8
 aS:=λ(n,p)=>[.t (.int .i64 n),.t (.sl (p.map qA))]
 pre:=λ(n,p)=>p.length<=100000
 r:=λr'=>.t (.sl (r'.map qA))
 R:=λ(n,p) r'=>r'=mkB n p
theorem jDf {g:EF qKc}{n:Int}{p:List UInt8}(hp:p.length<=100000):qKc.fs g [.t (.int .i64 n),.t (.sl (p.map qA))] []=some (.t (.sl ((mkB n p).map qA)),[]):=fnQ qKc (n,p) hp
theorem zX4 {n:Int}{p:List UInt8}(hV:vv=.t (.sl ((mkB n p).map qA)))(hO:oo=[]):qKc.K (n,p) vv oo:=⟨_,rfl,hV,hO⟩
theorem qZb (h1:LkC tab 63 yQ)(h2:LkC tab 102 yP)(n:Int)(p:List UInt8)(hp:p.length<=100000) :
  qEp.1.wp tab gl (qD 0 [.t (.int .i64 n),.t (.sl (p.map qA))]) (qD 0 []) (qZ [(4,none)] 0 (qKc.K (n,p))):=by
 have u:=qUd (b:=[]) (n:=n) sM;simp only[map_nil,nil_append,length_nil]at u;have hf:(zB 12 [beI 8 n 8,p]).length<1000000000:=by simp[zB,qBq,qN];omega
 have e:yP.fs [.t (.int .i64 12),.t (.sl [.sl ((beI 8 n 8).map qA),.sl (p.map qA)])] []=some (.sl 0 0 32,[.live 1 (((kX 12 [beI 8 n 8,p]).map qA).map V.t) true false]):=yP.eq (12,[beI 8 n 8,p]) ⟨by show 12<256;omega,hf⟩;have l8:(beI 8 n 8).length=8:=qN;have t8:List.take 8 (beI 8 n 8)=beI 8 n 8:=take_of_length_le oM;have hm:kX 12 [beI 8 n 8,p]=mkB n p:=rfl;have lm:(mkB n p).length=32:=qCl;have tm:List.take 32 (mkB n p)=mkB n p:=take_of_length_le oM;rw[hm]at e;simp(disch:=omega)only[go_sem,qEp,h1,u,t8,h2,e,tm];repeat refine aiG ?_
 .repeat first|exact(zX4 rfl rfl)|refine⟨rfl,?_⟩
def qH6:ECt where
 α:=Dk×Int×Int×List UInt8
 β:=Dk×Int
 aS:=λ(k,b,n,p)=>[.t (dkA k),.t (.int .i64 b),.t (.int .i64 n),.t (.sl (p.map qA))]
 pre:=λ(k,b,n,p)=>okX k/\b=0/\jD0 n p
 r:=λ(r,e)=>.tup [.t (dkA r),.t (.int .i64 e)]
 R:=λ(k,b,n,p)(r,e)=>r=wrK k (n%2) (qAe n p)/\e=wrF k
 inj:=by rintro⟨k,b,n,p⟩ ⟨k',b',n',p'⟩ e _;simp only[qBa,qL2,qT4]at e;obtain⟨rfl,rfl,rfl,rfl⟩:=e;rfl
theorem jDe {g:EF qH6}{k:Dk}{b n:Int}{p:List UInt8}(hp:okX k/\b=0/\jD0 n p):∃(r:Dk)(e:Int),(r=wrK k (n%2) (qAe n p)/\e=wrF k)/\qH6.fs g [.t (dkA k),.t (.int .i64 b),.t (.int .i64 n),.t (.sl (p.map qA))] []=some (.tup [.t (dkA r),.t (.int .i64 e)],[]):=by
 obtain⟨y,h1,h2⟩:=qH6.eq g (k,b,n,p) hp;exact⟨y.1,y.2,h1,h2⟩
theorem jU0 {k:Dk}{b n:Int}{p:List UInt8}(r:Dk)(e:Int)(hR:r=wrK k (n%2) (qAe n p)/\e=wrF k)(hV:vv=.tup [.t (dkA r),.t (.int .i64 e)])(hO:oo=[]):qH6.K (k,b,n,p) vv oo:=⟨(r,e),hR,hV,hO⟩
theorem qUi {g1}(h1:LkE tab 62 qKb g1){g2}(h2:LkE tab 64 qKc g2)(h3:LkC tab 63 yQ){g4}(h4:LkE tab 65 qJ6 g4)(k:Dk)(b n:Int)(p:List UInt8)(hp:okX k/\b=0/\jD0 n p) :
  qB6.1.wp tab gl (qD 0 [.t (dkA k),.t (.int .i64 b),.t (.int .i64 n),.t (.sl (p.map qA))]) (qD 0 []) (qZ [(8,(some (5,true))),(9,none)] 0 (qH6.K (k,b,n,p))):=by
 obtain⟨hk,rfl,hn,hl⟩:=hp;have e1:=jDd (g:=g1) (n:=0) rfl;have e2:=jDf (g:=g2) (n:=n) (p:=p) oM;have lm:(mkB n p).length=32:=qCl;have hr:qAe n p=mkB n p++beI 8 n 8++beI 4 (p.length:Int) 4++p:=rfl;have lr:(qAe n p).length=44+p.length:=qFd;have u1:=qUd (b:=mkB n p) (n:=n) oM;have l1:(mkB n p++beI 8 n 8).length=40:=by simp only[length_append,qN,lm]
 generalize mkB n p=M at *;generalize M++beI 8 n 8=M8 at *;have u2:yQ.fs [.t (.sl (M8.map qA)),.t (.int .i64 4),.t (.int .i64 (p.length:Int))] []=some (.sl 0 0 (M8.length+4),[.live 1 (((M8++beI 4 (p.length:Int) 4).map qA).map V.t) true false]):=by
  have:=yQ.eq (M8,4,(p.length:Int)) ⟨by show M8.length<1000000000;omega,by show 1<=4;omega,by show 4<=8;omega⟩;exact this
 have l2:(M8++beI 4 (p.length:Int) 4).length=44:=by simp only[length_append,qN,l1]
 generalize M8++beI 4 (p.length:Int) 4=M4 at *;obtain⟨r,e,⟨q1,q2⟩,e4⟩:=jLn (g:=g4) (k:=k) (i:=n%2) (b:=qAe n p) ⟨hk,oM,oM⟩;have t1:List.take (M.length+8) M8=M8:=take_of_length_le oM;have t2:List.take (M8.length+4) M4=M4:=take_of_length_le oM;have hK:∀vv,vv=.tup [.t (dkA r),.t (.int .i64 e)]->qH6.K (k,0,n,p) vv []:=λvv h=>jU0 r e ⟨q1,q2⟩ h rfl
 clear q1 q2;rw[hr]at e4;have hn0:¬ n<1:=oM;have hn1:¬ 1099511627776<n:=oM;have hz:(0:Int)+n%2=n%2:=Int.zero_add _;have t3:List.take (M8.length+4+p.length) (M4++p)=M4++p:=take_of_length_le (by rw[length_append];omega);have ht:n.tmod 2=n%2:=Int.tmod_eq_emod_of_nonneg oM;simp only[dkA]at e4;simp(disch:=omega)only[go_sem,qB6,dkA,hn0,hn1,ht,h1,e1,hl,h2,e2,h3,u1,t1,u2,t2,h4,e4,hz,t3];repeat refine aiG ?_
 exact hK _ rfl
def lnV (b:List UInt8):Int:=(qI (qI (qAj (b,0,0) 32).2 8).2 4).1
def prV (b:List UInt8)(w:Int):List UInt8×Int×Bool:=
 let s:=qAj (b,0,0) 32
 let t:=qI s.2 8
 let u:=qI t.2 4
 let v:=qAj u.2 u.1.toNat
 if v.2.2.2≠0\/t.1<1\/t.1%2≠w\/s.1≠mkB t.1 v.1 then([],0,false) else(v.1,t.1,true)
def zGz (b:List UInt8):Prop:=b.length<=65536/\lnV b<=1000000
theorem zFk {s:Rd}{k:Nat}(h:qG4 s):qG4 (qAj s k).2/\(qAj s k).2.1=s.1:=by
 unfold qAj;split
 .exact⟨h,rfl⟩
 split
 .exact⟨h,rfl⟩
 .exact⟨⟨by show s.2.1+k<=s.1.length;omega,h.2⟩,rfl⟩
theorem zAq {s:Rd}{k:Nat}(h:qG4 s):qG4 (qI s k).2/\(qI s k).2.1=s.1:=by
 unfold qI;split
 .exact⟨h,rfl⟩
 split
 .exact⟨h,rfl⟩
 split
 .exact⟨h,rfl⟩
 .exact⟨⟨by show s.2.1+k<=s.1.length;omega,h.2⟩,rfl⟩
theorem zS8 {s:Rd}{k:Nat}:(qAj s k).1.length<=s.1.length:=by
 unfold qAj;split
 .simp
 split
 .simp
 .simp only[length_take,length_drop];omega
theorem jOr {b:List UInt8}{w:Int}:prV b w=([],0,false)\/((prV b w).2.2=true/\0<(prV b w).2.1):=by
 obtain⟨P,hP⟩:∃P,prV b w=P:=⟨_,rfl⟩;rw[hP];unfold prV at hP;simp only at hP;split at hP
 .exact .inl hP.symm
 .rename_i h;simp only[not_or]at h;have h1:=h.2.1;subst hP;exact .inr ⟨rfl,by show 0<(qI _ 8).1;omega⟩
theorem zIk {b:List UInt8}{w:Int}:((prV b w).2.2=true->0<(prV b w).2.1)/\((prV b w).2.2=false->(prV b w).1=[]/\(prV b w).2.1=0):=by
 rcases jOr (b:=b) (w:=w)with h|⟨h1,h2⟩
 .rw[h];exact⟨λh=>(by cases h),λ_=>⟨rfl,rfl⟩⟩
 .exact⟨λ_=>h2,λh=>by rw[h1]at h;cases h⟩
def qKd:ECt where
 α:=List UInt8×Int
 β:=List UInt8×Int×Bool
 aS:=λ(b,w)=>[.t (.sl (b.map qA)),.t (.int .i64 w)]
 pre:=λ(b,w)=>zGz b
 r:=λ(p,n,ok)=>.tup [.t (.sl (p.map qA)),.t (.int .i64 n),.t (.bool ok)]
 R:=λ(b,w)(p,n,ok)=>(p,n,ok)=prV b w
theorem jDg {g:EF qKd}{b:List UInt8}{w:Int}(hp:zGz b):∃(p:List UInt8)(n:Int)(ok:Bool),((p,n,ok)=prV b w)/\qKd.fs g [.t (.sl (b.map qA)),.t (.int .i64 w)] []=some (.tup [.t (.sl (p.map qA)),.t (.int .i64 n),.t (.bool ok)],[]):=by
 obtain⟨y,h1,h2⟩:=qKd.eq g (b,w) hp;exact⟨y.1,y.2.1,y.2.2,h1,h2⟩
theorem jU1 {b:List UInt8}{w:Int}(p:List UInt8)(n:Int)(ok:Bool)(hR:(p,n,ok)=prV b w)(hV:vv=.tup [.t (.sl (p.map qA)),.t (.int .i64 n),.t (.bool ok)])(hO:oo=[]):qKd.K (b,w) vv oo:=⟨(p,n,ok),hR,hV,hO⟩
theorem qX1 (h1:LkC tab 83 qE5)(h2:LkC tab 121 zBs)(h3:LkC tab 109 qE4)(h4:LkC tab 111 qNc){g5}(h5:LkE tab 64 qKc g5)(b:List UInt8)(w:Int)(hp:zGz b) :
  yN.1.wp tab gl (qD 0 [.t (.sl (b.map qA)),.t (.int .i64 w)]) (qD 0 []) (qZ [(4,none),(5,none),(6,none)] 0 (qKd.K (b,w))):=by
 obtain⟨hl,hn⟩:=hp;have k4:((4:Nat):Int)=4:=rfl;have k8:((8:Nat):Int)=8:=rfl;have k32:((32:Nat):Int)=32:=rfl;have o0:qG4 (b,0,0):=⟨Nat.zero_le _,by show b.length<1000000000;omega⟩;have e1:=qIm (b:=b) oM;have e2:=zTr (s:=(b,0,0)) (k:=32) ⟨o0,oM⟩;have o1:=zFk (k:=32) o0;have hv:prV b w=(let s:=qAj (b,0,0) 32;let t:=qI s.2 8;let u:=qI t.2 4;let v:=qAj u.2 u.1.toNat
  if v.2.2.2≠0\/t.1<1\/t.1%2≠w\/s.1≠mkB t.1 v.1 then([],0,false) else(v.1,t.1,true)):=rfl
 have hm:(qI (qI (qAj (b,0,0) 32).2 8).2 4).1<=1000000:=hn;clear hn;generalize qAj (b,0,0) 32=x1 at *;obtain⟨c1,s1⟩:=x1;simp only at o1 hv hm e2;have e3:=wW (s:=s1) (k:=8) ⟨o1.1,oM,oM⟩;have o2:=zAq (k:=8) o1.1;have t0:=(zL1 (s:=s1) (k:=8)).1;generalize qI s1 8=x2 at *;obtain⟨kn2,s2⟩:=x2;simp only at o2 hv hm e3 t0;have e4:=wW (s:=s2) (k:=4) ⟨o2.1,oM,oM⟩;have o3:=zAq (k:=4) o2.1;have u0:=(zL1 (s:=s2) (k:=4)).1;generalize qI s2 4=x3 at *;obtain⟨kn3,s3⟩:=x3;simp only at o3 hv hm e4 u0;have e5:=zTr (s:=s3) (k:=kn3.toNat) ⟨o3.1,oM⟩;have o4:=zFk (k:=kn3.toNat) o3.1;have l4:=zS8 (s:=s3) (k:=kn3.toNat);rw[show((kn3.toNat:Nat):Int)=kn3 by omega]at e5;generalize qAj s3 kn3.toNat=x4 at *;obtain⟨c4,s4⟩:=x4;simp only at o4 hv e5 l4;have l4':c4.length<=65536:=by
  rw[o3.2,o2.2,o1.2]at l4;exact Nat.le_trans l4 hl
 have e6:=qW8 (s:=s4) o4.1;have e7:=jDf (g:=g5) (n:=kn2) (p:=c4) oM;have ht:kn2.tmod 2=kn2%2:=Int.tmod_eq_emod_of_nonneg t0;have hK:∀vv p n ok,(p,n,ok)=prV b w->vv=.tup [.t (.sl (p.map qA)),.t (.int .i64 n),.t (.bool ok)]->qKd.K (b,w) vv []:=λvv p n ok h1 h2=>jU1 p n ok h1 h2 rfl
 rw[hv]at hK;clear hv o1 o2 o3 o4 o0 l4;obtain⟨B1,a1,f1⟩:=s1;obtain⟨B2,a2,f2⟩:=s2;obtain⟨B3,a3,f3⟩:=s3;obtain⟨B4,a4,f4⟩:=s4;have cz:((0:Nat):Int)=0:=rfl;simp only[rdO,cz]at e1 e2 e3 e4 e5 e6;simp only at hK;rw[k4]at e4;rw[k8]at e3;rw[k32]at e2;generalize mkB kn2 c4=M at *;by_cases d1:f4=0
 rotate_left
 .rw[if_pos (.inl d1)]at hK;simp(disch:=omega)only[go_sem,yN,h1,e1,h2,e2,h3,e3,e4,e5,h4,e6,d1];repeat refine aiG ?_
  exact hK _ [] 0 false rfl rfl
 subst d1;by_cases d2:kn2<1
 .rw[if_pos (.inr (.inl d2))]at hK;simp(disch:=omega)only[go_sem,yN,h1,e1,h2,e2,h3,e3,e4,e5,h4,e6,d2];repeat refine aiG ?_
  exact hK _ [] 0 false rfl rfl
 by_cases d3:kn2%2=w
 rotate_left
 .rw[if_pos (.inr (.inr (.inl d3)))]at hK;simp(disch:=omega)only[go_sem,yN,h1,e1,h2,e2,h3,e3,e4,e5,h4,e6,d2,ht,d3];repeat refine aiG ?_
  exact hK _ [] 0 false rfl rfl
 by_cases d4:c1=M
 rotate_left
 .rw[if_pos (.inr (.inr (.inr d4)))]at hK;simp(disch:=omega)only[go_sem,yN,h1,e1,h2,e2,h3,e3,e4,e5,h4,e6,h5,e7,d2,ht,d3,d4];repeat refine aiG ?_
  exact hK _ [] 0 false rfl rfl
 .rw[if_neg (by rintro (h|h|h|h);exact h rfl;exact d2 h;exact h d3;exact h d4)]at hK;simp(disch:=omega)only[go_sem,yN,h1,e1,h2,e2,h3,e3,e4,e5,h4,e6,h5,e7,d2,ht,d3,d4];repeat refine aiG ?_
  exact hK _ c4 kn2 true rfl rfl
def jrV (a0 a1:List UInt8):List UInt8×Int×Int:=
 if(prV a1 1).2.2=true/\(prV a0 0).2.1<(prV a1 1).2.1 then((prV a1 1).1,(prV a1 1).2.1,0)
 else if(prV a0 0).2.2=true then((prV a0 0).1,(prV a0 0).2.1,0) else([],0,30)
def qKe:ECt where
 α:=Dk×Int
 β:=List UInt8×Int×Int
 aS:=λ(k,b)=>[.t (dkA k),.t (.int .i64 b)]
 pre:=λ(k,b)=>k.off=false/\k.ar.length=4/\b=0/\zGz (k.ar.getD 0 [])/\zGz (k.ar.getD 1 [])
 r:=λ(p,n,e)=>.tup [.t (.sl (p.map qA)),.t (.int .i64 n),.t (.int .i64 e)]
 R:=λ(k,b)(p,n,e)=>(p,n,e)=jrV (k.ar.getD 0 []) (k.ar.getD 1 [])
 inj:=by rintro⟨k,b⟩ ⟨k',b'⟩ e _;simp only[qBa,qL2,qT4]at e;obtain⟨rfl,rfl⟩:=e;rfl
theorem jM8 {g:EF qKe}{k:Dk}{b:Int}(hp:k.off=false/\k.ar.length=4/\b=0/\zGz (k.ar.getD 0 [])/\zGz (k.ar.getD 1 [])):∃(p:List UInt8)(n e:Int),((p,n,e)=jrV (k.ar.getD 0 []) (k.ar.getD 1 []))/\qKe.fs g [.t (dkA k),.t (.int .i64 b)] []=some (.tup [.t (.sl (p.map qA)),.t (.int .i64 n),.t (.int .i64 e)],[]):=by
 obtain⟨y,h1,h2⟩:=qKe.eq g (k,b) hp;exact⟨y.1,y.2.1,y.2.2,h1,h2⟩
theorem jU2 {k:Dk}{b:Int}(p:List UInt8)(n e:Int)(hR:(p,n,e)=jrV (k.ar.getD 0 []) (k.ar.getD 1 []))(hV:vv=.tup [.t (.sl (p.map qA)),.t (.int .i64 n),.t (.int .i64 e)])(hO:oo=[]):qKe.K (k,b) vv oo:=⟨(p,n,e),hR,hV,hO⟩
theorem qS0 {g1}(h1:LkE tab 62 qKb g1){g2}(h2:LkE tab 81 qNk g2){g3}(h3:LkE tab 82 qKd g3)(k:Dk)(b:Int)(hp:k.off=false/\k.ar.length=4/\b=0/\zGz (k.ar.getD 0 [])/\zGz (k.ar.getD 1 [])) :
  jT.1.wp tab gl (qD 0 [.t (dkA k),.t (.int .i64 b)]) (qD 0 []) (qZ [(4,none),(5,none),(6,none)] 0 (qKe.K (k,b))):=by
 obtain⟨ho,hl,rfl,z0,z1⟩:=hp;have e1:=jDd (g:=g1) (n:=0) rfl;obtain⟨b0,x0,⟨q0,rfl⟩,d0⟩:=jCn (g:=g2) (k:=k) (i:=0) ⟨ho,hl,.inl rfl,z0.1⟩;obtain⟨b1,x1,⟨q1,rfl⟩,d1⟩:=jCn (g:=g2) (k:=k) (i:=1) ⟨ho,hl,.inr rfl,z1.1⟩;rw[show(0:Int).toNat=0 from rfl]at q0;rw[show(1:Int).toNat=1 from rfl]at q1;obtain⟨p0,m0,o0,r0,c0⟩:=jDg (g:=g3) (b:=b0) (w:=0) (by rw[q0];exact z0);obtain⟨p1,m1,o1,r1,c1⟩:=jDg (g:=g3) (b:=b1) (w:=1) (by rw[q1];exact z1);have hv:jrV (k.ar.getD 0 []) (k.ar.getD 1 [])=(if o1=true/\m0<m1 then(p1,m1,0) else if o0=true then(p0,m0,0) else([],0,30)):=by
  rw[<-q0,<-q1];unfold jrV;rw[<-r0,<-r1]
 have t0:=zIk (b:=b0) (w:=0);have t1:=zIk (b:=b1) (w:=1);rw[<-r0]at t0;rw[<-r1]at t1;simp only at t0 t1;have hK:∀vv p n e,(p,n,e)=jrV (k.ar.getD 0 []) (k.ar.getD 1 [])->vv=.tup [.t (.sl (p.map qA)),.t (.int .i64 n),.t (.int .i64 e)]->qKe.K (k,0) vv []:=λvv p n e h1 h2=>jU2 p n e h1 h2 rfl
 rw[hv]at hK;clear hv r0 r1 q0 q1 z0 z1;simp only[dkA]at d0 d1;cases o0
 .obtain⟨rfl,rfl⟩:=t0.2 rfl;cases o1
  .obtain⟨rfl,rfl⟩:=t1.2 rfl;rw[if_neg sM,if_neg sM]at hK;simp(disch:=omega)only[go_sem,jT,dkA,h1,e1];refine qJ 3 ?_;simp(disch:=omega)only[go_sem,qF,dkA,h2,d0,d1];refine qJ 3 ?_;simp(disch:=omega)only[go_sem,qF,h3,c0,c1];exact hK _ [] 0 30 rfl rfl
  .have h0:=t1.1 rfl;rw[if_pos ⟨rfl,h0⟩]at hK;simp(disch:=omega)only[go_sem,jT,dkA,h1,e1];refine qJ 3 ?_;simp(disch:=omega)only[go_sem,qF,dkA,h2,d0,d1];refine qJ 3 ?_;simp(disch:=omega)only[go_sem,qF,h3,c0,c1,h0];exact hK _ p1 m1 0 rfl rfl
 .have h0:=t0.1 rfl;cases o1
  .obtain⟨rfl,rfl⟩:=t1.2 rfl;rw[if_neg sM,if_pos rfl]at hK;simp(disch:=omega)only[go_sem,jT,dkA,h1,e1];refine qJ 3 ?_;simp(disch:=omega)only[go_sem,qF,dkA,h2,d0,d1];refine qJ 3 ?_;simp(disch:=omega)only[go_sem,qF,h3,c0,c1,h0];exact hK _ p0 m0 0 rfl rfl
  .by_cases c:m0<m1
   .rw[if_pos ⟨rfl,c⟩]at hK;simp(disch:=omega)only[go_sem,jT,dkA,h1,e1];refine qJ 3 ?_;simp(disch:=omega)only[go_sem,qF,dkA,h2,d0,d1];refine qJ 3 ?_;simp(disch:=omega)only[go_sem,qF,h3,c0,c1,h0,c];exact hK _ p1 m1 0 rfl rfl
   .rw[if_neg (λh=>c h.2),if_pos rfl]at hK;simp(disch:=omega)only[go_sem,jT,dkA,h1,e1];refine qJ 3 ?_;simp(disch:=omega)only[go_sem,qF,dkA,h2,d0,d1];refine qJ 3 ?_;simp(disch:=omega)only[go_sem,qF,h3,c0,c1,h0,c];exact hK _ p0 m0 0 rfl rfl
theorem jOx {B t M:List UInt8}(hB:B=M++t)(hM:M.length=32):qAj (B,0,0) 32=(M,(B,32,0)):=by
 have:=zCh (b:=B) (p:=[]) (q:=M) (t:=t) (by rw[hB];rfl) hM;simpa using this
theorem zLt {M t p r:List UInt8}{n w:Int}(hM:M.length=32)(hn:0<=n/\n<=1000000)(hp:p.length<=65000)(ht:t=beI 8 n 8++beI 4 (p.length:Int) 4++p++r) :
  prV (M++t) w=(if n<1\/n%2≠w\/M≠mkB n p then([],0,false) else(p,n,true))/\lnV (M++t)=p.length:=by
 have A0:At (M++t) 0 (M++(beI 8 n 8++(beI 4 (p.length:Int) 4++(p++r)))):=⟨[],rfl,by rw[ht];simp only[append_assoc,nil_append]⟩;have f1:=jOx (B:=M++t) (M:=M) rfl hM;have A1:At (M++t) 32 (beI 8 n 8++(beI 4 (p.length:Int) 4++(p++r))):=by have:=A0.next;rw[hM]at this;exact this
 obtain⟨f2,A2⟩:=At.uint A1 (.inl ⟨rfl,oM⟩);have f3:qI (M++t,32+8,0) 4=((p.length:Int),(M++t,32+8+4,0)):=by
  obtain⟨h,h0,hb⟩:=A2;have v:beV (beI 4 (p.length:Int) 4)=p.length:=by
   rw[qJt];have:=qMu (n:=(p.length:Int)) oM;have e:(256:Nat)^4=4294967296:=by decide
   rw[e];omega
  have:=qLn (b:=M++t) (p:=h) (q:=beI 4 (p.length:Int) 4) (k:=4) (by rw[hb,<-append_assoc]) qN oM;rw[h0,v]at this;exact this
 have A3:At (M++t) (32+8+4) (p++r):=by have:=A2.next;rw[qN]at this;exact this
 have f4:qAj (M++t,32+8+4,0) p.length=(p,(M++t,32+8+4+p.length,0)):=by
  obtain⟨h,h0,hb⟩:=A3;have:=zCh (b:=M++t) (p:=h) (q:=p) (by rw[hb,<-append_assoc]) rfl;rw[h0]at this;exact this
 refine⟨?_,by unfold lnV;rw[f1];show(qI (qI (M++t,32,0) 8).2 4).1=_;rw[f2];show(qI (M++t,32+8,0) 4).1=_;rw[f3]⟩;unfold prV;rw[f1];simp only;rw[f2];simp only;rw[f3];simp only[Int.toNat_natCast];rw[f4];simp only[ne_eq,not_true_eq_false,false_or]
theorem jHd {n:Int}{p:List UInt8}(h:jD0 n p):prV (qAe n p) (n%2)=(p,n,true)/\zGz (qAe n p):=by
 have hn:=h.1;have hl:=h.2;have e:qAe n p=mkB n p++(beI 8 n 8++beI 4 (p.length:Int) 4++p++[]):=by unfold qAe;simp only[append_assoc,append_nil]
 obtain⟨h1,h2⟩:=zLt (w:=n%2) (r:=[]) qCl (n:=n) (p:=p) oM oM rfl;rw[<-e]at h1 h2;rw[if_neg (by rintro (h|h|h);omega;exact h rfl;exact h rfl)]at h1;exact⟨h1,by rw[qFd];omega,by rw[h2];omega⟩
theorem zS0 {w:Int}:prV [] w=([],0,false)/\zGz []:=⟨rfl,by decide,by decide⟩
def loV (b:List UInt8)(n:Int):Prop:=zGz b/\((prV b ((n+1)%2)).2.2=true->(prV b ((n+1)%2)).2.1<n)
theorem zSb {n:Int}:loV [] n:=⟨(zS0 (w:=0)).2,λh=>by rw[zS0.1]at h;cases h⟩
def neV (b:List UInt8)(n:Int)(p:List UInt8):Prop:=prV b (n%2)=(p,n,true)/\zGz b
theorem zSi {n:Int}{p:List UInt8}(h:jD0 n p):neV (qAe n p) n p:=jHd h
theorem neV.lo {b:List UInt8}{n:Int}{p:List UInt8}(h:neV b n p):loV b (n+1):=by
 refine⟨h.2,λ_=>?_⟩;rw[show(n+1+1)%2=n%2 by omega,h.1];show n<n+1;omega
def jOk (ar:List (List UInt8))(n:Int)(p:List UInt8):Prop:=jD0 n p/\neV (ar.getD (n%2).toNat []) n p/\loV (ar.getD ((n+1)%2).toNat []) n
theorem zR4 {ar:List (List UInt8)}{n:Int}{p:List UInt8}(h:jOk ar n p):jrV (ar.getD 0 []) (ar.getD 1 [])=(p,n,0)/\zGz (ar.getD 0 [])/\zGz (ar.getD 1 []):=by
 obtain⟨h1,⟨r1,r2⟩,h3,h4⟩:=h;have hn:=h1.1;rcases(by omega:n%2=0/\(n+1)%2=1\/n%2=1/\(n+1)%2=0)with⟨c,c'⟩|⟨c,c'⟩
 .rw[c]at r1 r2;rw[c']at h3 h4;rw[show(0:Int).toNat=0 from rfl]at r1 r2;rw[show(1:Int).toNat=1 from rfl]at h3 h4;refine⟨?_,r2,h3⟩;unfold jrV;rw[r1,if_neg (λh=>by have:=h4 h.1;have:=h.2;simp only at this;omega),if_pos rfl]
 .rw[c]at r1 r2;rw[c']at h3 h4;rw[show(1:Int).toNat=1 from rfl]at r1 r2;rw[show(0:Int).toNat=0 from rfl]at h3 h4;have hlt:(prV (ar.getD 0 []) 0).2.1<n:=by
   cases ho:(prV (ar.getD 0 []) 0).2.2
   .rw[(zIk.2 ho).2];omega
   .exact h4 ho
  refine⟨?_,h3,r2⟩;unfold jrV;rw[r1,if_pos ⟨rfl,hlt⟩]
theorem zR3 {ar:List (List UInt8)}{n m:Int}{p x:List UInt8}(h:jOk ar n p)(g:jOk ar m x):p=x/\n=m:=by
 have e:=(zR4 h).1.symm.trans (zR4 g).1;simp only[Prod.mk.injEq,and_true]at e;exact e
def zXq:List (Int×Int×Int×Int×Int):=[(1,0,0,1,0),(2,0,0,1,0),(4,0,0,0,0),(5,0,0,2,0),(6,0,0,1,2),(7,0,0,1,1),(8,0,0,1,0),
 (9,1,1,3,3),(10,1,1,3,3),(11,1,1,0,2),(12,0,0,1,0),(13,1,1,0,0),(14,1,1,0,1),(15,1,1,2,1),(16,0,0,1,0),(17,0,0,6,-1),(18,1,1,2,1),(19,0,0,1,3),(20,0,0,1,0),
 (21,1,1,4,2),(22,1,1,1,0),(23,2,1,1,1),(24,2,1,2,0),(25,2,1,0,0),(26,2,1,0,1),(27,2,1,0,1),(28,2,1,0,0),(29,2,1,0,0),(30,1,1,0,1),(31,1,1,0,0),(32,1,1,0,0),(33,1,1,3,0)]
def zVv:List T:=zXq.flatMap λt=>[.int .i64 t.1,.int .i64 t.2.1,.int .i64 t.2.2.1,.int .i64 t.2.2.2.1,.int .i64 t.2.2.2.2]
def qJ4:ECt where
 α:=Int
 β:=Bool
 aS:=λn=>[.t (.int .i64 n)]
 pre:=λn=>True
 r:=λr'=>.t (.bool r')
 R:=λn r'=>r'=decide (0<=n/\n<=65535)
theorem jK7 {g:EF qJ4}{n:Int}:qJ4.fs g [.t (.int .i64 n)] []=some (.t (.bool (decide (0<=n/\n<=65535))),[]):=fnQ qJ4 n trivial
theorem jTy {n:Int}(hV:vv=.t (.bool (decide (0<=n/\n<=65535))))(hO:oo=[]):qJ4.K n vv oo:=⟨_,rfl,hV,hO⟩
theorem qY6  (n:Int) :
  xB.1.wp tab gl (qD 0 [.t (.int .i64 n)]) (qD 0 []) (qZ [(2,none)] 0 (qJ4.K n)):=by
 have key:∀r,r=decide (0<=n/\n<=65535)->qJ4.K n (.t (.bool r)) []:=λr e=>jTy (by rw[e]) rfl
 by_cases c1:n<0
 .simp(disch:=omega)only[go_sem,xB,c1];refine key _ ?_;simp;omega
 by_cases c2:65535<n
 .simp(disch:=omega)only[go_sem,xB,c1,c2];refine key _ ?_;simp;omega
 simp(disch:=omega)only[go_sem,xB,c1,c2];refine key _ ?_;simp;omega
def qH2:ECt where
 α:=Int×Int
 β:=Bool
 aS:=λ(n,s)=>[.t (.int .i64 n),.t (.int .i64 s)]
 pre:=λ(n,s)=>True
 r:=λr'=>.t (.bool r')
 R:=λ(n,s) r'=>r'=decide (n=s\/s<0/\n<=8)
theorem jCe {g:EF qH2}{n s:Int}:qH2.fs g [.t (.int .i64 n),.t (.int .i64 s)] []=some (.t (.bool (decide (n=s\/s<0/\n<=8))),[]):=fnQ qH2 (n,s) trivial
theorem jTu {n s:Int}(hV:vv=.t (.bool (decide (n=s\/s<0/\n<=8))))(hO:oo=[]):qH2.K (n,s) vv oo:=⟨_,rfl,hV,hO⟩
theorem qSx  (n s:Int) :
  yM.1.wp tab gl (qD 0 [.t (.int .i64 n),.t (.int .i64 s)]) (qD 0 []) (qZ [(4,none)] 0 (qH2.K (n,s))):=by
 have key:∀r,r=decide (n=s\/s<0/\n<=8)->qH2.K (n,s) (.t (.bool r)) []:=λr e=>jTu (by rw[e]) rfl
 by_cases c1:n=s
 .subst c1;simp(disch:=omega)only[go_sem,yM];refine key _ ?_;simp
 by_cases c2:s<0
 .by_cases c3:8<n
  .simp(disch:=omega)only[go_sem,yM,c1,c2,c3];refine key _ ?_;simp;omega
  .simp(disch:=omega)only[go_sem,yM,c1,c2,c3];refine key _ ?_;simp;omega
 .simp(disch:=omega)only[go_sem,yM,c1,c2];refine key _ ?_;simp;omega
theorem jL7 {α:Type}{f:α->List T}(hf:∀x,(f x).length=5):∀{l:List α}{j:Nat}{x:α},l[j]?=some x->((l.flatMap f).drop (j*5)).take 5=f x
 |[],j,x,h=>by simp at h
 |y::r,0,x,h=>by
  simp at h;subst h;rw[Nat.zero_mul,drop_zero,flatMap_cons,take_append_of_le_length (by rw[hf];omega),take_of_length_le (by rw[hf];omega)]
 |y::r,j+1,x,h=>by
  have e:(j+1)*5=(f y).length+j*5:=by rw[hf];omega
  rw[flatMap_cons,e,drop_length_add_append];exact jL7 hf (by simpa using h)
theorem jMc {j:Nat}{x:Int×Int×Int×Int×Int}(h:zXq[j]?=some x):List.take 5 (List.drop (j*5) zVv)=[.int .i64 x.1,.int .i64 x.2.1,.int .i64 x.2.2.1,.int .i64 x.2.2.2.1,.int .i64 x.2.2.2.2]:=jL7 (λ_=>rfl) h
theorem zB0:zVv.length=160:=rfl
def jMa (k:Int):List (Int×Int×Int×Int×Int)->Option (Int×Int×Int×Int)
 |[]=>none
 |x::r=>if x.1=k then some x.2 else jMa k r
theorem zXo {k:Int}(h:coK k):jMa k zXq=some (qMe k):=by
 rcases h with rfl|rfl|rfl|rfl|rfl|rfl|rfl|rfl|rfl|rfl|rfl|rfl<;>rfl
def qJ2:ECt where
 α:=Int
 β:=Int×Int×Int×Int×Bool
 aS:=λk=>[.t (.int .i64 k)]
 pre:=λk=>coK k
 r:=λ(h,a,i,l,b)=>.tup [.t (.int .i64 h),.t (.int .i64 a),.t (.int .i64 i),.t (.int .i64 l),.t (.bool b)]
 R:=λk (h,a,i,l,b)=>b=true/\(h,a,i,l)=qMe k
theorem jCf {g:EF qJ2}{k:Int}(hp:coK k):∃(h a i l:Int)(b:Bool),(b=true/\(h,a,i,l)=qMe k)/\qJ2.fs g [.t (.int .i64 k)] []=some (.tup [.t (.int .i64 h),.t (.int .i64 a),.t (.int .i64 i),.t (.int .i64 l),.t (.bool b)],[]):=by
 obtain⟨y,h1,h2⟩:=qJ2.eq g k hp;exact⟨y.1,y.2.1,y.2.2.1,y.2.2.2.1,y.2.2.2.2,h1,h2⟩
theorem zWq {k:Int}(h a i l:Int)(b:Bool)(hR:b=true/\(h,a,i,l)=qMe k)(hV:vv=.tup [.t (.int .i64 h),.t (.int .i64 a),.t (.int .i64 i),.t (.int .i64 l),.t (.bool b)])(hO:oo=[]):qJ2.K k vv oo:=⟨(h,a,i,l,b),hR,hV,hO⟩
theorem qXt (h1:gl 1=some zVv)(k:Int)(hp:coK k) :
  qC8.1.wp tab gl (qD 0 [.t (.int .i64 k)]) (qD 0 []) (qZ [(2,none),(3,none),(4,none),(5,none),(6,none)] 0 (qJ2.K k)):=by
 have hS:=zXo hp;have tF:List.take 160 zVv=zVv:=rfl;simp(disch:=omega)only[go_sem,qC8,h1,zB0,tF];refine jZ (σ:=Nat) (λj=>j<=32/\jMa k (zXq.drop j)=some (qMe k)) (λj=>32-j) (λj=>[(0,.t (.int .i64 k)),(9,.t (.agg zVv)),(10,.t (.int .i64 (j:Nat)))]) (λ_=>[]) 0 ⟨oM,hS⟩ (qL.rd id ?_ ?_ rfl) ?_
 .simp(disch:=omega)only[go_sem,id]
 .simp(disch:=omega)only[go_sem,id]
 rintro j ⟨hj,hF⟩;by_cases hlt:j<32
 .obtain⟨x,hg,hm,hdr⟩:=qX (l:=zXq) (k:=j) hlt;have d:=jMc hg;rw[hdr,jMa]at hF;obtain⟨x1,x2,x3,x4,x5⟩:=x;simp only at d hF;by_cases c:x1=k
  .rw[if_pos c]at hF;simp(disch:=omega)only[go_sem,hlt,d,zB0,c];.repeat first|exact(zWq x2 x3 x4 x5 true ⟨rfl,Option.some.inj hF⟩ rfl rfl)|refine⟨rfl,?_⟩
  .rw[if_neg c]at hF;simp(disch:=omega)only[go_sem,hlt,d,zB0,c];refine qYo.of (j+1) ⟨oM,hF⟩ oM (qL.rd id ?_ ?_ rfl);all_goals simp(disch:=omega)only[go_sem,id]
 .rw[drop_eq_nil_of_le (by show 32<=j;omega),jMa]at hF;cases hF
def qNh:ECt where
 α:=Rq
 β:=Int
 aS:=λq=>[.t (rqA q)]
 pre:=λq=>q.W
 r:=λe=>.t (.int .i64 e)
 R:=λq e=>e=0
theorem jK3 {g:EF qNh}{q:Rq}(hp:q.W):∃(e:Int),(e=0)/\qNh.fs g [.t (rqA q)] []=some (.t (.int .i64 e),[]):=qNh.eq g q hp
theorem zWp {q:Rq}(e:Int)(hR:e=0)(hV:vv=.t (.int .i64 e))(hO:oo=[]):qNh.K q vv oo:=⟨e,hR,hV,hO⟩
theorem zTq {q:Rq}(h:q.W):(rqB q).length<=2048:=by
 obtain⟨x,y,-,-,e⟩:=zZ8 q h.le;rw[e];exact h.le
theorem qXs {g1}(h1:LkE tab 108 qJ2 g1){g2}(h2:LkE tab 112 qH2 g2){g3}(h3:LkE tab 129 qJ4 g3){g4}(h4:LkE tab 130 qJ5 g4)(q:Rq)(hp:q.W) :
  qC7.1.wp tab gl (qD 0 [.t (rqA q)]) (qD 0 []) (qZ [(2,none)] 0 (qNh.K q)):=by
 obtain⟨th,ta,ti,tl,b,⟨rfl,ht⟩,e1⟩:=jCf (g:=g1) hp.co;have e2:=@jCe g2 q.bl.length tl;have e3:=@jK7 g3;obtain⟨w,hw,e4⟩:=jK8 (g:=g4) hp.B;have hl:w.length<=2048:=by rw[hw];exact zTq hp
 have hB:=hp.B;have s1:=hp.hs;have s2:=hp.au;have s3:=hp.ns;have s4:=hp.bl;rw[<-ht]at s1 s2 s3 s4;clear ht hp hw;obtain⟨co,hh,au,ns,bl⟩:=q;simp only at s1 s2 s3 s4;have hd:decide ((bl.length:Int)=tl\/tl<0/\(bl.length:Int)<=8)=true:=by simp only[decide_eq_true_eq];omega
 simp only[rqA]at *;rw[hd]at e2;obtain⟨rfl,s1⟩:=s1;obtain⟨rfl,s2⟩:=s2;obtain⟨rfl,s3⟩:=s3;obtain⟨-,s4⟩:=s4;have b1:hh.length<=8:=hB.1;have b2:au.length<=8:=hB.2.1;have b3:ns.length<=8:=hB.2.2.1;have b4:bl.length<=8:=hB.2.2.2.1;simp(disch:=omega)only[go_sem,qC7,rqA,h1,h2,e1,e2];refine qB hh.length (λk=>[(1,.ref 4096 0 0),(8,.t (.bool true)),(57,.t (.sl (hh.map iT))),(58,.t (.int .i64 hh.length)),(59,.t (.int .i64 (k:Nat)))]) (λk=>[(4096,.live 5 [.t (rqA ⟨co,hh,au,ns,bl⟩)] true true)]) (qL.rd id ?_ ?_ rfl) (λk hk=>?_)
 .simp(disch:=omega)only[go_sem,id,rqA]
 .simp(disch:=omega)only[go_sem,id,rqA]
 by_cases c:k<hh.length
 .obtain⟨x,hg,hm,_⟩:=qX c;have e:=@e3 x;rw[show decide (0<=x/\x<=65535)=true by simpa using s1 x hm]at e;simp(disch:=omega)only[go_sem,rqA,c,hg,oms,iT,h3,e];refine qL.rd id ?_ ?_ rfl;all_goals simp(disch:=omega)only[go_sem,id,rqA]
 obtain rfl:k=hh.length:=oM;simp(disch:=omega)only[go_sem,rqA];refine qB au.length (λk=>[(1,.ref 4096 0 0),(8,.t (.bool true)),(70,.t (.sl (au.map azA))),(71,.t (.int .i64 au.length)),(72,.t (.int .i64 (k:Nat)))]) (λk=>[(4096,.live 5 [.t (rqA ⟨co,hh,au,ns,bl⟩)] true true)]) (qL.rd id ?_ ?_ rfl) (λk hk=>?_)
 .simp(disch:=omega)only[go_sem,id,rqA]
 .simp(disch:=omega)only[go_sem,id,rqA]
 by_cases c:k<au.length
 .obtain⟨x,hg,hm,_⟩:=qX c;have e:=@e3 x.s;rw[show decide (0<=x.s/\x.s<=65535)=true by simpa using(s2 x hm).1]at e;simp(disch:=omega)only[go_sem,rqA,c,hg,oms,azA,h3,e];refine qL.rd id ?_ ?_ rfl;all_goals simp(disch:=omega)only[go_sem,id,rqA]
 obtain rfl:k=au.length:=oM;simp(disch:=omega)only[go_sem,rqA];refine qB ns.length (λk=>[(1,.ref 4096 0 0),(8,.t (.bool true)),(84,.t (.sl (ns.map iT))),(85,.t (.int .i64 ns.length)),(86,.t (.int .i64 (k:Nat)))]) (λk=>[(4096,.live 5 [.t (rqA ⟨co,hh,au,ns,bl⟩)] true true)]) (qL.rd id ?_ ?_ rfl) (λk hk=>?_)
 .simp(disch:=omega)only[go_sem,id,rqA]
 .simp(disch:=omega)only[go_sem,id,rqA]
 by_cases c:k<ns.length
 .obtain⟨x,hg,hm,_⟩:=qX c;have hx:=s3 x hm;unfold tmI at hx;simp(disch:=omega)only[go_sem,rqA,c,hg,oms,iT];refine qL.rd id ?_ ?_ rfl;all_goals simp(disch:=omega)only[go_sem,id,rqA]
 obtain rfl:k=ns.length:=oM;simp(disch:=omega)only[go_sem,rqA];refine qB au.length (λk=>[(1,.ref 4096 0 0),(8,.t (.bool true)),(103,.t (.sl (au.map azA))),(104,.t (.int .i64 au.length)),(105,.t (.int .i64 (k:Nat)))]) (λk=>[(4096,.live 5 [.t (rqA ⟨co,hh,au,ns,bl⟩)] true true)]) (qL.rd id ?_ ?_ rfl) (λk hk=>?_)
 .simp(disch:=omega)only[go_sem,id,rqA]
 .simp(disch:=omega)only[go_sem,id,rqA]
 by_cases c:k<au.length
 .obtain⟨x,hg,hm,_⟩:=qX c;have hx:=(s2 x hm).2;simp(disch:=omega)only[go_sem,rqA,c,hg,oms,azA];refine qL.rd id ?_ ?_ rfl;all_goals simp(disch:=omega)only[go_sem,id,rqA]
 obtain rfl:k=au.length:=oM;simp(disch:=omega)only[go_sem,rqA];refine qB bl.length (λk=>[(1,.ref 4096 0 0),(8,.t (.bool true)),(124,.t (.sl (bl.map bsT))),(125,.t (.int .i64 bl.length)),(126,.t (.int .i64 (k:Nat)))]) (λk=>[(4096,.live 5 [.t (rqA ⟨co,hh,au,ns,bl⟩)] true true)]) (qL.rd id ?_ ?_ rfl) (λk hk=>?_)
 .simp(disch:=omega)only[go_sem,id,rqA]
 .simp(disch:=omega)only[go_sem,id,rqA]
 by_cases c:k<bl.length
 .obtain⟨x,hg,hm,_⟩:=qX c;have hx:=s4 x hm;simp(disch:=omega)only[go_sem,rqA,c,hg];refine qL.rd id ?_ ?_ rfl;all_goals simp(disch:=omega)only[go_sem,id,rqA]
 obtain rfl:k=bl.length:=oM;simp(disch:=omega)only[go_sem,rqA,h4,e4];.repeat first|exact(zWp 0 rfl rfl rfl)|refine⟨rfl,?_⟩
def qJ3:ECt where
 α:=List UInt8
 β:=Int×Int
 aS:=λb=>[.t (.sl (b.map qA))]
 pre:=λb=>∃q:Rq,q.W/\b=rqB q
 r:=λ(c,e)=>.tup [.t (.int .i64 c),.t (.int .i64 e)]
 R:=λb (c,e)=>c=(b.getD 4 0).toNat/\e=0
theorem jK6 {g:EF qJ3}{b:List UInt8}(hp:∃q:Rq,q.W/\b=rqB q):∃(c e:Int),(c=(b.getD 4 0).toNat/\e=0)/\qJ3.fs g [.t (.sl (b.map qA))] []=some (.tup [.t (.int .i64 c),.t (.int .i64 e)],[]):=by
 obtain⟨y,h1,h2⟩:=qJ3.eq g b hp;exact⟨y.1,y.2,h1,h2⟩
theorem jTx {b:List UInt8}(c e:Int)(hR:c=(b.getD 4 0).toNat/\e=0)(hV:vv=.tup [.t (.int .i64 c),.t (.int .i64 e)])(hO:oo=[]):qJ3.K b vv oo:=⟨(c,e),hR,hV,hO⟩
theorem qXu (h1:gl 0=some jDn)(b:List UInt8)(hp:∃q:Rq,q.W/\b=rqB q) :
  qC9.1.wp tab gl (qD 0 [.t (.sl (b.map qA))]) (qD 0 []) (qZ [(2,none),(3,none)] 0 (qJ3.K b)):=by
 obtain⟨q,hq,rfl⟩:=hp;obtain⟨x,y,e,hn,hl⟩:=zZ8 q hq.le;have hle:=zTq hq;have hK:∀vv,vv=.tup [.t (.int .i64 (u8I q.co).toNat),.t (.int .i64 0)]->qJ3.K (rqB q) vv []:=λvv h=>jTx _ 0 ⟨by rw[e];rfl,rfl⟩ h rfl
 rw[e]at hK hn hle⊢;clear e hl hq;generalize rqT q=t at *;generalize u8I q.co=c at *;simp only[length_cons]at hn hle;simp only[jDn]at h1;simp(disch:=omega)only[go_sem,qC9,h1];exact⟨rfl,rfl,hK _ rfl⟩
def qJ0:ECt where
 α:=List UInt8
 β:=Rq×Int
 aS:=λb=>[.t (.sl (b.map qA))]
 pre:=λb=>∃q:Rq,q.W/\b=rqB q
 r:=λ(q,e)=>.tup [.t (rqA q),.t (.int .i64 e)]
 R:=λb (q,e)=>q=rdQ b/\e=0
theorem jK4 {g:EF qJ0}{b:List UInt8}(hp:∃q:Rq,q.W/\b=rqB q):∃(q:Rq)(e:Int),(q=rdQ b/\e=0)/\qJ0.fs g [.t (.sl (b.map qA))] []=some (.tup [.t (rqA q),.t (.int .i64 e)],[]):=by
 obtain⟨y,h1,h2⟩:=qJ0.eq g b hp;exact⟨y.1,y.2,h1,h2⟩
theorem jTv {b:List UInt8}(q:Rq)(e:Int)(hR:q=rdQ b/\e=0)(hV:vv=.tup [.t (rqA q),.t (.int .i64 e)])(hO:oo=[]):qJ0.K b vv oo:=⟨(q,e),hR,hV,hO⟩
theorem qPr {α:Type}{l:List α}{k:Nat}{x:α}(h:l[k]?=some x):l.take (k+1)=l.take k++[x]:=by
 rw[take_add_one,h];rfl
theorem qUf {g1}(h1:LkE tab 107 qJ3 g1){g2}(h2:LkE tab 108 qJ2 g2)(h3:LkC tab 83 qE5)(h4:LkC tab 109 qE4)(h5:LkC tab 110 qFw)(h6:LkC tab 111 qNc){g7}(h7:LkE tab 112 qH2 g7)(h8:LkC tab 91 qJx)(b:List UInt8)(hp:∃q:Rq,q.W/\b=rqB q) :
  qB4.1.wp tab gl (qD 0 [.t (.sl (b.map qA))]) (qD 0 []) (qZ [(2,(some (5,true))),(3,none)] 0 (qJ0.K b)):=by
 obtain⟨q,hq,rfl⟩:=hp;have hQ:=zLz hq;have hK:∀vv,vv=.tup [.t (rqA q),.t (.int .i64 0)]->qJ0.K (rqB q) vv []:=λvv h=>jTv q 0 ⟨hQ.symm,rfl⟩ h rfl
 obtain⟨cc,ee,⟨hc,rfl⟩,e1⟩:=jK6 (g:=g1) (b:=rqB q) ⟨q,hq,rfl⟩;obtain⟨th,ta,ti,tl,b,⟨rfl,ht⟩,e2⟩:=jCf (g:=g2) hq.co;obtain⟨x,y,e,hn,hl⟩:=zZ8 q hq.le;have hle:=zTq hq;have hcc:cc=q.co:=by rw[hc,e];exact jQn (by have:=jCk hq.co;omega)
 have A0:At (rqT q) 0 (q.hs.flatMap wH++(q.au.flatMap wA++(q.ns.flatMap w8++(u8I q.bl.length::q.bl.flatMap wB)))):=⟨[],rfl,rfl⟩;have hlt:(rqT q).length<1000000000:=by rw[e]at hle;simp only[length_cons]at hle;omega
 have hB:=hq.B;have s1:=hq.hs;have s2:=hq.au;have s3:=hq.ns;have s4:=hq.bl;rw[<-ht]at s1 s2 s3 s4;rw[hcc]at e1;rw[e]at hK e1⊢;clear ht hq hc hcc hQ e hn hl hle;generalize rqT q=B at *;generalize u8I q.co=c0 at *;obtain⟨co,hh,au,ns,bl⟩:=q;simp only at s1 s2 s3 s4;have e7:=@jCe g7 bl.length tl;have hd:decide ((bl.length:Int)=tl\/tl<0/\(bl.length:Int)<=8)=true:=by simp only[decide_eq_true_eq];omega
 rw[hd]at e7;obtain⟨rfl,s1⟩:=s1;obtain⟨rfl,s2⟩:=s2;obtain⟨rfl,s3⟩:=s3;obtain⟨-,s4⟩:=s4;have b1:hh.length<=8:=hB.1;have b2:au.length<=8:=hB.2.1;have b3:ns.length<=8:=hB.2.2.1;have b4:bl.length<=8:=hB.2.2.2.1;clear hd hB;have e3:=qIm (b:=B) hlt;have k1:((1:Nat):Int)=1:=rfl;have k2:((2:Nat):Int)=2:=rfl;have k8:((8:Nat):Int)=8:=rfl;have k128:((128:Nat):Int)=128:=rfl;have zR5:((1024:Nat):Int)=1024:=rfl;have cz:((0:Nat):Int)=0:=rfl;simp only[rdO,map_cons,cz]at e1 e2 e3;have tB:List.take (B.length+1+1+1+1+1-5) B=B:=take_of_length_le oM;simp(disch:=omega)only[go_sem,qB4,h1,e1,h2,e2,h3,e3,map_cons,tB];repeat refine aiG ?_
 refine jZ (σ:=Nat×List Int×Nat) (λt=>t.1<=hh.length/\t.2.1=hh.take t.1/\At B t.2.2 ((hh.drop t.1).flatMap wH++(au.flatMap wA++(ns.flatMap w8++(u8I bl.length::bl.flatMap wB))))) (λt=>hh.length-t.1) (λt=>[(2,.ref 4096 0 0),(7,.t (.int .i64 au.length)),(8,.t (.int .i64 ns.length)),(9,.t (.int .i64 tl)),(11,.ref 32800 0 0),(12,.ref 36896 0 0),(42,.t (.int .i64 hh.length)),(43,.t (.int .i64 t.1))]) (λt=>[(9001,.live 1 ((t.2.1.map iT).map V.t) true false),(36896,.live 5 [.agg [.t (.int .i64 co),.sl 9001 0 t.1,.nil,.nil,.nil]] true true),(32800,yS (B,t.2.2,0)),(4096,.live 5 [.agg [.t (.int .i64 0),.nil,.nil,.nil,.nil]] true true)]) (0,[],0) ⟨sM,rfl,A0⟩ ?_ ?_
 .refine qL.cv0 (hv:=[(9001,.live 1 [] true false)]) (ho:=[(36896,.live 5 [.agg [.t (.int .i64 co),.sl 9001 0 0,.nil,.nil,.nil]] true true),(32800,yS (B,0,0)),(4096,.live 5 [.agg [.t (.int .i64 0),.nil,.nil,.nil,.nil]] true true)]) id ?_ ?_ rfl rfl;all_goals simp(disch:=omega)only[go_sem,id,qA3]
  all_goals rfl
 rintro⟨k,l,p⟩ ⟨hk,hl,hA⟩;simp only at hk hl hA;have ll:l.length=k:=by rw[hl,length_take];omega
 rcases(by omega:k<hh.length\/k=hh.length)with c|hke
 .obtain⟨x,hg,hm,hdr⟩:=qX c;rw[hdr,flatMap_cons,append_assoc]at hA;obtain⟨f,hA'⟩:=At.w2 hA (s1 x hm);have e:=wW (s:=(B,p,0)) (k:=2) ⟨hA.ok hlt,oM,oM⟩;rw[f,k2]at e;simp only[rdO]at e;simp(disch:=omega)only[go_sem,qA3,c,h4,e,ll];repeat refine aiG ?_
  refine qYo.of (k+1,l++[x],p+2) ⟨by show k+1<=_;omega,by rw[hl];exact(qPr hg).symm,hA'⟩ (by show hh.length-(k+1)<hh.length-k;omega) (qL.rd (λj=>if j=9001 then 49232 else j) ?_ ?_ rfl);all_goals simp(disch:=omega)only[go_sem,id,qA3,iT]
  all_goals simp only[map_append,mcn,iT]
 subst hke;rw[take_length]at hl;subst hl;rw[drop_length,flatMap_nil,nil_append]at hA;clear A0;simp(disch:=omega)only[go_sem,qA3];repeat refine aiG ?_
 refine jZ (σ:=Nat×List Az×Nat) (λt=>t.1<=au.length/\t.2.1=au.take t.1/\At B t.2.2 ((au.drop t.1).flatMap wA++(ns.flatMap w8++(u8I bl.length::bl.flatMap wB)))) (λt=>au.length-t.1) (λt=>[(2,.ref 4096 0 0),(8,.t (.int .i64 ns.length)),(9,.t (.int .i64 tl)),(11,.ref 32800 0 0),(12,.ref 36896 0 0),(53,.t (.int .i64 au.length)),(54,.t (.int .i64 t.1))]) (λt=>[(9002,.live 3 ((t.2.1.map azA).map V.t) true false),(9001,.live 1 ((l.map iT).map V.t) true false),(36896,.live 5 [.agg [.t (.int .i64 co),.sl 9001 0 l.length,.sl 9002 0 t.1,.nil,.nil]] true true),(32800,yS (B,t.2.2,0)),(4096,.live 5 [.agg [.t (.int .i64 0),.nil,.nil,.nil,.nil]] true true)]) (0,[],p) ⟨sM,rfl,hA⟩ ?_ ?_
 .refine qL.cv0 (hv:=[(9002,.live 3 [] true false)]) (ho:=[(9001,.live 1 ((l.map iT).map V.t) true false),(36896,.live 5 [.agg [.t (.int .i64 co),.sl 9001 0 l.length,.sl 9002 0 0,.nil,.nil]] true true),(32800,yS (B,p,0)),(4096,.live 5 [.agg [.t (.int .i64 0),.nil,.nil,.nil,.nil]] true true)]) id ?_ ?_ rfl rfl;all_goals simp(disch:=omega)only[go_sem,id,qA3]
  all_goals rfl
 clear hA p hk;rintro⟨k,m,p⟩ ⟨hk,hl,hA⟩;simp only at hk hl hA;have lm:m.length=k:=by rw[hl,length_take];omega
 rcases(by omega:k<au.length\/k=au.length)with c|hke
 .obtain⟨x,hg,hm,hdr⟩:=qX c;rw[hdr,flatMap_cons,append_assoc]at hA;obtain⟨f1,f2,f3,hA',hA1,hA2⟩:=At.az hA (s2 x hm);have e:=wW (s:=(B,p,0)) (k:=2) ⟨hA.ok hlt,oM,oM⟩;have d1:=qF2 (s:=(B,p+2,0)) (k:=128) ⟨hA1.ok hlt,oM⟩;have d2:=qF2 (s:=(B,p+2+2+x.no.length,0)) (k:=128) ⟨hA2.ok hlt,oM⟩;rw[f1,k2]at e;rw[f2,k128]at d1;rw[f3,k128]at d2;simp only[rdO]at e d1 d2;simp(disch:=omega)only[go_sem,qA3,c,h4,h5,e,d1,d2,lm];repeat refine aiG ?_
  refine qYo.of (k+1,m++[x],p+2+2+x.no.length+2+x.va.length) ⟨by show k+1<=_;omega,by rw[hl];exact(qPr hg).symm,hA'⟩ (by show au.length-(k+1)<au.length-k;omega) (qL.rd (λj=>if j=9002 then 77888 else j) ?_ ?_ rfl);all_goals simp(disch:=omega)only[go_sem,id,qA3,azA]
  all_goals simp only[map_append,mcn,azA]
 subst hke;rw[take_length]at hl;subst hl;rw[drop_length,flatMap_nil,nil_append]at hA;simp(disch:=omega)only[go_sem,qA3];repeat refine aiG ?_
 refine jZ (σ:=Nat×List Int×Nat) (λt=>t.1<=ns.length/\t.2.1=ns.take t.1/\At B t.2.2 ((ns.drop t.1).flatMap w8++(u8I bl.length::bl.flatMap wB))) (λt=>ns.length-t.1) (λt=>[(2,.ref 4096 0 0),(9,.t (.int .i64 tl)),(11,.ref 32800 0 0),(12,.ref 36896 0 0),(72,.t (.int .i64 ns.length)),(73,.t (.int .i64 t.1))]) (λt=>[(9003,.live 1 ((t.2.1.map iT).map V.t) true false),(9002,.live 3 ((m.map azA).map V.t) true false),(9001,.live 1 ((l.map iT).map V.t) true false),(36896,.live 5 [.agg [.t (.int .i64 co),.sl 9001 0 l.length,.sl 9002 0 m.length,.sl 9003 0 t.1,.nil]] true true),(32800,yS (B,t.2.2,0)),(4096,.live 5 [.agg [.t (.int .i64 0),.nil,.nil,.nil,.nil]] true true)]) (0,[],p) ⟨sM,rfl,hA⟩ ?_ ?_
 .refine qL.cv0 (hv:=[(9003,.live 1 [] true false)]) (ho:=[(9002,.live 3 ((m.map azA).map V.t) true false),(9001,.live 1 ((l.map iT).map V.t) true false),(36896,.live 5 [.agg [.t (.int .i64 co),.sl 9001 0 l.length,.sl 9002 0 m.length,.sl 9003 0 0,.nil]] true true),(32800,yS (B,p,0)),(4096,.live 5 [.agg [.t (.int .i64 0),.nil,.nil,.nil,.nil]] true true)]) id ?_ ?_ rfl rfl;all_goals simp(disch:=omega)only[go_sem,id,qA3]
  all_goals rfl
 clear hA p hk;rintro⟨k,n,p⟩ ⟨hk,hl,hA⟩;simp only at hk hl hA;have ln:n.length=k:=by rw[hl,length_take];omega
 rcases(by omega:k<ns.length\/k=ns.length)with c|hke
 .obtain⟨x,hg,hm,hdr⟩:=qX c;rw[hdr,flatMap_cons,append_assoc]at hA;obtain⟨f,hA'⟩:=At.w8 hA (s3 x hm);have hx:=s3 x hm;unfold tmI at hx;have e:=wW (s:=(B,p,0)) (k:=8) ⟨hA.ok hlt,oM,oM⟩;have d:=qW8 (s:=(B,p+8,0)) (hA'.ok hlt);rw[f,k8]at e;simp only[rdO]at e d;simp(disch:=omega)only[go_sem,qA3,c,h4,h6,e,d,ln];repeat refine aiG ?_
  refine qYo.of (k+1,n++[x],p+8) ⟨by show k+1<=_;omega,by rw[hl];exact(qPr hg).symm,hA'⟩ (by show ns.length-(k+1)<ns.length-k;omega) (qL.rd (λj=>if j=9003 then 106560 else j) ?_ ?_ rfl);all_goals simp(disch:=omega)only[go_sem,id,qA3,iT]
  all_goals simp only[map_append,mcn,iT]
 subst hke;rw[take_length]at hl;subst hl;rw[drop_length,flatMap_nil,nil_append,qXq oM]at hA;obtain⟨f,hA'⟩:=hA.byte oM;have e:=wW (s:=(B,p,0)) (k:=1) ⟨hA.ok hlt,oM,oM⟩;have d:=qW8 (s:=(B,p+1,0)) (hA'.ok hlt);rw[f,k1]at e;simp only[rdO]at e d;simp(disch:=omega)only[go_sem,qA3,h4,h6,h7,e,d,e7];repeat refine aiG ?_
 refine jZ (σ:=Nat×List (List UInt8)×Nat) (λt=>t.1<=bl.length/\t.2.1=bl.take t.1/\At B t.2.2 ((bl.drop t.1).flatMap wB)) (λt=>bl.length-t.1) (λt=>[(2,.ref 4096 0 0),(11,.ref 32800 0 0),(12,.ref 36896 0 0),(104,.t (.int .i64 bl.length)),(105,.t (.int .i64 t.1))]) (λt=>[(9004,.live 1 ((t.2.1.map bsT).map V.t) true false),(9003,.live 1 ((n.map iT).map V.t) true false),(9002,.live 3 ((m.map azA).map V.t) true false),(9001,.live 1 ((l.map iT).map V.t) true false),(36896,.live 5 [.agg [.t (.int .i64 co),.sl 9001 0 l.length,.sl 9002 0 m.length,.sl 9003 0 n.length,.sl 9004 0 t.1]] true true),(32800,yS (B,t.2.2,0)),(4096,.live 5 [.agg [.t (.int .i64 0),.nil,.nil,.nil,.nil]] true true)]) (0,[],p+1) ⟨sM,rfl,hA'⟩ ?_ ?_
 .refine qL.cv0 (hv:=[(9004,.live 1 [] true false)]) (ho:=[(9003,.live 1 ((n.map iT).map V.t) true false),(9002,.live 3 ((m.map azA).map V.t) true false),(9001,.live 1 ((l.map iT).map V.t) true false),(36896,.live 5 [.agg [.t (.int .i64 co),.sl 9001 0 l.length,.sl 9002 0 m.length,.sl 9003 0 n.length,.sl 9004 0 0]] true true),(32800,yS (B,p+1,0)),(4096,.live 5 [.agg [.t (.int .i64 0),.nil,.nil,.nil,.nil]] true true)]) id ?_ ?_ rfl rfl;all_goals simp(disch:=omega)only[go_sem,id,qA3]
  all_goals rfl
 clear hA hA' e d f p hk;rintro⟨k,o,p⟩ ⟨hk,hl,hA⟩;simp only at hk hl hA;have lo:o.length=k:=by rw[hl,length_take];omega
 rcases(by omega:k<bl.length\/k=bl.length)with c|hke
 .obtain⟨x,hg,hm,hdr⟩:=qX c;rw[hdr,flatMap_cons]at hA;obtain⟨f,hA'⟩:=At.wblm 1024 hA (s4 x hm) oM;have e:=qF2 (s:=(B,p,0)) (k:=1024) ⟨hA.ok hlt,oM⟩;rw[f,zR5]at e;simp only[rdO]at e;simp(disch:=omega)only[go_sem,qA3,c,h5,e,lo];repeat refine aiG ?_
  refine qYo.of (k+1,o++[x],p+2+x.length) ⟨by show k+1<=_;omega,by rw[hl];exact(qPr hg).symm,hA'⟩ (by show bl.length-(k+1)<bl.length-k;omega) (qL.rd (λj=>if j=9004 then 135248 else j) ?_ ?_ rfl);all_goals simp(disch:=omega)only[go_sem,id,qA3,qG]
  all_goals simp only[map_append,mcn,qG]
 subst hke;rw[take_length]at hl;subst hl;rw[drop_length,flatMap_nil]at hA;have hp:=hA.end;have e:=qSn (s:=(B,p,0)) (hA.ok hlt);rw[show xM (B,p,0)=0 from if_neg (by simp only;omega)]at e;simp only[rdO]at e;simp(disch:=omega)only[go_sem,qA3,h8,e,take_length];repeat refine aiG ?_
 exact hK _ rfl
end Go.Eng
end
