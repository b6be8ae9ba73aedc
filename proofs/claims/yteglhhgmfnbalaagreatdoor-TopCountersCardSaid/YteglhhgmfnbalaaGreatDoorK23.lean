/- A part of an abstract machine, its walks, their tie. -/
import Derived.Test.YteglhhgmfnbalaaGreatDoorK22
set_option linter.all false
section
set_option maxHeartbeats 64000000
set_option maxRecDepth 20000
namespace Go.Eng
open List
variable (tab:Tab)(gl:Gl)
variable {vv:V}{oo:List Ob}
def bY (n:Int):UInt8:=UInt8.ofNat (m64 n)
def bO (b:Bool):UInt8:=if b then 1 else 0
def eA0 (s:Sa):List UInt8:=[1,bY s.act]
def eA3 (s:Sa):List UInt8:=blL (s.au.foldl blL (s.sd.foldl blL (eA0 s))) s.en
def eA4 (s:Sa):List UInt8:=eA3 s++beI 8 s.res 8++beI 8 s.rst 8++beI 8 s.clk 8
def eA5 (s:Sa):List UInt8:=blL (eA4 s++[bO s.ord]) (qDn s.bk s.u)
def eA6 (s:Sa):List UInt8:=eA5 s++beI 8 s.mc 8++[bY s.ix.length]
def ixE (b:List UInt8)(x:Ix):List UInt8:=blL (blL (blL (b++[bY x.n]++[bY x.kd]++[bY x.ar]++beI 2 x.sz 2++[bO x.wr]) x.po) x.au) x.da
def eA7 (s:Sa):List UInt8:=s.ix.foldl ixE (eA6 s)
def nuE (b:List UInt8)(l:List Int):List UInt8:=l.foldl (λb n=>b++beI 8 n 8) b
def eA8 (s:Sa):List UInt8:=nuE (eA7 s) [s.lk.fa,s.lk.mx,s.lk.rc,s.lk.si,s.lk.cl,s.lk.pe]
def eA9 (s:Sa):List UInt8:=eA8 s++[bY s.ks.length]
def lvE (b:List UInt8)(k:Lv):List UInt8:=blL b k.un++[bY k.us]
def qCs (s:Sa):List UInt8:=s.ks.foldl lvE (eA9 s)
theorem yL {α:Type}{f:List UInt8->α->List UInt8}{l:List α}{b:List UInt8}{k:Nat}{x:α}(h:l[k]?=some x):(l.take (k+1)).foldl f b=f ((l.take k).foldl f b) x:=by
 have hk:k<l.length:=by
  rcases Nat.lt_or_ge k l.length with h1|h1
  .exact h1
  .rw[getElem?_eq_none h1]at h;cases h
 have e:l[k]=x:=by rw[getElem?_eq_getElem hk]at h;exact Option.some.inj h
 rw[take_succ_eq_append_getElem hk,foldl_append,e];rfl
theorem qAs {α:Type}{f:List UInt8->α->List UInt8}{c:Nat}:∀{l:List α}{b:List UInt8},(∀b,∀x∈l,(f b x).length<=b.length+c)->(l.foldl f b).length<=b.length+c*l.length
 |[],b,_=>sM
 |x::r,b,h=>by
  have h1:=h b x sM;have h2:=qAs (l:=r) (b:=f b x) (λb y hy=>h b y (by simp[hy]));simp only[foldl_cons,length_cons];have e:c*(r.length+1)=c*r.length+c:=by rw[Nat.mul_add,Nat.mul_one]
  omega
theorem jJ3 {n:Int}:(beI 8 n 8).length=8:=by simp[beI]
theorem yC4 {n:Int}:(beI 2 n 2).length=2:=by simp[beI]
theorem jCa {b x:List UInt8}{c:Nat}(h:x.length<=c):(blL b x).length<=b.length+(2+c):=by rw[jY];omega
theorem zHx {bk:List zD}{u:Int}(h:RV bk):(qDn bk u).length<=2100:=by
 have h9:=qQj (bk:=bk) (u:=u);rcases h.cases with rfl|⟨b0,b1,rfl,g0,g1,m0,m1⟩
 .unfold qDn;rw[length_append,h9];simp
 .have q0:List.length b0<=16:=by rcases g0 with h|h<;>omega
  have q1:List.length b1<=16:=by rcases g1 with h|h<;>omega
  have f0:b0.flatten.length<=1024:=by have:=qPd m0 16;rw[take_of_length_le q0]at this;omega
  have f1:b1.flatten.length<=1024:=by have:=qPd m1 16;rw[take_of_length_le q1]at this;omega
  have e:[b0,b1].flatten.flatten.length=b0.flatten.length+b1.flatten.length:=by simp[flatten_append]
  unfold qDn;rw[length_append,h9,e];omega
theorem jLy {s:Sa}(h:s.Ok)(k:Nat):((s.sd.take k).foldl blL (eA0 s)).length<=2+34*3:=by
 have h1:=qAs (f:=blL) (c:=34) (l:=s.sd.take k) (b:=eA0 s) (λb x hx=>jCa (c:=32) (h.sd.2 x (mem_of_mem_take hx)));have h2:=h.sd.1;have h3:(s.sd.take k).length<=3:=by rw[length_take];omega
 have h4:(eA0 s).length=2:=rfl;omega
theorem jLv {s:Sa}(h:s.Ok)(k:Nat):((s.au.take k).foldl blL (s.sd.foldl blL (eA0 s))).length<=2+34*7:=by
 have h1:=qAs (f:=blL) (c:=34) (l:=s.au.take k) (b:=s.sd.foldl blL (eA0 s)) (λb x hx=>jCa (c:=32) (h.au.2 x (mem_of_mem_take hx)));have h2:=h.au.1;have h3:(s.au.take k).length<=4:=by rw[length_take];omega
 have h4:=jLy h s.sd.length;rw[take_length]at h4;omega
theorem jCu {s:Sa}(h:s.Ok):(eA3 s).length<=300:=by
 have h1:=jLv h s.au.length;rw[take_length]at h1;have h2:=h.en;unfold eA3;rw[jY];omega
theorem jCv {s:Sa}(h:s.Ok):(eA4 s).length<=324:=by
 have h1:=jCu h;unfold eA4;simp only[length_append,jJ3];omega
theorem jCw {s:Sa}(h:s.Ok):(eA5 s).length<=2500:=by
 have h1:=jCv h;have h2:=zHx (u:=s.u) h.bk.rv;unfold eA5;simp only[jY,length_append,length_cons,length_nil];omega
theorem jCx {s:Sa}(h:s.Ok):(eA6 s).length<=2600:=by
 have h1:=jCw h;unfold eA6;simp only[length_append,length_cons,length_nil,jJ3];omega
theorem Ix.Ok.le {x:Ix}(h:x.Ok):x.po.length<=128/\x.au.length<=128/\x.da.length<=128:=by
 unfold Ix.Ok at h;omega
theorem jM6 {b:List UInt8}{x:Ix}(h:x.Ok):(ixE b x).length<=b.length+400:=by
 have h1:=h.le;unfold ixE;simp only[jY,length_append,length_cons,length_nil,yC4];omega
theorem jLw {s:Sa}(h:s.Ok)(k:Nat):((s.ix.take k).foldl ixE (eA6 s)).length<=5000:=by
 have h1:=qAs (f:=ixE) (c:=400) (l:=s.ix.take k) (b:=eA6 s) (λb x hx=>jM6 (h.ix.2 x (mem_of_mem_take hx)));have h2:=h.ix.1;have h3:(s.ix.take k).length<=6:=by rw[length_take];omega
 have h4:=jCx h;omega
theorem zSo {l:List Int}:∀{b:List UInt8},(nuE b l).length=b.length+8*l.length:=by
 induction l with
 |nil=>intro b;simp[nuE]
 |cons n r ih=>
  intro b;have:nuE b (n::r)=nuE (b++beI 8 n 8) r:=rfl;rw[this,ih];simp only[length_append,jJ3,length_cons];omega
theorem jCy {s:Sa}(h:s.Ok):(eA8 s).length<=5100:=by
 have h1:=jLw h s.ix.length;rw[take_length]at h1;unfold eA8;rw[zSo];simp only[length_cons,length_nil];unfold eA7;omega
theorem jLx {s:Sa}(h:s.Ok)(k:Nat):((s.ks.take k).foldl lvE (eA9 s)).length<=5500:=by
 have h1:=qAs (f:=lvE) (c:=40) (l:=s.ks.take k) (b:=eA9 s) (λb x hx=>by
  have h5:=h.ks.2 x (mem_of_mem_take hx);unfold Lv.Ok at h5;unfold lvE;simp only[jY,length_append,length_cons,length_nil];omega)
 have h2:=h.ks.1;have h3:(s.ks.take k).length<=8:=by rw[length_take];omega
 have h4:=jCy h;have h5:(eA9 s).length=(eA8 s).length+1:=by unfold eA9;simp
 omega
theorem qSa {s:Sa}(h:s.Ok):(qCs s).length<=5500:=by
 have h1:=jLx h s.ks.length;rw[take_length]at h1;exact h1
def qOg:ECt where
 α:=Bool
 β:=UInt8
 aS:=λb=>[.t (.bool b)]
 pre:=λb=>True
 r:=λr'=>.t (qA r')
 R:=λb r'=>r'=bO b
theorem jDt {g:EF qOg}{b:Bool}:qOg.fs g [.t (.bool b)] []=some (.t (qA (bO b)),[]):=fnQ qOg b trivial
theorem jWf {b:Bool}(hV:vv=.t (qA (bO b)))(hO:oo=[]):qOg.K b vv oo:=⟨_,rfl,hV,hO⟩
def qNd:ECt where
 α:=List (List UInt8)×Int
 β:=List UInt8
 aS:=λ(l,i)=>[.t (.sl (l.map bsT)),.t (.int .i64 i)]
 pre:=λ(l,i)=>0<=i/\i<=100/\l.length<=100000
 r:=λr'=>.t (.sl (r'.map qA))
 R:=λ(l,i) r'=>r'=l.getD i.toNat []
theorem jB7 {g:EF qNd}{l:List (List UInt8)}{i:Int}(hp:0<=i/\i<=100/\l.length<=100000):qNd.fs g [.t (.sl (l.map bsT)),.t (.int .i64 i)] []=some (.t (.sl ((l.getD i.toNat []).map qA)),[]):=fnQ qNd (l,i) hp
theorem jKn {l:List (List UInt8)}{i:Int}(hV:vv=.t (.sl ((l.getD i.toNat []).map qA)))(hO:oo=[]):qNd.K (l,i) vv oo:=⟨_,rfl,hV,hO⟩
def qKq:ECt where
 α:=Sa
 β:=List UInt8
 aS:=λs=>[.t (saA s)]
 pre:=λs=>s.Ok
 r:=λr=>.sl 0 0 r.length
 outs:=λr=>[.live 1 ((r.map qA).map V.t) true false]
 R:=λs r=>r=qCs s
theorem zUb {g:EF qKq}{s:Sa}(hp:s.Ok):∃(r:List UInt8),(r=qCs s)/\qKq.fs g [.t (saA s)] []=some (.sl 0 0 r.length,[.live 1 ((r.map qA).map V.t) true false]):=qKq.eq g s hp
theorem jW4 {s:Sa}(r:List UInt8)(hR:r=qCs s)(hV:vv=.sl 0 0 r.length)(hO:oo=[.live 1 ((r.map qA).map V.t) true false]):qKq.K s vv oo:=⟨r,hR,hV,hO⟩
def jDn:List T:=[qA 83,qA 87]
def hsF (b:List UInt8)(h:Int):List UInt8:=b++beI 2 h 2
def azE (b:List UInt8)(a:Az):List UInt8:=blL (blL (b++beI 2 a.s 2) a.no) a.va
def nsF (b:List UInt8)(n:Int):List UInt8:=b++beI 8 n 8
def rq0 (co:Int):List UInt8:=[83,87,0,0,u8I co]
def rq1 (co:Int)(hh:List Int):List UInt8:=hh.foldl hsF (rq0 co)
def rq2 (co:Int)(hh:List Int)(au:List Az):List UInt8:=au.foldl azE (rq1 co hh)
def rq3 (co:Int)(hh:List Int)(au:List Az)(ns:List Int):List UInt8:=ns.foldl nsF (rq2 co hh au)
def rqG (q:Rq):List UInt8:=q.bl.foldl blL (rq3 q.co q.hs q.au q.ns++[u8I q.bl.length])
def rqB (q:Rq):List UInt8:=(rqG q).take 2++beI 2 ((rqG q).length:Int) 2++(rqG q).drop 4
theorem jKu {n:Int}:(beI 2 n 2).length=2:=by simp[beI]
theorem jKv {n:Int}:(beI 8 n 8).length=8:=by simp[beI]
theorem zTn {co:Int}{hh:List Int}(k:Nat)(h:hh.length<=8):((hh.take k).foldl hsF (rq0 co)).length<=21:=by
 have h1:=qAs (f:=hsF) (c:=2) (l:=hh.take k) (b:=rq0 co) (λb x _=>by unfold hsF;rw[length_append,jKu];omega);have h3:(hh.take k).length<=8:=by rw[length_take];omega
 have h4:(rq0 co).length=5:=rfl;omega
theorem zTo {co:Int}{hh:List Int}{au:List Az}(k:Nat)(h:hh.length<=8)(ha:au.length<=8)(hb:∀a∈au,a.no.length<=4000/\a.va.length<=4000):((au.take k).foldl azE (rq1 co hh)).length<=70000:=by
 have h1:=qAs (f:=azE) (c:=8006) (l:=au.take k) (b:=rq1 co hh) (λb x hx=>by
  have:=hb x (mem_of_mem_take hx);unfold azE;rw[jY,jY,length_append,jKu];omega)
 have h3:(au.take k).length<=8:=by rw[length_take];omega
 have h4:(rq1 co hh).length<=21:=by have:=zTn (co:=co) hh.length h;rw[take_length]at this;exact this
 omega
theorem zTp {co:Int}{hh:List Int}{au:List Az}{ns:List Int}(k:Nat)(h:hh.length<=8)(ha:au.length<=8)(hb:∀a∈au,a.no.length<=4000/\a.va.length<=4000)(hn:ns.length<=8):((ns.take k).foldl nsF (rq2 co hh au)).length<=71000:=by
 have h1:=qAs (f:=nsF) (c:=8) (l:=ns.take k) (b:=rq2 co hh au) (λb x _=>by unfold nsF;rw[length_append,jKv];omega);have h3:(ns.take k).length<=8:=by rw[length_take];omega
 have h4:(rq2 co hh au).length<=70000:=by have:=zTo (co:=co) au.length h ha hb;rw[take_length]at this;exact this
 omega
theorem jD6 {q:Rq}(hq:q.B)(k:Nat):((q.bl.take k).foldl blL (rq3 q.co q.hs q.au q.ns++[u8I q.bl.length])).length<=110000:=by
 obtain⟨q1,q2,q3,q4,q5,q6⟩:=hq;have h1:=qAs (f:=blL) (c:=4002) (l:=q.bl.take k) (b:=rq3 q.co q.hs q.au q.ns++[u8I q.bl.length]) (λb x hx=>by
  have:=q5 x (mem_of_mem_take hx);rw[jY];omega)
 have h3:(q.bl.take k).length<=8:=by rw[length_take];omega
 have h4:(rq3 q.co q.hs q.au q.ns).length<=71000:=by have:=zTp (co:=q.co) q.ns.length q1 q2 q6 q3;rw[take_length]at this;exact this
 rw[length_append,length_singleton]at h1;omega
theorem qWl {α:Type}{f:List UInt8->α->List UInt8}(h:∀b x,∃r,f b x=b++r):∀{l:List α}{b:List UInt8},∃r,l.foldl f b=b++r
 |[],b=>⟨[],sM⟩
 |x::r,b=>by
  obtain⟨y,e⟩:=h b x;obtain⟨z,e2⟩:=qWl h (l:=r) (b:=f b x);exact⟨y++z,by rw[foldl_cons,e2,e,append_assoc]⟩
theorem qVf (q:Rq):∃r,rqG q=83::87::0::0::r:=by
 unfold rqG rq3 rq2 rq1;obtain⟨a,e1⟩:=qWl (f:=hsF) (λb x=>⟨_,rfl⟩) (l:=q.hs) (b:=rq0 q.co);obtain⟨b,e2⟩:=qWl (f:=azE) (λb x=>⟨_,by unfold azE;rw[blL,blL,append_assoc,append_assoc,append_assoc,append_assoc]⟩) (l:=q.au) (b:=rq0 q.co++a);obtain⟨c,e3⟩:=qWl (f:=nsF) (λb x=>⟨_,rfl⟩) (l:=q.ns) (b:=rq0 q.co++a++b);obtain⟨d,e4⟩:=qWl (f:=blL) (λb x=>⟨_,by rw[blL,append_assoc]⟩) (l:=q.bl) (b:=rq0 q.co++a++b++c++[u8I q.bl.length]);rw[e1,e2,e3,e4];exact⟨_,rfl⟩
def qJ5:ECt where
 α:=Rq
 β:=List UInt8
 aS:=λq=>[.t (rqA q)]
 pre:=λq=>q.B
 r:=λb=>.t (.sl (b.map qA))
 R:=λq b=>b=rqB q
theorem jK8 {g:EF qJ5}{q:Rq}(hp:q.B):∃(b:List UInt8),(b=rqB q)/\qJ5.fs g [.t (rqA q)] []=some (.t (.sl (b.map qA)),[]):=qJ5.eq g q hp
theorem jTz {q:Rq}(b:List UInt8)(hR:b=rqB q)(hV:vv=.t (.sl (b.map qA)))(hO:oo=[]):qJ5.K q vv oo:=⟨b,hR,hV,hO⟩
theorem qXv (h1:gl 0=some jDn)(h2:LkC tab 63 yQ)(h3:LkC tab 66 qGu)(q:Rq)(hp:q.B) :
  qDa.1.wp tab gl (qD 0 [.t (rqA q)]) (qD 0 []) (qZ [(2,none)] 0 (qJ5.K q)):=by
 have hG:=qVf q;have hL:=jD6 hp;have hK:∀vv,vv=.t (.sl ((rqB q).map qA))->qJ5.K q vv []:=λvv h=>jTz (rqB q) rfl h rfl
 have hR:rqB q=(rqG q).take 2++beI 2 ((rqG q).length:Int) 2++(rqG q).drop 4:=rfl;obtain⟨co,hh,au,ns,bl⟩:=q;obtain⟨q1,q2,q3,q4,q5,q6⟩:=hp;simp only at q1 q2 q3 q4 q5 q6 hL;have k2:((2:Nat):Int)=2:=rfl;have k8:((8:Nat):Int)=8:=rfl;simp only[jDn]at h1;simp(disch:=omega)only[go_sem,qDa,rqA,u8w,h1];repeat refine aiG ?_
 refine qB hh.length (λk=>[(1,.ref 4096 0 0),(3,.sl 9000 0 ((hh.take k).foldl hsF (rq0 co)).length),(20,.t (.sl (hh.map iT))),(21,.t (.int .i64 hh.length)),(22,.t (.int .i64 (k:Nat)))]) (λk=>[(9000,.live 1 ((((hh.take k).foldl hsF (rq0 co)).map qA).map V.t) true false),(4096,.live 5 [.t (rqA ⟨co,hh,au,ns,bl⟩)] true true)]) (qL.rd (λj=>if j=9000 then 8288 else j) ?_ ?_ rfl) (λk hk=>?_)
 .simp(disch:=omega)only[go_sem,id,take_zero,foldl_nil,rq0,length_cons,length_nil]
 .simp(disch:=omega)only[go_sem,id,rqA,take_zero,foldl_nil,rq0,mcn]
 have le:=zTn (co:=co) k q1;by_cases c:k<hh.length
 .obtain⟨x,hg,hm,_⟩:=qX c;have hf:=yL (f:=hsF) (b:=rq0 co) hg;generalize (hh.take k).foldl hsF (rq0 co)=y at *;have u:=qLs (b:=y) (n:=x) oM;have lb:(hsF y x).length=y.length+2:=by unfold hsF;rw[length_append,qN]
  rw[show y++beI 2 x 2=hsF y x from rfl]at u;simp(disch:=omega)only[go_sem,rqA,c,hg,oms,iT,h2,u];repeat refine aiG ?_
  refine qL.rd (λj=>if j=9000 then 24608 else j) ?_ ?_ rfl;all_goals simp(disch:=omega)only[go_sem,id,rqA,hf,lb]
 obtain rfl:k=hh.length:=oM;have tt:hh.foldl hsF (rq0 co)=rq1 co hh:=rfl;clear le c hk;simp(disch:=omega)only[go_sem,rqA,take_length,tt];refine qB au.length (λk=>[(1,.ref 4096 0 0),(3,.sl 9000 0 ((au.take k).foldl azE (rq1 co hh)).length),(31,.t (.sl (au.map azA))),(32,.t (.int .i64 au.length)),(33,.t (.int .i64 (k:Nat)))]) (λk=>[(9000,.live 1 ((((au.take k).foldl azE (rq1 co hh)).map qA).map V.t) true false),(4096,.live 5 [.t (rqA ⟨co,hh,au,ns,bl⟩)] true true)]) (qL.rd id ?_ ?_ rfl) (λk hk=>?_)
 .simp(disch:=omega)only[go_sem,id,take_zero,foldl_nil,tt]
 .simp(disch:=omega)only[go_sem,id,rqA,take_zero,foldl_nil,tt]
 have le:=zTo (co:=co) (hh:=hh) k q1 q2 q6;by_cases c:k<au.length
 .obtain⟨x,hg,hm,_⟩:=qX c;have hx:=q6 x hm;have hf:=yL (f:=azE) (b:=rq1 co hh) hg;generalize (au.take k).foldl azE (rq1 co hh)=y at *;have u:=qLs (b:=y) (n:=x.s) oM;have d:azE y x=blL (blL (y++beI 2 x.s 2) x.no) x.va:=rfl;have l1:(y++beI 2 x.s 2).length=y.length+2:=by rw[length_append,qN]
  generalize y++beI 2 x.s 2=z at *;have u2:=qAc (b:=z) (x:=x.no) ⟨oM,oM⟩;have l2:=jY (b:=z) (x:=x.no);generalize blL z x.no=w at *;have u3:=qAc (b:=w) (x:=x.va) ⟨oM,oM⟩;have l3:=jY (b:=w) (x:=x.va);rw[<-d]at u3 l3;have t1:List.take (y.length+2) z=z:=take_of_length_le oM;have t2:List.take (z.length+2+x.no.length) w=w:=take_of_length_le oM;simp(disch:=omega)only[go_sem,rqA,c,hg,oms,azA,h2,h3,u,u2,u3,t1,t2];repeat refine aiG ?_
  refine qL.rd (λj=>if j=9000 then 45200 else j) ?_ ?_ rfl;all_goals simp(disch:=omega)only[go_sem,id,rqA,hf,l3]
 obtain rfl:k=au.length:=oM;have tt:au.foldl azE (rq1 co hh)=rq2 co hh au:=rfl;clear le c hk;simp(disch:=omega)only[go_sem,rqA,take_length,tt];refine qB ns.length (λk=>[(1,.ref 4096 0 0),(3,.sl 9000 0 ((ns.take k).foldl nsF (rq2 co hh au)).length),(49,.t (.sl (ns.map iT))),(50,.t (.int .i64 ns.length)),(51,.t (.int .i64 (k:Nat)))]) (λk=>[(9000,.live 1 ((((ns.take k).foldl nsF (rq2 co hh au)).map qA).map V.t) true false),(4096,.live 5 [.t (rqA ⟨co,hh,au,ns,bl⟩)] true true)]) (qL.rd id ?_ ?_ rfl) (λk hk=>?_)
 .simp(disch:=omega)only[go_sem,id,take_zero,foldl_nil,tt]
 .simp(disch:=omega)only[go_sem,id,rqA,take_zero,foldl_nil,tt]
 have le:=zTp (co:=co) (hh:=hh) (au:=au) k q1 q2 q6 q3;by_cases c:k<ns.length
 .obtain⟨x,hg,hm,_⟩:=qX c;have hf:=yL (f:=nsF) (b:=rq2 co hh au) hg;generalize (ns.take k).foldl nsF (rq2 co hh au)=y at *;have u:=qUd (b:=y) (n:=x) oM;have lb:(nsF y x).length=y.length+8:=by unfold nsF;rw[length_append,qN]
  rw[show y++beI 8 x 8=nsF y x from rfl]at u;simp(disch:=omega)only[go_sem,rqA,c,hg,oms,iT,h2,u];repeat refine aiG ?_
  refine qL.rd (λj=>if j=9000 then 65568 else j) ?_ ?_ rfl;all_goals simp(disch:=omega)only[go_sem,id,rqA,hf,lb]
 obtain rfl:k=ns.length:=oM;have tt:ns.foldl nsF (rq2 co hh au)=rq3 co hh au ns:=rfl;have l3:(rq3 co hh au ns).length<=71000:=by rw[take_length]at le;exact le
 clear le c hk;simp(disch:=omega)only[go_sem,rqA,u8w,take_length,tt];refine qB bl.length (λk=>[(3,.sl 9000 0 ((bl.take k).foldl blL (rq3 co hh au ns++[u8I bl.length])).length),(67,.t (.sl (bl.map bsT))),(68,.t (.int .i64 bl.length)),(69,.t (.int .i64 (k:Nat)))]) (λk=>[(9000,.live 1 ((((bl.take k).foldl blL (rq3 co hh au ns++[u8I bl.length])).map qA).map V.t) true false)]) (qL.rd (λj=>if j=9000 then 73824 else j) ?_ ?_ rfl) (λk hk=>?_)
 .simp(disch:=omega)only[go_sem,id,take_zero,foldl_nil,length_append,length_cons,length_nil]
 .simp(disch:=omega)only[go_sem,id,take_zero,foldl_nil]
 have le:=hL k;by_cases c:k<bl.length
 .obtain⟨x,hg,hm,_⟩:=qX c;have hx:=q5 x hm;have hf:=yL (f:=blL) (b:=rq3 co hh au ns++[u8I bl.length]) hg;generalize (bl.take k).foldl blL (rq3 co hh au ns++[u8I bl.length])=y at *;have u:=qAc (b:=y) (x:=x) ⟨oM,oM⟩;have lb:=jY (b:=y) (x:=x);simp(disch:=omega)only[go_sem,c,hg,h3,u];repeat refine aiG ?_
  refine qL.rd (λj=>if j=9000 then 90144 else j) ?_ ?_ rfl;all_goals simp(disch:=omega)only[go_sem,id,hf,lb]
 obtain rfl:k=bl.length:=oM;have hG:bl.foldl blL (rq3 co hh au ns++[u8I bl.length])=rqG ⟨co,hh,au,ns,bl⟩:=rfl;rw[take_length,hG]at le;have u:=qLs (b:=[]) (n:=((rqG ⟨co,hh,au,ns,bl⟩).length:Int)) sM;simp only[map_nil,nil_append,length_nil]at u;have hG4:4<=(rqG ⟨co,hh,au,ns,bl⟩).length:=by obtain⟨r,hr⟩:=qVf ⟨co,hh,au,ns,bl⟩;rw[hr];simp
 generalize rqG ⟨co,hh,au,ns,bl⟩=G at *;have lb:(beI 2 (G.length:Int) 2).length=2:=qN;have tb:List.take 2 (beI 2 (G.length:Int) 2)=beI 2 (G.length:Int) 2:=take_of_length_le oM;have hS:zY (List.map V.t (List.map qA G)) 2 (List.map V.t (List.map qA (beI 2 (G.length:Int) 2)))=List.map V.t (List.map qA (rqB ⟨co,hh,au,ns,bl⟩)):=by
  rw[hR];simp only[zY,length_map,lb,map_append,map_take,map_drop]
 have lR:(rqB ⟨co,hh,au,ns,bl⟩).length=G.length:=by
  rw[hR];simp only[length_append,length_take,length_drop,lb];omega
 have tR:List.take G.length (rqB ⟨co,hh,au,ns,bl⟩)=rqB ⟨co,hh,au,ns,bl⟩:=take_of_length_le oM;simp(disch:=omega)only[go_sem,take_length,hG,h2,u,lb,tb,hS,lR,tR];repeat refine aiG ?_
 exact hK _ rfl
theorem zDr (h1:LkC tab 32 qDl)(h2:LkC tab 34 yQ)(h3:LkC tab 33 yP)(bk:List zD)(u s0 s1:Int)(hv:RV bk) :
  qGm.1.wp tab gl (qD 0 [.t (yR bk u),.t (.agg [.int .i64 s0,.int .i64 s1])]) (qD 0 []) (xO [] [(4,none),(5,none)] 0 (λr o=>r=zHv bk s0 s1/\o=zHu bk s0 s1)):=by
 have hm:=hv.rm;simp(disch:=omega)only[go_sem,qGm];by_cases b0:zDz s0
 .have hE:qR5 bk s0 s1=1:=by unfold qR5;rw[if_pos (.inl b0)]
  rw[zHv,zHu,hE];unfold zDz at b0;refine qJ 1 ?_;by_cases c0:s0<0
  .simp(disch:=omega)only[go_sem,qF,c0]
  .simp(disch:=omega)only[go_sem,qF,c0]
 have hb0:¬ s0<0/\¬ 65535<s0:=by unfold zDz at b0;omega
 obtain⟨c0,d0⟩:=hb0;by_cases b1:zDz s1
 .have hE:qR5 bk s0 s1=1:=by unfold qR5;rw[if_pos (.inr b1)]
  rw[zHv,zHu,hE];unfold zDz at b1;refine qJ 2 ?_;by_cases c1:s1<0
  .simp(disch:=omega)only[go_sem,qF,c0,d0,c1]
  .simp(disch:=omega)only[go_sem,qF,c0,d0,c1]
 have hb1:¬ s1<0/\¬ 65535<s1:=by unfold zDz at b1;omega
 obtain⟨c1,d1⟩:=hb1;refine qJ 3 ?_;simp(disch:=omega)only[go_sem,qF,c0,d0,c1,d1];refine zAi 2 (PD (s0=0\/onB bk 0=true) (s1=0\/onB bk 1=true)) (λk=>match k with|0=>[(2,.ref 4096 0 0),(3,.ref 4112 0 0),(7,.sl 9100 0 (List.length ([]:List UInt8))),(8,.t (.int .i64 0))]|1=>[(2,.ref 4096 0 0),(3,.ref 4112 0 0),(7,.sl 9100 0 (List.length (qC5 bk 0 s0 16))),(8,.t (.int .i64 1))]|_=>[(2,.ref 4096 0 0),(3,.ref 4112 0 0),(7,.sl 9100 0 (List.length (qC5 bk 0 s0 16++qC5 bk 1 s1 16))),(8,.t (.int .i64 2))]) (λk=>match k with|0=>[(9100,.live 1 ((([]:List UInt8).map qA).map V.t) true false),(4112,.live 1 [.t (.int .i64 s0),.t (.int .i64 s1)] true true),(4096,.live 2 [.t (yR bk u)] true true)]|1=>[(9100,.live 1 (((qC5 bk 0 s0 16).map qA).map V.t) true false),(4112,.live 1 [.t (.int .i64 s0),.t (.int .i64 s1)] true true),(4096,.live 2 [.t (yR bk u)] true true)]|_=>[(9100,.live 1 (((qC5 bk 0 s0 16++qC5 bk 1 s1 16).map qA).map V.t) true false),(4112,.live 1 [.t (.int .i64 s0),.t (.int .i64 s1)] true true),(4096,.live 2 [.t (yR bk u)] true true)]) ⟨λh=>absurd h oM,λh=>absurd h oM⟩ ?_ (λk hk hP=>?_)
 .refine qL.cv0 (hv:=[(9100,.live 1 [] true false)]) (ho:=[(4112,.live 1 [.t (.int .i64 s0),.t (.int .i64 s1)] true true),(4096,.live 2 [.t (yR bk u)] true true)]) id ?_ ?_ rfl rfl;all_goals simp(disch:=omega)only[go_sem,id,mcn,length_nil]
 .rcases(show k=0\/k=1\/k=2 by omega)with rfl|rfl|rfl
  .by_cases z:s0=0
   .have zz:(s0==0)=true:=by simpa using z
    simp(disch:=omega)only[go_sem,zz];refine qB 16 (λi=>[(2,.ref 4096 0 0),(3,.ref 4112 0 0),(7,.sl 9100 0 (List.length (qC5 bk 0 s0 i))),(8,.t (.int .i64 0)),(9,.t (.int .i64 (i:Nat)))]) (λi=>[(9100,.live 1 (((qC5 bk 0 s0 i).map qA).map V.t) true false),(4112,.live 1 [.t (.int .i64 s0),.t (.int .i64 s1)] true true),(4096,.live 2 [.t (yR bk u)] true true)]) ?_ (λi hi=>?_)
    .refine qL.rd id ?_ ?_ rfl;all_goals simp(disch:=omega)only[go_sem,id,qTy,append_nil]
    .have l0:=vX hv 0 s0 16;have l1:=vX hv 0 s0 i;by_cases hlt:i<16
     .have hsh:s0.fdiv (2^i)=s0/2^i:=Int.fdiv_eq_ediv_of_nonneg _ (Int.le_of_lt (Int.pow_pos (by decide)));have hb:¬ s0/2^i%2=1:=by rw[z];simp
      simp(disch:=omega)only[go_sem,hsh,hb];refine⟨hlt,qL.rd id ?_ ?_ rfl⟩;all_goals simp(disch:=omega)only[go_sem,id,qF6 (bk:=bk) (a:=0) hb]
     .have e:i=16:=oM;subst e;simp(disch:=omega)only[go_sem];refine⟨⟨λ_=>.inl z,λh=>absurd h oM⟩,qL.rd id ?_ ?_ rfl⟩;all_goals simp(disch:=omega)only[go_sem,id]
   .have zz:(s0==0)=false:=by simpa using z
    have c0:=zPp (u:=u) (a:=0) hv.1 oM;rw[show((0:Nat):Int)=0 from rfl]at c0;cases ho:onB bk 0
    .rw[ho]at c0;have hE:qR5 bk s0 s1=27:=by
      unfold qR5;rw[if_neg (by rintro (h|h);exact b0 h;exact b1 h),if_pos (.inl ⟨z,ho⟩)]
     rw[zHv,zHu,hE];simp(disch:=omega)only[go_sem,zz,h1,c0]
    .rw[ho]at c0;have hbl:=hv.1.len ho;have hbn:List.length (bk.getD 0 [])=16:=by simpa [onB]using ho
     simp(disch:=omega)only[go_sem,zz,h1,c0];refine qB 16 (λi=>[(2,.ref 4096 0 0),(3,.ref 4112 0 0),(7,.sl 9100 0 (List.length (qC5 bk 0 s0 i))),(8,.t (.int .i64 0)),(9,.t (.int .i64 (i:Nat)))]) (λi=>[(9100,.live 1 (((qC5 bk 0 s0 i).map qA).map V.t) true false),(4112,.live 1 [.t (.int .i64 s0),.t (.int .i64 s1)] true true),(4096,.live 2 [.t (yR bk u)] true true)]) ?_ (λi hi=>?_)
     .refine qL.rd id ?_ ?_ rfl;all_goals simp(disch:=omega)only[go_sem,id,qTy,append_nil]
     .have l0:=vX hv 0 s0 16;have l1:=vX hv 0 s0 i;by_cases hlt:i<16
      .have hsh:s0.fdiv (2^i)=s0/2^i:=Int.fdiv_eq_ediv_of_nonneg _ (Int.le_of_lt (Int.pow_pos (by decide)));by_cases hb:s0/2^i%2=1
       .have hvl:=hm.val 0 i;have hx:(bk.getD 0 []).getD i []=zG6 bk 0 i:=rfl;simp(disch:=omega)only[go_sem,hsh,hb,hx];refine⟨hlt,qL.rd (λj=>if j=9100 then 69776 else j) ?_ ?_ rfl⟩;all_goals simp(disch:=omega)only[go_sem,qVg (bk:=bk) (a:=0) hb,append_assoc]
        all_goals try omega
       .simp(disch:=omega)only[go_sem,hsh,hb];refine⟨hlt,qL.rd id ?_ ?_ rfl⟩;all_goals simp(disch:=omega)only[go_sem,id,qF6 (bk:=bk) (a:=0) hb]
      .have e:i=16:=oM;subst e;simp(disch:=omega)only[go_sem];refine⟨⟨λ_=>(by first|exact .inr ho|trivial),λh=>absurd h oM⟩,qL.rd id ?_ ?_ rfl⟩;all_goals simp(disch:=omega)only[go_sem,id]
  .by_cases z:s1=0
   .have zz:(s1==0)=true:=by simpa using z
    simp(disch:=omega)only[go_sem,zz];refine qB 16 (λi=>[(2,.ref 4096 0 0),(3,.ref 4112 0 0),(7,.sl 9100 0 (List.length (qC5 bk 0 s0 16++qC5 bk 1 s1 i))),(8,.t (.int .i64 1)),(9,.t (.int .i64 (i:Nat)))]) (λi=>[(9100,.live 1 (((qC5 bk 0 s0 16++qC5 bk 1 s1 i).map qA).map V.t) true false),(4112,.live 1 [.t (.int .i64 s0),.t (.int .i64 s1)] true true),(4096,.live 2 [.t (yR bk u)] true true)]) ?_ (λi hi=>?_)
    .refine qL.rd id ?_ ?_ rfl;all_goals simp(disch:=omega)only[go_sem,id,qTy,append_nil]
    .have l0:=vX hv 0 s0 16;have l1:=vX hv 1 s1 i;by_cases hlt:i<16
     .have hsh:s1.fdiv (2^i)=s1/2^i:=Int.fdiv_eq_ediv_of_nonneg _ (Int.le_of_lt (Int.pow_pos (by decide)));have hb:¬ s1/2^i%2=1:=by rw[z];simp
      simp(disch:=omega)only[go_sem,hsh,hb];refine⟨hlt,qL.rd id ?_ ?_ rfl⟩;all_goals simp(disch:=omega)only[go_sem,id,qF6 (bk:=bk) (a:=1) hb]
     .have e:i=16:=oM;subst e;simp(disch:=omega)only[go_sem];refine⟨⟨λ_=>hP.1 oM,λ_=>.inl z⟩,qL.rd id ?_ ?_ rfl⟩;all_goals simp(disch:=omega)only[go_sem,id]
   .have zz:(s1==0)=false:=by simpa using z
    have c1:=zPp (u:=u) (a:=1) hv.1 oM;rw[show((1:Nat):Int)=1 from rfl]at c1;cases ho:onB bk 1
    .rw[ho]at c1;have hE:qR5 bk s0 s1=27:=by
      unfold qR5;rw[if_neg (by rintro (h|h);exact b0 h;exact b1 h),if_pos (.inr ⟨z,ho⟩)]
     rw[zHv,zHu,hE];simp(disch:=omega)only[go_sem,zz,h1,c1]
    .rw[ho]at c1;have hbl:=hv.1.len ho;have hbn:List.length (bk.getD 1 [])=16:=by simpa [onB]using ho
     simp(disch:=omega)only[go_sem,zz,h1,c1];refine qB 16 (λi=>[(2,.ref 4096 0 0),(3,.ref 4112 0 0),(7,.sl 9100 0 (List.length (qC5 bk 0 s0 16++qC5 bk 1 s1 i))),(8,.t (.int .i64 1)),(9,.t (.int .i64 (i:Nat)))]) (λi=>[(9100,.live 1 (((qC5 bk 0 s0 16++qC5 bk 1 s1 i).map qA).map V.t) true false),(4112,.live 1 [.t (.int .i64 s0),.t (.int .i64 s1)] true true),(4096,.live 2 [.t (yR bk u)] true true)]) ?_ (λi hi=>?_)
     .refine qL.rd id ?_ ?_ rfl;all_goals simp(disch:=omega)only[go_sem,id,qTy,append_nil]
     .have l0:=vX hv 0 s0 16;have l1:=vX hv 1 s1 i;by_cases hlt:i<16
      .have hsh:s1.fdiv (2^i)=s1/2^i:=Int.fdiv_eq_ediv_of_nonneg _ (Int.le_of_lt (Int.pow_pos (by decide)));by_cases hb:s1/2^i%2=1
       .have hvl:=hm.val 1 i;have hx:(bk.getD 1 []).getD i []=zG6 bk 1 i:=rfl;simp(disch:=omega)only[go_sem,hsh,hb,hx];refine⟨hlt,qL.rd (λj=>if j=9100 then 69776 else j) ?_ ?_ rfl⟩;all_goals simp(disch:=omega)only[go_sem,qVg (bk:=bk) (a:=1) hb,append_assoc]
        all_goals try omega
       .simp(disch:=omega)only[go_sem,hsh,hb];refine⟨hlt,qL.rd id ?_ ?_ rfl⟩;all_goals simp(disch:=omega)only[go_sem,id,qF6 (bk:=bk) (a:=1) hb]
      .have e:i=16:=oM;subst e;simp(disch:=omega)only[go_sem];refine⟨⟨λ_=>hP.1 oM,λ_=>(by first|exact .inr ho|trivial)⟩,qL.rd id ?_ ?_ rfl⟩;all_goals simp(disch:=omega)only[go_sem,id]
  .have l0:=vX hv 0 s0 16;have l1:=vX hv 1 s1 16;have p0:=hP.1 oM;have p1:=hP.2 oM;have hE:qR5 bk s0 s1=0:=by
    unfold qR5;rw[if_neg (by rintro (h|h);exact b0 h;exact b1 h),if_neg];rintro (⟨h1,h2⟩|⟨h1,h2⟩)
    .rcases p0 with h|h
     .exact h1 h
     .rw[h]at h2;cases h2
    .rcases p1 with h|h
     .exact h1 h
     .rw[h]at h2;cases h2
   have hv2:(zG7 bk s0 s1).length<=2048:=by unfold zG7;rw[length_append];omega
   have hh2:(qCz s0 s1).length=4:=by unfold qCz;rw[length_append,qN,qN]
   have hvs:qC5 bk 0 s0 16++qC5 bk 1 s1 16=zG7 bk s0 s1:=rfl;rw[zHv,zHu,if_pos hE,if_pos hE];have hf:(zB 5 [qCz s0 s1,zG7 bk s0 s1]).length<1000000000:=by
    simp only[zB,flatMap_cons,flatMap_nil,length_cons,length_append,length_nil,qBq];omega
   have hq:=zLd hf;have hhs:beI 2 s0 2++beI 2 s1 2=qCz s0 s1:=rfl;have t2:List.take 2 (beI 2 s0 2)=beI 2 s0 2:=take_of_length_le (by rw[qN];exact Nat.le_refl _);have t4:List.take 4 (qCz s0 s1)=qCz s0 s1:=take_of_length_le (by rw[hh2];exact Nat.le_refl _);have hu:=qLs (b:=[]) (n:=s0) (by decide);simp only[map_nil,length_nil,nil_append]at hu;have hu2:=qLs (b:=beI 2 s0 2) (n:=s1) (by rw[qN];omega);rw[qN,hhs]at hu2;have tv:List.take (zG7 bk s0 s1).length (zG7 bk s0 s1)=zG7 bk s0 s1:=take_of_length_le (Nat.le_refl _);simp(disch:=omega)only[go_sem,hvs,h2,h3,hu,hu2,hq,tv,t2,t4,hh2,qN];all_goals try rfl
theorem zYt (n:Nat):n &&& 2=n/2%2*2:=by
 have h1:(n &&& 2)/2=n/2%2:=by
  rw[Nat.and_div_two];exact Nat.and_one_is_mod _
 have h2:(n &&& 2)%2=0:=by
  have:=Nat.and_mod_two_pow (a:=n) (b:=2) (n:=1);simpa using this
 omega
theorem yD3 {x:Int}:qLz .and .i64 x .i64 2=some (.int .i64 (x/2%2*2)):=by
 have h2:((BitVec.ofInt 64 x &&& BitVec.ofInt 64 2).toNat:Int)=x/2%2*2:=by
  rw[BitVec.toNat_and,BitVec.toNat_ofInt];have e2:(BitVec.ofInt 64 2).toNat=2:=by decide
  rw[e2,zYt];have e3:((2^64:Nat):Int)=18446744073709551616:=by decide
  rw[e3];omega
 change some (T.int IntKind.i64 (IntKind.i64.wrap ((BitVec.ofInt 64 x &&& BitVec.ofInt 64 2).toNat:Int)))=_;rw[h2,xP oM]
attribute [go_sem ↓] yD3
def qNb:Ct where
 α:=List zD×Int×Int×Int
 aS x:=[.t (yR x.1 x.2.1),.t (.agg [.int .i64 x.2.2.1,.int .i64 x.2.2.2])]
 ins _:=[]
 pre x:=RV x.1
 r x:=zHv x.1 x.2.2.1 x.2.2.2
 outs x:=zHu x.1 x.2.2.1 x.2.2.2
 inj:=by
  rintro⟨a,u,l,i⟩ ⟨b,v,l',i'⟩ h _;simp only[List.cons.injEq,V.t.injEq,T.int.injEq,T.agg.injEq,true_and,and_true]at h;obtain⟨h1,rfl,rfl⟩:=h;obtain⟨rfl,rfl⟩:=qCt h1;exact⟨rfl,rfl⟩
theorem St.Go.le {s t:St}{k l:Int}(h:s.Go k t)(e:k<=l):s.Go l t:=⟨h.1,h.2.le e⟩
structure Sh4 where
 a:Int
 b:Int
 c:Int
 d:Int
 deriving Inhabited
inductive Unt where
 |u
 deriving Inhabited
def jTa (x:Sh4):T:= .agg [.int .i64 x.a,.int .i64 x.b,.int .i64 x.c,.int .i64 x.d]
def jXl (_:Unt):T:= .agg (jTb.flatMap λt=>[.int .i64 t.1,.int .i64 t.2.1,.int .i64 t.2.2.1,.int .i64 t.2.2.2])
def qId:ECt where
 α:=Unit
 β:=Unt
 aS:=λ_=>[]
 pre:=λ_=>True
 r:=λr=>.t (jXl r)
 R:=λ_ r=>True
 inj:=λ_ _ _ _=>rfl
theorem jIz {g:EF qId}  :∃(r:Unt),(True)/\qId.fs g [] []=some (.t (jXl r),[]):=qId.eq g () trivial
theorem jP7  (r:Unt)(hR:True)(hV:vv=.t (jXl r))(hO:oo=[]):qId.K () vv oo:=⟨r,hR,hV,hO⟩
theorem jD2:(List.replicate 136 (T.int .i64 0))[0]?=some (.int .i64 0):=rfl
theorem zSu:qWx (List.map V.t (List.replicate 136 (T.int .i64 0)))=true:=rfl
theorem qZh   :
  qEv.1.wp tab gl (qD 0 []) (qD 0 []) (qZ [(0,(some (136,true)))] 0 (qId.K ())):=by
 simp(maxSteps:=9^9)(disch:=try exact dS)only[go_sem,qEv,jD2,zSu,oms];exact jP7 .u trivial rfl rfl
def qW7 (s:Rd)(m:Int):Int×Rd:=if(qI s 1).2.2.2=0/\m<(qI s 1).1 then(0,((qI s 1).2.1,(qI s 1).2.2.1,1)) else qI s 1
noncomputable def dcT (b:List UInt8):List zD×Int×Int:=⟨(qQg (b:=b)).choose,(qQg (b:=b)).choose_spec.choose,(qQg (b:=b)).choose_spec.choose_spec.choose⟩
theorem zK4 (b:List UInt8):dcR b=.tup [.t (.agg [.sl ((dcT b).1.map vU),.int .i64 (dcT b).2.1]),.t (.int .i64 (dcT b).2.2)]/\RV (dcT b).1:=(qQg (b:=b)).choose_spec.choose_spec.choose_spec
noncomputable def jDz (s:Rd):(List zD×Int)×Rd:=
 if(zF s 4096).2.2.2≠0 then(([],0),(zF s 4096).2)
 else(((dcT (zF s 4096).1).1,(dcT (zF s 4096).1).2.1),((zF s 4096).2.1,(zF s 4096).2.2.1,(dcT (zF s 4096).1).2.2))
def zG3 (s:Rd):Nat->List (List UInt8)×Rd
 |0=>([],s)
 |n+1=>((zG3 s n).1++[(zF (zG3 s n).2 4096).1],(zF (zG3 s n).2 4096).2)
def zPf (s:Rd):Ix×Rd:=
 match qI s 1 with
 |(n,s1)=>match qI s1 1 with
 |(kd,s2)=>match qI s2 1 with
 |(ar,s3)=>match qI s3 2 with
 |(sz,s4)=>match qW7 s4 1 with
 |(w,s5)=>match zF s5 4096 with
 |(po,s6)=>match zF s6 4096 with
 |(au,s7)=>match zF s7 4096 with
 |(da,s8)=>(⟨n,kd,ar,sz,po,au,w==1,da⟩,s8)
def zPi (s:Rd):Nat->List Ix×Rd
 |0=>([],s)
 |n+1=>((zPi s n).1++[(zPf (zPi s n).2).1],(zPf (zPi s n).2).2)
def jJ5 (s:Rd):Lv×Rd:=
 match zF s 4096 with
 |(un,s1)=>match qI s1 1 with
 |(us,s2)=>(⟨un,us⟩,s2)
def zPg (s:Rd):Nat->List Lv×Rd
 |0=>([],s)
 |n+1=>((zPg s n).1++[(jJ5 (zPg s n).2).1],(jJ5 (zPg s n).2).2)
def jHn (s:Rd):Nat->List Int×Rd
 |0=>([],s)
 |n+1=>((jHn s n).1++[(qI (jHn s n).2 8).1],(qI (jHn s n).2 8).2)
noncomputable def zPh (s:Rd):Sa×Rd:=
 match qW7 s 3 with
 |(act,s1)=>match zG3 s1 3 with
 |(sd,s2)=>match zG3 s2 4 with
 |(au,s3)=>match zF s3 4096 with
 |(en,s4)=>match qI s4 8 with
 |(res,s5)=>match qI s5 8 with
 |(rst,s6)=>match qI s6 8 with
 |(clk,s7)=>match qW7 s7 1 with
 |(w,s8)=>match jDz s8 with
 |((bk,u),s9)=>match qI s9 8 with
 |(mc,s10)=>match qW7 s10 6 with
 |(n,s11)=>match zPi s11 n.toNat with
 |(ix,s12)=>match qI s12 8 with
 |(l1,s13)=>match qI s13 8 with
 |(l2,s14)=>match qI s14 8 with
 |(l3,s15)=>match qI s15 8 with
 |(l4,s16)=>match qI s16 8 with
 |(l5,s17)=>match qI s17 8 with
 |(l6,s18)=>match qW7 s18 8 with
 |(m,s19)=>match zPg s19 m.toNat with
 |(ks,s20)=>(⟨sd,au,en,act,res,rst,clk,w==1,bk,u,mc,ix,⟨l1,l2,l3,l4,l5,l6⟩,ks⟩,s20)
noncomputable def zW4 (b:List UInt8):Sa×Int:=
 if(qI (b,0,0) 1).2.2.2≠0 then(default,(qI (b,0,0) 1).2.2.2)
 else if(qI (b,0,0) 1).1≠1 then(default,5)
 else if xM (zPh (qI (b,0,0) 1).2).2≠0 then(default,xM (zPh (qI (b,0,0) 1).2).2)
 else((zPh (qI (b,0,0) 1).2).1,0)
def qNn:ECt where
 α:=List UInt8
 β:=Sa×Int
 aS:=λb=>[.t (.sl (b.map qA))]
 pre:=λb=>b.length<100000000
 r:=λ(y,e)=>.tup [.t (saA y),.t (.int .i64 e)]
 R:=λb (y,e)=>(y,e)=zW4 b
theorem jLp {g:EF qNn}{b:List UInt8}(hp:b.length<100000000):∃(y:Sa)(e:Int),((y,e)=zW4 b)/\qNn.fs g [.t (.sl (b.map qA))] []=some (.tup [.t (saA y),.t (.int .i64 e)],[]):=by
 obtain⟨y,h1,h2⟩:=qNn.eq g b hp;exact⟨y.1,y.2,h1,h2⟩
theorem jFv {b:List UInt8}(y:Sa)(e:Int)(hR:(y,e)=zW4 b)(hV:vv=.tup [.t (saA y),.t (.int .i64 e)])(hO:oo=[]):qNn.K b vv oo:=⟨(y,e),hR,hV,hO⟩
def At (b:List UInt8)(p:Nat)(r:List UInt8):Prop:=∃h,h.length=p/\b=h++r
theorem At.next {b q r:List UInt8}{p:Nat}(h:At b p (q++r)):At b (p+q.length) r:=by
 obtain⟨h,rfl,rfl⟩:=h;exact⟨h++q,sM,sM⟩
theorem At.uint {b r:List UInt8}{p k:Nat}{n:Int}(h:At b p (beI k n k++r))(hk:k=8/\(0<=n/\n<9223372036854775808)\/k=2/\(0<=n/\n<65536)\/k=1/\(0<=n/\n<256)):qI (b,p,0) k=(n,(b,p+k,0))/\At b (p+k) r:=by
 have hn:=h.next;obtain⟨t,rfl,hb⟩:=h;have e:((beV (beI k n k):Nat):Int)=n:=by
  rw[qJt];rcases hk with⟨rfl,h⟩|⟨rfl,h⟩|⟨rfl,h⟩
  .have:=qMu (n:=n) oM;have e:(256:Nat)^8=18446744073709551616:=by decide
   rw[e];omega
  .have:=qMu (n:=n) oM;have e:(256:Nat)^2=65536:=by decide
   rw[e];omega
  .have:=qMu (n:=n) oM;omega
 have:=qLn (b:=b) (p:=t) (q:=beI k n k) (t:=r) (k:=k) (by rw[hb,append_assoc]) qN oM;rw[e]at this;rw[qN]at hn;exact⟨this,hn⟩
theorem jKs {n:Int}:[bY n]=beI 1 n 1:=by simp[beI,bY]
theorem At.byte {b r:List UInt8}{p:Nat}{n:Int}(h:At b p (bY n::r))(hn:0<=n/\n<256):qI (b,p,0) 1=(n,(b,p+1,0))/\At b (p+1) r:=by
 have h':At b p (beI 1 n 1++r):=by rw[<-jKs];exact h
 exact h'.uint (.inr (.inr ⟨rfl,hn⟩))
theorem At.small {b r:List UInt8}{p:Nat}{n m:Int}(h:At b p (bY n::r))(hn:0<=n/\n<256)(hm:n<=m):qW7 (b,p,0) m=(n,(b,p+1,0))/\At b (p+1) r:=by
 have h1:=h.byte hn;refine⟨?_,h1.2⟩;unfold qW7;rw[h1.1,if_neg (λg=>by have:=g.2;simp only at this;omega)]
theorem jTn {w:Bool}:bO w=bY (if w then 1 else 0):=by cases w<;>rfl
theorem At.flag {b r:List UInt8}{p:Nat}{w:Bool}(h:At b p (bO w::r)):qW7 (b,p,0) 1=((if w then 1 else 0),(b,p+1,0))/\At b (p+1) r:=by
 rw[jTn]at h;exact h.small (by cases w<;>decide) (by cases w<;>decide)
theorem zQ5 {w:Bool}:(((if w then 1 else 0:Int))==1)=w:=by cases w<;>rfl
theorem At.blob {b x r:List UInt8}{p:Nat}(h:At b p (beI 2 (x.length:Int) 2++(x++r)))(hx:x.length<=4096):zF (b,p,0) 4096=(x,(b,p+2+x.length,0))/\At b (p+2+x.length) r:=by
 have h2:=h.next;rw[qN]at h2;have h3:=h2.next;obtain⟨t,rfl,hb⟩:=h;exact⟨qQw (b:=b) (p:=t) (x:=x) (t:=r) (most:=4096) (by rw[hb];simp only[append_assoc]) hx oM,h3⟩
def wB (x:List UInt8):List UInt8:=beI 2 (x.length:Int) 2++x
theorem zD8 {b x:List UInt8}:blL b x=b++wB x:=by unfold blL wB;rw[append_assoc]
theorem At.wbl {b x r:List UInt8}{p:Nat}(h:At b p (wB x++r))(hx:x.length<=4096):zF (b,p,0) 4096=(x,(b,p+2+x.length,0))/\At b (p+2+x.length) r:=by
 unfold wB at h;rw[append_assoc]at h;exact h.blob hx
def wX (x:Ix):List UInt8:=bY x.n::bY x.kd::bY x.ar::(beI 2 x.sz 2++(bO x.wr::(wB x.po++(wB x.au++wB x.da))))
theorem jUy {b:List UInt8}{x:Ix}:ixE b x=b++wX x:=by
 unfold ixE wX;simp only[zD8,append_assoc,cons_append,nil_append]
def wL (k:Lv):List UInt8:=wB k.un++[bY k.us]
theorem jV8 {b:List UInt8}{k:Lv}:lvE b k=b++wL k:=by unfold lvE wL;rw[zD8,append_assoc]
theorem qLe {α:Type}{f:List UInt8->α->List UInt8}{w:α->List UInt8}(h:∀b x,f b x=b++w x):∀{l:List α}{b:List UInt8},l.foldl f b=b++l.flatMap w
 |[],b=>sM
 |x::r,b=>by
  rw[foldl_cons,qLe h (l:=r),h,flatMap_cons,append_assoc]
def wN (l:List Int):List UInt8:=l.flatMap λn=>beI 8 n 8
theorem jWd {b:List UInt8}{l:List Int}:nuE b l=b++wN l:=qLe (f:=λb n=>b++beI 8 n 8) (λ_ _=>rfl)
theorem jL3 (s:Sa):qCs s=1::(bY s.act::(s.sd.flatMap wB++(s.au.flatMap wB++(wB s.en++(beI 8 s.res 8++(beI 8 s.rst 8++(beI 8 s.clk 8++(bO s.ord::(wB (qDn s.bk s.u)++(beI 8 s.mc 8++(bY s.ix.length::(s.ix.flatMap wX++(beI 8 s.lk.fa 8++(beI 8 s.lk.mx 8++(beI 8 s.lk.rc 8++(beI 8 s.lk.si 8++(beI 8 s.lk.cl 8++(beI 8 s.lk.pe 8++(bY s.ks.length::s.ks.flatMap wL))))))))))))))))))):=by
 unfold qCs eA9 eA8 eA7 eA6 eA5 eA4 eA3 eA0;simp only[qLe (f:=lvE) (λb k=>jV8),qLe (f:=ixE) (λb k=>jUy),qLe (f:=blL) (λb k=>zD8),zD8,jWd,wN,flatMap_cons,flatMap_nil,append_nil,append_assoc,cons_append,nil_append]
theorem At.many {α:Type}{w:α->List UInt8}{f:Rd->α×Rd}{F:Rd->Nat->List α×Rd}(h0:∀s,F s 0=([],s))(hF:∀s n,F s (n+1)=((F s n).1++[(f (F s n).2).1],(f (F s n).2).2)){b:List UInt8}{l:List α}(hf:∀x∈l,∀p r,At b p (w x++r)->∃q,f (b,p,0)=(x,(b,q,0))/\At b q r){p:Nat}{r:List UInt8}(h:At b p (l.flatMap w++r)):∃q,F (b,p,0) l.length=(l,(b,q,0))/\At b q r:=by
 have key:∀k,k<=l.length->∃q,F (b,p,0) k=(l.take k,(b,q,0))/\At b q ((l.drop k).flatMap w++r):=by
  intro k
  induction k with
  |zero=>intro _;exact⟨p,h0 _,by simpa using h⟩
  |succ k ih=>
   intro hk;obtain⟨q,h1,h2⟩:=ih oM;have hd:l.drop k=l[k]::l.drop (k+1):=drop_eq_getElem_cons oM;rw[hd,flatMap_cons,append_assoc]at h2;obtain⟨q2,h3,h4⟩:=hf _ (getElem_mem oM) _ _ h2;refine⟨q2,?_,h4⟩;rw[hF,h1];simp only[h3];rw[take_succ_eq_append_getElem oM]
 obtain⟨q,h1,h2⟩:=key l.length (Nat.le_refl _);rw[take_length]at h1;rw[drop_length]at h2;exact⟨q,h1,by simpa using h2⟩
theorem At.blobs {b:List UInt8}{l:List (List UInt8)}{p n:Nat}{r:List UInt8}(hn:l.length=n)(h:At b p (l.flatMap wB++r))(hx:∀x∈l,x.length<=4096):∃q,zG3 (b,p,0) n=(l,(b,q,0))/\At b q r:=by
 subst hn;exact At.many (f:=λs=>zF s 4096) (F:=zG3) (λ_=>rfl) (λ_ _=>rfl) (λx hm p r g=>⟨_,(g.wbl (hx x hm)).1,(g.wbl (hx x hm)).2⟩) h
theorem At.ix {b:List UInt8}{x:Ix}(ho:x.Ok){p:Nat}{r:List UInt8}(h:At b p (wX x++r)):∃q,zPf (b,p,0)=(x,(b,q,0))/\At b q r:=by
 have hl:=ho.le;unfold Ix.Ok at ho;unfold wX at h;simp only[cons_append,append_assoc]at h;obtain⟨a1,h1⟩:=h.byte oM;obtain⟨a2,h2⟩:=h1.byte oM;obtain⟨a3,h3⟩:=h2.byte oM;obtain⟨a4,h4⟩:=h3.uint (.inr (.inl ⟨rfl,oM⟩));obtain⟨a5,h5⟩:=h4.flag;obtain⟨a6,h6⟩:=h5.wbl oM;obtain⟨a7,h7⟩:=h6.wbl oM;obtain⟨a8,h8⟩:=h7.wbl oM;refine⟨_,?_,h8⟩;simp only[zPf,a1,a2,a3,a4,a5,a6,a7,a8,zQ5]
theorem At.lv {b:List UInt8}{k:Lv}(ho:k.Ok){p:Nat}{r:List UInt8}(h:At b p (wL k++r)):∃q,jJ5 (b,p,0)=(k,(b,q,0))/\At b q r:=by
 unfold Lv.Ok at ho;unfold wL at h;simp only[cons_append,append_assoc,nil_append]at h;obtain⟨a1,h1⟩:=h.wbl oM;obtain⟨a2,h2⟩:=h1.byte oM;refine⟨_,?_,h2⟩;simp only[jJ5,a1,a2]
def coK (k:Int):Prop:=k=1\/k=7\/k=9\/k=13\/k=16\/k=17\/k=19\/k=20\/k=21\/k=22\/k=24\/k=25
structure Rq.W (q:Rq):Prop where
 co:coK q.co
 hs:(q.hs.length:Int)=(qMe q.co).1/\∀x∈q.hs,0<=x/\x<=65535
 au:(q.au.length:Int)=(qMe q.co).2.1/\∀a∈q.au,(0<=a.s/\a.s<=65535)/\a.no.length<=128/\a.va.length<=128
 ns:(q.ns.length:Int)=(qMe q.co).2.2.1/\∀x∈q.ns,tmI x
 bl:((q.bl.length:Int)=(qMe q.co).2.2.2\/(qMe q.co).2.2.2 = -1/\q.bl.length<=8)/\∀x∈q.bl,x.length<=1024
 le:(rqG q).length<=2048
theorem jP4 {k:Int}(h:coK k):(0<=(qMe k).1/\(qMe k).1<=8)/\(0<=(qMe k).2.1/\(qMe k).2.1<=8)/\(0<=(qMe k).2.2.1/\(qMe k).2.2.1<=8)/\(-1<=(qMe k).2.2.2/\(qMe k).2.2.2<=8):=by
 rcases h with rfl|rfl|rfl|rfl|rfl|rfl|rfl|rfl|rfl|rfl|rfl|rfl<;>decide
theorem Rq.W.B {q:Rq}(h:q.W):q.B:=by
 have hs:=jP4 h.co;have h1:=h.hs.1;have h2:=h.au.1;have h3:=h.ns.1;have h4:=h.bl.1;refine⟨oM,oM,oM,oM,λx hx=>?_,λa ha=>?_⟩
 .have:=h.bl.2 x hx;omega
 .have:=h.au.2 a ha;omega
def qKs:ECt where
 α:=Int×Int
 β:=Bool
 aS:=λ(a,b)=>[.t (.int .i64 a),.t (.int .i64 b)]
 pre:=λ(a,b)=>True
 r:=λr'=>.t (.bool r')
 R:=λ(a,b) r'=>r'=decide (b=a\/a = -1/\0<=b/\b<=8)
theorem jQe {g:EF qKs}{a b:Int}:qKs.fs g [.t (.int .i64 a),.t (.int .i64 b)] []=some (.t (.bool (decide (b=a\/a = -1/\0<=b/\b<=8))),[]):=fnQ qKs (a,b) trivial
theorem jXd {a b:Int}(hV:vv=.t (.bool (decide (b=a\/a = -1/\0<=b/\b<=8))))(hO:oo=[]):qKs.K (a,b) vv oo:=⟨_,rfl,hV,hO⟩
def qKt:ECt where
 α:=Int
 β:=Bool
 aS:=λh=>[.t (.int .i64 h)]
 pre:=λh=>True
 r:=λr'=>.t (.bool r')
 R:=λh r'=>r'=decide (0<=h/\h<=65535)
theorem jQg {g:EF qKt}{h:Int}:qKt.fs g [.t (.int .i64 h)] []=some (.t (.bool (decide (0<=h/\h<=65535))),[]):=fnQ qKt h trivial
theorem jXe {h:Int}(hV:vv=.t (.bool (decide (0<=h/\h<=65535))))(hO:oo=[]):qKt.K h vv oo:=⟨_,rfl,hV,hO⟩
theorem zDh  (a b:Int) :
  wM.1.wp tab gl (qD 0 [.t (.int .i64 a),.t (.int .i64 b)]) (qD 0 []) (qZ [(4,none)] 0 (qKs.K (a,b))):=by
 have key:∀r,r=decide (b=a\/a = -1/\0<=b/\b<=8)->qKs.K (a,b) (.t (.bool r)) []:=λr h=>jXd (by rw[h]) rfl
 by_cases c1:b=a
 .subst c1;simp(disch:=omega)only[go_sem,wM];refine key _ ?_;simp
 by_cases c2:a = -1
 .subst c2;by_cases c3:b<0
  .simp(disch:=omega)only[go_sem,wM,c1,c3];refine key _ ?_;simp;omega
  by_cases c4:b<=8
  .simp(disch:=omega)only[go_sem,wM,c1,c3,c4];refine key _ ?_;simp;omega
  simp(disch:=omega)only[go_sem,wM,c1,c3,c4];refine key _ ?_;simp;omega
 simp(disch:=omega)only[go_sem,wM,c1,c2];refine key _ ?_;simp;omega
theorem qYe  (h:Int) :
  xH.1.wp tab gl (qD 0 [.t (.int .i64 h)]) (qD 0 []) (qZ [(2,none)] 0 (qKt.K h)):=by
 have key:∀r,r=decide (0<=h/\h<=65535)->qKt.K h (.t (.bool r)) []:=λr e=>jXe (by rw[e]) rfl
 by_cases c1:h<0
 .simp(disch:=omega)only[go_sem,xH,c1];refine key _ ?_;simp;omega
 by_cases c2:65535<h
 .simp(disch:=omega)only[go_sem,xH,c1,c2];refine key _ ?_;simp;omega
 simp(disch:=omega)only[go_sem,xH,c1,c2];refine key _ ?_;simp;omega
def qOv:ECt where
 α:=Int
 β:=Sh4×Bool
 aS:=λk=>[.t (.int .i64 k)]
 pre:=λk=>coK k
 r:=λ(t,b)=>.tup [.t (jTa t),.t (.bool b)]
 R:=λk (t,b)=>b=true/\(t.a,t.b,t.c,t.d)=qMe k
theorem jQh {g:EF qOv}{k:Int}(hp:coK k):∃(t:Sh4)(b:Bool),(b=true/\(t.a,t.b,t.c,t.d)=qMe k)/\qOv.fs g [.t (.int .i64 k)] []=some (.tup [.t (jTa t),.t (.bool b)],[]):=by
 obtain⟨y,h1,h2⟩:=qOv.eq g k hp;exact⟨y.1,y.2,h1,h2⟩
theorem jXf {k:Int}(t:Sh4)(b:Bool)(hR:b=true/\(t.a,t.b,t.c,t.d)=qMe k)(hV:vv=.tup [.t (jTa t),.t (.bool b)])(hO:oo=[]):qOv.K k vv oo:=⟨(t,b),hR,hV,hO⟩
theorem qZq {g1}(h1:LkE tab 106 qId g1)(k:Int)(hp:coK k) :
  qGl.1.wp tab gl (qD 0 [.t (.int .i64 k)]) (qD 0 []) (qZ [(2,(some (4,true))),(3,none)] 0 (qOv.K k)):=by
 obtain⟨⟨⟩,_,e⟩:=jIz (g:=g1);have e':=e.trans (show _=some (V.t (.agg (jTb.flatMap λt=>[.int .i64 t.1,.int .i64 t.2.1,.int .i64 t.2.2.1,.int .i64 t.2.2.2])),[]) from rfl);simp only[jTb,flatMap_cons,flatMap_nil,cons_append,nil_append,append_nil]at e';clear e;rcases hp with rfl|rfl|rfl|rfl|rfl|rfl|rfl|rfl|rfl|rfl|rfl|rfl;all_goals
  simp(disch:=omega)only[go_sem,qGl,h1,e',jD2,zSu,oms];exact jXf ⟨_,_,_,_⟩ true ⟨rfl,rfl⟩ rfl rfl
theorem jE9 {n:Nat}(h:n<1000000):beI 2 (n:Int) 2=[u8I ((n/256:Nat):Int),u8I (n:Int)]:=by
 have e:m64 (n:Int)=n:=by unfold m64;omega
 have e1:beI 2 (n:Int) 2=[UInt8.ofNat (m64 (n:Int)/256),UInt8.ofNat (m64 (n:Int)/1)]:=rfl;rw[e1,e];unfold u8I;have a1:(((n/256:Nat):Int)%256).toNat=n/256%256:=oM;have a2:((n:Int)%256).toNat=n%256:=oM;rw[a1,a2];congr 1
 .apply UInt8.toNat_inj.1;simp
 .congr 1;apply UInt8.toNat_inj.1;simp
def qIe:ECt where
 α:=Rq
 β:=List UInt8
 aS:=λq=>[.t (rqA q)]
 pre:=λq=>q.B
 r:=λb=>.t (.sl (b.map qA))
 R:=λq b=>b=rqB q
theorem jEj {g:EF qIe}{q:Rq}(hp:q.B):∃(b:List UInt8),(b=rqB q)/\qIe.fs g [.t (rqA q)] []=some (.t (.sl (b.map qA)),[]):=qIe.eq g q hp
theorem jXc {q:Rq}(b:List UInt8)(hR:b=rqB q)(hV:vv=.t (.sl (b.map qA)))(hO:oo=[]):qIe.K q vv oo:=⟨b,hR,hV,hO⟩
theorem zDi (h1:LkC tab 34 yQ)(h2:LkC tab 76 qGu)(q:Rq)(hp:q.B) :
  qHq.1.wp tab gl (qD 0 [.t (rqA q)]) (qD 0 []) (qZ [(2,none)] 0 (qIe.K q)):=by
 obtain⟨r,hG⟩:=qVf q;have hL:=jD6 hp;have hK:∀vv,vv=.t (.sl ((rqB q).map qA))->qIe.K q vv []:=λvv h=>jXc (rqB q) rfl h rfl
 have hR:rqB q=(rqG q).take 2++beI 2 ((rqG q).length:Int) 2++(rqG q).drop 4:=rfl;have hG':q.bl.foldl blL (rq3 q.co q.hs q.au q.ns++[u8I q.bl.length])=83::87::0::0::r:=hG;obtain⟨co,hh,au,ns,bl⟩:=q;obtain⟨q1,q2,q3,q4,q5,q6⟩:=hp;simp only at q1 q2 q3 q4 q5 q6 hL hG';have k2:((2:Nat):Int)=2:=rfl;have k8:((8:Nat):Int)=8:=rfl;simp(disch:=omega)only[go_sem,qHq,rqA,u8w];refine qB hh.length (λk=>[(1,.ref 4096 0 0),(3,.sl 9000 0 ((hh.take k).foldl hsF (rq0 co)).length),(4,.t (.int .i64 (k:Nat)))]) (λk=>[(9000,.live 1 ((((hh.take k).foldl hsF (rq0 co)).map qA).map V.t) true false),(4096,.live 5 [.t (rqA ⟨co,hh,au,ns,bl⟩)] true true)]) (qL.rd (λj=>if j=9000 then 8240 else j) ?_ ?_ rfl) (λk hk=>?_)
 .simp(disch:=omega)only[go_sem,id,take_zero,foldl_nil,rq0,length_cons,length_nil]
 .simp(disch:=omega)only[go_sem,id,rqA,take_zero,foldl_nil,rq0,mcn]
 have le:=zTn (co:=co) k q1;by_cases c:k<hh.length
 .obtain⟨x,hg,hm,_⟩:=qX c;have hf:=yL (f:=hsF) (b:=rq0 co) hg;generalize (hh.take k).foldl hsF (rq0 co)=y at *;have u:=qLs (b:=y) (n:=x) oM;have lb:(hsF y x).length=y.length+2:=by unfold hsF;rw[length_append,qN]
  rw[show y++beI 2 x 2=hsF y x from rfl]at u;simp(disch:=omega)only[go_sem,rqA,c,hg,oms,iT,h1,u];repeat refine aiG ?_
  refine qL.rd (λj=>if j=9000 then 24672 else j) ?_ ?_ rfl;all_goals simp(disch:=omega)only[go_sem,id,rqA,hf,lb]
 obtain rfl:k=hh.length:=oM;have tt:hh.foldl hsF (rq0 co)=rq1 co hh:=rfl;clear le c hk;simp(disch:=omega)only[go_sem,rqA,take_length,tt];refine qB au.length (λk=>[(1,.ref 4096 0 0),(3,.sl 9000 0 ((au.take k).foldl azE (rq1 co hh)).length),(5,.t (.int .i64 (k:Nat)))]) (λk=>[(9000,.live 1 ((((au.take k).foldl azE (rq1 co hh)).map qA).map V.t) true false),(4096,.live 5 [.t (rqA ⟨co,hh,au,ns,bl⟩)] true true)]) (qL.rd id ?_ ?_ rfl) (λk hk=>?_)
 .simp(disch:=omega)only[go_sem,id,take_zero,foldl_nil,tt]
 .simp(disch:=omega)only[go_sem,id,rqA,take_zero,foldl_nil,tt]
 have le:=zTo (co:=co) (hh:=hh) k q1 q2 q6;by_cases c:k<au.length
 .obtain⟨x,hg,hm,_⟩:=qX c;have hx:=q6 x hm;have hf:=yL (f:=azE) (b:=rq1 co hh) hg;generalize (au.take k).foldl azE (rq1 co hh)=y at *;have u:=qLs (b:=y) (n:=x.s) oM;have d:azE y x=blL (blL (y++beI 2 x.s 2) x.no) x.va:=rfl;have l1:(y++beI 2 x.s 2).length=y.length+2:=by rw[length_append,qN]
  generalize y++beI 2 x.s 2=z at *;have u2:=qAc (b:=z) (x:=x.no) ⟨oM,oM⟩;have l2:=jY (b:=z) (x:=x.no);generalize blL z x.no=w at *;have u3:=qAc (b:=w) (x:=x.va) ⟨oM,oM⟩;have l3:=jY (b:=w) (x:=x.va);rw[<-d]at u3 l3;have t1:List.take (y.length+2) z=z:=take_of_length_le oM;have t2:List.take (z.length+2+x.no.length) w=w:=take_of_length_le oM;simp(disch:=omega)only[go_sem,rqA,c,hg,oms,azA,h1,h2,u,u2,u3,t1,t2];repeat refine aiG ?_
  refine qL.rd (λj=>if j=9000 then 41296 else j) ?_ ?_ rfl;all_goals simp(disch:=omega)only[go_sem,id,rqA,hf,l3]
 obtain rfl:k=au.length:=oM;have tt:au.foldl azE (rq1 co hh)=rq2 co hh au:=rfl;clear le c hk;simp(disch:=omega)only[go_sem,rqA,take_length,tt];refine qB ns.length (λk=>[(1,.ref 4096 0 0),(3,.sl 9000 0 ((ns.take k).foldl nsF (rq2 co hh au)).length),(6,.t (.int .i64 (k:Nat)))]) (λk=>[(9000,.live 1 ((((ns.take k).foldl nsF (rq2 co hh au)).map qA).map V.t) true false),(4096,.live 5 [.t (rqA ⟨co,hh,au,ns,bl⟩)] true true)]) (qL.rd id ?_ ?_ rfl) (λk hk=>?_)
 .simp(disch:=omega)only[go_sem,id,take_zero,foldl_nil,tt]
 .simp(disch:=omega)only[go_sem,id,rqA,take_zero,foldl_nil,tt]
 have le:=zTp (co:=co) (hh:=hh) (au:=au) k q1 q2 q6 q3;by_cases c:k<ns.length
 .obtain⟨x,hg,hm,_⟩:=qX c;have hf:=yL (f:=nsF) (b:=rq2 co hh au) hg;generalize (ns.take k).foldl nsF (rq2 co hh au)=y at *;have u:=qUd (b:=y) (n:=x) oM;have lb:(nsF y x).length=y.length+8:=by unfold nsF;rw[length_append,qN]
  rw[show y++beI 8 x 8=nsF y x from rfl]at u;simp(disch:=omega)only[go_sem,rqA,c,hg,oms,iT,h1,u];repeat refine aiG ?_
  refine qL.rd (λj=>if j=9000 then 57440 else j) ?_ ?_ rfl;all_goals simp(disch:=omega)only[go_sem,id,rqA,hf,lb]
 obtain rfl:k=ns.length:=oM;have tt:ns.foldl nsF (rq2 co hh au)=rq3 co hh au ns:=rfl;have l3:(rq3 co hh au ns).length<=71000:=by rw[take_length]at le;exact le
 clear le c hk;simp(disch:=omega)only[go_sem,rqA,u8w,take_length,tt];refine qB bl.length (λk=>[(1,.ref 4096 0 0),(3,.sl 9000 0 ((bl.take k).foldl blL (rq3 co hh au ns++[u8I bl.length])).length),(7,.t (.int .i64 (k:Nat)))]) (λk=>[(9000,.live 1 ((((bl.take k).foldl blL (rq3 co hh au ns++[u8I bl.length])).map qA).map V.t) true false),(4096,.live 5 [.t (rqA ⟨co,hh,au,ns,bl⟩)] true true)]) (qL.rd (λj=>if j=9000 then 61536 else j) ?_ ?_ rfl) (λk hk=>?_)
 .simp(disch:=omega)only[go_sem,id,take_zero,foldl_nil,length_append,length_cons,length_nil]
 .simp(disch:=omega)only[go_sem,id,rqA,take_zero,foldl_nil]
 have le:=hL k;by_cases c:k<bl.length
 .obtain⟨x,hg,hm,_⟩:=qX c;have hx:=q5 x hm;have hf:=yL (f:=blL) (b:=rq3 co hh au ns++[u8I bl.length]) hg;generalize (bl.take k).foldl blL (rq3 co hh au ns++[u8I bl.length])=y at *;have u:=qAc (b:=y) (x:=x) ⟨oM,oM⟩;have lb:=jY (b:=y) (x:=x);simp(disch:=omega)only[go_sem,rqA,c,hg,h2,u];repeat refine aiG ?_
  refine qL.rd (λj=>if j=9000 then 77920 else j) ?_ ?_ rfl;all_goals simp(disch:=omega)only[go_sem,id,rqA,hf,lb]
 obtain rfl:k=bl.length:=oM;rw[take_length,hG']at le;simp only[length_cons]at le;have hB:rqB ⟨co,hh,au,ns,bl⟩=83::87::u8I (((r.length+1+1+1+1)/256:Nat):Int)::u8I ((r.length+1+1+1+1:Nat):Int)::r:=by
  rw[hR,hG];simp only[length_cons];rw[jE9 oM];rfl
 rw[hB]at hK;simp(disch:=omega)only[go_sem,rqA,take_length,hG',u8w];exact hK _ rfl
def qOu:ECt where
 α:=Rq
 β:=Bool
 aS:=λq=>[.t (rqA q)]
 pre:=λq=>q.W
 r:=λr=>.t (.bool r)
 R:=λq r=>r=false
theorem jQf {g:EF qOu}{q:Rq}(hp:q.W):∃(r:Bool),(r=false)/\qOu.fs g [.t (rqA q)] []=some (.t (.bool r),[]):=qOu.eq g q hp
theorem jA7 {q:Rq}(r:Bool)(hR:r=false)(hV:vv=.t (.bool r))(hO:oo=[]):qOu.K q vv oo:=⟨r,hR,hV,hO⟩
theorem zDj {g1}(h1:LkE tab 44 qIe g1)(q:Rq)(hp:q.W) :
  qHr.1.wp tab gl (qD 0 [.t (rqA q)]) (qD 0 []) (qZ [(2,none)] 0 (qOu.K q)):=by
 have hB:=hp.B;obtain⟨fb,hfb,e1⟩:=jEj (g:=g1) hB;have hl:fb.length<=2048:=by rw[hfb];unfold rqB;rw[length_append,length_append,qN,length_take,length_drop];have:=hp.le;obtain⟨r,hr⟩:=qVf q;have l:=congrArg List.length hr;simp only[length_cons]at l;omega
 have ha:=λa h=>(hp.au.2 a h).2
 have hx:=hp.bl.2;clear hp hfb;obtain⟨co,hh,au,ns,bl⟩:=q;obtain⟨q1,q2,q3,q4,q5,q6⟩:=hB;simp only at q1 q2 q3 q4 q5 q6 ha hx;simp only[rqA]at e1;simp(disch:=omega)only[go_sem,qHr,rqA];refine qB au.length (λk=>[(1,.ref 4096 0 0),(3,.t (.int .i64 (k:Nat)))]) (λk=>[(4096,.live 5 [.t (rqA ⟨co,hh,au,ns,bl⟩)] true true)]) (qL.rd id ?_ ?_ rfl) (λk hk=>?_)
 .simp(disch:=omega)only[go_sem,id,rqA]
 .simp(disch:=omega)only[go_sem,id,rqA]
 by_cases c:k<au.length
 .obtain⟨x,hg,hm,_⟩:=qX c;have hx1:=ha x hm;simp(disch:=omega)only[go_sem,rqA,c,hg,oms,azA];refine qL.rd id ?_ ?_ rfl;all_goals simp(disch:=omega)only[go_sem,id,rqA]
 obtain rfl:k=au.length:=oM;simp(disch:=omega)only[go_sem,rqA];refine qB bl.length (λk=>[(1,.ref 4096 0 0),(4,.t (.int .i64 (k:Nat)))]) (λk=>[(4096,.live 5 [.t (rqA ⟨co,hh,au,ns,bl⟩)] true true)]) (qL.rd id ?_ ?_ rfl) (λk hk=>?_)
 .simp(disch:=omega)only[go_sem,id,rqA]
 .simp(disch:=omega)only[go_sem,id,rqA]
 by_cases c:k<bl.length
 .obtain⟨x,hg,hm,_⟩:=qX c;have hx1:=hx x hm;simp(disch:=omega)only[go_sem,rqA,c,hg];refine qL.rd id ?_ ?_ rfl;all_goals simp(disch:=omega)only[go_sem,id,rqA]
 obtain rfl:k=bl.length:=oM;simp(disch:=omega)only[go_sem,rqA,h1,e1];.repeat first|exact(jA7 false rfl rfl rfl)|refine⟨rfl,?_⟩
def qOs:ECt where
 α:=Rq
 β:=Int
 aS:=λq=>[.t (rqA q)]
 pre:=λq=>q.W
 r:=λe=>.t (.int .i64 e)
 R:=λq e=>e=0
theorem jQb {g:EF qOs}{q:Rq}(hp:q.W):∃(e:Int),(e=0)/\qOs.fs g [.t (rqA q)] []=some (.t (.int .i64 e),[]):=qOs.eq g q hp
theorem jA5 {q:Rq}(e:Int)(hR:e=0)(hV:vv=.t (.int .i64 e))(hO:oo=[]):qOs.K q vv oo:=⟨e,hR,hV,hO⟩
theorem qZp {g1}(h1:LkE tab 72 qOv g1){g2}(h2:LkE tab 73 qKs g2){g3}(h3:LkE tab 74 qKt g3){g4}(h4:LkE tab 75 qOu g4)(q:Rq)(hp:q.W) :
  qGk.1.wp tab gl (qD 0 [.t (rqA q)]) (qD 0 []) (qZ [(2,none)] 0 (qOs.K q)):=by
 obtain⟨t,b,⟨rfl,ht⟩,e1⟩:=jQh (g:=g1) hp.co;have e2:=@jQe g2 t.d q.bl.length;have e3:=@jQg g3;obtain⟨l,rfl,e4⟩:=jQf (g:=g4) hp;have hB:=hp.B;have s1:=hp.hs;have s2:=hp.au;have s3:=hp.ns;have s4:=hp.bl.1;rw[<-ht]at s1 s2 s3 s4;clear ht hp;obtain⟨co,hh,au,ns,bl⟩:=q;obtain⟨ta,tb,tc,td⟩:=t;simp only at s1 s2 s3 s4;have hd:decide ((bl.length:Int)=td\/td = -1/\0<=(bl.length:Int)/\(bl.length:Int)<=8)=true:=by simp only[decide_eq_true_eq];omega
 simp only[jTa,rqA]at *;rw[hd]at e2;obtain⟨rfl,s1⟩:=s1;obtain⟨rfl,s2⟩:=s2;obtain⟨rfl,s3⟩:=s3;have b1:hh.length<=8:=hB.1;have b2:au.length<=8:=hB.2.1;have b3:ns.length<=8:=hB.2.2.1;simp(disch:=omega)only[go_sem,qGk,rqA,h1,h2,e1,e2];repeat refine aiG ?_
 refine qB hh.length (λk=>[(1,.ref 4096 0 0),(5,.t (.int .i64 (k:Nat)))]) (λk=>[(4096,.live 5 [.t (rqA ⟨co,hh,au,ns,bl⟩)] true true)]) (qL.rd id ?_ ?_ rfl) (λk hk=>?_)
 .simp(disch:=omega)only[go_sem,id,rqA]
 .simp(disch:=omega)only[go_sem,id,rqA]
 by_cases c:k<hh.length
 .obtain⟨x,hg,hm,_⟩:=qX c;have e:=@e3 x;rw[show decide (0<=x/\x<=65535)=true by simpa using s1 x hm]at e;simp(disch:=omega)only[go_sem,rqA,c,hg,oms,iT,h3,e];refine qL.rd id ?_ ?_ rfl;all_goals simp(disch:=omega)only[go_sem,id,rqA]
 obtain rfl:k=hh.length:=oM;simp(disch:=omega)only[go_sem,rqA];refine qB au.length (λk=>[(1,.ref 4096 0 0),(6,.t (.int .i64 (k:Nat)))]) (λk=>[(4096,.live 5 [.t (rqA ⟨co,hh,au,ns,bl⟩)] true true)]) (qL.rd id ?_ ?_ rfl) (λk hk=>?_)
 .simp(disch:=omega)only[go_sem,id,rqA]
 .simp(disch:=omega)only[go_sem,id,rqA]
 by_cases c:k<au.length
 .obtain⟨x,hg,hm,_⟩:=qX c;have e:=@e3 x.s;rw[show decide (0<=x.s/\x.s<=65535)=true by simpa using(s2 x hm).1]at e;simp(disch:=omega)only[go_sem,rqA,c,hg,oms,azA,h3,e];refine qL.rd id ?_ ?_ rfl;all_goals simp(disch:=omega)only[go_sem,id,rqA]
 obtain rfl:k=au.length:=oM;simp(disch:=omega)only[go_sem,rqA];refine qB ns.length (λk=>[(1,.ref 4096 0 0),(7,.t (.int .i64 (k:Nat)))]) (λk=>[(4096,.live 5 [.t (rqA ⟨co,hh,au,ns,bl⟩)] true true)]) (qL.rd id ?_ ?_ rfl) (λk hk=>?_)
 .simp(disch:=omega)only[go_sem,id,rqA]
 .simp(disch:=omega)only[go_sem,id,rqA]
 by_cases c:k<ns.length
 .obtain⟨x,hg,hm,_⟩:=qX c;have hx:=s3 x hm;unfold tmI at hx;simp(disch:=omega)only[go_sem,rqA,c,hg,oms,iT];refine qL.rd id ?_ ?_ rfl;all_goals simp(disch:=omega)only[go_sem,id,rqA]
 obtain rfl:k=ns.length:=oM;simp(disch:=omega)only[go_sem,rqA,h4,e4];.repeat first|exact(jA5 0 rfl rfl rfl)|refine⟨rfl,?_⟩
def qOt:ECt where
 α:=Rq
 β:=List UInt8×Int
 aS:=λq=>[.t (rqA q)]
 pre:=λq=>q.W
 r:=λ(b,e)=>.tup [.t (.sl (b.map qA)),.t (.int .i64 e)]
 R:=λq (b,e)=>b=rqB q/\e=0
theorem jQd {g:EF qOt}{q:Rq}(hp:q.W):∃(b:List UInt8)(e:Int),(b=rqB q/\e=0)/\qOt.fs g [.t (rqA q)] []=some (.tup [.t (.sl (b.map qA)),.t (.int .i64 e)],[]):=by
 obtain⟨y,h1,h2⟩:=qOt.eq g q hp;exact⟨y.1,y.2,h1,h2⟩
theorem jA6 {q:Rq}(b:List UInt8)(e:Int)(hR:b=rqB q/\e=0)(hV:vv=.tup [.t (.sl (b.map qA)),.t (.int .i64 e)])(hO:oo=[]):qOt.K q vv oo:=⟨(b,e),hR,hV,hO⟩
theorem qZg {g1}(h1:LkE tab 43 qOs g1){g2}(h2:LkE tab 44 qIe g2)(q:Rq)(hp:q.W) :
  qEu.1.wp tab gl (qD 0 [.t (rqA q)]) (qD 0 []) (qZ [(2,none),(3,none)] 0 (qOt.K q)):=by
 obtain⟨e,rfl,e1⟩:=jQb (g:=g1) hp;obtain⟨b,hb,e2⟩:=jEj (g:=g2) hp.B;simp only[rqA]at e1 e2;simp(disch:=omega)only[go_sem,qEu,rqA,h1,h2,e1,e2];.repeat first|exact(jA6 b 0 ⟨hb,rfl⟩ rfl rfl)|refine⟨rfl,?_⟩
end Go.Eng
end
