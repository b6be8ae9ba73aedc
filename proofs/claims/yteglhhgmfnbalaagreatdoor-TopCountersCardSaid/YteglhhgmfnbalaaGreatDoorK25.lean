/- A part of an abstract machine, its walks, their tie. -/
import Derived.Test.YteglhhgmfnbalaaGreatDoorK24
set_option linter.all false
section
set_option maxHeartbeats 64000000
set_option maxRecDepth 20000
namespace Go.Eng
open List
variable (tab:Tab)(gl:Gl)
variable {vv:V}{oo:List Ob}
structure Rs.W (r:Rs):Prop where
 e:0<=r.e/\r.e<=255
 ns:r.ns.length<=8/\∀x∈r.ns,tmI x
 bl:r.bl.length<=8/\∀x∈r.bl,x.length<=1024
 no:r.no.length<=8/\∀x∈r.no,x.length<=1024
 z:r.e≠0->r.ns=[]/\r.bl=[]/\r.no=[]
def bsE (b:List UInt8)(l:List (List UInt8)):List UInt8:=l.foldl blL (b++[u8I l.length])
def rs1 (ns:List Int):List UInt8:=ns.foldl nsF [0,u8I ns.length]
def rs3 (ns:List Int)(bl no:List (List UInt8)):List UInt8:=[bl,no].foldl bsE (rs1 ns)
def rsB (r:Rs):List UInt8:=if r.e=0 then rs3 r.ns r.bl r.no else [u8I r.e]
theorem jD7 {ns:List Int}(k:Nat)(h:ns.length<=8):((ns.take k).foldl nsF [0,u8I ns.length]).length<=66:=by
 have h1:=qAs (f:=nsF) (c:=8) (l:=ns.take k) (b:=[0,u8I ns.length]) (λb x _=>by unfold nsF;rw[length_append,jKv];omega);have h3:(ns.take k).length<=8:=by rw[length_take];omega
 simp only[length_cons,length_nil]at h1;omega
theorem jCc {b:List UInt8}{l:List (List UInt8)}(k:Nat)(h:l.length<=8/\∀x∈l,x.length<=1024):((l.take k).foldl blL (b++[u8I l.length])).length<=b.length+8209:=by
 have h1:=qAs (f:=blL) (c:=1026) (l:=l.take k) (b:=b++[u8I l.length]) (λb x hx=>by have:=h.2 x (mem_of_mem_take hx);rw[jY];omega);have h3:(l.take k).length<=8:=by rw[length_take];omega
 simp only[length_append,length_cons,length_nil]at h1;omega
def lsT (l:List (List UInt8)):T:= .sl (l.map bsT)
theorem jGq (l:List (List UInt8)):lsT l=.sl (l.map bsT):=rfl
theorem zP8 {L:List (List (List UInt8))}{b:List UInt8}(h:∀l∈L,l.length<=8/\∀x∈l,x.length<=1024)(k:Nat):((L.take k).foldl bsE b).length<=b.length+8209*L.length:=by
 have h1:=qAs (f:=bsE) (c:=8209) (l:=L.take k) (b:=b) (λb l hl=>by
  have:=jCc (b:=b) l.length (h l (mem_of_mem_take hl));rw[take_length]at this;exact this)
 have h3:(L.take k).length<=L.length:=by rw[length_take];omega
 have h4:8209*(L.take k).length<=8209*L.length:=Nat.mul_le_mul_left _ h3;omega
def qJ1:ECt where
 α:=Rs
 β:=List UInt8
 aS:=λr=>[.t (rsA r)]
 pre:=λr=>r.W
 r:=λb=>.t (.sl (b.map qA))
 R:=λr b=>b=rsB r
theorem jK5 {g:EF qJ1}{r:Rs}(hp:r.W):∃(b:List UInt8),(b=rsB r)/\qJ1.fs g [.t (rsA r)] []=some (.t (.sl (b.map qA)),[]):=qJ1.eq g r hp
theorem jTw {r:Rs}(b:List UInt8)(hR:b=rsB r)(hV:vv=.t (.sl (b.map qA)))(hO:oo=[]):qJ1.K r vv oo:=⟨b,hR,hV,hO⟩
theorem qHk (h1:LkC tab 63 yQ)(h2:LkC tab 66 qGu)(r:Rs)(hp:r.W) :
  yJ.1.wp tab gl (qD 0 [.t (rsA r)]) (qD 0 []) (qZ [(2,none)] 0 (qJ1.K r)):=by
 have hK:∀vv,vv=.t (.sl ((rsB r).map qA))->qJ1.K r vv []:=λvv h=>jTw (rsB r) rfl h rfl
 obtain⟨he,hn,hb,ho,-⟩:=hp;have hR:rsB r=if r.e=0 then rs3 r.ns r.bl r.no else [u8I r.e]:=rfl
 obtain⟨er,ns,bl,no⟩:=r;simp only at he hn hb ho hR;have k8:((8:Nat):Int)=8:=rfl;have b3:ns.length<=8:=hn.1;have b4:bl.length<=8:=hb.1;have b5:no.length<=8:=ho.1;by_cases c0:er=0
 rotate_left
 .rw[if_neg c0]at hR;rw[hR]at hK;simp(disch:=omega)only[go_sem,yJ,rsA,u8w,c0];repeat refine aiG ?_
  exact hK _ rfl
 rw[if_pos c0]at hR;rw[hR]at hK;subst c0;clear hR;have z0:u8I 0=0:=rfl;simp(disch:=omega)only[go_sem,yJ,rsA,u8w,z0];refine qB ns.length (λk=>[(1,.ref 4096 0 0),(3,.sl 9000 0 ((ns.take k).foldl nsF [0,u8I ns.length]).length),(26,.t (.sl (ns.map iT))),(27,.t (.int .i64 ns.length)),(28,.t (.int .i64 (k:Nat)))]) (λk=>[(9000,.live 1 ((((ns.take k).foldl nsF [0,u8I ns.length]).map qA).map V.t) true false),(4096,.live 4 [.t (rsA ⟨0,ns,bl,no⟩)] true true)]) (qL.rd (λj=>if j=9000 then 20576 else j) ?_ ?_ rfl) (λk hk=>?_)
 .simp(disch:=omega)only[go_sem,id,take_zero,foldl_nil,length_cons,length_nil]
 .simp(disch:=omega)only[go_sem,id,rsA,take_zero,foldl_nil,mcn]
 have le:=jD7 (ns:=ns) k b3;by_cases c:k<ns.length
 .obtain⟨x,hg,hm,_⟩:=qX c;have hf:=yL (f:=nsF) (b:=[0,u8I ns.length]) hg;generalize (ns.take k).foldl nsF [0,u8I ns.length]=y at *;have u:=qUd (b:=y) (n:=x) oM;have lb:(nsF y x).length=y.length+8:=by unfold nsF;rw[length_append,qN]
  rw[show y++beI 8 x 8=nsF y x from rfl]at u;simp(disch:=omega)only[go_sem,rsA,c,hg,oms,iT,h1,u];repeat refine aiG ?_
  refine qL.rd (λj=>if j=9000 then 36896 else j) ?_ ?_ rfl;all_goals simp(disch:=omega)only[go_sem,id,rsA,hf,lb]
 obtain rfl:k=ns.length:=oM;have tt:ns.foldl nsF [0,u8I ns.length]=rs1 ns:=rfl;rw[take_length,tt]at le;clear c hk;obtain⟨L,hL⟩:∃L,L=[bl,no]:=⟨_,rfl⟩;have lL:L.length=2:=by rw[hL];rfl
 have mL:∀l∈L,l.length<=8/\∀x∈l,x.length<=1024:=by
  rw[hL];intro l hl;simp only[mem_cons,not_mem_nil,or_false]at hl;rcases hl with rfl|rfl
  .exact hb
  .exact ho
 have hR3:rs3 ns bl no=L.foldl bsE (rs1 ns):=by rw[hL];rfl
 have hLs:[V.t (.sl (bl.map bsT)),V.t (.sl (no.map bsT))]=(L.map lsT).map V.t:=by rw[hL];rfl
 rw[hR3]at hK;clear hR3 hL;simp(disch:=omega)only[go_sem,rsA,take_length,tt];repeat refine aiG ?_
 refine qB 2 (λk=>[(3,.sl 9000 0 ((L.take k).foldl bsE (rs1 ns)).length),(40,.sl 9001 0 2),(41,.t (.int .i64 2)),(42,.t (.int .i64 (k:Nat)))]) (λk=>[(9001,.live 1 ((L.map lsT).map V.t) true true),(9000,.live 1 ((((L.take k).foldl bsE (rs1 ns)).map qA).map V.t) true false)]) (qL.rd (λj=>if j=9001 then 45120 else j) ?_ ?_ rfl) (λk hk=>?_)
 .simp(disch:=omega)only[go_sem,id,take_zero,foldl_nil,tt]
 .simp(disch:=omega)only[go_sem,id,take_zero,foldl_nil,tt,hLs]
 have le2:=zP8 (b:=rs1 ns) mL k;rcases(by omega:k<2\/k=2)with c|rfl
 .obtain⟨l,hg,hm,_⟩:=qX (l:=L) (k:=k) oM;have hl:=mL l hm;have hf:=yL (f:=bsE) (b:=rs1 ns) hg;generalize (L.take k).foldl bsE (rs1 ns)=y at *;have lB:l.length<=8:=hl.1;simp(disch:=omega)only[go_sem,jGq,c,hg,oms,u8w,lL,length_map];refine qB l.length (λj=>[(3,.sl 9000 0 ((l.take j).foldl blL (y++[u8I l.length])).length),(40,.sl 9001 0 2),(41,.t (.int .i64 2)),(42,.t (.int .i64 (k:Nat))),(52,.t (.sl (l.map bsT))),(53,.t (.int .i64 l.length)),(54,.t (.int .i64 (j:Nat)))]) (λj=>[(9000,.live 1 ((((l.take j).foldl blL (y++[u8I l.length])).map qA).map V.t) true false),(9001,.live 1 ((L.map lsT).map V.t) true true)]) (qL.rd (λj=>if j=9000 then 57424 else j) ?_ ?_ rfl) (λj hj=>?_)
  .simp(disch:=omega)only[go_sem,id,take_zero,foldl_nil,length_append,length_cons,length_nil]
  .simp(disch:=omega)only[go_sem,id,take_zero,foldl_nil]
  have le3:=jCc (b:=y) j hl;rcases(by omega:j<l.length\/j=l.length)with d|rfl
  .obtain⟨x,hgx,hmx,_⟩:=qX d;have hx:=hl.2 x hmx;have hfx:=yL (f:=blL) (b:=y++[u8I l.length]) hgx;generalize (l.take j).foldl blL (y++[u8I l.length])=z at *;have u:=qAc (b:=z) (x:=x) ⟨oM,oM⟩;have lb:=jY (b:=z) (x:=x);simp(disch:=omega)only[go_sem,d,hgx,h2,u];repeat refine aiG ?_
   refine qL.rd (λj=>if j=9000 then 73760 else j) ?_ ?_ rfl;all_goals simp(disch:=omega)only[go_sem,id,hfx,lb]
  have e:l.foldl blL (y++[u8I l.length])=bsE y l:=rfl;simp(disch:=omega)only[go_sem,take_length,e,c];refine qL.rd id ?_ ?_ rfl;all_goals simp(disch:=omega)only[go_sem,id,hf]
 have e:(L.take 2).foldl bsE (rs1 ns)=L.foldl bsE (rs1 ns):=by rw[take_of_length_le oM]
 simp(disch:=omega)only[go_sem,e,take_length];repeat refine aiG ?_
 exact hK _ rfl
def rdS (b:List UInt8):Rs:=
 match qI (b,0,0) 1 with
 |(e,s0)=>if e≠0 then ⟨e,[],[],[]⟩ else match qI s0 1 with
 |(n1,s1)=>match jHn s1 n1.toNat with
 |(ns,s2)=>match qI s2 1 with
 |(n2,s3)=>match zZh s3 n2.toNat with
 |(bl,s4)=>match qI s4 1 with
 |(n3,s5)=>⟨0,ns,bl,(zZh s5 n3.toNat).1⟩
theorem jPg {ns:List Int}{bl no:List (List UInt8)}:rs3 ns bl no=bY 0::bY ns.length::(ns.flatMap w8++(bY bl.length::(bl.flatMap wB++(bY no.length::no.flatMap wB))))\/¬ (ns.length<256/\bl.length<256/\no.length<256):=by
 by_cases c:ns.length<256/\bl.length<256/\no.length<256
 .left;rw[<-qXq (n:=(ns.length:Int)) oM,<-qXq (n:=(bl.length:Int)) oM,<-qXq (n:=(no.length:Int)) oM];unfold rs3 rs1;simp only[foldl_cons,foldl_nil,bsE,qLe (f:=nsF) (w:=w8) (λ_ _=>rfl),qLe (f:=blL) (λb k=>zD8),append_assoc,cons_append,nil_append,append_nil];rfl
 .exact .inr c
theorem At.blob1 {b:List UInt8}{l:List (List UInt8)}{p:Nat}{r:List UInt8}(h:At b p (l.flatMap wB++r))(hx:∀x∈l,x.length<=1024):∃q,zZh (b,p,0) l.length=(l,(b,q,0))/\At b q r:=
 At.many (w:=wB) (f:=λs=>zF s 1024) (F:=zZh) (λ_=>rfl) (λ_ _=>rfl) (λx hm p r g=>⟨_,(At.wblm 1024 g (hx x hm) oM).1,(At.wblm 1024 g (hx x hm) oM).2⟩) h
theorem zS9 {r:Rs}(h:r.W):rdS (rsB r)=r:=by
 obtain⟨he,hn,hb,ho,hz⟩:=h;obtain⟨er,ns,bl,no⟩:=r;simp only at he hn hb ho hz;by_cases c0:er=0
 .subst c0;have e:rsB ⟨0,ns,bl,no⟩=bY 0::bY ns.length::(ns.flatMap w8++(bY bl.length::(bl.flatMap wB++(bY no.length::no.flatMap wB)))):=by
   rw[rsB,if_pos rfl];exact jPg.resolve_right (λg=>g ⟨by show ns.length<256;omega,by show bl.length<256;omega,by show no.length<256;omega⟩)
  have h0:At (rsB ⟨0,ns,bl,no⟩) 0 _:=⟨[],rfl,e⟩;generalize rsB ⟨0,ns,bl,no⟩=B at *;obtain⟨f0,h1⟩:=h0.byte oM;obtain⟨f1,h2⟩:=h1.byte oM;obtain⟨p2,f2,h3⟩:=At.many (w:=w8) (f:=λs=>qI s 8) (F:=jHn) (λ_=>rfl) (λ_ _=>rfl) (l:=ns) (λx hm p r g=>⟨_,(At.w8 g (hn.2 x hm)).1,(At.w8 g (hn.2 x hm)).2⟩) h2;obtain⟨f3,h4⟩:=h3.byte oM;obtain⟨p4,f4,h5⟩:=h4.blob1 hb.2;obtain⟨f5,h6⟩:=h5.byte oM;obtain⟨p6,f6,h7⟩:=At.blob1 (r:=[]) (by rw[append_nil];exact h6) ho.2;simp only[rdS,f0,f1,f2,f3,f4,f5,f6,Int.toNat_natCast,ne_eq,not_true,if_false]
 .obtain⟨rfl,rfl,rfl⟩:=hz c0;have e:rsB ⟨er,[],[],[]⟩=[bY er]:=by rw[rsB,if_neg c0];simp only[qXq (n:=er) oM]
  have h0:At (rsB ⟨er,[],[],[]⟩) 0 (bY er::[]):=⟨[],rfl,e⟩;generalize rsB ⟨er,[],[],[]⟩=B at *;obtain⟨f0,-⟩:=h0.byte oM;simp only[rdS,f0,ne_eq,c0,not_false_eq_true,if_true]
theorem jPh {r:Rs}(h:r.W):(rsB r).length<=20000:=by
 obtain⟨he,hn,hb,ho,hz⟩:=h;unfold rsB;split
 .have h1:=zP8 (L:=[r.bl,r.no]) (b:=rs1 r.ns) (by
   intro l hl;simp only[mem_cons,not_mem_nil,or_false]at hl;rcases hl with rfl|rfl
   .exact hb
   .exact ho) 2
  have h2:=jD7 (ns:=r.ns) r.ns.length hn.1;rw[take_length]at h2;have h3:(rs1 r.ns).length<=66:=h2;have h4:(rs3 r.ns r.bl r.no).length<=(rs1 r.ns).length+8209*2:=h1;omega
 .simp
theorem jD8 {r:Rs}(h:r.W):rsB r≠[]:=by
 intro e;have h1:=zS9 h;rw[e]at h1;subst h1;revert e;decide
def qKr:ECt where
 α:=List UInt8
 β:=Rs×Int
 aS:=λb=>[.t (.sl (b.map qA))]
 pre:=λb=>b=[]\/∃r:Rs,r.W/\b=rsB r
 r:=λ(r,e)=>.tup [.t (rsA r),.t (.int .i64 e)]
 R:=λb (r,e)=>(b=[]->r=⟨0,[],[],[]⟩/\e=2)/\(b≠[]->r=rdS b/\e=0)
theorem jEi {g:EF qKr}{b:List UInt8}(hp:b=[]\/∃r:Rs,r.W/\b=rsB r):∃(r:Rs)(e:Int),((b=[]->r=⟨0,[],[],[]⟩/\e=2)/\(b≠[]->r=rdS b/\e=0))/\qKr.fs g [.t (.sl (b.map qA))] []=some (.tup [.t (rsA r),.t (.int .i64 e)],[]):=by
 obtain⟨y,h1,h2⟩:=qKr.eq g b hp;exact⟨y.1,y.2,h1,h2⟩
theorem jQc {b:List UInt8}(r:Rs)(e:Int)(hR:(b=[]->r=⟨0,[],[],[]⟩/\e=2)/\(b≠[]->r=rdS b/\e=0))(hV:vv=.tup [.t (rsA r),.t (.int .i64 e)])(hO:oo=[]):qKr.K b vv oo:=⟨(r,e),hR,hV,hO⟩
theorem qI9 (h1:LkC tab 13 qE5)(h2:LkC tab 14 qE4)(h3:LkC tab 48 qFw)(h4:LkC tab 49 qJx)(b:List UInt8)(hp:b=[]\/∃r:Rs,r.W/\b=rsB r) :
  jW.1.wp tab gl (qD 0 [.t (.sl (b.map qA))]) (qD 0 []) (qZ [(2,(some (4,true))),(3,none)] 0 (qKr.K b)):=by
 rcases hp with rfl|hp
 .have k1:((1:Nat):Int)=1:=rfl;have cz:((0:Nat):Int)=0:=rfl;have e1:=qIm (b:=[]) sM;have e2:=wW (s:=([],0,0)) (k:=1) ⟨⟨sM,sM⟩,oM,oM⟩;rw[show qI ([],0,0) 1=(0,([],0,2)) from rfl,k1]at e2;have e3:=qSn (s:=([],0,2)) ⟨sM,sM⟩;rw[show xM ([],0,2)=2 from rfl]at e3;simp only[rdO,map_nil,cz]at e1 e2 e3;simp(disch:=omega)only[go_sem,jW,qA3,h1,e1,h2,e2,h4,e3,map_nil];repeat refine aiG ?_
  exact jQc ⟨0,[],[],[]⟩ 2 ⟨λ_=>⟨rfl,rfl⟩,λh=>absurd rfl h⟩ rfl rfl
 obtain⟨r,hr,rfl⟩:=hp;have hQ:=zS9 hr;have hle:=jPh hr;have hK:∀vv,vv=.tup [.t (rsA r),.t (.int .i64 0)]->qKr.K (rsB r) vv []:=λvv h=>jQc r 0 ⟨λh=>absurd h (jD8 hr),λ_=>⟨hQ.symm,rfl⟩⟩ h rfl
 clear hQ;obtain⟨he,hn,hb,ho,hz⟩:=hr;obtain⟨er,ns,bl,no⟩:=r;simp only at he hn hb ho hz;have k1:((1:Nat):Int)=1:=rfl;have k8:((8:Nat):Int)=8:=rfl;have zR5:((1024:Nat):Int)=1024:=rfl;have cz:((0:Nat):Int)=0:=rfl;by_cases c0:er=0
 rotate_left
 .obtain⟨rfl,rfl,rfl⟩:=hz c0;have e:rsB ⟨er,[],[],[]⟩=[bY er]:=by rw[rsB,if_neg c0];simp only[qXq (n:=er) oM]
  have h0:At (rsB ⟨er,[],[],[]⟩) 0 (bY er::[]):=⟨[],rfl,e⟩;generalize rsB ⟨er,[],[],[]⟩=B at *;have hlt:B.length<1000000000:=oM;obtain⟨p1,f0,h1'⟩:∃p1,qI (B,0,0) 1=(er,(B,p1,0))/\At B p1 []:=⟨_,h0.byte oM⟩;have hp:=h1'.end;have e1:=qIm (b:=B) hlt;have e2:=wW (s:=(B,0,0)) (k:=1) ⟨h0.ok hlt,oM,oM⟩;have e3:=qSn (s:=(B,p1,0)) (h1'.ok hlt);rw[show xM (B,p1,0)=0 from if_neg (by simp only;omega)]at e3;rw[f0,k1]at e2;simp only[rdO,cz]at e1 e2 e3;simp(disch:=omega)only[go_sem,jW,qA3,h1,e1,h2,e2,h4,e3,c0];repeat refine aiG ?_
  exact hK _ rfl
 subst c0;have e:rsB ⟨0,ns,bl,no⟩=bY 0::bY ns.length::(ns.flatMap w8++(bY bl.length::(bl.flatMap wB++(bY no.length::no.flatMap wB)))):=by
  rw[rsB,if_pos rfl];exact jPg.resolve_right (λg=>g ⟨by show ns.length<256;omega,by show bl.length<256;omega,by show no.length<256;omega⟩)
 have h0:At (rsB ⟨0,ns,bl,no⟩) 0 _:=⟨[],rfl,e⟩;clear e;generalize rsB ⟨0,ns,bl,no⟩=B at *;have hlt:B.length<1000000000:=oM;have b3:ns.length<=8:=hn.1;have b4:bl.length<=8:=hb.1;have b5:no.length<=8:=ho.1;obtain⟨p1,f0,A1⟩:∃p1,qI (B,0,0) 1=(0,(B,p1,0))/\At B p1 _:=⟨_,h0.byte oM⟩;obtain⟨p2,f1,A2⟩:∃p2,qI (B,p1,0) 1=((ns.length:Int),(B,p2,0))/\At B p2 _:=⟨_,A1.byte oM⟩;have e1:=qIm (b:=B) hlt;have e2:=wW (s:=(B,0,0)) (k:=1) ⟨h0.ok hlt,oM,oM⟩;have e3:=wW (s:=(B,p1,0)) (k:=1) ⟨A1.ok hlt,oM,oM⟩;rw[f0,k1]at e2;rw[f1,k1]at e3;simp only[rdO,cz]at e1 e2 e3;simp(disch:=omega)only[go_sem,jW,qA3,h1,e1,h2,e2,e3];repeat refine aiG ?_
 clear h0 A1 f0 f1 e1 e2 e3;refine jZ (σ:=Nat×List Int×Nat) (λt=>t.1<=ns.length/\t.2.1=ns.take t.1/\At B t.2.2 ((ns.drop t.1).flatMap w8++(bY bl.length::(bl.flatMap wB++(bY no.length::no.flatMap wB))))) (λt=>ns.length-t.1) (λt=>[(2,.ref 4096 0 0),(4,.ref 8208 0 0),(5,.ref 12336 0 0),(6,.t (.int .i64 ns.length)),(7,.t (.int .i64 t.1))]) (λt=>[(9001,.live 1 ((t.2.1.map iT).map V.t) true false),(12336,.live 4 [.agg [.t (.int .i64 0),.sl 9001 0 t.1,.nil,.nil]] true true),(8208,yS (B,t.2.2,0)),(4096,.live 4 [.agg [.t (.int .i64 0),.nil,.nil,.nil]] true true)]) (0,[],p2) ⟨sM,rfl,A2⟩ ?_ ?_
 .refine qL.cv0 (hv:=[(9001,.live 1 [] true false)]) (ho:=[(12336,.live 4 [.agg [.t (.int .i64 0),.sl 9001 0 0,.nil,.nil]] true true),(8208,yS (B,p2,0)),(4096,.live 4 [.agg [.t (.int .i64 0),.nil,.nil,.nil]] true true)]) id ?_ ?_ rfl rfl;all_goals simp(disch:=omega)only[go_sem,id,qA3]
  all_goals rfl
 clear A2 p1 p2;rintro⟨k,l,p⟩ ⟨hk,hl,hA⟩;simp only at hk hl hA;have ll:l.length=k:=by rw[hl,length_take];omega
 rcases(by omega:k<ns.length\/k=ns.length)with c|hke
 .obtain⟨x,hg,hm,hdr⟩:=qX c;rw[hdr,flatMap_cons,append_assoc]at hA;obtain⟨f,hA'⟩:=At.w8 hA (hn.2 x hm);have e:=wW (s:=(B,p,0)) (k:=8) ⟨hA.ok hlt,oM,oM⟩;rw[f,k8]at e;simp only[rdO]at e;simp(disch:=omega)only[go_sem,qA3,c,h2,e,ll];repeat refine aiG ?_
  refine qYo.of (k+1,l++[x],p+8) ⟨by show k+1<=_;omega,by rw[hl];exact(qPr hg).symm,hA'⟩ (by show ns.length-(k+1)<ns.length-k;omega) (qL.rd (λj=>if j=9001 then 36944 else j) ?_ ?_ rfl);all_goals simp(disch:=omega)only[go_sem,id,qA3,iT]
  all_goals simp only[map_append,mcn,iT]
 subst hke;rw[take_length]at hl;subst hl;rw[drop_length,flatMap_nil,nil_append]at hA;obtain⟨p2,f1,A2⟩:∃p2,qI (B,p,0) 1=((bl.length:Int),(B,p2,0))/\At B p2 _:=⟨_,hA.byte oM⟩;have e3:=wW (s:=(B,p,0)) (k:=1) ⟨hA.ok hlt,oM,oM⟩;rw[f1,k1]at e3;simp only[rdO]at e3;simp(disch:=omega)only[go_sem,qA3,h2,e3];repeat refine aiG ?_
 refine jZ (σ:=Nat×List (List UInt8)×Nat) (λt=>t.1<=bl.length/\t.2.1=bl.take t.1/\At B t.2.2 ((bl.drop t.1).flatMap wB++(bY no.length::no.flatMap wB))) (λt=>bl.length-t.1) (λt=>[(2,.ref 4096 0 0),(4,.ref 8208 0 0),(5,.ref 12336 0 0),(6,.t (.int .i64 bl.length)),(8,.t (.int .i64 t.1))]) (λt=>[(9002,.live 1 ((t.2.1.map bsT).map V.t) true false),(9001,.live 1 ((l.map iT).map V.t) true false),(12336,.live 4 [.agg [.t (.int .i64 0),.sl 9001 0 l.length,.sl 9002 0 t.1,.nil]] true true),(8208,yS (B,t.2.2,0)),(4096,.live 4 [.agg [.t (.int .i64 0),.nil,.nil,.nil]] true true)]) (0,[],p2) ⟨sM,rfl,A2⟩ ?_ ?_
 .refine qL.cv0 (hv:=[(9002,.live 1 [] true false)]) (ho:=[(9001,.live 1 ((l.map iT).map V.t) true false),(12336,.live 4 [.agg [.t (.int .i64 0),.sl 9001 0 l.length,.sl 9002 0 0,.nil]] true true),(8208,yS (B,p2,0)),(4096,.live 4 [.agg [.t (.int .i64 0),.nil,.nil,.nil]] true true)]) id ?_ ?_ rfl rfl;all_goals simp(disch:=omega)only[go_sem,id,qA3]
  all_goals rfl
 clear A2 p2 e3 f1 hA p hk;rintro⟨k,m,p⟩ ⟨hk,hl,hA⟩;simp only at hk hl hA;have lm:m.length=k:=by rw[hl,length_take];omega
 rcases(by omega:k<bl.length\/k=bl.length)with c|hke
 .obtain⟨x,hg,hm,hdr⟩:=qX c;rw[hdr,flatMap_cons,append_assoc]at hA;obtain⟨f,hA'⟩:=At.wblm 1024 hA (hb.2 x hm) oM;have e:=qF2 (s:=(B,p,0)) (k:=1024) ⟨hA.ok hlt,oM⟩;rw[f,zR5]at e;simp only[rdO]at e;simp(disch:=omega)only[go_sem,qA3,c,h3,e,lm];repeat refine aiG ?_
  refine qYo.of (k+1,m++[x],p+2+x.length) ⟨by show k+1<=_;omega,by rw[hl];exact(qPr hg).symm,hA'⟩ (by show bl.length-(k+1)<bl.length-k;omega) (qL.rd (λj=>if j=9002 then 57424 else j) ?_ ?_ rfl);all_goals simp(disch:=omega)only[go_sem,id,qA3,qG]
  all_goals simp only[map_append,mcn,qG]
 subst hke;rw[take_length]at hl;subst hl;rw[drop_length,flatMap_nil,nil_append]at hA;obtain⟨p2,f1,A2⟩:∃p2,qI (B,p,0) 1=((no.length:Int),(B,p2,0))/\At B p2 _:=⟨_,hA.byte oM⟩;have e3:=wW (s:=(B,p,0)) (k:=1) ⟨hA.ok hlt,oM,oM⟩;rw[f1,k1]at e3;simp only[rdO]at e3;simp(disch:=omega)only[go_sem,qA3,h2,e3];repeat refine aiG ?_
 refine jZ (σ:=Nat×List (List UInt8)×Nat) (λt=>t.1<=no.length/\t.2.1=no.take t.1/\At B t.2.2 ((no.drop t.1).flatMap wB)) (λt=>no.length-t.1) (λt=>[(2,.ref 4096 0 0),(4,.ref 8208 0 0),(5,.ref 12336 0 0),(6,.t (.int .i64 no.length)),(9,.t (.int .i64 t.1))]) (λt=>[(9003,.live 1 ((t.2.1.map bsT).map V.t) true false),(9002,.live 1 ((m.map bsT).map V.t) true false),(9001,.live 1 ((l.map iT).map V.t) true false),(12336,.live 4 [.agg [.t (.int .i64 0),.sl 9001 0 l.length,.sl 9002 0 m.length,.sl 9003 0 t.1]] true true),(8208,yS (B,t.2.2,0)),(4096,.live 4 [.agg [.t (.int .i64 0),.nil,.nil,.nil]] true true)]) (0,[],p2) ⟨sM,rfl,A2⟩ ?_ ?_
 .refine qL.cv0 (hv:=[(9003,.live 1 [] true false)]) (ho:=[(9002,.live 1 ((m.map bsT).map V.t) true false),(9001,.live 1 ((l.map iT).map V.t) true false),(12336,.live 4 [.agg [.t (.int .i64 0),.sl 9001 0 l.length,.sl 9002 0 m.length,.sl 9003 0 0]] true true),(8208,yS (B,p2,0)),(4096,.live 4 [.agg [.t (.int .i64 0),.nil,.nil,.nil]] true true)]) id ?_ ?_ rfl rfl;all_goals simp(disch:=omega)only[go_sem,id,qA3]
  all_goals rfl
 clear A2 p2 e3 f1 hA p hk;rintro⟨k,o,p⟩ ⟨hk,hl,hA⟩;simp only at hk hl hA;have lo:o.length=k:=by rw[hl,length_take];omega
 rcases(by omega:k<no.length\/k=no.length)with c|hke
 .obtain⟨x,hg,hm,hdr⟩:=qX c;rw[hdr,flatMap_cons]at hA;obtain⟨f,hA'⟩:=At.wblm 1024 hA (ho.2 x hm) oM;have e:=qF2 (s:=(B,p,0)) (k:=1024) ⟨hA.ok hlt,oM⟩;rw[f,zR5]at e;simp only[rdO]at e;simp(disch:=omega)only[go_sem,qA3,c,h3,e,lo];repeat refine aiG ?_
  refine qYo.of (k+1,o++[x],p+2+x.length) ⟨by show k+1<=_;omega,by rw[hl];exact(qPr hg).symm,hA'⟩ (by show no.length-(k+1)<no.length-k;omega) (qL.rd (λj=>if j=9003 then 77904 else j) ?_ ?_ rfl);all_goals simp(disch:=omega)only[go_sem,id,qA3,qG]
  all_goals simp only[map_append,mcn,qG]
 subst hke;rw[take_length]at hl;subst hl;rw[drop_length,flatMap_nil]at hA;have hp:=hA.end;have e:=qSn (s:=(B,p,0)) (hA.ok hlt);rw[show xM (B,p,0)=0 from if_neg (by simp only;omega)]at e;simp only[rdO]at e;simp(disch:=omega)only[go_sem,qA3,h4,e,take_length];repeat refine aiG ?_
 exact hK _ rfl
def qOi:ECt where
 α:=Int×List UInt8
 β:=Int
 aS:=λ(e,b)=>[.t (.int .i64 e),.t (.sl (b.map qA))]
 pre:=λ(e,b)=>True
 r:=λr'=>.t (.int .i64 r')
 R:=λ(e,b) r'=>r'=if e=0/\128<b.length then 4 else e
theorem jDw {g:EF qOi}{e:Int}{b:List UInt8}:qOi.fs g [.t (.int .i64 e),.t (.sl (b.map qA))] []=some (.t (.int .i64 (if e=0/\128<b.length then 4 else e)),[]):=fnQ qOi (e,b) trivial
theorem jWi {e:Int}{b:List UInt8}(hV:vv=.t (.int .i64 (if e=0/\128<b.length then 4 else e)))(hO:oo=[]):qOi.K (e,b) vv oo:=⟨_,rfl,hV,hO⟩
theorem qZf  (e:Int)(b:List UInt8) :
  qEt.1.wp tab gl (qD 0 [.t (.int .i64 e),.t (.sl (b.map qA))]) (qD 0 []) (qZ [(4,none)] 0 (qOi.K (e,b))):=by
 simp +contextual(disch:=omega)only[go_sem,qEt,↓vO,↓kC,qT3]
 (repeat' (first|apply And.intro|intro _))<;>(try rfl)
 all_goals(refine jWi ?_ rfl;split;all_goals first|rfl|(exfalso;omega))
def qKm:ECt where
 α:=Av
 β:=Int
 aS:=λa=>[.t (avA a)]
 pre:=λa=>a.Ok
 r:=λr'=>.t (.int .i64 r')
 R:=λa r'=>r'=0
 inj:=by rintro a a' e _;simp only[qBa,qL2,qT4]at e;obtain rfl:=e;rfl
theorem qW3 {g:EF qKm}{a:Av}(hp:a.Ok):qKm.fs g [.t (avA a)] []=some (.t (.int .i64 (0)),[]):=fnQ qKm a hp
theorem zIj {a:Av}(hV:vv=.t (.int .i64 (0)))(hO:oo=[]):qKm.K a vv oo:=⟨_,rfl,hV,hO⟩
theorem qZe (h1:LkC tab 257 zBq)(h2:LkC tab 256 zBk){g3}(h3:LkE tab 258 qOi g3)(a:Av)(hp:a.Ok) :
  jV.1.wp tab gl (qD 0 [.t (avA a)]) (qD 0 []) (qZ [(2,none)] 0 (qKm.K a)):=by
 cases a with
 |reg s0 s1 d=>
  obtain⟨a0,a1,a2⟩:=hp;simp(disch:=omega)only[go_sem,jV,avA,avL,h1,h2,qSi a0,qSi a1,qPk,a2,map_nil];exact zIj rfl rfl
 |loc n=>
  simp(disch:=omega)only[go_sem,jV,avA,avL,h1,h2,qSi hp,qPk,map_nil];exact zIj rfl rfl
 |cmd n=>
  simp(disch:=omega)only[go_sem,jV,avA,avL,h1,h2,qSi hp,qPk,map_nil];exact zIj rfl rfl
 |idx n op od nm=>
  obtain⟨a0,a1,a2⟩:=hp;have e:=@jDw g3 0 od;rw[if_neg oM]at e;simp(disch:=omega)only[go_sem,jV,avA,avL,h1,h2,h3,qSi a0,qPk,a2,e,map_nil];exact⟨rfl,zIj rfl rfl⟩
 |aut=>
  simp(disch:=omega)only[go_sem,jV,avA,avL,map_nil];exact zIj rfl rfl
 |apr nm rf=>
  obtain⟨a0,a1⟩:=hp;have e:=@jDw g3 0 rf;rw[if_neg oM]at e;simp(disch:=omega)only[go_sem,jV,avA,avL,h1,h2,h3,qPk,a0,e,map_nil];exact⟨rfl,zIj rfl rfl⟩
 |alt bs=>
  obtain⟨a0,a1⟩:=hp;have w:=qSi (n:=(bs.length:Int)) (a:=2) (b:=8) oM;simp(disch:=omega)only[go_sem,jV,avA,avL,h1,h2,w,qPk,map_nil];refine qB bs.length (λk=>[(4,.t (.bool true)),(84,.t (.sl (bs.map bsT))),(85,.t (.int .i64 bs.length)),(86,.t (.int .i64 k))]) (λ_=>[]) ?_ (λk hk=>?_)
  .refine qL.rd id ?_ ?_ rfl;all_goals simp(disch:=omega)only[go_sem,id]
  .by_cases hlt:k<bs.length
   .have hb:=zRr a1 hlt;simp(disch:=omega)only[go_sem,hlt,hb];refine qL.rd id ?_ ?_ rfl;all_goals simp(disch:=omega)only[go_sem,id]
   .have e:k=bs.length:=oM;subst e;simp(disch:=omega)only[go_sem,h2,qPk];exact zIj rfl rfl
def qOh:ECt where
 α:=List UInt8×Av
 β:=List (List UInt8)
 aS:=λ(d,a)=>[.t (.sl (d.map qA)),.t (avA a)]
 pre:=λ(d,a)=>True
 r:=λr'=>.t (.sl (r'.map bsT))
 R:=λ(d,a) r'=>r'=zH3 d a
 inj:=by rintro⟨d,a⟩ ⟨d',a'⟩ e _;simp only[qBa,qL2,qT4]at e;obtain⟨rfl,rfl⟩:=e;rfl
theorem jOp {g:EF qOh}{d:List UInt8}{a:Av}:qOh.fs g [.t (.sl (d.map qA)),.t (avA a)] []=some (.t (.sl ((zH3 d a).map bsT)),[]):=fnQ qOh (d,a) trivial
theorem jOo {d:List UInt8}{a:Av}(hV:vv=.t (.sl ((zH3 d a).map bsT)))(hO:oo=[]):qOh.K (d,a) vv oo:=⟨_,rfl,hV,hO⟩
theorem jXj {n:Int}:T.int .u8 (IntKind.u8.wrap n)=qA (u8I n):=u8w
theorem qX9 (h1:LkC tab 63 yQ)(d:List UInt8)(a:Av) :
  qAp.1.wp tab gl (qD 0 [.t (.sl (d.map qA)),.t (avA a)]) (qD 0 []) (qZ [(4,none)] 0 (qOh.K (d,a))):=by
 cases a with
 |reg s0 s1 x=>
  have hu:=qLs (b:=[]) (n:=s0) (by decide);simp only[map_nil,length_nil,nil_append]at hu;have hv:=qLs (b:=beI 2 s0 2) (n:=s1) (by rw[qN];omega);rw[qN]at hv;have t2:List.take 2 (beI 2 s0 2)=beI 2 s0 2:=take_of_length_le (by rw[qN];exact Nat.le_refl _);have t4:List.take 4 (beI 2 s0 2++beI 2 s1 2)=beI 2 s0 2++beI 2 s1 2:=take_of_length_le (by rw[length_append,qN,qN];exact Nat.le_refl _);simp(disch:=omega)only[go_sem,qAp,avA,avL,h1,hu,hv,qN,t2,t4,zH3,qCz,map_nil];exact⟨rfl,jOo rfl rfl⟩
 |_=>
  simp(disch:=omega)only[go_sem,qAp,avA,avL,zH3,map_nil,jXj];exact jOo rfl rfl
theorem zEu {t:Nat}{fs:List (List UInt8)}(h:t<256/\(zB t fs).length<1000000000):yP.fs [.t (.int .i64 t),.t (.sl (fs.map bsT))] []=some (.sl 0 0 32,[.live 1 (((kX t fs).map qA).map V.t) true false]):=yP.eq (t,fs) h
theorem u8n:u8I 1=1/\u8I 2=2/\u8I 3=3/\u8I 4=4/\u8I 7=7/\u8I 8=8/\u8I 9=9:=by decide
theorem n8i:((8:Nat):Int)=8:=rfl
def qKn:ECt where
 α:=List UInt8×Av
 β:=List UInt8
 aS:=λ(d,a)=>[.t (.sl (d.map qA)),.t (avA a)]
 pre:=λ(d,a)=>d.length=32/\a.Ok
 r:=λr=>.sl 0 0 r.length
 outs:=λr=>[.live 1 ((r.map qA).map V.t) true false]
 R:=λ(d,a) r=>r=zVu d a
 inj:=by rintro⟨d,a⟩ ⟨d',a'⟩ e _;simp only[qBa,qL2,qT4]at e;obtain⟨rfl,rfl⟩:=e;rfl
theorem jOt {g:EF qKn}{d:List UInt8}{a:Av}(hp:d.length=32/\a.Ok):∃(r:List UInt8),(r=zVu d a)/\qKn.fs g [.t (.sl (d.map qA)),.t (avA a)] []=some (.sl 0 0 r.length,[.live 1 ((r.map qA).map V.t) true false]):=qKn.eq g (d,a) hp
theorem jWl {d:List UInt8}{a:Av}(r:List UInt8)(hR:r=zVu d a)(hV:vv=.sl 0 0 r.length)(hO:oo=[.live 1 ((r.map qA).map V.t) true false]):qKn.K (d,a) vv oo:=⟨r,hR,hV,hO⟩
theorem qX8 {g1}(h1:LkE tab 208 qKm g1){g2}(h2:LkE tab 283 qOh g2)(h3:LkC tab 102 yP)(d:List UInt8)(a:Av)(hp:d.length=32/\a.Ok) :
  qAo.1.wp tab gl (qD 0 [.t (.sl (d.map qA)),.t (avA a)]) (qD 0 []) (xO [] [(4,none)] 0 (qKn.K (d,a))):=by
 obtain⟨h0,ha⟩:=hp;have c1:=@qW3 g1 a ha;have c2:=@jOp g2 d a;have c3:=zEu (t:=8) (fs:=[jDj a]::zH3 d a) ⟨oM,jL9 h0 ha⟩;have hX:kX 8 ([jDj a]::zH3 d a)=zVu d a:=rfl;have lX:=qO9 (d0:=d) (a:=a);rw[hX]at c3;generalize hG:zVu d a=x at *;have hK:∀vv oo,vv=.sl 0 0 32->oo=[.live 1 ((x.map qA).map V.t) true false]->qKn.K (d,a) vv oo:=λvv oo e1 e2=>jWl x hG.symm (by rw[e1,lX]) e2
 clear hG hX;cases a
 case alt bs=>
  have l:=ha.1;have t1:List.take (1+bs.length) (T.sl [qA 8]::List.map bsT bs)=T.sl [qA 8]::List.map bsT bs:=take_of_length_le soM;simp only[avA,avL,zH3,jDj,mcn,qG,n8i]at c1 c2 c3;simp(disch:=omega)only[go_sem,qAo,avA,avL,h1,h2,h3,c1,c2,c3,t1,jXj,u8n,map_nil];repeat refine aiG ?_
  exact hK _ _ rfl rfl
 all_goals
  simp only[avA,avL,zH3,jDj,mcn,qG,n8i]at c1 c2 c3;simp(disch:=omega)only[go_sem,qAo,avA,avL,h1,h2,h3,c1,c2,c3,jXj,u8n,map_nil];repeat refine aiG ?_
  exact hK _ _ rfl rfl
def hnF (h:Int):List UInt8:=kX 11 [[u8I h]]
def ixB (x:Ix):List UInt8:=[u8I x.n,u8I x.kd,u8I x.ar]++beI 2 x.sz 2++[if x.wr then 1 else 0]
def inF (x:Ix):List UInt8:=kX 7 [ixB x,x.po]
theorem qL4 {x:Ix}:(inF x).length=32:=qO
theorem zNj {h:Int}:(hnF h).length=32:=qO
theorem yEf:((11:Nat):Int)=11:=rfl
theorem ci7:((7:Nat):Int)=7:=rfl
def qNr:ECt where
 α:=Int
 β:=List UInt8
 aS:=λh=>[.t (.int .i64 h)]
 pre:=λh=>0<=h/\h<=3
 r:=λr'=>.t (.sl (r'.map qA))
 R:=λh r'=>r'=hnF h
theorem jMe {g:EF qNr}{h:Int}(hp:0<=h/\h<=3):qNr.fs g [.t (.int .i64 h)] []=some (.t (.sl ((hnF h).map qA)),[]):=fnQ qNr h hp
theorem jUn {h:Int}(hV:vv=.t (.sl ((hnF h).map qA)))(hO:oo=[]):qNr.K h vv oo:=⟨_,rfl,hV,hO⟩
theorem qMg (h1:LkC tab 102 yP)(h:Int)(hp:0<=h/\h<=3) :
  kZ.1.wp tab gl (qD 0 [.t (.int .i64 h)]) (qD 0 []) (qZ [(2,none)] 0 (qNr.K h)):=by
 have e:=zEu (t:=11) (fs:=[[u8I h]]) ⟨oM,by simp[zB,qBq]⟩;simp only[mcn,qG,yEf]at e;have l:=zNj (h:=h);have t:List.take 32 (hnF h)=hnF h:=take_of_length_le oM;rw[show kX 11 [[u8I h]]=hnF h from rfl]at e;simp +contextual(disch:=omega)only[go_sem,kZ,h1,e,u8w,t,↓vO,↓kC,qT3];all_goals exact jUn rfl rfl
def qH5:ECt where
 α:=Ix
 β:=List UInt8
 aS:=λx=>[.t (ixA x)]
 pre:=λx=>x.po.length<=32
 r:=λr'=>.t (.sl (r'.map qA))
 R:=λx r'=>r'=inF x
theorem zR2 {g:EF qH5}{x:Ix}(hp:x.po.length<=32):qH5.fs g [.t (ixA x)] []=some (.t (.sl ((inF x).map qA)),[]):=fnQ qH5 x hp
theorem jUt {x:Ix}(hV:vv=.t (.sl ((inF x).map qA)))(hO:oo=[]):qH5.K x vv oo:=⟨_,rfl,hV,hO⟩
theorem qUe (h1:LkC tab 63 yQ)(h2:LkC tab 102 yP)(x:Ix)(hp:x.po.length<=32) :
  qB2.1.wp tab gl (qD 0 [.t (ixA x)]) (qD 0 []) (qZ [(2,none)] 0 (qH5.K x)):=by
 have u:=qLs (b:=[u8I x.n,u8I x.kd,u8I x.ar]) (n:=x.sz) sM;have e:=zEu (t:=7) (fs:=[ixB x,x.po]) ⟨oM,by simp[zB,qBq,ixB,qN];omega⟩;simp only[mcn,qG,map_append,length_cons,length_nil]at u;have l:=qL4 (x:=x);have t:List.take 32 (inF x)=inF x:=take_of_length_le oM;rw[show kX 7 [ixB x,x.po]=inF x from rfl]at e;have lu:(beI 2 x.sz 2).length=2:=qN;generalize hbb:beI 2 x.sz 2=bb at *;have t3:∀c:UInt8,List.take 3 (bb++[c])=bb++[c]:=λc=>take_of_length_le (by simp[lu])
 cases hw:x.wr;all_goals
  have hb:ixB x=u8I x.n::u8I x.kd::u8I x.ar::(bb++[if x.wr=true then 1 else 0]):=by simp only[ixB,hbb];rfl
  simp only[hw,if_true,Bool.false_eq_true,if_false]at hb;simp only[ci7,mcn,qG,hb]at e;simp(disch:=omega)only[go_sem,qB2,ixA,h1,h2,u,e,u8w,t,hw,lu,t3];exact⟨rfl,jUt rfl rfl⟩
def qRw (s:St)(h:Int):Int×Int:=if ixP s.a.ix h 0 = -1 then(0,7) else(ixP s.a.ix h 0,0)
def qE7:ECt where
 α:=St×Int
 β:=Int×Int
 aS:=λ(s,h)=>[.t (stA s),.t (.int .i64 h)]
 pre:=λ(s,h)=>s.a.ix.length<=6/\(∀x∈s.a.ix,0<=x.n/\x.n<=255)/\tmI h
 r:=λ(i,e)=>.tup [.t (.int .i64 i),.t (.int .i64 e)]
 R:=λ(s,h)(i,e)=>(i,e)=qRw s h
theorem zEn {g:EF qE7}{s:St}{h:Int}(hp:s.a.ix.length<=6/\(∀x∈s.a.ix,0<=x.n/\x.n<=255)/\tmI h):∃(i e:Int),((i,e)=qRw s h)/\qE7.fs g [.t (stA s),.t (.int .i64 h)] []=some (.tup [.t (.int .i64 i),.t (.int .i64 e)],[]):=by
 obtain⟨y,h1,h2⟩:=qE7.eq g (s,h) hp;exact⟨y.1,y.2,h1,h2⟩
theorem jL1 {s:St}{h:Int}(i e:Int)(hR:(i,e)=qRw s h)(hV:vv=.tup [.t (.int .i64 i),.t (.int .i64 e)])(hO:oo=[]):qE7.K (s,h) vv oo:=⟨(i,e),hR,hV,hO⟩
theorem qY8  (s:St)(h:Int)(hp:s.a.ix.length<=6/\(∀x∈s.a.ix,0<=x.n/\x.n<=255)/\tmI h) :
  qEm.1.wp tab gl (qD 0 [.t (stA s),.t (.int .i64 h)]) (qD 0 []) (qZ [(4,none),(5,none)] 0 (qE7.K (s,h))):=by
 obtain⟨hl,hn,ht⟩:=hp;simp(disch:=omega)only[go_sem,qEm,stA];refine jZ (σ:=Nat) (λk=>k<=s.a.ix.length/\ixP (s.a.ix.drop k) h k=ixP s.a.ix h 0) (λk=>s.a.ix.length-k) (λk=>[(1,.t (.int .i64 h)),(10,.t (.sl (s.a.ix.map ixA))),(11,.t (.int .i64 s.a.ix.length)),(12,.t (.int .i64 k))]) (λ_=>[]) 0 ⟨oM,rfl⟩ (qL.rd id ?_ ?_ rfl) ?_
 .simp(disch:=omega)only[go_sem,id]
 .simp(disch:=omega)only[go_sem,id]
 rintro k ⟨hk,hI⟩;by_cases hlt:k<s.a.ix.length
 .obtain⟨x,hg,hm,hd⟩:=qX hlt;have hx:=hn x hm;rw[hd]at hI;by_cases c:h-256=x.n
  .have hI':ixP s.a.ix h 0=k:=by rw[<-hI,ixP,if_pos oM]
   simp(disch:=omega)only[go_sem,hlt,hg,oms,ixA,c];exact jL1 k 0 (by rw[qRw,hI',if_neg oM]) rfl rfl
  .rw[ixP,if_neg oM]at hI;simp(disch:=omega)only[go_sem,hlt,hg,oms,ixA,c];repeat refine aiG ?_
   refine qYo.of (k+1) ⟨oM,hI⟩ oM (qL.rd id ?_ ?_ rfl);all_goals simp(disch:=omega)only[go_sem,id]
 .have e:k=s.a.ix.length:=oM;subst e;rw[drop_length,ixP]at hI;simp(disch:=omega)only[go_sem,hlt];exact jL1 0 7 (by rw[qRw,<-hI,if_pos rfl]) rfl rfl
def qBb (s:St)(h:Int):Obj×Int:=if h<512\/515<=h then(default,7) else if(s.obs.getD (h-512).toNat default).p.kd=0 then(default,7) else(s.obs.getD (h-512).toNat default,0)
def qGw:ECt where
 α:=St×Int
 β:=Obj×Int
 aS:=λ(s,h)=>[.t (stA s),.t (.int .i64 h)]
 pre:=λ(s,h)=>s.obs.length=3/\tmI h
 r:=λ(x,e)=>.tup [.t (qBy x),.t (.int .i64 e)]
 R:=λ(s,h)(x,e)=>(x,e)=qBb s h
theorem zLa {g:EF qGw}{s:St}{h:Int}(hp:s.obs.length=3/\tmI h):∃(x:Obj)(e:Int),((x,e)=qBb s h)/\qGw.fs g [.t (stA s),.t (.int .i64 h)] []=some (.tup [.t (qBy x),.t (.int .i64 e)],[]):=by
 obtain⟨y,h1,h2⟩:=qGw.eq g (s,h) hp;exact⟨y.1,y.2,h1,h2⟩
theorem zXd {s:St}{h:Int}(x:Obj)(e:Int)(hR:(x,e)=qBb s h)(hV:vv=.tup [.t (qBy x),.t (.int .i64 e)])(hO:oo=[]):qGw.K (s,h) vv oo:=⟨(x,e),hR,hV,hO⟩
theorem qXx  (s:St)(h:Int)(hp:s.obs.length=3/\tmI h) :
  vN.1.wp tab gl (qD 0 [.t (stA s),.t (.int .i64 h)]) (qD 0 []) (qZ [(4,(some (9,true))),(5,none)] 0 (qGw.K (s,h))):=by
 obtain⟨hl,ht⟩:=hp;by_cases c1:h<512
 .simp(disch:=omega)only[go_sem,vN,stA,c1];exact zXd default 7 (by rw[qBb,if_pos (.inl c1)]) rfl rfl
 by_cases c2:515<=h
 .simp(disch:=omega)only[go_sem,vN,stA,c1,c2,hl];exact zXd default 7 (by rw[qBb,if_pos (.inr c2)]) rfl rfl
 obtain⟨n,rfl⟩:∃n:Nat,h=((512+n:Nat):Int):=⟨(h-512).toNat,oM⟩;have hn:n<s.obs.length:=oM;have hg:s.obs[n]?=some (s.obs.getD n default):=by rw[getD_eq_getElem?_getD,getElem?_eq_getElem hn];rfl
 have hF:qBb s ((512+n:Nat):Int)=if(s.obs.getD n default).p.kd=0 then(default,7) else(s.obs.getD n default,0):=by
  rw[qBb,if_neg oM,show(((512+n:Nat):Int)-512).toNat=n by omega]
 have hs:(512:Int)+n-512=n:=oM;generalize s.obs.getD n default=x at *;by_cases c3:x.p.kd=0
 .simp(disch:=omega)only[go_sem,vN,stA,c1,c2,hl,hg,oms,qBy,c3,hs];exact zXd default 7 (by rw[hF,if_pos c3]) rfl rfl
 .simp(disch:=omega)only[go_sem,vN,stA,c1,c2,hl,hg,oms,qBy,c3,hs];exact zXd x 0 (by rw[hF,if_neg c3]) rfl rfl
theorem jSq {l:List Ses}:qZ3 8 (l.map jS)=true:=by simp only[qZ3,all_map,all_eq_true];intro x _;rfl
theorem jSm {l:List Obj}:qZ3 9 (l.map qBy)=true:=by simp only[qZ3,all_map,all_eq_true];intro x _;rfl
theorem yDk {l:List Ix}:qZ3 8 (l.map ixA)=true:=by simp only[qZ3,all_map,all_eq_true];intro x _;rfl
theorem jP1 {s:St}(h:s.ses.length=3){k:Int}(h0:0<=k)(h2:k<=2):s.ses[k.toNat]?=some (s.ses.getD k.toNat qDq)/\s.ses.getD k.toNat qDq∈s.ses:=by
 have hn:k.toNat<s.ses.length:=oM;have e:s.ses.getD k.toNat qDq=s.ses[k.toNat]:=by rw[getD_eq_getElem?_getD,getElem?_eq_getElem hn];rfl
 exact⟨by rw[e,getElem?_eq_getElem hn],by rw[e];exact getElem_mem hn⟩
def zKm:Ct where
 α:=List Ses
 aS x:=[.t (.sl (x.map jS))]
 ins _:=[]
 pre x:=x≠[]/\x.length<=1000
 r x:= .sl 0 0 x.length
 outs x:=[.live 8 ((x.map jS).map V.t) true false]
 inj:=by
  intro a b h _;simp only[List.cons.injEq,V.t.injEq,T.sl.injEq,and_true,zMf]at h;subst h;exact⟨rfl,rfl⟩
theorem jLc {x:List Ses}(h:x≠[]/\x.length<=1000):zKm.fs [.t (.sl (x.map jS))] []=some (.sl 0 0 x.length,[.live 8 ((x.map jS).map V.t) true false]):=zKm.eq x h
theorem qU0 (x:List Ses)(hx:x≠[]/\x.length<=1000):zT.1.wp tab gl (qD 0 [.t (.sl (x.map jS))]) (qD 0 []) (xO [] [(2,none)] 0 (λr o=>r=.sl 0 0 x.length/\o=[.live 8 ((x.map jS).map V.t) true false])):=by
 match x,hx with
 |[],hx=>exact absurd rfl hx.1
 |a::r,hx=>
  have hz:=jSq (l:=a::r);simp only[length_cons]at hx;simp only[map_cons]at hz;simp(disch:=omega)only[go_sem,zT,map_cons,hz];exact⟨hz,trivial⟩
theorem zDd (h1:LkC tab 158 zKm)(s:St)(k:Int)(x:Ses)(hp:s.ses.length=3/\0<=k/\k<=2) :
  qGo.1.wp tab gl (qD 0 [.t (stA s),.t (.int .i64 k),.t (jS x)]) (qD 0 []) (qZ [(6,(some (30,true)))] 0 (qIa.K (s,k,x))):=by
 obtain⟨q1,q2,q3⟩:=hp;obtain⟨hg,hm⟩:=jP1 q1 q2 q3;have e:=jLc (x:=s.ses) ⟨by intro h;rw[h]at q1;exact absurd q1 (by decide),oM⟩;rw[q1]at e;simp(maxSteps:=9^9)(disch:=try exact dS)only[go_sem,qGo,stA,jS,h1,e,q1,q2,q3,jSq,hg,oms];exact jWj (by rw[take_of_length_le (by simp[q1])];simp only[stA,map_set,jS]) rfl
def qCu (s:St)(h:Int):Int×Ses×Bool:=if jEf s h = -1 then(0,qDq,false) else(h-768,s.ses.getD (h-768).toNat qDq,true)
theorem qEb {s:St}{h:Int}(c:h<768\/771<=h):jEf s h = -1:=if_pos oM
def qIc:ECt where
 α:=St×Int
 β:=Int×Ses×Bool
 aS:=λ(s,h)=>[.t (stA s),.t (.int .i64 h)]
 pre:=λ(s,h)=>s.ses.length=3/\tmI h
 r:=λ(k,x,b)=>.tup [.t (.int .i64 k),.t (jS x),.t (.bool b)]
 R:=λ(s,h)(k,x,b)=>(k,x,b)=qCu s h
theorem zUj {g:EF qIc}{s:St}{h:Int}(hp:s.ses.length=3/\tmI h):∃(k:Int)(x:Ses)(b:Bool),((k,x,b)=qCu s h)/\qIc.fs g [.t (stA s),.t (.int .i64 h)] []=some (.tup [.t (.int .i64 k),.t (jS x),.t (.bool b)],[]):=by
 obtain⟨y,h1,h2⟩:=qIc.eq g (s,h) hp;exact⟨y.1,y.2.1,y.2.2,h1,h2⟩
theorem qMd {s:St}{h:Int}(k:Int)(x:Ses)(b:Bool)(hR:(k,x,b)=qCu s h)(hV:vv=.tup [.t (.int .i64 k),.t (jS x),.t (.bool b)])(hO:oo=[]):qIc.K (s,h) vv oo:=⟨(k,x,b),hR,hV,hO⟩
theorem qZk  (s:St)(h:Int)(hp:s.ses.length=3/\tmI h) :
  wF.1.wp tab gl (qD 0 [.t (stA s),.t (.int .i64 h)]) (qD 0 []) (qZ [(4,none),(5,(some (8,true))),(6,none)] 0 (qIc.K (s,h))):=by
 obtain⟨hl,ht⟩:=hp;by_cases c1:h<768
 .simp(disch:=omega)only[go_sem,wF,stA,c1];.repeat first|exact(qMd 0 qDq false (by simp[qCu,qEb (.inl c1)]) rfl rfl)|refine⟨rfl,?_⟩
 by_cases c2:771<=h
 .simp(disch:=omega)only[go_sem,wF,stA,c1,c2,hl];.repeat first|exact(qMd 0 qDq false (by simp[qCu,qEb (.inr c2)]) rfl rfl)|refine⟨rfl,?_⟩
 obtain⟨n,rfl⟩:∃n:Nat,h=((768+n:Nat):Int):=⟨(h-768).toNat,oM⟩;have hs:((768+n:Nat):Int)-768=n:=oM;obtain⟨hg,hm⟩:=jP1 hl (k:=(n:Int)) oM oM;have hF:qCu s ((768+n:Nat):Int)=if(s.ses.getD n qDq).kd=0 then(0,qDq,false) else((n:Int),s.ses.getD n qDq,true):=by
  simp only[qCu,jEf,hs,Int.toNat_natCast];rw[if_neg (show ¬ (((768+n:Nat):Int)<768\/(3:Int)<=n) by omega)];by_cases c:(s.ses.getD n qDq).kd=0
  .simp only[c,if_true]
  .simp only[c,if_false];rw[if_neg oM]
 rw[Int.toNat_natCast]at hg;generalize s.ses.getD n qDq=x at *;by_cases c3:x.kd=0
 .simp(disch:=omega)only[go_sem,wF,stA,c1,c2,hl,hg,oms,jS,c3,hs];.repeat first|exact(qMd 0 qDq false (by rw[hF,if_pos c3]) rfl rfl)|refine⟨rfl,?_⟩
 .simp(disch:=omega)only[go_sem,wF,stA,c1,c2,hl,hg,oms,jS,c3,hs];.repeat first|exact(qMd n x true (by rw[hF,if_neg c3]) rfl rfl)|refine⟨rfl,?_⟩
def qG0:ECt where
 α:=St×Int
 β:=Ses×Int
 aS:=λ(s,h)=>[.t (stA s),.t (.int .i64 h)]
 pre:=λ(s,h)=>s.ses.length=3/\tmI h
 r:=λ(x,e)=>.tup [.t (jS x),.t (.int .i64 e)]
 R:=λ(s,h)(x,e)=>(x,e)=if(qCu s h).2.2=true then((qCu s h).2.1,0) else(qDq,8)
theorem zL8 {g:EF qG0}{s:St}{h:Int}(hp:s.ses.length=3/\tmI h):∃(x:Ses)(e:Int),((x,e)=if(qCu s h).2.2=true then((qCu s h).2.1,0) else(qDq,8))/\qG0.fs g [.t (stA s),.t (.int .i64 h)] []=some (.tup [.t (jS x),.t (.int .i64 e)],[]):=by
 obtain⟨y,h1,h2⟩:=qG0.eq g (s,h) hp;exact⟨y.1,y.2,h1,h2⟩
theorem zFq {s:St}{h:Int}(x:Ses)(e:Int)(hR:(x,e)=if(qCu s h).2.2=true then((qCu s h).2.1,0) else(qDq,8))(hV:vv=.tup [.t (jS x),.t (.int .i64 e)])(hO:oo=[]):qG0.K (s,h) vv oo:=⟨(x,e),hR,hV,hO⟩
theorem qZi {g1}(h1:LkE tab 184 qIc g1)(s:St)(h:Int)(hp:s.ses.length=3/\tmI h) :
  qBl.1.wp tab gl (qD 0 [.t (stA s),.t (.int .i64 h)]) (qD 0 []) (qZ [(4,(some (8,true))),(5,none)] 0 (qG0.K (s,h))):=by
 obtain⟨k,x,b,e,e1⟩:=zUj (g:=g1) (h:=h) hp;simp only[stA,jS]at e1;cases b
 .simp(disch:=omega)only[go_sem,qBl,stA,h1,e1];.repeat first|exact(zFq qDq 8 (by rw[<-e];rfl) rfl rfl)|refine⟨rfl,?_⟩
 .simp(disch:=omega)only[go_sem,qBl,stA,h1,e1];.repeat first|exact(zFq x 0 (by rw[<-e];rfl) rfl rfl)|refine⟨rfl,?_⟩
def qOo:ECt where
 α:=St×Int
 β:=St×Int
 aS:=λ(s,h)=>[.t (stA s),.t (.int .i64 h)]
 pre:=λ(s,h)=>s.ses.length=3/\tmI h
 r:=λ(t,e)=>.tup [.t (stA t),.t (.int .i64 e)]
 R:=λ(s,h)(t,e)=>(t,e)=if(qCu s h).2.2=true then({ s with ses:=s.ses.set (h-768).toNat qDq },0) else(default,8)
theorem jPp {g:EF qOo}{s:St}{h:Int}(hp:s.ses.length=3/\tmI h):∃(t:St)(e:Int),((t,e)=if(qCu s h).2.2=true then({ s with ses:=s.ses.set (h-768).toNat qDq },0) else(default,8))/\qOo.fs g [.t (stA s),.t (.int .i64 h)] []=some (.tup [.t (stA t),.t (.int .i64 e)],[]):=by
 obtain⟨y,h1,h2⟩:=qOo.eq g (s,h) hp;exact⟨y.1,y.2,h1,h2⟩
theorem zFp {s:St}{h:Int}(t:St)(e:Int)(hR:(t,e)=if(qCu s h).2.2=true then({ s with ses:=s.ses.set (h-768).toNat qDq },0) else(default,8))(hV:vv=.tup [.t (stA t),.t (.int .i64 e)])(hO:oo=[]):qOo.K (s,h) vv oo:=⟨(t,e),hR,hV,hO⟩
theorem jEe {s:St}{h k:Int}{x:Ses}(e:(k,x,true)=qCu s h):k=h-768/\0<=k/\k<=2/\x=s.ses.getD k.toNat qDq:=by
 by_cases c:jEf s h = -1
 .rw[qCu,if_pos c]at e;cases e
 .rw[qCu,if_neg c]at e;simp only[Prod.mk.injEq,and_true]at e;obtain⟨rfl,rfl⟩:=e;have:¬ (h<768\/771<=h):=λd=>c (qEb d)
  exact⟨rfl,oM,oM,rfl⟩
theorem qYa {g1}(h1:LkE tab 184 qIc g1){g2}(h2:LkE tab 226 qIa g2)(s:St)(h:Int)(hp:s.ses.length=3/\tmI h) :
  qAq.1.wp tab gl (qD 0 [.t (stA s),.t (.int .i64 h)]) (qD 0 []) (qZ [(4,(some (30,true))),(5,none)] 0 (qOo.K (s,h))):=by
 obtain⟨k,x,b,e,e1⟩:=zUj (g:=g1) (h:=h) hp;simp only[stA,jS]at e1;cases b
 .simp(disch:=omega)only[go_sem,qAq,stA,h1,e1];.repeat first|exact(zFp default 8 (by rw[<-e];rfl) rfl rfl)|refine⟨rfl,?_⟩
 .obtain⟨k1,k2,k3,k4⟩:=jEe e;have e2:=zS2 (g:=g2) (s:=s) (k:=k) (x:=qDq) ⟨hp.1,k2,k3⟩;simp only[stA,jS,qDq,map_nil]at e2;simp(disch:=omega)only[go_sem,qAq,stA,h1,e1,h2,e2];.repeat first|exact(zFp { s with ses:=s.ses.set k.toNat qDq } 0 (by rw[<-e,<-k1];rfl) rfl rfl)|refine⟨rfl,?_⟩
def qFm (s:St)(h:Int):Int×Ses×Bool:=((qCu s h).1,(qCu s h).2.1,(qCu s h).2.2&&(decide ((qCu s h).2.1.kd=2)||decide ((qCu s h).2.1.kd=3)))
def qKp:ECt where
 α:=St×Int
 β:=Int×Ses×Bool
 aS:=λ(s,h)=>[.t (stA s),.t (.int .i64 h)]
 pre:=λ(s,h)=>s.ses.length=3/\tmI h
 r:=λ(k,x,b)=>.tup [.t (.int .i64 k),.t (jS x),.t (.bool b)]
 R:=λ(s,h)(k,x,b)=>(k,x,b)=qFm s h
theorem jEc {g:EF qKp}{s:St}{h:Int}(hp:s.ses.length=3/\tmI h):∃(k:Int)(x:Ses)(b:Bool),((k,x,b)=qFm s h)/\qKp.fs g [.t (stA s),.t (.int .i64 h)] []=some (.tup [.t (.int .i64 k),.t (jS x),.t (.bool b)],[]):=by
 obtain⟨y,h1,h2⟩:=qKp.eq g (s,h) hp;exact⟨y.1,y.2.1,y.2.2,h1,h2⟩
theorem qMc {s:St}{h:Int}(k:Int)(x:Ses)(b:Bool)(hR:(k,x,b)=qFm s h)(hV:vv=.tup [.t (.int .i64 k),.t (jS x),.t (.bool b)])(hO:oo=[]):qKp.K (s,h) vv oo:=⟨(k,x,b),hR,hV,hO⟩
theorem qIu {g1}(h1:LkE tab 184 qIc g1)(s:St)(h:Int)(hp:s.ses.length=3/\tmI h) :
  jA.1.wp tab gl (qD 0 [.t (stA s),.t (.int .i64 h)]) (qD 0 []) (qZ [(4,none),(5,(some (8,true))),(6,none)] 0 (qKp.K (s,h))):=by
 obtain⟨k,x,b,e,e1⟩:=zUj (g:=g1) (h:=h) hp;simp only[stA,jS]at e1;have hF:qFm s h=(k,x,b&&(decide (x.kd=2)||decide (x.kd=3))):=by rw[qFm,<-e]
 cases b
 .simp(disch:=omega)only[go_sem,jA,stA,h1,e1];.repeat first|exact(qMc k x false hF.symm rfl rfl)|refine⟨rfl,?_⟩
 by_cases c1:x.kd=2
 .obtain⟨kd,no,dg,up,lo,cm,dl,av⟩:=x;simp only at c1 e1 hF;subst c1;simp(disch:=omega)only[go_sem,jA,stA,h1,e1];.repeat first|exact(qMc k ⟨2,no,dg,up,lo,cm,dl,av⟩ true (by rw[hF];rfl) rfl rfl)|refine⟨rfl,?_⟩
 by_cases c2:x.kd=3
 .obtain⟨kd,no,dg,up,lo,cm,dl,av⟩:=x;simp only at c2 e1 hF;subst c2;simp(disch:=omega)only[go_sem,jA,stA,h1,e1];.repeat first|exact(qMc k ⟨3,no,dg,up,lo,cm,dl,av⟩ true (by rw[hF];rfl) rfl rfl)|refine⟨rfl,?_⟩
 .simp(disch:=omega)only[go_sem,jA,stA,h1,e1,c1,c2];.repeat first|exact(qMc k x false (by rw[hF];simp[c1,c2]) rfl rfl)|refine⟨rfl,?_⟩
def frS:List Ses->Nat->Int
 |[],_ => -1
 |x::r,k=>if x.kd=0 then(k:Int) else frS r (k+1)
def nwS (s:St)(k:Int):Ses:=⟨k,qY1 s 16,z32,-1,31,0,0,false⟩
def qVd (s:St)(k:Int):St×Int×Int:=if frS s.ses 0 = -1 then(default,0,25) else({ s with dr:=s.dr+1,ses:=s.ses.set (frS s.ses 0).toNat (nwS s k) },768+frS s.ses 0,0)
def qOq:ECt where
 α:=St×Int
 β:=St×Int×Int
 aS:=λ(s,k)=>[.t (stA s),.t (.int .i64 k)]
 pre:=λ(s,k)=>(s.a.en.length=32/\(0<=s.dr/\s.dr<=1000000))/\s.ses.length=3/\1<=k/\k<=3
 r:=λ(t,h,e)=>.tup [.t (stA t),.t (.int .i64 h),.t (.int .i64 e)]
 R:=λ(s,k)(t,h,e)=>(t,h,e)=qVd s k
theorem jPr {g:EF qOq}{s:St}{k:Int}(hp:(s.a.en.length=32/\(0<=s.dr/\s.dr<=1000000))/\s.ses.length=3/\1<=k/\k<=3):∃(t:St)(h e:Int),((t,h,e)=qVd s k)/\qOq.fs g [.t (stA s),.t (.int .i64 k)] []=some (.tup [.t (stA t),.t (.int .i64 h),.t (.int .i64 e)],[]):=by
 obtain⟨y,h1,h2⟩:=qOq.eq g (s,k) hp;exact⟨y.1,y.2.1,y.2.2,h1,h2⟩
theorem zFr {s:St}{k:Int}(t:St)(h e:Int)(hR:(t,h,e)=qVd s k)(hV:vv=.tup [.t (stA t),.t (.int .i64 h),.t (.int .i64 e)])(hO:oo=[]):qOq.K (s,k) vv oo:=⟨(t,h,e),hR,hV,hO⟩
theorem qZj {g1}(h1:LkE tab 157 qOk g1)(h2:LkC tab 235 qWc){g3}(h3:LkE tab 226 qIa g3)(s:St)(k:Int)(hp:(s.a.en.length=32/\(0<=s.dr/\s.dr<=1000000))/\s.ses.length=3/\1<=k/\k<=3) :
  qEz.1.wp tab gl (qD 0 [.t (stA s),.t (.int .i64 k)]) (qD 0 []) (qZ [(4,(some (30,true))),(5,none),(6,none)] 0 (qOq.K (s,k))):=by
 obtain⟨⟨he,hd⟩,hl,k1,k3⟩:=hp;obtain⟨t,b,⟨ht,hb⟩,e1⟩:=jPd (g:=g1) (s:=s) (n:=16) ⟨he,⟨hd.1,oM⟩,oM,oM⟩;have lb:b.length=16:=by rw[hb];exact kH
 have tz:List.take 32 z32=z32:=rfl;have lz:=qCn;subst ht;simp(maxSteps:=9^9)(disch:=try exact dS)only[go_sem,qEz,stA,k1,k3];refine jZ (σ:=Nat) (λj=>j<=3/\frS (s.ses.drop j) j=frS s.ses 0) (λj=>3-j) (λj=>[(1,.t (.int .i64 k)),(2,.ref 4096 0 0),(4,.ref 4112 0 0),(20,.t (.sl (s.ses.map jS))),(21,.t (.int .i64 3)),(22,.t (.int .i64 j))]) (λj=>[(4112,.live 30 [.agg [.nil,.nil,.nil,.t (.int .i64 0),.t (.int .i64 0),.t (.int .i64 0),.t (.int .i64 0),.t (.bool false),.nil,.t (.int .i64 0),.t (.int .i64 0),.nil,.t (.int .i64 0),.t (.int .i64 0),.t (.int .i64 0),.t (.int .i64 0),.t (.int .i64 0),.t (.int .i64 0),.nil,.t (.bool false),.t (.bool false),.nil,.t (.int .i64 0),.t (.int .i64 0),.t (.bool false),.t (.int .i64 0),.nil,.nil,.nil,.nil]] true true),(4096,.live 30 [.t (stA s)] true true)]) 0 ⟨oM,rfl⟩ (qL.rd id ?_ ?_ rfl) ?_
 .simp(maxSteps:=9^9)(disch:=try exact dS)only[go_sem,id,stA,hl]
 .simp(maxSteps:=9^9)(disch:=try exact dS)only[go_sem,id,stA]
 rintro j ⟨hj,hF⟩;by_cases hlt:j<3
 .obtain⟨x,hg,hm,hdr⟩:=qX (l:=s.ses) (k:=j) oM;rw[hdr,frS]at hF;by_cases c3:x.kd=0
  .rw[if_pos c3]at hF;have e2:=zS2 (g:=g3) (s := { s with dr:=s.dr+1 }) (k:=(j:Int)) (x:=⟨k,b,z32,-1,31,0,0,false⟩) ⟨hl,oM,oM⟩;simp only[stA,jS]at e1 e2;simp(maxSteps:=9^9)(disch:=try exact dS)only[go_sem,stA,hl,hlt,hg,oms,jS,c3,h1,h2,h3,zS3,e1,e2,tz,lz];.repeat first|exact(zFr { s with dr:=s.dr+1,ses:=s.ses.set j ⟨k,b,z32,-1,31,0,0,false⟩ } (768+j) 0 (by rw[qVd,<-hF,if_neg oM,Int.toNat_natCast,nwS,hb]) rfl rfl)|refine⟨rfl,?_⟩
  .rw[if_neg c3]at hF;simp(maxSteps:=9^9)(disch:=try exact dS)only[go_sem,stA,hl,hlt,hg,oms,jS,c3];refine qYo.of (j+1) ⟨oM,hF⟩ oM (qL.rd id ?_ ?_ rfl);all_goals simp(maxSteps:=9^9)(disch:=try exact dS)only[go_sem,id,stA]
 .have e3:j=3:=oM;subst e3;rw[drop_eq_nil_of_le oM,frS]at hF;simp(maxSteps:=9^9)(disch:=try exact dS)only[go_sem,stA,hl];.repeat first|exact(zFr default 0 25 (by rw[qVd,<-hF,if_pos rfl]) rfl rfl)|refine⟨rfl,?_⟩
def exS (s:St)(k:Int)(x:Ses)(a:Av):St := { s with ses:=s.ses.set k.toNat { x with dg:=zVu x.dg a } }
def qIb:ECt where
 α:=St×Int×Ses×Av
 β:=St
 aS:=λ(s,k,x,a)=>[.t (stA s),.t (.int .i64 k),.t (jS x),.t (avA a)]
 pre:=λ(s,k,x,a)=>s.ses.length=3/\(0<=k/\k<=2)/\x.dg.length=32/\a.Ok
 r:=λr'=>.t (stA r')
 R:=λ(s,k,x,a) r'=>r'=exS s k x a
 inj:=by rintro⟨s,k,x,a⟩ ⟨s',k',x',a'⟩ e _;simp only[qBa,qL2,qT4]at e;obtain⟨rfl,rfl,rfl,rfl⟩:=e;rfl
theorem jEb {g:EF qIb}{s:St}{k:Int}{x:Ses}{a:Av}(hp:s.ses.length=3/\(0<=k/\k<=2)/\x.dg.length=32/\a.Ok):qIb.fs g [.t (stA s),.t (.int .i64 k),.t (jS x),.t (avA a)] []=some (.t (stA (exS s k x a)),[]):=fnQ qIb (s,k,x,a) hp
theorem jWw {s:St}{k:Int}{x:Ses}{a:Av}(hV:vv=.t (stA (exS s k x a)))(hO:oo=[]):qIb.K (s,k,x,a) vv oo:=⟨_,rfl,hV,hO⟩
theorem qUs {g1}(h1:LkE tab 241 qKn g1){g2}(h2:LkE tab 226 qIa g2)(s:St)(k:Int)(x:Ses)(a:Av)(hp:s.ses.length=3/\(0<=k/\k<=2)/\x.dg.length=32/\a.Ok) :
  qCe.1.wp tab gl (qD 0 [.t (stA s),.t (.int .i64 k),.t (jS x),.t (avA a)]) (qD 0 []) (qZ [(8,(some (30,true)))] 0 (qIb.K (s,k,x,a))):=by
 obtain⟨hl,⟨k0,k2⟩,hd,ha⟩:=hp;obtain⟨r,hr,e1⟩:=jOt (g:=g1) (d:=x.dg) (a:=a) ⟨hd,ha⟩;have e2:=zS2 (g:=g2) (s:=s) (k:=k) (x := { x with dg:=r }) ⟨hl,k0,k2⟩;have lr:r.length=32:=by rw[hr];exact qO9
 have tr:List.take 32 r=r:=take_of_length_le oM;have hS:exS s k x a = { s with ses:=s.ses.set k.toNat { x with dg:=r } }:=by rw[hr];rfl
 rw[lr]at e1;clear hr;have hK:∀vv,vv=.t (stA { s with ses:=s.ses.set k.toNat { x with dg:=r } })->qIb.K (s,k,x,a) vv []:=λvv h=>jWw (by rw[h,hS]) rfl
 clear hS;simp only[stA,jS]at e1 e2;cases a;all_goals
  simp only[avA,avL,map_nil]at e1;simp(disch:=omega)only[go_sem,qCe,stA,jS,avA,avL,h1,h2,e1,e2,lr,tr,map_nil];.repeat first|exact(hK _ rfl)|refine⟨rfl,?_⟩
def rgD (bk:List zD)(s0 s1:Int):List UInt8:=kX 5 [qCz s0 s1,zG7 bk s0 s1]
theorem zAs {bk:List zD}{s0 s1:Int}:(rgD bk s0 s1).length=32:=qO
theorem jCt {bk:List zD}{u s0 s1:Int}(h:RV bk)(hE:qR5 bk s0 s1=0):qNb.fs [.t (.agg [.sl (bk.map vU),.int .i64 u]),.t (.agg [.int .i64 s0,.int .i64 s1])] []=some (.tup [.sl 0 0 32,.t (.int .i64 0)],[.live 1 (((rgD bk s0 s1).map qA).map V.t) true false]):=by
 have he:qNb.fs [.t (.agg [.sl (bk.map vU),.int .i64 u]),.t (.agg [.int .i64 s0,.int .i64 s1])] []=some (zHv bk s0 s1,zHu bk s0 s1):=qNb.eq (bk,u,s0,s1) h;exact he.trans (by rw[zHv,if_pos hE,zHu,if_pos hE];rfl)
def jS5 (bk:List zD)(a:Av):Prop:=∃m,a=.reg 0 m []/\(0<=m/\m<=65535)/\qR5 bk 0 m=0
def qOp:ECt where
 α:=St×Ses×Av
 β:=Ses×Av×Int
 aS:=λ(s,x,a)=>[.t (stA s),.t (jS x),.t (avA a)]
 pre:=λ(s,x,a)=>(RV s.bk/\0<=s.u)/\jS5 s.bk a/\(x.up = -1\/x.up=s.u)/\(x.kd=2\/x.kd=3)
 r:=λ(y,b,e)=>.tup [.t (jS y),.t (avA b),.t (.int .i64 e)]
 R:=λ(s,x,a)(y,b,e)=>e=0/\y=(if x.kd=2 then { x with up:=s.u } else x)/\∀m,a=.reg 0 m []->b=.reg 0 m (rgD s.bk 0 m)
 inj:=by rintro⟨s,x,a⟩ ⟨s',x',a'⟩ e _;simp only[qBa,qL2,qT4]at e;obtain⟨rfl,rfl,rfl⟩:=e;rfl
theorem jPq {g:EF qOp}{s:St}{x:Ses}{a:Av}(hp:(RV s.bk/\0<=s.u)/\jS5 s.bk a/\(x.up = -1\/x.up=s.u)/\(x.kd=2\/x.kd=3)):∃(y:Ses)(b:Av)(e:Int),(e=0/\y=(if x.kd=2 then { x with up:=s.u } else x)/\∀m,a=.reg 0 m []->b=.reg 0 m (rgD s.bk 0 m))/\qOp.fs g [.t (stA s),.t (jS x),.t (avA a)] []=some (.tup [.t (jS y),.t (avA b),.t (.int .i64 e)],[]):=by
 obtain⟨y,h1,h2⟩:=qOp.eq g (s,x,a) hp;exact⟨y.1,y.2.1,y.2.2,h1,h2⟩
theorem qUc {s:St}{x:Ses}{a:Av}(y:Ses)(b:Av)(e:Int)(hR:e=0/\y=(if x.kd=2 then { x with up:=s.u } else x)/\∀m,a=.reg 0 m []->b=.reg 0 m (rgD s.bk 0 m))(hV:vv=.tup [.t (jS y),.t (avA b),.t (.int .i64 e)])(hO:oo=[]):qOp.K (s,x,a) vv oo:=⟨(y,b,e),hR,hV,hO⟩
theorem qHl (h1:LkC tab 206 qNb)(s:St)(x:Ses)(a:Av)(hp:(RV s.bk/\0<=s.u)/\jS5 s.bk a/\(x.up = -1\/x.up=s.u)/\(x.kd=2\/x.kd=3)) :
  jH.1.wp tab gl (qD 0 [.t (stA s),.t (jS x),.t (avA a)]) (qD 0 []) (qZ [(6,(some (8,true))),(7,(some (10,true))),(8,none)] 0 (qOp.K (s,x,a))):=by
 obtain⟨⟨hv,u0⟩,⟨m,rfl,hm,hE⟩,hu,hk⟩:=hp;have e1:=jCt (u:=s.u) hv hE;have ld:=zAs (bk:=s.bk) (s0:=0) (s1:=m);have td:List.take 32 (rgD s.bk 0 m)=rgD s.bk 0 m:=take_of_length_le oM;generalize hd:rgD s.bk 0 m=d at *;have hb:∀m',Av.reg 0 m []=.reg 0 m' []->Av.reg 0 m d=.reg 0 m' (rgD s.bk 0 m'):=by intro m' h;cases h;rw[hd]
 obtain⟨kd,no,dg,up,lo,cm,dl,av⟩:=x;simp only at hu hk;rcases hk with rfl|rfl
 .rcases hu with rfl|rfl
  .simp(maxSteps:=9^9)(disch:=try exact dS)only[go_sem,jH,stA,jS,avA,avL,h1,e1,ld,td,map_nil];.repeat first|exact(qUc ⟨2,no,dg,s.u,lo,cm,dl,av⟩ (.reg 0 m d) 0 ⟨rfl,rfl,hb⟩ rfl rfl)|refine⟨rfl,?_⟩
  .have c:¬ s.u = -1:=oM;simp(maxSteps:=9^9)(disch:=try exact dS)only[go_sem,jH,stA,jS,avA,avL,h1,e1,ld,td,c,map_nil];.repeat first|exact(qUc ⟨2,no,dg,s.u,lo,cm,dl,av⟩ (.reg 0 m d) 0 ⟨rfl,rfl,hb⟩ rfl rfl)|refine⟨rfl,?_⟩
 .simp(maxSteps:=9^9)(disch:=try exact dS)only[go_sem,jH,stA,jS,avA,avL,h1,e1,ld,td,map_nil];.repeat first|exact(qUc ⟨3,no,dg,up,lo,cm,dl,av⟩ (.reg 0 m d) 0 ⟨rfl,rfl,hb⟩ rfl rfl)|refine⟨rfl,?_⟩
def sOb (x:Ses):Ob:= .live 8 [.t (jS x)] true true
theorem zIm {x y:Ses}(h:sOb x=sOb y):x=y:=by
 simp only[sOb,Ob.live.injEq,List.cons.injEq,V.t.injEq,zMf,true_and,and_true]at h;exact h
def zKk:Ct where
 α:=List UInt8×Ses
 aS x:=[.t (.sl (x.1.map qA)),.ref 0 0 0]
 ins x:=[sOb x.2]
 pre _:=True
 r x:= .t (.bool (decide (x.1=x.2.dg)))
 outs x:=[sOb x.2]
 inj:=by
  rintro⟨a,b⟩ ⟨c,d⟩ h h2;simp only[List.cons.injEq,V.t.injEq,T.sl.injEq,and_true,jC]at h h2;obtain rfl:=h;obtain rfl:=zIm h2;exact⟨rfl,rfl⟩
theorem jCh {b:List UInt8}{x:Ses}:zKk.fs [.t (.sl (b.map qA)),.ref 0 0 0] [.live 8 [.t (jS x)] true true]=some (.t (.bool (decide (b=x.dg))),[.live 8 [.t (jS x)] true true]):=zKk.eq (b,x) trivial
theorem qTi (b:List UInt8)(x:Ses):qBn.1.wp tab gl (qD 0 [.t (.sl (b.map qA)),.ref 0 0 0]) (qD 0 [sOb x]) (qZ [(3,none)] 1 (λr o=>r=.t (.bool (decide (b=x.dg)))/\o=[sOb x])):=by
 simp(disch:=omega)only[go_sem,qBn,sOb,jS]
def fdL (d:List UInt8):List (List UInt8)->Nat->Int
 |[],_ => -1
 |x::r,k=>if x=d then(k:Int) else fdL d r (k+1)
def zKr (n:Nat):Ct where
 α:=List (List UInt8)×Ses
 aS x:=[.t (.sl (x.1.map bsT)),.fn n [.ref 0 0 0]]
 ins x:=[sOb x.2]
 pre x:=x.1.length<=1000
 r x:= .t (.int .i64 (fdL x.2.dg x.1 0))
 outs x:=[sOb x.2]
 inj:=by
  rintro⟨a,b⟩ ⟨c,d⟩ h h2;simp only[List.cons.injEq,V.t.injEq,T.sl.injEq,and_true,qC0]at h h2;obtain rfl:=h;obtain rfl:=zIm h2;exact⟨rfl,rfl⟩
theorem jMz {n:Nat}{l:List (List UInt8)}{x:Ses}(h:l.length<=1000):(zKr n).fs [.t (.sl (l.map bsT)),.fn n [.ref 0 0 0]] [.live 8 [.t (jS x)] true true]=some (.t (.int .i64 (fdL x.dg l 0)),[.live 8 [.t (jS x)] true true]):=(zKr n).eq (l,x) h
theorem qMl (n:Nat)(hn:tab.look n=some zKk.fs)(l:List (List UInt8))(x:Ses)(h:l.length<=1000):jI.1.wp tab gl (qD 0 [.t (.sl (l.map bsT)),.fn n [.ref 0 0 0]]) (qD 0 [sOb x]) (qZ [(4,none)] 1 (λr o=>r=.t (.int .i64 (fdL x.dg l 0))/\o=[sOb x])):=by
 simp(disch:=omega)only[go_sem,jI,sOb];refine jZ (σ:=Nat) (λk=>k<=l.length/\fdL x.dg (l.drop k) k=fdL x.dg l 0) (λk=>l.length-k) (λk=>[(0,.t (.sl (l.map bsT))),(1,.fn n [.ref 0 0 0]),(7,.t (.int .i64 l.length)),(8,.t (.int .i64 k))]) (λ_=>[(0,.live 8 [.t (jS x)] true true)]) 0 ⟨oM,rfl⟩ (qL.rd id ?_ ?_ rfl) ?_
 .simp(disch:=omega)only[go_sem,id]
 .simp(disch:=omega)only[go_sem,id]
 rintro k ⟨hk,hF⟩;by_cases hlt:k<l.length
 .obtain⟨b,hg,hm,hd⟩:=qX hlt;rw[hd,fdL]at hF;by_cases c:b=x.dg
  .rw[if_pos c]at hF;have e:=@jCh b x;rw[show decide (b=x.dg)=true by simpa using c]at e;simp only[jS]at e;simp(disch:=omega)only[go_sem,jS,hlt,hg,oms,hn,e];exact hF
  .rw[if_neg c]at hF;have e:=@jCh b x;rw[show decide (b=x.dg)=false by simpa using c]at e;simp only[jS]at e;simp(disch:=omega)only[go_sem,jS,hlt,hg,oms,hn,e];refine qYo.of (k+1) ⟨oM,hF⟩ oM (qL.rd id ?_ ?_ rfl);all_goals simp(disch:=omega)only[go_sem,id,jS]
 .rw[show l.drop k=[] from drop_eq_nil_of_le oM,fdL]at hF;have e:k=l.length:=oM;subst e;simp(disch:=omega)only[go_sem,hlt];exact hF
def zKi (n:Nat):Ct where
 α:=List (List UInt8)×Ses
 aS x:=[.t (.sl (x.1.map bsT)),.fn n [.ref 0 0 0]]
 ins x:=[sOb x.2]
 pre x:=x.1.length<=1000
 r x:= .t (.bool (decide (0<=fdL x.2.dg x.1 0)))
 outs x:=[sOb x.2]
 inj:=by
  rintro⟨a,b⟩ ⟨c,d⟩ h h2;simp only[List.cons.injEq,V.t.injEq,T.sl.injEq,and_true,qC0]at h h2;obtain rfl:=h;obtain rfl:=zIm h2;exact⟨rfl,rfl⟩
theorem jK9 {n:Nat}{l:List (List UInt8)}{x:Ses}(h:l.length<=1000):(zKi n).fs [.t (.sl (l.map bsT)),.fn n [.ref 0 0 0]] [.live 8 [.t (jS x)] true true]=some (.t (.bool (decide (0<=fdL x.dg l 0))),[.live 8 [.t (jS x)] true true]):=(zKi n).eq (l,x) h
theorem qIw (n:Nat)(h1:tab.look 299=some (zKr n).fs)(l:List (List UInt8))(x:Ses)(h:l.length<=1000):zM.1.wp tab gl (qD 0 [.t (.sl (l.map bsT)),.fn n [.ref 0 0 0]]) (qD 0 [sOb x]) (qZ [(4,none)] 1 (λr o=>r=.t (.bool (decide (0<=fdL x.dg l 0)))/\o=[sOb x])):=by
 have e:=@jMz n l x h;simp only[jS]at e;by_cases c:0<=fdL x.dg l 0
 .simp(disch:=omega)only[go_sem,zM,sOb,jS,h1,e,c]
 .simp(disch:=omega)only[go_sem,zM,sOb,jS,h1,e,c]
end Go.Eng
end
