/- A part of an abstract machine, its walks, their tie. -/
import Derived.Test.YtkffggdjdmimgaaGreatDoorA25
import Derived.Test.YtkffggdjdmimgaaGreatDoorA16
import Derived.Test.YtkffggdjdmimgaaGreatDoorA23
import Derived.Test.YtkffggdjdmimgaaGreatDoorA24
set_option linter.all false
section
set_option maxHeartbeats 64000000
set_option maxRecDepth 20000
namespace Go.Eng
open List
variable (tab:Tab) (gl:Gl)
variable {vv:V} {oo:List Ob}
structure Rs.W (r:Rs):Prop where
 e:0≤r.e∧r.e≤255
 ns:r.ns.length≤8 ∧ ∀ x∈r.ns,tmI x
 bl:r.bl.length≤8 ∧ ∀ x∈r.bl,x.length≤1024
 no:r.no.length≤8 ∧ ∀ x∈r.no,x.length≤1024
 z:r.e≠0→r.ns=[]∧r.bl=[]∧r.no=[]
def bsE (b:List UInt8)(l:List (List UInt8)):List UInt8:=l.foldl blL (b++[u8I l.length])
def rs1 (ns:List Int):List UInt8:=ns.foldl nsF [0,u8I ns.length]
def rs3 (ns:List Int)(bl no:List (List UInt8)):List UInt8:=[bl,no].foldl bsE (rs1 ns)
def rsB (r:Rs):List UInt8:=if r.e=0 then rs3 r.ns r.bl r.no else [u8I r.e]
theorem jEr {ns:List Int}(k:Nat)(h:ns.length≤8):((ns.take k).foldl nsF [0,u8I ns.length]).length≤66:=by
 have h1:=qAz (f:=nsF) (c:=8) (l:=ns.take k) (b:=[0,u8I ns.length]) (fun b x _=>by unfold nsF;rw[length_append,jK9];omega);have h3:(ns.take k).length≤8:=by rw[length_take];omega
 simp only[length_cons,length_nil] at h1;omega
theorem jC3 {b:List UInt8}{l:List (List UInt8)}(k:Nat)(h:l.length≤8 ∧ ∀ x∈l,x.length≤1024):((l.take k).foldl blL (b++[u8I l.length])).length≤b.length+8209:=by
 have h1:=qAz (f:=blL) (c:=1026) (l:=l.take k) (b:=b++[u8I l.length]) (fun b x hx=>by have:=h.2 x (mem_of_mem_take hx);rw[yB];omega);have h3:(l.take k).length≤8:=by rw[length_take];omega
 simp only[length_append,length_cons,length_nil] at h1;omega
def lsT (l:List (List UInt8)):T:= .sl (l.map bsT)
theorem jHa (l:List (List UInt8)):lsT l = .sl (l.map bsT):=rfl
theorem zR3 {L:List (List (List UInt8))}{b:List UInt8}(h : ∀ l∈L,l.length≤8 ∧ ∀ x∈l,x.length≤1024)(k:Nat):((L.take k).foldl bsE b).length≤b.length+8209*L.length:=by
 have h1:=qAz (f:=bsE) (c:=8209) (l:=L.take k) (b:=b) (fun b l hl=>by
  have:=jC3 (b:=b) l.length (h l (mem_of_mem_take hl));rw[take_length] at this;exact this)
 have h3:(L.take k).length≤L.length:=by rw[length_take];omega
 have h4:8209*(L.take k).length≤8209*L.length:=Nat.mul_le_mul_left _ h3;omega
def qLg:ECt where
 α:=Rs
 β:=List UInt8
 aS:=fun r=>[.t (rsA r)]
 pre:=fun r=>r.W
 r:=fun b=> .t (.sl (b.map qA))
 R:=fun r b=>b=rsB r
theorem jLh {g:EF qLg}{r:Rs}(hp:r.W) : ∃ (b:List UInt8),(b=rsB r)∧qLg.fs g [.t (rsA r)] []=some (.t (.sl (b.map qA)),[]):=qLg.eq g r hp
theorem jS5 {r:Rs}(b:List UInt8)(hR:b=rsB r)(hV:vv = .t (.sl (b.map qA)))(hO:oo=[]):qLg.K r vv oo:=⟨b,hR,hV,hO⟩
theorem qIf (h1:LkC tab 98 vB)(h2:LkC tab 101 qFo)(r:Rs)(hp:r.W) :
  yT.1.wp tab gl (qE 0 [.t (rsA r)]) (qE 0 []) (qV [(2,none)] 0 (qLg.K r)):=by
 have hK : ∀ vv,vv = .t (.sl ((rsB r).map qA))→qLg.K r vv []:=fun vv h=>jS5 (rsB r) rfl h rfl
 obtain⟨he,hn,hb,ho,-⟩:=hp;have hR:rsB r=if r.e=0 then rs3 r.ns r.bl r.no else [u8I r.e]:=rfl
 obtain⟨er,ns,bl,no⟩:=r;simp only at he hn hb ho hR;have k8:((8:Nat):Int)=8:=rfl;have b3:ns.length≤8:=hn.1;have b4:bl.length≤8:=hb.1;have b5:no.length≤8:=ho.1;by_cases c0:er=0
 rotate_left
 ·rw[if_neg c0] at hR;rw[hR] at hK;simp(disch:=omega)only[go_sem,yT,rsA,u8w,c0];repeat refine aiG ?_
  exact hK _ rfl
 rw[if_pos c0] at hR;rw[hR] at hK;subst c0;clear hR;have z0:u8I 0=0:=rfl;simp(disch:=omega)only[go_sem,yT,rsA,u8w,z0];refine qB ns.length (fun k=>[(1,.ref 4096 0 0),(3,.sl 9000 0 ((ns.take k).foldl nsF [0,u8I ns.length]).length),(26,.t (.sl (ns.map iT))),(27,.t (.int .i64 ns.length)),(28,.t (.int .i64 (k:Nat)))]) (fun k=>[(9000,.live 1 ((((ns.take k).foldl nsF [0,u8I ns.length]).map qA).map V.t) true false),(4096,.live 4 [.t (rsA ⟨0,ns,bl,no⟩)] true true)]) (qJ.rd (fun j=>if j=9000 then 20576 else j) ?_ ?_ rfl) (fun k hk=>?_)
 ·simp(disch:=omega)only[go_sem,id,take_zero,foldl_nil,length_cons,length_nil]
 ·simp(disch:=omega)only[go_sem,id,rsA,take_zero,foldl_nil,mcn]
 have le:=jEr (ns:=ns) k b3;by_cases c:k<ns.length
 ·obtain⟨x,hg,hm,_⟩:=qX c;have hf:=yX (f:=nsF) (b:=[0,u8I ns.length]) hg;generalize (ns.take k).foldl nsF [0,u8I ns.length]=y at *;have u:=qVt (b:=y) (n:=x) oM;have lb:(nsF y x).length=y.length+8:=by unfold nsF;rw[length_append,qU]
  rw[show y++beI 8 x 8=nsF y x from rfl] at u;simp(disch:=omega)only[go_sem,rsA,c,hg,oms,iT,h1,u];repeat refine aiG ?_
  refine qJ.rd (fun j=>if j=9000 then 36896 else j) ?_ ?_ rfl;all_goals simp(disch:=omega)only[go_sem,id,rsA,hf,lb]
 obtain rfl:k=ns.length:=oM;have tt:ns.foldl nsF [0,u8I ns.length]=rs1 ns:=rfl;rw[take_length,tt] at le;clear c hk;obtain⟨L,hL⟩ : ∃ L,L=[bl,no]:=⟨_,rfl⟩;have lL:L.length=2:=by rw[hL];rfl
 have mL : ∀ l∈L,l.length≤8 ∧ ∀ x∈l,x.length≤1024:=by
  rw[hL];intro l hl;simp only[mem_cons,not_mem_nil,or_false] at hl;rcases hl with rfl | rfl
  ·exact hb
  ·exact ho
 have hR3:rs3 ns bl no=L.foldl bsE (rs1 ns):=by rw[hL];rfl
 have hLs:[V.t (.sl (bl.map bsT)),V.t (.sl (no.map bsT))]=(L.map lsT).map V.t:=by rw[hL];rfl
 rw[hR3] at hK;clear hR3 hL;simp(disch:=omega)only[go_sem,rsA,take_length,tt];repeat refine aiG ?_
 refine qB 2 (fun k=>[(3,.sl 9000 0 ((L.take k).foldl bsE (rs1 ns)).length),(40,.sl 9001 0 2),(41,.t (.int .i64 2)),(42,.t (.int .i64 (k:Nat)))]) (fun k=>[(9001,.live 1 ((L.map lsT).map V.t) true true),(9000,.live 1 ((((L.take k).foldl bsE (rs1 ns)).map qA).map V.t) true false)]) (qJ.rd (fun j=>if j=9001 then 45120 else j) ?_ ?_ rfl) (fun k hk=>?_)
 ·simp(disch:=omega)only[go_sem,id,take_zero,foldl_nil,tt]
 ·simp(disch:=omega)only[go_sem,id,take_zero,foldl_nil,tt,hLs]
 have le2:=zR3 (b:=rs1 ns) mL k;rcases (by omega:k<2∨k=2) with c | rfl
 ·obtain⟨l,hg,hm,_⟩:=qX (l:=L) (k:=k) oM;have hl:=mL l hm;have hf:=yX (f:=bsE) (b:=rs1 ns) hg;generalize (L.take k).foldl bsE (rs1 ns)=y at *;have lB:l.length≤8:=hl.1;simp(disch:=omega)only[go_sem,jHa,c,hg,oms,u8w,lL,length_map];refine qB l.length (fun j=>[(3,.sl 9000 0 ((l.take j).foldl blL (y++[u8I l.length])).length),(40,.sl 9001 0 2),(41,.t (.int .i64 2)),(42,.t (.int .i64 (k:Nat))),(52,.t (.sl (l.map bsT))),(53,.t (.int .i64 l.length)),(54,.t (.int .i64 (j:Nat)))]) (fun j=>[(9000,.live 1 ((((l.take j).foldl blL (y++[u8I l.length])).map qA).map V.t) true false),(9001,.live 1 ((L.map lsT).map V.t) true true)]) (qJ.rd (fun j=>if j=9000 then 57424 else j) ?_ ?_ rfl) (fun j hj=>?_)
  ·simp(disch:=omega)only[go_sem,id,take_zero,foldl_nil,length_append,length_cons,length_nil]
  ·simp(disch:=omega)only[go_sem,id,take_zero,foldl_nil]
  have le3:=jC3 (b:=y) j hl;rcases (by omega:j<l.length∨j=l.length) with d | rfl
  ·obtain⟨x,hgx,hmx,_⟩:=qX d;have hx:=hl.2 x hmx;have hfx:=yX (f:=blL) (b:=y++[u8I l.length]) hgx;generalize (l.take j).foldl blL (y++[u8I l.length])=z at *;have u:=qAk (b:=z) (x:=x) ⟨oM,oM⟩;have lb:=yB (b:=z) (x:=x);simp(disch:=omega)only[go_sem,d,hgx,h2,u];repeat refine aiG ?_
   refine qJ.rd (fun j=>if j=9000 then 73760 else j) ?_ ?_ rfl;all_goals simp(disch:=omega)only[go_sem,id,hfx,lb]
  have e:l.foldl blL (y++[u8I l.length])=bsE y l:=rfl;simp(disch:=omega)only[go_sem,take_length,e,c];refine qJ.rd id ?_ ?_ rfl;all_goals simp(disch:=omega)only[go_sem,id,hf]
 have e:(L.take 2).foldl bsE (rs1 ns)=L.foldl bsE (rs1 ns):=by rw[take_of_length_le oM]
 simp(disch:=omega)only[go_sem,e,take_length];repeat refine aiG ?_
 exact hK _ rfl
def rdS (b:List UInt8):Rs:=
 match qQ (b,0,0) 1 with
 | (e,s0)=>if e≠0 then ⟨e,[],[],[]⟩ else match qQ s0 1 with
 | (n1,s1)=>match jH3 s1 n1.toNat with
 | (ns,s2)=>match qQ s2 1 with
 | (n2,s3)=>match jAa s3 n2.toNat with
 | (bl,s4)=>match qQ s4 1 with
 | (n3,s5)=>⟨0,ns,bl,(jAa s5 n3.toNat).1⟩
theorem jOu {ns:List Int}{bl no:List (List UInt8)}:rs3 ns bl no=bY 0::bY ns.length::(ns.flatMap w8++(bY bl.length::(bl.flatMap wB++(bY no.length::no.flatMap wB)))) ∨ ¬ (ns.length<256∧bl.length<256∧no.length<256):=by
 by_cases c:ns.length<256∧bl.length<256∧no.length<256
 ·left;rw[←qY1 (n:=(ns.length:Int)) oM,←qY1 (n:=(bl.length:Int)) oM,←qY1 (n:=(no.length:Int)) oM];unfold rs3 rs1;simp only[foldl_cons,foldl_nil,bsE,qMn (f:=nsF) (w:=w8) (fun _ _=>rfl),qMn (f:=blL) (fun b k=>zF3),append_assoc,cons_append,nil_append,append_nil];rfl
 ·exact .inr c
theorem At.blob1 {b:List UInt8}{l:List (List UInt8)}{p:Nat}{r:List UInt8}(h:At b p (l.flatMap wB++r))(hx : ∀ x∈l,x.length≤1024) : ∃ q,jAa (b,p,0) l.length=(l,(b,q,0))∧At b q r:=
 At.many (w:=wB) (f:=fun s=>zF s 1024) (F:=jAa) (fun _=>rfl) (fun _ _=>rfl) (fun x hm p r g=>⟨_,(At.wblm 1024 g (hx x hm) oM).1,(At.wblm 1024 g (hx x hm) oM).2⟩) h
theorem jEi {r:Rs}(h:r.W):rdS (rsB r)=r:=by
 obtain⟨he,hn,hb,ho,hz⟩:=h;obtain⟨er,ns,bl,no⟩:=r;simp only at he hn hb ho hz;by_cases c0:er=0
 ·subst c0;have e:rsB ⟨0,ns,bl,no⟩=bY 0::bY ns.length::(ns.flatMap w8++(bY bl.length::(bl.flatMap wB++(bY no.length::no.flatMap wB)))):=by
   rw[rsB,if_pos rfl];exact jOu.resolve_right (fun g=>g ⟨by show ns.length<256;omega,by show bl.length<256;omega,by show no.length<256;omega⟩)
  have h0:At (rsB ⟨0,ns,bl,no⟩) 0 _:=⟨[],rfl,e⟩;generalize rsB ⟨0,ns,bl,no⟩=B at *;obtain⟨f0,h1⟩:=h0.byte oM;obtain⟨f1,h2⟩:=h1.byte oM;obtain⟨p2,f2,h3⟩:=At.many (w:=w8) (f:=fun s=>qQ s 8) (F:=jH3) (fun _=>rfl) (fun _ _=>rfl) (l:=ns) (fun x hm p r g=>⟨_,(At.w8 g (hn.2 x hm)).1,(At.w8 g (hn.2 x hm)).2⟩) h2;obtain⟨f3,h4⟩:=h3.byte oM;obtain⟨p4,f4,h5⟩:=h4.blob1 hb.2;obtain⟨f5,h6⟩:=h5.byte oM;obtain⟨p6,f6,h7⟩:=At.blob1 (r:=[]) (by rw[append_nil];exact h6) ho.2;simp only[rdS,f0,f1,f2,f3,f4,f5,f6,Int.toNat_natCast,ne_eq,not_true,if_false]
 ·obtain⟨rfl,rfl,rfl⟩:=hz c0;have e:rsB ⟨er,[],[],[]⟩=[bY er]:=by rw[rsB,if_neg c0];simp only[qY1 (n:=er) oM]
  have h0:At (rsB ⟨er,[],[],[]⟩) 0 (bY er::[]):=⟨[],rfl,e⟩;generalize rsB ⟨er,[],[],[]⟩=B at *;obtain⟨f0,-⟩:=h0.byte oM;simp only[rdS,f0,ne_eq,c0,not_false_eq_true,if_true]
theorem jOv {r:Rs}(h:r.W):(rsB r).length≤20000:=by
 obtain⟨he,hn,hb,ho,hz⟩:=h;unfold rsB;split
 ·have h1:=zR3 (L:=[r.bl,r.no]) (b:=rs1 r.ns) (by
   intro l hl;simp only[mem_cons,not_mem_nil,or_false] at hl;rcases hl with rfl | rfl
   ·exact hb
   ·exact ho) 2
  have h2:=jEr (ns:=r.ns) r.ns.length hn.1;rw[take_length] at h2;have h3:(rs1 r.ns).length≤66:=h2;have h4:(rs3 r.ns r.bl r.no).length≤(rs1 r.ns).length+8209*2:=h1;omega
 ·simp
def qL5:ECt where
 α:=List UInt8
 β:=Rs×Int
 aS:=fun b=>[.t (.sl (b.map qA))]
 pre:=fun b => ∃ r:Rs,r.W∧b=rsB r
 r:=fun (r,e)=> .tup [.t (rsA r),.t (.int .i64 e)]
 R:=fun b (r,e)=>r=rdS b∧e=0
theorem jPr {g:EF qL5}{b:List UInt8}(hp : ∃ r:Rs,r.W∧b=rsB r) : ∃ (r:Rs) (e:Int),(r=rdS b∧e=0)∧qL5.fs g [.t (.sl (b.map qA))] []=some (.tup [.t (rsA r),.t (.int .i64 e)],[]):=by
 obtain⟨y,h1,h2⟩:=qL5.eq g b hp;exact⟨y.1,y.2,h1,h2⟩
theorem jU9 {b:List UInt8}(r:Rs)(e:Int)(hR:r=rdS b∧e=0)(hV:vv = .tup [.t (rsA r),.t (.int .i64 e)])(hO:oo=[]):qL5.K b vv oo:=⟨(r,e),hR,hV,hO⟩
theorem qKf (h1:LkC tab 76 qFr)(h2:LkC tab 77 qFp)(h3:LkC tab 78 qGd)(h4:LkC tab 79 qI5)(b:List UInt8)(hp : ∃ r:Rs,r.W∧b=rsB r) :
  vG.1.wp tab gl (qE 0 [.t (.sl (b.map qA))]) (qE 0 []) (qV [(2,(some (4,true))),(3,none)] 0 (qL5.K b)):=by
 obtain⟨r,hr,rfl⟩:=hp;have hQ:=jEi hr;have hle:=jOv hr;have hK : ∀ vv,vv = .tup [.t (rsA r),.t (.int .i64 0)]→qL5.K (rsB r) vv []:=fun vv h=>jU9 r 0 ⟨hQ.symm,rfl⟩ h rfl
 clear hQ;obtain⟨he,hn,hb,ho,hz⟩:=hr;obtain⟨er,ns,bl,no⟩:=r;simp only at he hn hb ho hz;have k1:((1:Nat):Int)=1:=rfl;have k8:((8:Nat):Int)=8:=rfl;have zTr:((1024:Nat):Int)=1024:=rfl;have cz:((0:Nat):Int)=0:=rfl;by_cases c0:er=0
 rotate_left
 ·obtain⟨rfl,rfl,rfl⟩:=hz c0;have e:rsB ⟨er,[],[],[]⟩=[bY er]:=by rw[rsB,if_neg c0];simp only[qY1 (n:=er) oM]
  have h0:At (rsB ⟨er,[],[],[]⟩) 0 (bY er::[]):=⟨[],rfl,e⟩;generalize rsB ⟨er,[],[],[]⟩=B at *;have hlt:B.length<1000000000:=oM;obtain⟨p1,f0,h1'⟩ : ∃ p1,qQ (B,0,0) 1=(er,(B,p1,0))∧At B p1 []:=⟨_,h0.byte oM⟩;have hp:=h1'.end;have e1:=qJu (b:=B) hlt;have e2:=wU (s:=(B,0,0)) (k:=1) ⟨h0.ok hlt,oM,oM⟩;have e3:=qQt (s:=(B,p1,0)) (h1'.ok hlt);rw[show kF (B,p1,0)=0 from if_neg (by simp only;omega)] at e3;rw[f0,k1] at e2;simp only[rdO,cz] at e1 e2 e3;simp(disch:=omega)only[go_sem,vG,qBl,h1,e1,h2,e2,h4,e3,c0];repeat refine aiG ?_
  exact hK _ rfl
 subst c0;have e:rsB ⟨0,ns,bl,no⟩=bY 0::bY ns.length::(ns.flatMap w8++(bY bl.length::(bl.flatMap wB++(bY no.length::no.flatMap wB)))):=by
  rw[rsB,if_pos rfl];exact jOu.resolve_right (fun g=>g ⟨by show ns.length<256;omega,by show bl.length<256;omega,by show no.length<256;omega⟩)
 have h0:At (rsB ⟨0,ns,bl,no⟩) 0 _:=⟨[],rfl,e⟩;clear e;generalize rsB ⟨0,ns,bl,no⟩=B at *;have hlt:B.length<1000000000:=oM;have b3:ns.length≤8:=hn.1;have b4:bl.length≤8:=hb.1;have b5:no.length≤8:=ho.1;obtain⟨p1,f0,A1⟩ : ∃ p1,qQ (B,0,0) 1=(0,(B,p1,0))∧At B p1 _:=⟨_,h0.byte oM⟩;obtain⟨p2,f1,A2⟩ : ∃ p2,qQ (B,p1,0) 1=((ns.length:Int),(B,p2,0))∧At B p2 _:=⟨_,A1.byte oM⟩;have e1:=qJu (b:=B) hlt;have e2:=wU (s:=(B,0,0)) (k:=1) ⟨h0.ok hlt,oM,oM⟩;have e3:=wU (s:=(B,p1,0)) (k:=1) ⟨A1.ok hlt,oM,oM⟩;rw[f0,k1] at e2;rw[f1,k1] at e3;simp only[rdO,cz] at e1 e2 e3;simp(disch:=omega)only[go_sem,vG,qBl,h1,e1,h2,e2,e3];repeat refine aiG ?_
 clear h0 A1 f0 f1 e1 e2 e3;refine yU (σ:=Nat×List Int×Nat) (fun t=>t.1≤ns.length∧t.2.1=ns.take t.1∧At B t.2.2 ((ns.drop t.1).flatMap w8++(bY bl.length::(bl.flatMap wB++(bY no.length::no.flatMap wB))))) (fun t=>ns.length-t.1) (fun t=>[(2,.ref 4096 0 0),(4,.ref 8208 0 0),(5,.ref 12336 0 0),(6,.t (.int .i64 ns.length)),(7,.t (.int .i64 t.1))]) (fun t=>[(9001,.live 1 ((t.2.1.map iT).map V.t) true false),(12336,.live 4 [.agg [.t (.int .i64 0),.sl 9001 0 t.1,.nil,.nil]] true true),(8208,vD (B,t.2.2,0)),(4096,.live 4 [.agg [.t (.int .i64 0),.nil,.nil,.nil]] true true)]) (0,[],p2) ⟨sM,rfl,A2⟩ ?_ ?_
 ·refine qJ.cv0 (hv:=[(9001,.live 1 [] true false)]) (ho:=[(12336,.live 4 [.agg [.t (.int .i64 0),.sl 9001 0 0,.nil,.nil]] true true),(8208,vD (B,p2,0)),(4096,.live 4 [.agg [.t (.int .i64 0),.nil,.nil,.nil]] true true)]) id ?_ ?_ rfl rfl;all_goals simp(disch:=omega)only[go_sem,id,qBl]
  all_goals rfl
 clear A2 p1 p2;rintro⟨k,l,p⟩ ⟨hk,hl,hA⟩;simp only at hk hl hA;have ll:l.length=k:=by rw[hl,length_take];omega
 rcases (by omega:k<ns.length∨k=ns.length) with c | hke
 ·obtain⟨x,hg,hm,hdr⟩:=qX c;rw[hdr,flatMap_cons,append_assoc] at hA;obtain⟨f,hA'⟩:=At.w8 hA (hn.2 x hm);have e:=wU (s:=(B,p,0)) (k:=8) ⟨hA.ok hlt,oM,oM⟩;rw[f,k8] at e;simp only[rdO] at e;simp(disch:=omega)only[go_sem,qBl,c,h2,e,ll];repeat refine aiG ?_
  refine qZz.of (k+1,l++[x],p+8) ⟨by show k+1≤_;omega,by rw[hl];exact (qQy hg).symm,hA'⟩ (by show ns.length-(k+1)<ns.length-k;omega) (qJ.rd (fun j=>if j=9001 then 36944 else j) ?_ ?_ rfl);all_goals simp(disch:=omega)only[go_sem,id,qBl,iT]
  all_goals simp only[map_append,mcn,iT]
 subst hke;rw[take_length] at hl;subst hl;rw[drop_length,flatMap_nil,nil_append] at hA;obtain⟨p2,f1,A2⟩ : ∃ p2,qQ (B,p,0) 1=((bl.length:Int),(B,p2,0))∧At B p2 _:=⟨_,hA.byte oM⟩;have e3:=wU (s:=(B,p,0)) (k:=1) ⟨hA.ok hlt,oM,oM⟩;rw[f1,k1] at e3;simp only[rdO] at e3;simp(disch:=omega)only[go_sem,qBl,h2,e3];repeat refine aiG ?_
 refine yU (σ:=Nat×List (List UInt8)×Nat) (fun t=>t.1≤bl.length∧t.2.1=bl.take t.1∧At B t.2.2 ((bl.drop t.1).flatMap wB++(bY no.length::no.flatMap wB))) (fun t=>bl.length-t.1) (fun t=>[(2,.ref 4096 0 0),(4,.ref 8208 0 0),(5,.ref 12336 0 0),(6,.t (.int .i64 bl.length)),(8,.t (.int .i64 t.1))]) (fun t=>[(9002,.live 1 ((t.2.1.map bsT).map V.t) true false),(9001,.live 1 ((l.map iT).map V.t) true false),(12336,.live 4 [.agg [.t (.int .i64 0),.sl 9001 0 l.length,.sl 9002 0 t.1,.nil]] true true),(8208,vD (B,t.2.2,0)),(4096,.live 4 [.agg [.t (.int .i64 0),.nil,.nil,.nil]] true true)]) (0,[],p2) ⟨sM,rfl,A2⟩ ?_ ?_
 ·refine qJ.cv0 (hv:=[(9002,.live 1 [] true false)]) (ho:=[(9001,.live 1 ((l.map iT).map V.t) true false),(12336,.live 4 [.agg [.t (.int .i64 0),.sl 9001 0 l.length,.sl 9002 0 0,.nil]] true true),(8208,vD (B,p2,0)),(4096,.live 4 [.agg [.t (.int .i64 0),.nil,.nil,.nil]] true true)]) id ?_ ?_ rfl rfl;all_goals simp(disch:=omega)only[go_sem,id,qBl]
  all_goals rfl
 clear A2 p2 e3 f1 hA p hk;rintro⟨k,m,p⟩ ⟨hk,hl,hA⟩;simp only at hk hl hA;have lm:m.length=k:=by rw[hl,length_take];omega
 rcases (by omega:k<bl.length∨k=bl.length) with c | hke
 ·obtain⟨x,hg,hm,hdr⟩:=qX c;rw[hdr,flatMap_cons,append_assoc] at hA;obtain⟨f,hA'⟩:=At.wblm 1024 hA (hb.2 x hm) oM;have e:=qGg (s:=(B,p,0)) (k:=1024) ⟨hA.ok hlt,oM⟩;rw[f,zTr] at e;simp only[rdO] at e;simp(disch:=omega)only[go_sem,qBl,c,h3,e,lm];repeat refine aiG ?_
  refine qZz.of (k+1,m++[x],p+2+x.length) ⟨by show k+1≤_;omega,by rw[hl];exact (qQy hg).symm,hA'⟩ (by show bl.length-(k+1)<bl.length-k;omega) (qJ.rd (fun j=>if j=9002 then 57424 else j) ?_ ?_ rfl);all_goals simp(disch:=omega)only[go_sem,id,qBl,qI]
  all_goals simp only[map_append,mcn,qI]
 subst hke;rw[take_length] at hl;subst hl;rw[drop_length,flatMap_nil,nil_append] at hA;obtain⟨p2,f1,A2⟩ : ∃ p2,qQ (B,p,0) 1=((no.length:Int),(B,p2,0))∧At B p2 _:=⟨_,hA.byte oM⟩;have e3:=wU (s:=(B,p,0)) (k:=1) ⟨hA.ok hlt,oM,oM⟩;rw[f1,k1] at e3;simp only[rdO] at e3;simp(disch:=omega)only[go_sem,qBl,h2,e3];repeat refine aiG ?_
 refine yU (σ:=Nat×List (List UInt8)×Nat) (fun t=>t.1≤no.length∧t.2.1=no.take t.1∧At B t.2.2 ((no.drop t.1).flatMap wB)) (fun t=>no.length-t.1) (fun t=>[(2,.ref 4096 0 0),(4,.ref 8208 0 0),(5,.ref 12336 0 0),(6,.t (.int .i64 no.length)),(9,.t (.int .i64 t.1))]) (fun t=>[(9003,.live 1 ((t.2.1.map bsT).map V.t) true false),(9002,.live 1 ((m.map bsT).map V.t) true false),(9001,.live 1 ((l.map iT).map V.t) true false),(12336,.live 4 [.agg [.t (.int .i64 0),.sl 9001 0 l.length,.sl 9002 0 m.length,.sl 9003 0 t.1]] true true),(8208,vD (B,t.2.2,0)),(4096,.live 4 [.agg [.t (.int .i64 0),.nil,.nil,.nil]] true true)]) (0,[],p2) ⟨sM,rfl,A2⟩ ?_ ?_
 ·refine qJ.cv0 (hv:=[(9003,.live 1 [] true false)]) (ho:=[(9002,.live 1 ((m.map bsT).map V.t) true false),(9001,.live 1 ((l.map iT).map V.t) true false),(12336,.live 4 [.agg [.t (.int .i64 0),.sl 9001 0 l.length,.sl 9002 0 m.length,.sl 9003 0 0]] true true),(8208,vD (B,p2,0)),(4096,.live 4 [.agg [.t (.int .i64 0),.nil,.nil,.nil]] true true)]) id ?_ ?_ rfl rfl;all_goals simp(disch:=omega)only[go_sem,id,qBl]
  all_goals rfl
 clear A2 p2 e3 f1 hA p hk;rintro⟨k,o,p⟩ ⟨hk,hl,hA⟩;simp only at hk hl hA;have lo:o.length=k:=by rw[hl,length_take];omega
 rcases (by omega:k<no.length∨k=no.length) with c | hke
 ·obtain⟨x,hg,hm,hdr⟩:=qX c;rw[hdr,flatMap_cons] at hA;obtain⟨f,hA'⟩:=At.wblm 1024 hA (ho.2 x hm) oM;have e:=qGg (s:=(B,p,0)) (k:=1024) ⟨hA.ok hlt,oM⟩;rw[f,zTr] at e;simp only[rdO] at e;simp(disch:=omega)only[go_sem,qBl,c,h3,e,lo];repeat refine aiG ?_
  refine qZz.of (k+1,o++[x],p+2+x.length) ⟨by show k+1≤_;omega,by rw[hl];exact (qQy hg).symm,hA'⟩ (by show no.length-(k+1)<no.length-k;omega) (qJ.rd (fun j=>if j=9003 then 77904 else j) ?_ ?_ rfl);all_goals simp(disch:=omega)only[go_sem,id,qBl,qI]
  all_goals simp only[map_append,mcn,qI]
 subst hke;rw[take_length] at hl;subst hl;rw[drop_length,flatMap_nil] at hA;have hp:=hA.end;have e:=qQt (s:=(B,p,0)) (hA.ok hlt);rw[show kF (B,p,0)=0 from if_neg (by simp only;omega)] at e;simp only[rdO] at e;simp(disch:=omega)only[go_sem,qBl,h4,e,take_length];repeat refine aiG ?_
 exact hK _ rfl
def qPm:ECt where
 α:=Int×List UInt8
 β:=Int
 aS:=fun (e,b)=>[.t (.int .i64 e),.t (.sl (b.map qA))]
 pre:=fun (e,b)=>True
 r:=fun r'=> .t (.int .i64 r')
 R:=fun (e,b) r'=>r'=if e=0∧128<b.length then 4 else e
theorem jEg {g:EF qPm}{e:Int}{b:List UInt8}:qPm.fs g [.t (.int .i64 e),.t (.sl (b.map qA))] []=some (.t (.int .i64 (if e=0∧128<b.length then 4 else e)),[]):=fnQ qPm (e,b) trivial
theorem jUh {e:Int}{b:List UInt8}(hV:vv = .t (.int .i64 (if e=0∧128<b.length then 4 else e)))(hO:oo=[]):qPm.K (e,b) vv oo:=⟨_,rfl,hV,hO⟩
theorem zAo  (e:Int)(b:List UInt8) :
  qE7.1.wp tab gl (qE 0 [.t (.int .i64 e),.t (.sl (b.map qA))]) (qE 0 []) (qV [(4,none)] 0 (qPm.K (e,b))):=by
 simp +contextual(disch:=omega)only[go_sem,qE7,↓jX,↓yW,qLa]
 (repeat' (first | apply And.intro | intro _))<;>(try rfl)
 all_goals (refine jUh ?_ rfl;split;all_goals first | rfl | (exfalso;omega))
def qLz:ECt where
 α:=Av
 β:=Int
 aS:=fun a=>[.t (avA a)]
 pre:=fun a=>a.Ok
 r:=fun r'=> .t (.int .i64 r')
 R:=fun a r'=>r'=0
 inj:=by rintro a a' e _;simp only[qBk,qM7,qVl] at e;obtain rfl:=e;rfl
theorem qYd {g:EF qLz}{a:Av}(hp:a.Ok):qLz.fs g [.t (avA a)] []=some (.t (.int .i64 (0)),[]):=fnQ qLz a hp
theorem zKp {a:Av}(hV:vv = .t (.int .i64 (0)))(hO:oo=[]):qLz.K a vv oo:=⟨_,rfl,hV,hO⟩
theorem zAn (h1:LkC tab 290 zDd)(h2:LkC tab 289 zC8){g3}(h3:LkE tab 291 qPm g3)(a:Av)(hp:a.Ok) :
  yF.1.wp tab gl (qE 0 [.t (avA a)]) (qE 0 []) (qV [(2,none)] 0 (qLz.K a)):=by
 cases a with
 | reg s0 s1 d=>
  obtain⟨a0,a1,a2⟩:=hp;simp(disch:=omega)only[go_sem,yF,avA,avL,h1,h2,qT1 a0,qT1 a1,qQp,a2,map_nil];exact zKp rfl rfl
 | loc n=>
  simp(disch:=omega)only[go_sem,yF,avA,avL,h1,h2,qT1 hp,qQp,map_nil];exact zKp rfl rfl
 | cmd n=>
  simp(disch:=omega)only[go_sem,yF,avA,avL,h1,h2,qT1 hp,qQp,map_nil];exact zKp rfl rfl
 | idx n op od nm=>
  obtain⟨a0,a1,a2⟩:=hp;have e := @jEg g3 0 od;rw[if_neg oM] at e;simp(disch:=omega)only[go_sem,yF,avA,avL,h1,h2,h3,qT1 a0,qQp,a2,e,map_nil];exact⟨rfl,zKp rfl rfl⟩
 | aut=>
  simp(disch:=omega)only[go_sem,yF,avA,avL,map_nil];exact zKp rfl rfl
 | apr nm rf=>
  obtain⟨a0,a1⟩:=hp;have e := @jEg g3 0 rf;rw[if_neg oM] at e;simp(disch:=omega)only[go_sem,yF,avA,avL,h1,h2,h3,qQp,a0,e,map_nil];exact⟨rfl,zKp rfl rfl⟩
 | alt bs=>
  obtain⟨a0,a1⟩:=hp;have w:=qT1 (n:=(bs.length:Int)) (a:=2) (b:=8) oM;simp(disch:=omega)only[go_sem,yF,avA,avL,h1,h2,w,qQp,map_nil];refine qB bs.length (fun k=>[(4,.t (.bool true)),(84,.t (.sl (bs.map bsT))),(85,.t (.int .i64 bs.length)),(86,.t (.int .i64 k))]) (fun _=>[]) ?_ (fun k hk=>?_)
  ·refine qJ.rd id ?_ ?_ rfl;all_goals simp(disch:=omega)only[go_sem,id]
  ·by_cases hlt:k<bs.length
   ·have hb:=zTi a1 hlt;simp(disch:=omega)only[go_sem,hlt,hb];refine qJ.rd id ?_ ?_ rfl;all_goals simp(disch:=omega)only[go_sem,id]
   ·have e:k=bs.length:=oM;subst e;simp(disch:=omega)only[go_sem,h2,qQp];exact zKp rfl rfl
def qPl:ECt where
 α:=List UInt8×Av
 β:=List (List UInt8)
 aS:=fun (d,a)=>[.t (.sl (d.map qA)),.t (avA a)]
 pre:=fun (d,a)=>True
 r:=fun r'=> .t (.sl (r'.map bsT))
 R:=fun (d,a) r'=>r'=qTs d a
 inj:=by rintro⟨d,a⟩ ⟨d',a'⟩ e _;simp only[qBk,qM7,qVl] at e;obtain⟨rfl,rfl⟩:=e;rfl
theorem jN7 {g:EF qPl}{d:List UInt8}{a:Av}:qPl.fs g [.t (.sl (d.map qA)),.t (avA a)] []=some (.t (.sl ((qTs d a).map bsT)),[]):=fnQ qPl (d,a) trivial
theorem jN6 {d:List UInt8}{a:Av}(hV:vv = .t (.sl ((qTs d a).map bsT)))(hO:oo=[]):qPl.K (d,a) vv oo:=⟨_,rfl,hV,hO⟩
theorem jVi {n:Int}:T.int .u8 (IntKind.u8.wrap n)=qA (u8I n):=u8w
theorem qZk (h1:LkC tab 98 vB)(d:List UInt8)(a:Av) :
  qAw.1.wp tab gl (qE 0 [.t (.sl (d.map qA)),.t (avA a)]) (qE 0 []) (qV [(4,none)] 0 (qPl.K (d,a))):=by
 cases a with
 | reg s0 s1 x=>
  have hu:=qM2 (b:=[]) (n:=s0) (by decide);simp only[map_nil,length_nil,nil_append] at hu;have hv:=qM2 (b:=beI 2 s0 2) (n:=s1) (by rw[qU];omega);rw[qU] at hv;have t2:List.take 2 (beI 2 s0 2)=beI 2 s0 2:=take_of_length_le (by rw[qU];exact Nat.le_refl _);have t4:List.take 4 (beI 2 s0 2++beI 2 s1 2)=beI 2 s0 2++beI 2 s1 2:=take_of_length_le (by rw[length_append,qU,qU];exact Nat.le_refl _);simp(disch:=omega)only[go_sem,qAw,avA,avL,h1,hu,hv,qU,t2,t4,qTs,qDf,map_nil];exact⟨rfl,jN6 rfl rfl⟩
 | _=>
  simp(disch:=omega)only[go_sem,qAw,avA,avL,qTs,map_nil,jVi];exact jN6 rfl rfl
theorem qX1 {t:Nat}{fs:List (List UInt8)}(h:t<256∧(qZ t fs).length<1000000000):jL.fs [.t (.int .i64 t),.t (.sl (fs.map bsT))] []=some (.sl 0 0 32,[.live 1 (((vW t fs).map qA).map V.t) true false]):=jL.eq (t,fs) h
theorem u8n:u8I 1=1∧u8I 2=2∧u8I 3=3∧u8I 4=4∧u8I 7=7∧u8I 8=8∧u8I 9=9:=by decide
theorem n8i:((8:Nat):Int)=8:=rfl
def qL0:ECt where
 α:=List UInt8×Av
 β:=List UInt8
 aS:=fun (d,a)=>[.t (.sl (d.map qA)),.t (avA a)]
 pre:=fun (d,a)=>d.length=32∧a.Ok
 r:=fun r=> .sl 0 0 r.length
 outs:=fun r=>[.live 1 ((r.map qA).map V.t) true false]
 R:=fun (d,a) r=>r=qNz d a
 inj:=by rintro⟨d,a⟩ ⟨d',a'⟩ e _;simp only[qBk,qM7,qVl] at e;obtain⟨rfl,rfl⟩:=e;rfl
theorem jN9 {g:EF qL0}{d:List UInt8}{a:Av}(hp:d.length=32∧a.Ok) : ∃ (r:List UInt8),(r=qNz d a)∧qL0.fs g [.t (.sl (d.map qA)),.t (avA a)] []=some (.sl 0 0 r.length,[.live 1 ((r.map qA).map V.t) true false]):=qL0.eq g (d,a) hp
theorem jUk {d:List UInt8}{a:Av}(r:List UInt8)(hR:r=qNz d a)(hV:vv = .sl 0 0 r.length)(hO:oo=[.live 1 ((r.map qA).map V.t) true false]):qL0.K (d,a) vv oo:=⟨r,hR,hV,hO⟩
theorem qZj {g1}(h1:LkE tab 241 qLz g1){g2}(h2:LkE tab 316 qPl g2)(h3:LkC tab 123 jL)(d:List UInt8)(a:Av)(hp:d.length=32∧a.Ok) :
  qAv.1.wp tab gl (qE 0 [.t (.sl (d.map qA)),.t (avA a)]) (qE 0 []) (kG [] [(4,none)] 0 (qL0.K (d,a))):=by
 obtain⟨h0,ha⟩:=hp;have c1 := @qYd g1 a ha;have c2 := @jN7 g2 d a;have c3:=qX1 (t:=8) (fs:=[zB6 a]::qTs d a) ⟨oM,zNf h0 ha⟩;have hX:vW 8 ([zB6 a]::qTs d a)=qNz d a:=rfl;have lX:=qBe (d0:=d) (a:=a);rw[hX] at c3;generalize hG:qNz d a=x at *;have hK : ∀ vv oo,vv = .sl 0 0 32→oo=[.live 1 ((x.map qA).map V.t) true false]→qL0.K (d,a) vv oo:=fun vv oo e1 e2=>jUk x hG.symm (by rw[e1,lX]) e2
 clear hG hX;cases a
 case alt bs=>
  have l:=ha.1;have t1:List.take (1+bs.length) (T.sl [qA 8]::List.map bsT bs)=T.sl [qA 8]::List.map bsT bs:=take_of_length_le soM;simp only[avA,avL,qTs,zB6,mcn,qI,n8i] at c1 c2 c3;simp(disch:=omega)only[go_sem,qAv,avA,avL,h1,h2,h3,c1,c2,c3,t1,jVi,u8n,map_nil];repeat refine aiG ?_
  exact hK _ _ rfl rfl
 all_goals
  simp only[avA,avL,qTs,zB6,mcn,qI,n8i] at c1 c2 c3;simp(disch:=omega)only[go_sem,qAv,avA,avL,h1,h2,h3,c1,c2,c3,jVi,u8n,map_nil];repeat refine aiG ?_
  exact hK _ _ rfl rfl
def hnF (h:Int):List UInt8:=vW 11 [[u8I h]]
def ixB (x:Ix):List UInt8:=[u8I x.n,u8I x.kd,u8I x.ar]++beI 2 x.sz 2++[if x.wr then 1 else 0]
def inF (x:Ix):List UInt8:=vW 7 [ixB x,x.po]
theorem qM9 {x:Ix}:(inF x).length=32:=qH
theorem zPj {h:Int}:(hnF h).length=32:=qH
theorem yC3:((11:Nat):Int)=11:=rfl
theorem ci7:((7:Nat):Int)=7:=rfl
def qOv:ECt where
 α:=Int
 β:=List UInt8
 aS:=fun h=>[.t (.int .i64 h)]
 pre:=fun h=>0≤h∧h≤3
 r:=fun r'=> .t (.sl (r'.map qA))
 R:=fun h r'=>r'=hnF h
theorem jMg {g:EF qOv}{h:Int}(hp:0≤h∧h≤3):qOv.fs g [.t (.int .i64 h)] []=some (.t (.sl ((hnF h).map qA)),[]):=fnQ qOv h hp
theorem jTr {h:Int}(hV:vv = .t (.sl ((hnF h).map qA)))(hO:oo=[]):qOv.K h vv oo:=⟨_,rfl,hV,hO⟩
theorem qNo (h1:LkC tab 123 jL)(h:Int)(hp:0≤h∧h≤3) :
  xM.1.wp tab gl (qE 0 [.t (.int .i64 h)]) (qE 0 []) (qV [(2,none)] 0 (qOv.K h)):=by
 have e:=qX1 (t:=11) (fs:=[[u8I h]]) ⟨oM,by simp[qZ,qAy]⟩;simp only[mcn,qI,yC3] at e;have l:=zPj (h:=h);have t:List.take 32 (hnF h)=hnF h:=take_of_length_le oM;rw[show vW 11 [[u8I h]]=hnF h from rfl] at e;simp +contextual(disch:=omega)only[go_sem,xM,h1,e,u8w,t,↓jX,↓yW,qLa];all_goals exact jTr rfl rfl
def qJb:ECt where
 α:=Ix
 β:=List UInt8
 aS:=fun x=>[.t (ixA x)]
 pre:=fun x=>x.po.length≤32
 r:=fun r'=> .t (.sl (r'.map qA))
 R:=fun x r'=>r'=inF x
theorem zTp {g:EF qJb}{x:Ix}(hp:x.po.length≤32):qJb.fs g [.t (ixA x)] []=some (.t (.sl ((inF x).map qA)),[]):=fnQ qJb x hp
theorem jTv {x:Ix}(hV:vv = .t (.sl ((inF x).map qA)))(hO:oo=[]):qJb.K x vv oo:=⟨_,rfl,hV,hO⟩
theorem qVu (h1:LkC tab 98 vB)(h2:LkC tab 123 jL)(x:Ix)(hp:x.po.length≤32) :
  qCi.1.wp tab gl (qE 0 [.t (ixA x)]) (qE 0 []) (qV [(2,none)] 0 (qJb.K x)):=by
 have u:=qM2 (b:=[u8I x.n,u8I x.kd,u8I x.ar]) (n:=x.sz) sM;have e:=qX1 (t:=7) (fs:=[ixB x,x.po]) ⟨oM,by simp[qZ,qAy,ixB,qU];omega⟩;simp only[mcn,qI,map_append,length_cons,length_nil] at u;have l:=qM9 (x:=x);have t:List.take 32 (inF x)=inF x:=take_of_length_le oM;rw[show vW 7 [ixB x,x.po]=inF x from rfl] at e;have lu:(beI 2 x.sz 2).length=2:=qU;generalize hbb:beI 2 x.sz 2=bb at *;have t3 : ∀ c:UInt8,List.take 3 (bb++[c])=bb++[c]:=fun c=>take_of_length_le (by simp[lu])
 cases hw:x.wr;all_goals
  have hb:ixB x=u8I x.n::u8I x.kd::u8I x.ar::(bb++[if x.wr=true then 1 else 0]):=by simp only[ixB,hbb];rfl
  simp only[hw,if_true,Bool.false_eq_true,if_false] at hb;simp only[ci7,mcn,qI,hb] at e;simp(disch:=omega)only[go_sem,qCi,ixA,h1,h2,u,e,u8w,t,hw,lu,t3];exact⟨rfl,jTv rfl rfl⟩
def qXu (s:St)(h:Int):Int×Int:=if ixP s.a.ix h 0 = -1 then (0,7) else (ixP s.a.ix h 0,0)
def qFs:ECt where
 α:=St×Int
 β:=Int×Int
 aS:=fun (s,h)=>[.t (stA s),.t (.int .i64 h)]
 pre:=fun (s,h)=>s.a.ix.length≤6∧(∀ x∈s.a.ix,0≤x.n∧x.n≤255)∧tmI h
 r:=fun (i,e)=> .tup [.t (.int .i64 i),.t (.int .i64 e)]
 R:=fun (s,h) (i,e)=>(i,e)=qXu s h
theorem zGm {g:EF qFs}{s:St}{h:Int}(hp:s.a.ix.length≤6∧(∀ x∈s.a.ix,0≤x.n∧x.n≤255)∧tmI h) : ∃ (i e:Int),((i,e)=qXu s h)∧qFs.fs g [.t (stA s),.t (.int .i64 h)] []=some (.tup [.t (.int .i64 i),.t (.int .i64 e)],[]):=by
 obtain⟨y,h1,h2⟩:=qFs.eq g (s,h) hp;exact⟨y.1,y.2,h1,h2⟩
theorem jL8 {s:St}{h:Int}(i e:Int)(hR:(i,e)=qXu s h)(hV:vv = .tup [.t (.int .i64 i),.t (.int .i64 e)])(hO:oo=[]):qFs.K (s,h) vv oo:=⟨(i,e),hR,hV,hO⟩
theorem zAh  (s:St)(h:Int)(hp:s.a.ix.length≤6∧(∀ x∈s.a.ix,0≤x.n∧x.n≤255)∧tmI h) :
  qE0.1.wp tab gl (qE 0 [.t (stA s),.t (.int .i64 h)]) (qE 0 []) (qV [(4,none),(5,none)] 0 (qFs.K (s,h))):=by
 obtain⟨hl,hn,ht⟩:=hp;simp(disch:=omega)only[go_sem,qE0,stA];refine yU (σ:=Nat) (fun k=>k≤s.a.ix.length∧ixP (s.a.ix.drop k) h k=ixP s.a.ix h 0) (fun k=>s.a.ix.length-k) (fun k=>[(1,.t (.int .i64 h)),(10,.t (.sl (s.a.ix.map ixA))),(11,.t (.int .i64 s.a.ix.length)),(12,.t (.int .i64 k))]) (fun _=>[]) 0 ⟨oM,rfl⟩ (qJ.rd id ?_ ?_ rfl) ?_
 ·simp(disch:=omega)only[go_sem,id]
 ·simp(disch:=omega)only[go_sem,id]
 rintro k ⟨hk,hI⟩;by_cases hlt:k<s.a.ix.length
 ·obtain⟨x,hg,hm,hd⟩:=qX hlt;have hx:=hn x hm;rw[hd] at hI;by_cases c:h-256=x.n
  ·have hI':ixP s.a.ix h 0=k:=by rw[←hI,ixP,if_pos oM]
   simp(disch:=omega)only[go_sem,hlt,hg,oms,ixA,c];exact jL8 k 0 (by rw[qXu,hI',if_neg oM]) rfl rfl
  ·rw[ixP,if_neg oM] at hI;simp(disch:=omega)only[go_sem,hlt,hg,oms,ixA,c];repeat refine aiG ?_
   refine qZz.of (k+1) ⟨oM,hI⟩ oM (qJ.rd id ?_ ?_ rfl);all_goals simp(disch:=omega)only[go_sem,id]
 ·have e:k=s.a.ix.length:=oM;subst e;rw[drop_length,ixP] at hI;simp(disch:=omega)only[go_sem,hlt];exact jL8 0 7 (by rw[qXu,←hI,if_pos rfl]) rfl rfl
def qBn (s:St)(h:Int):Obj×Int:=if h<512∨515≤h then (default,7) else if (s.obs.getD (h-512).toNat default).p.kd=0 then (default,7) else (s.obs.getD (h-512).toNat default,0)
def qHg:ECt where
 α:=St×Int
 β:=Obj×Int
 aS:=fun (s,h)=>[.t (stA s),.t (.int .i64 h)]
 pre:=fun (s,h)=>s.obs.length=3∧tmI h
 r:=fun (x,e)=> .tup [.t (qC9 x),.t (.int .i64 e)]
 R:=fun (s,h) (x,e)=>(x,e)=qBn s h
theorem zNd {g:EF qHg}{s:St}{h:Int}(hp:s.obs.length=3∧tmI h) : ∃ (x:Obj) (e:Int),((x,e)=qBn s h)∧qHg.fs g [.t (stA s),.t (.int .i64 h)] []=some (.tup [.t (qC9 x),.t (.int .i64 e)],[]):=by
 obtain⟨y,h1,h2⟩:=qHg.eq g (s,h) hp;exact⟨y.1,y.2,h1,h2⟩
theorem zYe {s:St}{h:Int}(x:Obj)(e:Int)(hR:(x,e)=qBn s h)(hV:vv = .tup [.t (qC9 x),.t (.int .i64 e)])(hO:oo=[]):qHg.K (s,h) vv oo:=⟨(x,e),hR,hV,hO⟩
theorem qY8  (s:St)(h:Int)(hp:s.obs.length=3∧tmI h) :
  wF.1.wp tab gl (qE 0 [.t (stA s),.t (.int .i64 h)]) (qE 0 []) (qV [(4,(some (9,true))),(5,none)] 0 (qHg.K (s,h))):=by
 obtain⟨hl,ht⟩:=hp;by_cases c1:h<512
 ·simp(disch:=omega)only[go_sem,wF,stA,c1];exact zYe default 7 (by rw[qBn,if_pos (.inl c1)]) rfl rfl
 by_cases c2:515≤h
 ·simp(disch:=omega)only[go_sem,wF,stA,c1,c2,hl];exact zYe default 7 (by rw[qBn,if_pos (.inr c2)]) rfl rfl
 obtain⟨n,rfl⟩ : ∃ n:Nat,h=((512+n:Nat):Int):=⟨(h-512).toNat,oM⟩;have hn:n<s.obs.length:=oM;have hg:s.obs[n]?=some (s.obs.getD n default):=by rw[getD_eq_getElem?_getD,getElem?_eq_getElem hn];rfl
 have hF:qBn s ((512+n:Nat):Int)=if (s.obs.getD n default).p.kd=0 then (default,7) else (s.obs.getD n default,0):=by
  rw[qBn,if_neg oM,show (((512+n:Nat):Int)-512).toNat=n by omega]
 have hs:(512:Int)+n-512=n:=oM;generalize s.obs.getD n default=x at *;by_cases c3:x.p.kd=0
 ·simp(disch:=omega)only[go_sem,wF,stA,c1,c2,hl,hg,oms,qC9,c3,hs];exact zYe default 7 (by rw[hF,if_pos c3]) rfl rfl
 ·simp(disch:=omega)only[go_sem,wF,stA,c1,c2,hl,hg,oms,qC9,c3,hs];exact zYe x 0 (by rw[hF,if_neg c3]) rfl rfl
theorem jR3 {l:List Ses}:zBn 8 (l.map yD)=true:=by simp only[zBn,all_map,all_eq_true];intro x _;rfl
theorem jRw {l:List Obj}:zBn 9 (l.map qC9)=true:=by simp only[zBn,all_map,all_eq_true];intro x _;rfl
theorem yCa {l:List Ix}:zBn 8 (l.map ixA)=true:=by simp only[zBn,all_map,all_eq_true];intro x _;rfl
theorem jPe {s:St}(h:s.ses.length=3){k:Int}(h0:0≤k)(h2:k≤2):s.ses[k.toNat]?=some (s.ses.getD k.toNat qDk)∧s.ses.getD k.toNat qDk∈s.ses:=by
 have hn:k.toNat<s.ses.length:=oM;have e:s.ses.getD k.toNat qDk=s.ses[k.toNat]:=by rw[getD_eq_getElem?_getD,getElem?_eq_getElem hn];rfl
 exact⟨by rw[e,getElem?_eq_getElem hn],by rw[e];exact getElem_mem hn⟩
def zGa:Ct where
 α:=List Ses
 aS x:=[.t (.sl (x.map yD))]
 ins _:=[]
 pre x:=x≠[]∧x.length≤1000
 r x:= .sl 0 0 x.length
 outs x:=[.live 8 ((x.map yD).map V.t) true false]
 inj:=by
  intro a b h _;simp only[List.cons.injEq,V.t.injEq,T.sl.injEq,and_true,zOn] at h;subst h;exact⟨rfl,rfl⟩
theorem jLq {x:List Ses}(h:x≠[]∧x.length≤1000):zGa.fs [.t (.sl (x.map yD))] []=some (.sl 0 0 x.length,[.live 8 ((x.map yD).map V.t) true false]):=zGa.eq x h
theorem qWh (x:List Ses)(hx:x≠[]∧x.length≤1000):zW.1.wp tab gl (qE 0 [.t (.sl (x.map yD))]) (qE 0 []) (kG [] [(2,none)] 0 (fun r o=>r = .sl 0 0 x.length∧o=[.live 8 ((x.map yD).map V.t) true false])):=by
 match x,hx with
 | [],hx=>exact absurd rfl hx.1
 | a::r,hx=>
  have hz:=jR3 (l:=a::r);simp only[length_cons] at hx;simp only[map_cons] at hz;simp(disch:=omega)only[go_sem,zW,map_cons,hz];exact⟨hz,trivial⟩
theorem zEw (h1:LkC tab 191 zGa)(s:St)(k:Int)(x:Ses)(hp:s.ses.length=3∧0≤k∧k≤2) :
  qG7.1.wp tab gl (qE 0 [.t (stA s),.t (.int .i64 k),.t (yD x)]) (qE 0 []) (qV [(6,(some (30,true)))] 0 (qJg.K (s,k,x))):=by
 obtain⟨q1,q2,q3⟩:=hp;obtain⟨hg,hm⟩:=jPe q1 q2 q3;have e:=jLq (x:=s.ses) ⟨by intro h;rw[h] at q1;exact absurd q1 (by decide),oM⟩;rw[q1] at e;simp(maxSteps:=9^9)(disch:=try exact dS)only[go_sem,qG7,stA,yD,h1,e,q1,q2,q3,jR3,hg,oms];exact jUi (by rw[take_of_length_le (by simp[q1])];simp only[stA,map_set,yD]) rfl
def qDa (s:St)(h:Int):Int×Ses×Bool:=if jEy s h = -1 then (0,qDk,false) else (h-768,s.ses.getD (h-768).toNat qDk,true)
theorem qEp {s:St}{h:Int}(c:h<768∨771≤h):jEy s h = -1:=if_pos oM
def qJi:ECt where
 α:=St×Int
 β:=Int×Ses×Bool
 aS:=fun (s,h)=>[.t (stA s),.t (.int .i64 h)]
 pre:=fun (s,h)=>s.ses.length=3∧tmI h
 r:=fun (k,x,b)=> .tup [.t (.int .i64 k),.t (yD x),.t (.bool b)]
 R:=fun (s,h) (k,x,b)=>(k,x,b)=qDa s h
theorem zVz {g:EF qJi}{s:St}{h:Int}(hp:s.ses.length=3∧tmI h) : ∃ (k:Int) (x:Ses) (b:Bool),((k,x,b)=qDa s h)∧qJi.fs g [.t (stA s),.t (.int .i64 h)] []=some (.tup [.t (.int .i64 k),.t (yD x),.t (.bool b)],[]):=by
 obtain⟨y,h1,h2⟩:=qJi.eq g (s,h) hp;exact⟨y.1,y.2.1,y.2.2,h1,h2⟩
theorem qNm {s:St}{h:Int}(k:Int)(x:Ses)(b:Bool)(hR:(k,x,b)=qDa s h)(hV:vv = .tup [.t (.int .i64 k),.t (yD x),.t (.bool b)])(hO:oo=[]):qJi.K (s,h) vv oo:=⟨(k,x,b),hR,hV,hO⟩
theorem zAt  (s:St)(h:Int)(hp:s.ses.length=3∧tmI h) :
  kD.1.wp tab gl (qE 0 [.t (stA s),.t (.int .i64 h)]) (qE 0 []) (qV [(4,none),(5,(some (8,true))),(6,none)] 0 (qJi.K (s,h))):=by
 obtain⟨hl,ht⟩:=hp;by_cases c1:h<768
 ·simp(disch:=omega)only[go_sem,kD,stA,c1];first | exact (qNm 0 qDk false (by simp[qDa,qEp (.inl c1)]) rfl rfl) | exact⟨rfl,(qNm 0 qDk false (by simp[qDa,qEp (.inl c1)]) rfl rfl)⟩ | exact⟨rfl,rfl,(qNm 0 qDk false (by simp[qDa,qEp (.inl c1)]) rfl rfl)⟩ | exact⟨rfl,rfl,rfl,(qNm 0 qDk false (by simp[qDa,qEp (.inl c1)]) rfl rfl)⟩
 by_cases c2:771≤h
 ·simp(disch:=omega)only[go_sem,kD,stA,c1,c2,hl];first | exact (qNm 0 qDk false (by simp[qDa,qEp (.inr c2)]) rfl rfl) | exact⟨rfl,(qNm 0 qDk false (by simp[qDa,qEp (.inr c2)]) rfl rfl)⟩ | exact⟨rfl,rfl,(qNm 0 qDk false (by simp[qDa,qEp (.inr c2)]) rfl rfl)⟩ | exact⟨rfl,rfl,rfl,(qNm 0 qDk false (by simp[qDa,qEp (.inr c2)]) rfl rfl)⟩
 obtain⟨n,rfl⟩ : ∃ n:Nat,h=((768+n:Nat):Int):=⟨(h-768).toNat,oM⟩;have hs:((768+n:Nat):Int)-768=n:=oM;obtain⟨hg,hm⟩:=jPe hl (k:=(n:Int)) oM oM;have hF:qDa s ((768+n:Nat):Int)=if (s.ses.getD n qDk).kd=0 then (0,qDk,false) else ((n:Int),s.ses.getD n qDk,true):=by
  simp only[qDa,jEy,hs,Int.toNat_natCast];rw[if_neg (show ¬ (((768+n:Nat):Int)<768∨(3:Int)≤n) by omega)];by_cases c:(s.ses.getD n qDk).kd=0
  ·simp only[c,if_true]
  ·simp only[c,if_false];rw[if_neg oM]
 rw[Int.toNat_natCast] at hg;generalize s.ses.getD n qDk=x at *;by_cases c3:x.kd=0
 ·simp(disch:=omega)only[go_sem,kD,stA,c1,c2,hl,hg,oms,yD,c3,hs];first | exact (qNm 0 qDk false (by rw[hF,if_pos c3]) rfl rfl) | exact⟨rfl,(qNm 0 qDk false (by rw[hF,if_pos c3]) rfl rfl)⟩ | exact⟨rfl,rfl,(qNm 0 qDk false (by rw[hF,if_pos c3]) rfl rfl)⟩ | exact⟨rfl,rfl,rfl,(qNm 0 qDk false (by rw[hF,if_pos c3]) rfl rfl)⟩
 ·simp(disch:=omega)only[go_sem,kD,stA,c1,c2,hl,hg,oms,yD,c3,hs];first | exact (qNm n x true (by rw[hF,if_neg c3]) rfl rfl) | exact⟨rfl,(qNm n x true (by rw[hF,if_neg c3]) rfl rfl)⟩ | exact⟨rfl,rfl,(qNm n x true (by rw[hF,if_neg c3]) rfl rfl)⟩ | exact⟨rfl,rfl,rfl,(qNm n x true (by rw[hF,if_neg c3]) rfl rfl)⟩
def qHj:ECt where
 α:=St×Int
 β:=Ses×Int
 aS:=fun (s,h)=>[.t (stA s),.t (.int .i64 h)]
 pre:=fun (s,h)=>s.ses.length=3∧tmI h
 r:=fun (x,e)=> .tup [.t (yD x),.t (.int .i64 e)]
 R:=fun (s,h) (x,e)=>(x,e)=if (qDa s h).2.2=true then ((qDa s h).2.1,0) else (qDk,8)
theorem zOg {g:EF qHj}{s:St}{h:Int}(hp:s.ses.length=3∧tmI h) : ∃ (x:Ses) (e:Int),((x,e)=if (qDa s h).2.2=true then ((qDa s h).2.1,0) else (qDk,8))∧qHj.fs g [.t (stA s),.t (.int .i64 h)] []=some (.tup [.t (yD x),.t (.int .i64 e)],[]):=by
 obtain⟨y,h1,h2⟩:=qHj.eq g (s,h) hp;exact⟨y.1,y.2,h1,h2⟩
theorem zHr {s:St}{h:Int}(x:Ses)(e:Int)(hR:(x,e)=if (qDa s h).2.2=true then ((qDa s h).2.1,0) else (qDk,8))(hV:vv = .tup [.t (yD x),.t (.int .i64 e)])(hO:oo=[]):qHj.K (s,h) vv oo:=⟨(x,e),hR,hV,hO⟩
theorem zAr {g1}(h1:LkE tab 217 qJi g1)(s:St)(h:Int)(hp:s.ses.length=3∧tmI h) :
  qBx.1.wp tab gl (qE 0 [.t (stA s),.t (.int .i64 h)]) (qE 0 []) (qV [(4,(some (8,true))),(5,none)] 0 (qHj.K (s,h))):=by
 obtain⟨k,x,b,e,e1⟩:=zVz (g:=g1) (h:=h) hp;simp only[stA,yD] at e1;cases b
 ·simp(disch:=omega)only[go_sem,qBx,stA,h1,e1];first | exact (zHr qDk 8 (by rw[←e];rfl) rfl rfl) | exact⟨rfl,(zHr qDk 8 (by rw[←e];rfl) rfl rfl)⟩ | exact⟨rfl,rfl,(zHr qDk 8 (by rw[←e];rfl) rfl rfl)⟩ | exact⟨rfl,rfl,rfl,(zHr qDk 8 (by rw[←e];rfl) rfl rfl)⟩
 ·simp(disch:=omega)only[go_sem,qBx,stA,h1,e1];first | exact (zHr x 0 (by rw[←e];rfl) rfl rfl) | exact⟨rfl,(zHr x 0 (by rw[←e];rfl) rfl rfl)⟩ | exact⟨rfl,rfl,(zHr x 0 (by rw[←e];rfl) rfl rfl)⟩ | exact⟨rfl,rfl,rfl,(zHr x 0 (by rw[←e];rfl) rfl rfl)⟩
def qPr:ECt where
 α:=St×Int
 β:=St×Int
 aS:=fun (s,h)=>[.t (stA s),.t (.int .i64 h)]
 pre:=fun (s,h)=>s.ses.length=3∧tmI h
 r:=fun (t,e)=> .tup [.t (stA t),.t (.int .i64 e)]
 R:=fun (s,h) (t,e)=>(t,e)=if (qDa s h).2.2=true then ({ s with ses:=s.ses.set (h-768).toNat qDk },0) else (default,8)
theorem jO3 {g:EF qPr}{s:St}{h:Int}(hp:s.ses.length=3∧tmI h) : ∃ (t:St) (e:Int),((t,e)=if (qDa s h).2.2=true then ({ s with ses:=s.ses.set (h-768).toNat qDk },0) else (default,8))∧qPr.fs g [.t (stA s),.t (.int .i64 h)] []=some (.tup [.t (stA t),.t (.int .i64 e)],[]):=by
 obtain⟨y,h1,h2⟩:=qPr.eq g (s,h) hp;exact⟨y.1,y.2,h1,h2⟩
theorem zHq {s:St}{h:Int}(t:St)(e:Int)(hR:(t,e)=if (qDa s h).2.2=true then ({ s with ses:=s.ses.set (h-768).toNat qDk },0) else (default,8))(hV:vv = .tup [.t (stA t),.t (.int .i64 e)])(hO:oo=[]):qPr.K (s,h) vv oo:=⟨(t,e),hR,hV,hO⟩
theorem jEx {s:St}{h k:Int}{x:Ses}(e:(k,x,true)=qDa s h):k=h-768∧0≤k∧k≤2∧x=s.ses.getD k.toNat qDk:=by
 by_cases c:jEy s h = -1
 ·rw[qDa,if_pos c] at e;cases e
 ·rw[qDa,if_neg c] at e;simp only[Prod.mk.injEq,and_true] at e;obtain⟨rfl,rfl⟩:=e;have : ¬ (h<768∨771≤h):=fun d=>c (qEp d)
  exact⟨rfl,oM,oM,rfl⟩
theorem qZl {g1}(h1:LkE tab 217 qJi g1){g2}(h2:LkE tab 259 qJg g2)(s:St)(h:Int)(hp:s.ses.length=3∧tmI h) :
  qAx.1.wp tab gl (qE 0 [.t (stA s),.t (.int .i64 h)]) (qE 0 []) (qV [(4,(some (30,true))),(5,none)] 0 (qPr.K (s,h))):=by
 obtain⟨k,x,b,e,e1⟩:=zVz (g:=g1) (h:=h) hp;simp only[stA,yD] at e1;cases b
 ·simp(disch:=omega)only[go_sem,qAx,stA,h1,e1];first | exact (zHq default 8 (by rw[←e];rfl) rfl rfl) | exact⟨rfl,(zHq default 8 (by rw[←e];rfl) rfl rfl)⟩ | exact⟨rfl,rfl,(zHq default 8 (by rw[←e];rfl) rfl rfl)⟩ | exact⟨rfl,rfl,rfl,(zHq default 8 (by rw[←e];rfl) rfl rfl)⟩
 ·obtain⟨k1,k2,k3,k4⟩:=jEx e;have e2:=zUn (g:=g2) (s:=s) (k:=k) (x:=qDk) ⟨hp.1,k2,k3⟩;simp only[stA,yD,qDk,map_nil] at e2;simp(disch:=omega)only[go_sem,qAx,stA,h1,e1,h2,e2];first | exact (zHq { s with ses:=s.ses.set k.toNat qDk } 0 (by rw[←e,←k1];rfl) rfl rfl) | exact⟨rfl,(zHq { s with ses:=s.ses.set k.toNat qDk } 0 (by rw[←e,←k1];rfl) rfl rfl)⟩ | exact⟨rfl,rfl,(zHq { s with ses:=s.ses.set k.toNat qDk } 0 (by rw[←e,←k1];rfl) rfl rfl)⟩ | exact⟨rfl,rfl,rfl,(zHq { s with ses:=s.ses.set k.toNat qDk } 0 (by rw[←e,←k1];rfl) rfl rfl)⟩
def qF5 (s:St)(h:Int):Int×Ses×Bool:=((qDa s h).1,(qDa s h).2.1,(qDa s h).2.2&&(decide ((qDa s h).2.1.kd=2)||decide ((qDa s h).2.1.kd=3)))
def qL3:ECt where
 α:=St×Int
 β:=Int×Ses×Bool
 aS:=fun (s,h)=>[.t (stA s),.t (.int .i64 h)]
 pre:=fun (s,h)=>s.ses.length=3∧tmI h
 r:=fun (k,x,b)=> .tup [.t (.int .i64 k),.t (yD x),.t (.bool b)]
 R:=fun (s,h) (k,x,b)=>(k,x,b)=qF5 s h
theorem jEv {g:EF qL3}{s:St}{h:Int}(hp:s.ses.length=3∧tmI h) : ∃ (k:Int) (x:Ses) (b:Bool),((k,x,b)=qF5 s h)∧qL3.fs g [.t (stA s),.t (.int .i64 h)] []=some (.tup [.t (.int .i64 k),.t (yD x),.t (.bool b)],[]):=by
 obtain⟨y,h1,h2⟩:=qL3.eq g (s,h) hp;exact⟨y.1,y.2.1,y.2.2,h1,h2⟩
theorem qNl {s:St}{h:Int}(k:Int)(x:Ses)(b:Bool)(hR:(k,x,b)=qF5 s h)(hV:vv = .tup [.t (.int .i64 k),.t (yD x),.t (.bool b)])(hO:oo=[]):qL3.K (s,h) vv oo:=⟨(k,x,b),hR,hV,hO⟩
theorem qJ0 {g1}(h1:LkE tab 217 qJi g1)(s:St)(h:Int)(hp:s.ses.length=3∧tmI h) :
  jG.1.wp tab gl (qE 0 [.t (stA s),.t (.int .i64 h)]) (qE 0 []) (qV [(4,none),(5,(some (8,true))),(6,none)] 0 (qL3.K (s,h))):=by
 obtain⟨k,x,b,e,e1⟩:=zVz (g:=g1) (h:=h) hp;simp only[stA,yD] at e1;have hF:qF5 s h=(k,x,b&&(decide (x.kd=2)||decide (x.kd=3))):=by rw[qF5,←e]
 cases b
 ·simp(disch:=omega)only[go_sem,jG,stA,h1,e1];first | exact (qNl k x false hF.symm rfl rfl) | exact⟨rfl,(qNl k x false hF.symm rfl rfl)⟩ | exact⟨rfl,rfl,(qNl k x false hF.symm rfl rfl)⟩ | exact⟨rfl,rfl,rfl,(qNl k x false hF.symm rfl rfl)⟩
 by_cases c1:x.kd=2
 ·obtain⟨kd,no,dg,up,lo,cm,dl,av⟩:=x;simp only at c1 e1 hF;subst c1;simp(disch:=omega)only[go_sem,jG,stA,h1,e1];first | exact (qNl k ⟨2,no,dg,up,lo,cm,dl,av⟩ true (by rw[hF];rfl) rfl rfl) | exact⟨rfl,(qNl k ⟨2,no,dg,up,lo,cm,dl,av⟩ true (by rw[hF];rfl) rfl rfl)⟩ | exact⟨rfl,rfl,(qNl k ⟨2,no,dg,up,lo,cm,dl,av⟩ true (by rw[hF];rfl) rfl rfl)⟩ | exact⟨rfl,rfl,rfl,(qNl k ⟨2,no,dg,up,lo,cm,dl,av⟩ true (by rw[hF];rfl) rfl rfl)⟩
 by_cases c2:x.kd=3
 ·obtain⟨kd,no,dg,up,lo,cm,dl,av⟩:=x;simp only at c2 e1 hF;subst c2;simp(disch:=omega)only[go_sem,jG,stA,h1,e1];first | exact (qNl k ⟨3,no,dg,up,lo,cm,dl,av⟩ true (by rw[hF];rfl) rfl rfl) | exact⟨rfl,(qNl k ⟨3,no,dg,up,lo,cm,dl,av⟩ true (by rw[hF];rfl) rfl rfl)⟩ | exact⟨rfl,rfl,(qNl k ⟨3,no,dg,up,lo,cm,dl,av⟩ true (by rw[hF];rfl) rfl rfl)⟩ | exact⟨rfl,rfl,rfl,(qNl k ⟨3,no,dg,up,lo,cm,dl,av⟩ true (by rw[hF];rfl) rfl rfl)⟩
 ·simp(disch:=omega)only[go_sem,jG,stA,h1,e1,c1,c2];first | exact (qNl k x false (by rw[hF];simp[c1,c2]) rfl rfl) | exact⟨rfl,(qNl k x false (by rw[hF];simp[c1,c2]) rfl rfl)⟩ | exact⟨rfl,rfl,(qNl k x false (by rw[hF];simp[c1,c2]) rfl rfl)⟩ | exact⟨rfl,rfl,rfl,(qNl k x false (by rw[hF];simp[c1,c2]) rfl rfl)⟩
def frS:List Ses→Nat→Int
 | [],_ => -1
 | x::r,k=>if x.kd=0 then (k:Int) else frS r (k+1)
def nwS (s:St)(k:Int):Ses:=⟨k,qVc s 16,z32,-1,31,0,0,false⟩
def qWt (s:St)(k:Int):St×Int×Int:=if frS s.ses 0 = -1 then (default,0,25) else ({ s with dr:=s.dr+1,ses:=s.ses.set (frS s.ses 0).toNat (nwS s k) },768+frS s.ses 0,0)
def qPt:ECt where
 α:=St×Int
 β:=St×Int×Int
 aS:=fun (s,k)=>[.t (stA s),.t (.int .i64 k)]
 pre:=fun (s,k)=>(s.a.en.length=32∧(0≤s.dr∧s.dr≤1000000))∧s.ses.length=3∧1≤k∧k≤3
 r:=fun (t,h,e)=> .tup [.t (stA t),.t (.int .i64 h),.t (.int .i64 e)]
 R:=fun (s,k) (t,h,e)=>(t,h,e)=qWt s k
theorem jO5 {g:EF qPt}{s:St}{k:Int}(hp:(s.a.en.length=32∧(0≤s.dr∧s.dr≤1000000))∧s.ses.length=3∧1≤k∧k≤3) : ∃ (t:St) (h e:Int),((t,h,e)=qWt s k)∧qPt.fs g [.t (stA s),.t (.int .i64 k)] []=some (.tup [.t (stA t),.t (.int .i64 h),.t (.int .i64 e)],[]):=by
 obtain⟨y,h1,h2⟩:=qPt.eq g (s,k) hp;exact⟨y.1,y.2.1,y.2.2,h1,h2⟩
theorem zHs {s:St}{k:Int}(t:St)(h e:Int)(hR:(t,h,e)=qWt s k)(hV:vv = .tup [.t (stA t),.t (.int .i64 h),.t (.int .i64 e)])(hO:oo=[]):qPt.K (s,k) vv oo:=⟨(t,h,e),hR,hV,hO⟩
theorem zAs {g1}(h1:LkE tab 190 qL1 g1)(h2:LkC tab 268 qU7){g3}(h3:LkE tab 259 qJg g3)(s:St)(k:Int)(hp:(s.a.en.length=32∧(0≤s.dr∧s.dr≤1000000))∧s.ses.length=3∧1≤k∧k≤3) :
  qFg.1.wp tab gl (qE 0 [.t (stA s),.t (.int .i64 k)]) (qE 0 []) (qV [(4,(some (30,true))),(5,none),(6,none)] 0 (qPt.K (s,k))):=by
 obtain⟨⟨he,hd⟩,hl,k1,k3⟩:=hp;obtain⟨t,b,⟨ht,hb⟩,e1⟩:=jOs (g:=g1) (s:=s) (n:=16) ⟨he,⟨hd.1,oM⟩,oM,oM⟩;have lb:b.length=16:=by rw[hb];exact wG
 have tz:List.take 32 z32=z32:=rfl;have lz:=qAd;subst ht;simp(maxSteps:=9^9)(disch:=try exact dS)only[go_sem,qFg,stA,k1,k3];refine yU (σ:=Nat) (fun j=>j≤3∧frS (s.ses.drop j) j=frS s.ses 0) (fun j=>3-j) (fun j=>[(1,.t (.int .i64 k)),(2,.ref 4096 0 0),(4,.ref 4112 0 0),(20,.t (.sl (s.ses.map yD))),(21,.t (.int .i64 3)),(22,.t (.int .i64 j))]) (fun j=>[(4112,.live 30 [.agg [.nil,.nil,.nil,.t (.int .i64 0),.t (.int .i64 0),.t (.int .i64 0),.t (.int .i64 0),.t (.bool false),.nil,.t (.int .i64 0),.t (.int .i64 0),.nil,.t (.int .i64 0),.t (.int .i64 0),.t (.int .i64 0),.t (.int .i64 0),.t (.int .i64 0),.t (.int .i64 0),.nil,.t (.bool false),.t (.bool false),.nil,.t (.int .i64 0),.t (.int .i64 0),.t (.bool false),.t (.int .i64 0),.nil,.nil,.nil,.nil]] true true),(4096,.live 30 [.t (stA s)] true true)]) 0 ⟨oM,rfl⟩ (qJ.rd id ?_ ?_ rfl) ?_
 ·simp(maxSteps:=9^9)(disch:=try exact dS)only[go_sem,id,stA,hl]
 ·simp(maxSteps:=9^9)(disch:=try exact dS)only[go_sem,id,stA]
 rintro j ⟨hj,hF⟩;by_cases hlt:j<3
 ·obtain⟨x,hg,hm,hdr⟩:=qX (l:=s.ses) (k:=j) oM;rw[hdr,frS] at hF;by_cases c3:x.kd=0
  ·rw[if_pos c3] at hF;have e2:=zUn (g:=g3) (s := { s with dr:=s.dr+1 }) (k:=(j:Int)) (x:=⟨k,b,z32,-1,31,0,0,false⟩) ⟨hl,oM,oM⟩;simp only[stA,yD] at e1 e2;simp(maxSteps:=9^9)(disch:=try exact dS)only[go_sem,stA,hl,hlt,hg,oms,yD,c3,h1,h2,h3,zN2,e1,e2,tz,lz];first | exact (zHs { s with dr:=s.dr+1,ses:=s.ses.set j ⟨k,b,z32,-1,31,0,0,false⟩ } (768+j) 0 (by rw[qWt,←hF,if_neg oM,Int.toNat_natCast,nwS,hb]) rfl rfl) | exact⟨rfl,(zHs { s with dr:=s.dr+1,ses:=s.ses.set j ⟨k,b,z32,-1,31,0,0,false⟩ } (768+j) 0 (by rw[qWt,←hF,if_neg oM,Int.toNat_natCast,nwS,hb]) rfl rfl)⟩ | exact⟨rfl,rfl,(zHs { s with dr:=s.dr+1,ses:=s.ses.set j ⟨k,b,z32,-1,31,0,0,false⟩ } (768+j) 0 (by rw[qWt,←hF,if_neg oM,Int.toNat_natCast,nwS,hb]) rfl rfl)⟩ | exact⟨rfl,rfl,rfl,(zHs { s with dr:=s.dr+1,ses:=s.ses.set j ⟨k,b,z32,-1,31,0,0,false⟩ } (768+j) 0 (by rw[qWt,←hF,if_neg oM,Int.toNat_natCast,nwS,hb]) rfl rfl)⟩
  ·rw[if_neg c3] at hF;simp(maxSteps:=9^9)(disch:=try exact dS)only[go_sem,stA,hl,hlt,hg,oms,yD,c3];refine qZz.of (j+1) ⟨oM,hF⟩ oM (qJ.rd id ?_ ?_ rfl);all_goals simp(maxSteps:=9^9)(disch:=try exact dS)only[go_sem,id,stA]
 ·have e3:j=3:=oM;subst e3;rw[drop_eq_nil_of_le oM,frS] at hF;simp(maxSteps:=9^9)(disch:=try exact dS)only[go_sem,stA,hl];first | exact (zHs default 0 25 (by rw[qWt,←hF,if_pos rfl]) rfl rfl) | exact⟨rfl,(zHs default 0 25 (by rw[qWt,←hF,if_pos rfl]) rfl rfl)⟩ | exact⟨rfl,rfl,(zHs default 0 25 (by rw[qWt,←hF,if_pos rfl]) rfl rfl)⟩ | exact⟨rfl,rfl,rfl,(zHs default 0 25 (by rw[qWt,←hF,if_pos rfl]) rfl rfl)⟩
def exS (s:St)(k:Int)(x:Ses)(a:Av):St := { s with ses:=s.ses.set k.toNat { x with dg:=qNz x.dg a } }
def qJh:ECt where
 α:=St×Int×Ses×Av
 β:=St
 aS:=fun (s,k,x,a)=>[.t (stA s),.t (.int .i64 k),.t (yD x),.t (avA a)]
 pre:=fun (s,k,x,a)=>s.ses.length=3∧(0≤k∧k≤2)∧x.dg.length=32∧a.Ok
 r:=fun r'=> .t (stA r')
 R:=fun (s,k,x,a) r'=>r'=exS s k x a
 inj:=by rintro⟨s,k,x,a⟩ ⟨s',k',x',a'⟩ e _;simp only[qBk,qM7,qVl] at e;obtain⟨rfl,rfl,rfl,rfl⟩:=e;rfl
theorem jEu {g:EF qJh}{s:St}{k:Int}{x:Ses}{a:Av}(hp:s.ses.length=3∧(0≤k∧k≤2)∧x.dg.length=32∧a.Ok):qJh.fs g [.t (stA s),.t (.int .i64 k),.t (yD x),.t (avA a)] []=some (.t (stA (exS s k x a)),[]):=fnQ qJh (s,k,x,a) hp
theorem jUw {s:St}{k:Int}{x:Ses}{a:Av}(hV:vv = .t (stA (exS s k x a)))(hO:oo=[]):qJh.K (s,k,x,a) vv oo:=⟨_,rfl,hV,hO⟩
theorem qV7 {g1}(h1:LkE tab 274 qL0 g1){g2}(h2:LkE tab 259 qJg g2)(s:St)(k:Int)(x:Ses)(a:Av)(hp:s.ses.length=3∧(0≤k∧k≤2)∧x.dg.length=32∧a.Ok) :
  qCv.1.wp tab gl (qE 0 [.t (stA s),.t (.int .i64 k),.t (yD x),.t (avA a)]) (qE 0 []) (qV [(8,(some (30,true)))] 0 (qJh.K (s,k,x,a))):=by
 obtain⟨hl,⟨k0,k2⟩,hd,ha⟩:=hp;obtain⟨r,hr,e1⟩:=jN9 (g:=g1) (d:=x.dg) (a:=a) ⟨hd,ha⟩;have e2:=zUn (g:=g2) (s:=s) (k:=k) (x := { x with dg:=r }) ⟨hl,k0,k2⟩;have lr:r.length=32:=by rw[hr];exact qBe
 have tr:List.take 32 r=r:=take_of_length_le oM;have hS:exS s k x a = { s with ses:=s.ses.set k.toNat { x with dg:=r } }:=by rw[hr];rfl
 rw[lr] at e1;clear hr;have hK : ∀ vv,vv = .t (stA { s with ses:=s.ses.set k.toNat { x with dg:=r } })→qJh.K (s,k,x,a) vv []:=fun vv h=>jUw (by rw[h,hS]) rfl
 clear hS;simp only[stA,yD] at e1 e2;cases a;all_goals
  simp only[avA,avL,map_nil] at e1;simp(disch:=omega)only[go_sem,qCv,stA,yD,avA,avL,h1,h2,e1,e2,lr,tr,map_nil];first | exact (hK _ rfl) | exact⟨rfl,(hK _ rfl)⟩ | exact⟨rfl,rfl,(hK _ rfl)⟩ | exact⟨rfl,rfl,rfl,(hK _ rfl)⟩
def rgD (bk:List zB)(s0 s1:Int):List UInt8:=vW 5 [qDf s0 s1,zJb bk s0 s1]
theorem zCb {bk:List zB}{s0 s1:Int}:(rgD bk s0 s1).length=32:=qH
theorem zSk {bk:List zB}{u s0 s1:Int}(h:RV bk)(hE:qTn bk s0 s1=0):qI3.fs [.t (.agg [.sl (bk.map vS),.int .i64 u]),.t (.agg [.int .i64 s0,.int .i64 s1])] []=some (.tup [.sl 0 0 32,.t (.int .i64 0)],[.live 1 (((rgD bk s0 s1).map qA).map V.t) true false]):=by
 have he:qI3.fs [.t (.agg [.sl (bk.map vS),.int .i64 u]),.t (.agg [.int .i64 s0,.int .i64 s1])] []=some (zJx bk s0 s1,zJw bk s0 s1):=qI3.eq (bk,u,s0,s1) h;exact he.trans (by rw[zJx,if_pos hE,zJw,if_pos hE];rfl)
def jSe (bk:List zB)(a:Av):Prop := ∃ m,a = .reg 0 m []∧(0≤m∧m≤65535)∧qTn bk 0 m=0
def qPs:ECt where
 α:=St×Ses×Av
 β:=Ses×Av×Int
 aS:=fun (s,x,a)=>[.t (stA s),.t (yD x),.t (avA a)]
 pre:=fun (s,x,a)=>(RV s.bk∧0≤s.u)∧jSe s.bk a∧(x.up = -1∨x.up=s.u)∧(x.kd=2∨x.kd=3)
 r:=fun (y,b,e)=> .tup [.t (yD y),.t (avA b),.t (.int .i64 e)]
 R:=fun (s,x,a) (y,b,e)=>e=0∧y=(if x.kd=2 then { x with up:=s.u } else x) ∧ ∀ m,a = .reg 0 m []→b = .reg 0 m (rgD s.bk 0 m)
 inj:=by rintro⟨s,x,a⟩ ⟨s',x',a'⟩ e _;simp only[qBk,qM7,qVl] at e;obtain⟨rfl,rfl,rfl⟩:=e;rfl
theorem jO4 {g:EF qPs}{s:St}{x:Ses}{a:Av}(hp:(RV s.bk∧0≤s.u)∧jSe s.bk a∧(x.up = -1∨x.up=s.u)∧(x.kd=2∨x.kd=3)) : ∃ (y:Ses) (b:Av) (e:Int),(e=0∧y=(if x.kd=2 then { x with up:=s.u } else x) ∧ ∀ m,a = .reg 0 m []→b = .reg 0 m (rgD s.bk 0 m))∧qPs.fs g [.t (stA s),.t (yD x),.t (avA a)] []=some (.tup [.t (yD y),.t (avA b),.t (.int .i64 e)],[]):=by
 obtain⟨y,h1,h2⟩:=qPs.eq g (s,x,a) hp;exact⟨y.1,y.2.1,y.2.2,h1,h2⟩
theorem qVs {s:St}{x:Ses}{a:Av}(y:Ses)(b:Av)(e:Int)(hR:e=0∧y=(if x.kd=2 then { x with up:=s.u } else x) ∧ ∀ m,a = .reg 0 m []→b = .reg 0 m (rgD s.bk 0 m))(hV:vv = .tup [.t (yD y),.t (avA b),.t (.int .i64 e)])(hO:oo=[]):qPs.K (s,x,a) vv oo:=⟨(y,b,e),hR,hV,hO⟩
theorem qIg (h1:LkC tab 239 qI3)(s:St)(x:Ses)(a:Av)(hp:(RV s.bk∧0≤s.u)∧jSe s.bk a∧(x.up = -1∨x.up=s.u)∧(x.kd=2∨x.kd=3)) :
  jN.1.wp tab gl (qE 0 [.t (stA s),.t (yD x),.t (avA a)]) (qE 0 []) (qV [(6,(some (8,true))),(7,(some (10,true))),(8,none)] 0 (qPs.K (s,x,a))):=by
 obtain⟨⟨hv,u0⟩,⟨m,rfl,hm,hE⟩,hu,hk⟩:=hp;have e1:=zSk (u:=s.u) hv hE;have ld:=zCb (bk:=s.bk) (s0:=0) (s1:=m);have td:List.take 32 (rgD s.bk 0 m)=rgD s.bk 0 m:=take_of_length_le oM;generalize hd:rgD s.bk 0 m=d at *;have hb : ∀ m',Av.reg 0 m [] = .reg 0 m' []→Av.reg 0 m d = .reg 0 m' (rgD s.bk 0 m'):=by intro m' h;cases h;rw[hd]
 obtain⟨kd,no,dg,up,lo,cm,dl,av⟩:=x;simp only at hu hk;rcases hk with rfl | rfl
 ·rcases hu with rfl | rfl
  ·simp(maxSteps:=9^9)(disch:=try exact dS)only[go_sem,jN,stA,yD,avA,avL,h1,e1,ld,td,map_nil];first | exact (qVs ⟨2,no,dg,s.u,lo,cm,dl,av⟩ (.reg 0 m d) 0 ⟨rfl,rfl,hb⟩ rfl rfl) | exact⟨rfl,(qVs ⟨2,no,dg,s.u,lo,cm,dl,av⟩ (.reg 0 m d) 0 ⟨rfl,rfl,hb⟩ rfl rfl)⟩ | exact⟨rfl,rfl,(qVs ⟨2,no,dg,s.u,lo,cm,dl,av⟩ (.reg 0 m d) 0 ⟨rfl,rfl,hb⟩ rfl rfl)⟩ | exact⟨rfl,rfl,rfl,(qVs ⟨2,no,dg,s.u,lo,cm,dl,av⟩ (.reg 0 m d) 0 ⟨rfl,rfl,hb⟩ rfl rfl)⟩
  ·have c : ¬ s.u = -1:=oM;simp(maxSteps:=9^9)(disch:=try exact dS)only[go_sem,jN,stA,yD,avA,avL,h1,e1,ld,td,c,map_nil];first | exact (qVs ⟨2,no,dg,s.u,lo,cm,dl,av⟩ (.reg 0 m d) 0 ⟨rfl,rfl,hb⟩ rfl rfl) | exact⟨rfl,(qVs ⟨2,no,dg,s.u,lo,cm,dl,av⟩ (.reg 0 m d) 0 ⟨rfl,rfl,hb⟩ rfl rfl)⟩ | exact⟨rfl,rfl,(qVs ⟨2,no,dg,s.u,lo,cm,dl,av⟩ (.reg 0 m d) 0 ⟨rfl,rfl,hb⟩ rfl rfl)⟩ | exact⟨rfl,rfl,rfl,(qVs ⟨2,no,dg,s.u,lo,cm,dl,av⟩ (.reg 0 m d) 0 ⟨rfl,rfl,hb⟩ rfl rfl)⟩
 ·simp(maxSteps:=9^9)(disch:=try exact dS)only[go_sem,jN,stA,yD,avA,avL,h1,e1,ld,td,map_nil];first | exact (qVs ⟨3,no,dg,up,lo,cm,dl,av⟩ (.reg 0 m d) 0 ⟨rfl,rfl,hb⟩ rfl rfl) | exact⟨rfl,(qVs ⟨3,no,dg,up,lo,cm,dl,av⟩ (.reg 0 m d) 0 ⟨rfl,rfl,hb⟩ rfl rfl)⟩ | exact⟨rfl,rfl,(qVs ⟨3,no,dg,up,lo,cm,dl,av⟩ (.reg 0 m d) 0 ⟨rfl,rfl,hb⟩ rfl rfl)⟩ | exact⟨rfl,rfl,rfl,(qVs ⟨3,no,dg,up,lo,cm,dl,av⟩ (.reg 0 m d) 0 ⟨rfl,rfl,hb⟩ rfl rfl)⟩
def sOb (x:Ses):Ob:= .live 8 [.t (yD x)] true true
theorem zKt {x y:Ses}(h:sOb x=sOb y):x=y:=by
 simp only[sOb,Ob.live.injEq,List.cons.injEq,V.t.injEq,zOn,true_and,and_true] at h;exact h
def zF9:Ct where
 α:=List UInt8×Ses
 aS x:=[.t (.sl (x.1.map qA)),.ref 0 0 0]
 ins x:=[sOb x.2]
 pre _:=True
 r x:= .t (.bool (decide (x.1=x.2.dg)))
 outs x:=[sOb x.2]
 inj:=by
  rintro⟨a,b⟩ ⟨c,d⟩ h h2;simp only[List.cons.injEq,V.t.injEq,T.sl.injEq,and_true,zN] at h h2;obtain rfl:=h;obtain rfl:=zKt h2;exact⟨rfl,rfl⟩
theorem qUx (b:List UInt8)(x:Ses):qBz.1.wp tab gl (qE 0 [.t (.sl (b.map qA)),.ref 0 0 0]) (qE 0 [sOb x]) (qV [(3,none)] 1 (fun r o=>r = .t (.bool (decide (b=x.dg)))∧o=[sOb x])):=by
 simp(disch:=omega)only[go_sem,qBz,sOb,yD]
def fdL (d:List UInt8):List (List UInt8)→Nat→Int
 | [],_ => -1
 | x::r,k=>if x=d then (k:Int) else fdL d r (k+1)
def zMu (n:Nat):Ct where
 α:=List (List UInt8)×Ses
 aS x:=[.t (.sl (x.1.map bsT)),.fn n [.ref 0 0 0]]
 ins x:=[sOb x.2]
 pre x:=x.1.length≤1000
 r x:= .t (.int .i64 (fdL x.2.dg x.1 0))
 outs x:=[sOb x.2]
 inj:=by
  rintro⟨a,b⟩ ⟨c,d⟩ h h2;simp only[List.cons.injEq,V.t.injEq,T.sl.injEq,and_true,qDg] at h h2;obtain rfl:=h;obtain rfl:=zKt h2;exact⟨rfl,rfl⟩
theorem jMx {n:Nat}{l:List (List UInt8)}{x:Ses}(h:l.length≤1000):(zMu n).fs [.t (.sl (l.map bsT)),.fn n [.ref 0 0 0]] [.live 8 [.t (yD x)] true true]=some (.t (.int .i64 (fdL x.dg l 0)),[.live 8 [.t (yD x)] true true]):=(zMu n).eq (l,x) h
def zMp (n:Nat):Ct where
 α:=List (List UInt8)×Ses
 aS x:=[.t (.sl (x.1.map bsT)),.fn n [.ref 0 0 0]]
 ins x:=[sOb x.2]
 pre x:=x.1.length≤1000
 r x:= .t (.bool (decide (0≤fdL x.2.dg x.1 0)))
 outs x:=[sOb x.2]
 inj:=by
  rintro⟨a,b⟩ ⟨c,d⟩ h h2;simp only[List.cons.injEq,V.t.injEq,T.sl.injEq,and_true,qDg] at h h2;obtain rfl:=h;obtain rfl:=zKt h2;exact⟨rfl,rfl⟩
theorem jLl {n:Nat}{l:List (List UInt8)}{x:Ses}(h:l.length≤1000):(zMp n).fs [.t (.sl (l.map bsT)),.fn n [.ref 0 0 0]] [.live 8 [.t (yD x)] true true]=some (.t (.bool (decide (0≤fdL x.dg l 0))),[.live 8 [.t (yD x)] true true]):=(zMp n).eq (l,x) h
theorem qJ2 (n:Nat)(h1:tab.look 332=some (zMu n).fs)(l:List (List UInt8))(x:Ses)(h:l.length≤1000):zM.1.wp tab gl (qE 0 [.t (.sl (l.map bsT)),.fn n [.ref 0 0 0]]) (qE 0 [sOb x]) (qV [(4,none)] 1 (fun r o=>r = .t (.bool (decide (0≤fdL x.dg l 0)))∧o=[sOb x])):=by
 have e := @jMx n l x h;simp only[yD] at e;by_cases c:0≤fdL x.dg l 0
 ·simp(disch:=omega)only[go_sem,zM,sOb,yD,h1,e,c]
 ·simp(disch:=omega)only[go_sem,zM,sOb,yD,h1,e,c]
end Go.Eng
end
