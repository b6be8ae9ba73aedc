/- A part of an abstract machine, its walks, their tie. -/
import Derived.Test.YtpolalhffkhimaaGreatDoorE24
import Derived.Test.YtpolalhffkhimaaGreatDoorE16
import Derived.Test.YtpolalhffkhimaaGreatDoorE21
import Derived.Test.YtpolalhffkhimaaGreatDoorE23
set_option linter.all false
section
set_option maxHeartbeats 64000000
set_option maxRecDepth 20000
namespace Go.Eng
variable (tab:Tab) (gl:Gl)
variable {vv:V} {oo:List Ob}
structure Rs.W (r:Rs):Prop where
 e:0≤r.e∧r.e≤255
 ns:r.ns.length≤8 ∧ ∀ x∈r.ns,tmI x
 bl:r.bl.length≤8 ∧ ∀ x∈r.bl,x.length≤1024
 no:r.no.length≤8 ∧ ∀ x∈r.no,x.length≤1024
 z:r.e≠0→r.ns=[]∧r.bl=[]∧r.no=[]
def bsE (b:List UInt8)(l:List (List UInt8)):List UInt8:=l.foldl blL (b++[u8I l.length])
def rs1 (ns:List Int):List UInt8:=ns.foldl nsF [0,u8I ns.length]
def rs3 (ns:List Int)(bl no:List (List UInt8)):List UInt8:=[bl,no].foldl bsE (rs1 ns)
def rsB (r:Rs):List UInt8:=if r.e=0 then rs3 r.ns r.bl r.no else [u8I r.e]
theorem zWm {ns:List Int}(k:Nat)(h:ns.length≤8):((ns.take k).foldl nsF [0,u8I ns.length]).length≤66:=by
 have h1:=xB (f:=nsF) (c:=8) (l:=ns.take k) (b:=[0,u8I ns.length]) (fun b x _=>by unfold nsF;rw[List.length_append,jCq];omega);have h3:(ns.take k).length≤8:=by rw[List.length_take];omega
 simp only[List.length_cons,List.length_nil] at h1;omega
theorem zVb {b:List UInt8}{l:List (List UInt8)}(k:Nat)(h:l.length≤8 ∧ ∀ x∈l,x.length≤1024):((l.take k).foldl blL (b++[u8I l.length])).length≤b.length+8209:=by
 have h1:=xB (f:=blL) (c:=1026) (l:=l.take k) (b:=b++[u8I l.length]) (fun b x hx=>by have:=h.2 x (List.mem_of_mem_take hx);rw[vL];omega);have h3:(l.take k).length≤8:=by rw[List.length_take];omega
 simp only[List.length_append,List.length_cons,List.length_nil] at h1;omega
def lsT (l:List (List UInt8)):T:= .sl (l.map bsT)
theorem zYz (l:List (List UInt8)):lsT l = .sl (l.map bsT):=rfl
theorem zKl {L:List (List (List UInt8))}{b:List UInt8}(h : ∀ l∈L,l.length≤8 ∧ ∀ x∈l,x.length≤1024)(k:Nat):((L.take k).foldl bsE b).length≤b.length+8209*L.length:=by
 have h1:=xB (f:=bsE) (c:=8209) (l:=L.take k) (b:=b) (fun b l hl=>by
  have:=zVb (b:=b) l.length (h l (List.mem_of_mem_take hl));rw[List.take_length] at this;exact this)
 have h3:(L.take k).length≤L.length:=by rw[List.length_take];omega
 have h4:8209*(L.take k).length≤8209*L.length:=Nat.mul_le_mul_left _ h3;omega
def qIh:ECt where
 α:=Rs
 β:=List UInt8
 aS:=fun r=>[.t (rsA r)]
 pre:=fun r=>r.W
 r:=fun b=> .t (.sl (b.map qA))
 R:=fun r b=>b=rsB r
theorem jCz {g:EF qIh}{r:Rs}(hp:r.W) : ∃ (b:List UInt8),(b=rsB r)∧qIh.fs g [.t (rsA r)] []=some (.t (.sl (b.map qA)),[]):=qIh.eq g r hp
theorem jJ5 {r:Rs}(b:List UInt8)(hR:b=rsB r)(hV:vv = .t (.sl (b.map qA)))(hO:oo=[]):qIh.K r vv oo:=⟨b,hR,hV,hO⟩
theorem qF7 (h1:LkC tab 63 yY)(h2:LkC tab 66 qGm)(r:Rs)(hp:r.W) :
  yE.1.wp tab gl (qE 0 [.t (rsA r)]) (qE 0 []) (zA [(2,none)] 0 (qIh.K r)):=by
 have hK : ∀ vv,vv = .t (.sl ((rsB r).map qA))→qIh.K r vv []:=fun vv h=>jJ5 (rsB r) rfl h rfl
 obtain⟨he,hn,hb,ho,-⟩:=hp;have hR:rsB r=if r.e=0 then rs3 r.ns r.bl r.no else [u8I r.e]:=rfl
 obtain⟨er,ns,bl,no⟩:=r;simp only at he hn hb ho hR;have k8:((8:Nat):Int)=8:=rfl;have b3:ns.length≤8:=hn.1;have b4:bl.length≤8:=hb.1;have b5:no.length≤8:=ho.1;by_cases c0:er=0
 rotate_left
 ·rw[if_neg c0] at hR;rw[hR] at hK;simp(maxSteps:=9^9)(disch:=try exact dS)only[go_sem,yE,rsA,u8w,c0];repeat refine aiG ?_
  exact hK _ rfl
 rw[if_pos c0] at hR;rw[hR] at hK;subst c0;clear hR;have z0:u8I 0=0:=rfl;simp(maxSteps:=9^9)(disch:=try exact dS)only[go_sem,yE,rsA,u8w,z0];refine qB ns.length (fun k=>[(1,.ref 4096 0 0),(3,.sl 9000 0 ((ns.take k).foldl nsF [0,u8I ns.length]).length),(26,.t (.sl (ns.map iT))),(27,.t (.int .i64 ns.length)),(28,.t (.int .i64 (k:Nat)))]) (fun k=>[(9000,.live 1 ((((ns.take k).foldl nsF [0,u8I ns.length]).map qA).map V.t) true false),(4096,.live 4 [.t (rsA ⟨0,ns,bl,no⟩)] true true)]) (qK.rd (fun j=>if j=9000 then 20576 else j) ?_ ?_ rfl) (fun k hk=>?_)
 ·simp(maxSteps:=9^9)(disch:=try exact dS)only[go_sem,id,List.take_zero,List.foldl_nil,List.length_cons,List.length_nil]
 ·simp(maxSteps:=9^9)(disch:=try exact dS)only[go_sem,id,rsA,List.take_zero,List.foldl_nil,mcn]
 have le:=zWm (ns:=ns) k b3;by_cases c:k<ns.length
 ·obtain⟨x,hg,hm,_⟩:=zF c;have hf:=kG (f:=nsF) (b:=[0,u8I ns.length]) hg;generalize (ns.take k).foldl nsF [0,u8I ns.length]=y at *;have u:=zB8 (b:=y) (n:=x) oM;have lb:(nsF y x).length=y.length+8:=by unfold nsF;rw[List.length_append,qR]
  rw[show y++beI 8 x 8=nsF y x from rfl] at u;simp(maxSteps:=9^9)(disch:=try exact dS)only[go_sem,rsA,c,hg,oms,iT,h1,u];repeat refine aiG ?_
  refine qK.rd (fun j=>if j=9000 then 36896 else j) ?_ ?_ rfl;all_goals simp(maxSteps:=9^9)(disch:=try exact dS)only[go_sem,id,rsA,hf,lb]
 obtain rfl:k=ns.length:=oM;have tt:ns.foldl nsF [0,u8I ns.length]=rs1 ns:=rfl;rw[List.take_length,tt] at le;clear c hk;obtain⟨L,hL⟩ : ∃ L,L=[bl,no]:=⟨_,rfl⟩;have lL:L.length=2:=by rw[hL];rfl
 have mL : ∀ l∈L,l.length≤8 ∧ ∀ x∈l,x.length≤1024:=by
  rw[hL];intro l hl;simp only[List.mem_cons,List.not_mem_nil,or_false] at hl;rcases hl with rfl | rfl
  ·exact hb
  ·exact ho
 have hR3:rs3 ns bl no=L.foldl bsE (rs1 ns):=by rw[hL];rfl
 have hLs:[V.t (.sl (bl.map bsT)),V.t (.sl (no.map bsT))]=(L.map lsT).map V.t:=by rw[hL];rfl
 rw[hR3] at hK;clear hR3 hL;simp(maxSteps:=9^9)(disch:=try exact dS)only[go_sem,rsA,List.take_length,tt];repeat refine aiG ?_
 refine qB 2 (fun k=>[(3,.sl 9000 0 ((L.take k).foldl bsE (rs1 ns)).length),(40,.sl 9001 0 2),(41,.t (.int .i64 2)),(42,.t (.int .i64 (k:Nat)))]) (fun k=>[(9001,.live 1 ((L.map lsT).map V.t) true true),(9000,.live 1 ((((L.take k).foldl bsE (rs1 ns)).map qA).map V.t) true false)]) (qK.rd (fun j=>if j=9001 then 45120 else j) ?_ ?_ rfl) (fun k hk=>?_)
 ·simp(maxSteps:=9^9)(disch:=try exact dS)only[go_sem,id,List.take_zero,List.foldl_nil,tt]
 ·simp(maxSteps:=9^9)(disch:=try exact dS)only[go_sem,id,List.take_zero,List.foldl_nil,tt,hLs]
 have le2:=zKl (b:=rs1 ns) mL k;rcases (by omega:k<2∨k=2) with c | rfl
 ·obtain⟨l,hg,hm,_⟩:=zF (l:=L) (k:=k) oM;have hl:=mL l hm;have hf:=kG (f:=bsE) (b:=rs1 ns) hg;generalize (L.take k).foldl bsE (rs1 ns)=y at *;have lB:l.length≤8:=hl.1;simp(maxSteps:=9^9)(disch:=try exact dS)only[go_sem,zYz,c,hg,oms,u8w,lL,List.length_map];refine qB l.length (fun j=>[(3,.sl 9000 0 ((l.take j).foldl blL (y++[u8I l.length])).length),(40,.sl 9001 0 2),(41,.t (.int .i64 2)),(42,.t (.int .i64 (k:Nat))),(52,.t (.sl (l.map bsT))),(53,.t (.int .i64 l.length)),(54,.t (.int .i64 (j:Nat)))]) (fun j=>[(9000,.live 1 ((((l.take j).foldl blL (y++[u8I l.length])).map qA).map V.t) true false),(9001,.live 1 ((L.map lsT).map V.t) true true)]) (qK.rd (fun j=>if j=9000 then 57424 else j) ?_ ?_ rfl) (fun j hj=>?_)
  ·simp(maxSteps:=9^9)(disch:=try exact dS)only[go_sem,id,List.take_zero,List.foldl_nil,List.length_append,List.length_cons,List.length_nil]
  ·simp(maxSteps:=9^9)(disch:=try exact dS)only[go_sem,id,List.take_zero,List.foldl_nil]
  have le3:=zVb (b:=y) j hl;rcases (by omega:j<l.length∨j=l.length) with d | rfl
  ·obtain⟨x,hgx,hmx,_⟩:=zF d;have hx:=hl.2 x hmx;have hfx:=kG (f:=blL) (b:=y++[u8I l.length]) hgx;generalize (l.take j).foldl blL (y++[u8I l.length])=z at *;have u:=qIb (b:=z) (x:=x) ⟨oM,oM⟩;have lb:=vL (b:=z) (x:=x);simp(maxSteps:=9^9)(disch:=try exact dS)only[go_sem,d,hgx,h2,u];repeat refine aiG ?_
   refine qK.rd (fun j=>if j=9000 then 73760 else j) ?_ ?_ rfl;all_goals simp(maxSteps:=9^9)(disch:=try exact dS)only[go_sem,id,hfx,lb]
  have e:l.foldl blL (y++[u8I l.length])=bsE y l:=rfl;simp(maxSteps:=9^9)(disch:=try exact dS)only[go_sem,List.take_length,e,c];refine qK.rd id ?_ ?_ rfl;all_goals simp(maxSteps:=9^9)(disch:=try exact dS)only[go_sem,id,hf]
 have e:(L.take 2).foldl bsE (rs1 ns)=L.foldl bsE (rs1 ns):=by rw[List.take_of_length_le oM]
 simp(maxSteps:=9^9)(disch:=try exact dS)only[go_sem,e,List.take_length];repeat refine aiG ?_
 exact hK _ rfl
def rdS (b:List UInt8):Rs:=
 match qQ (b,0,0) 1 with
 | (e,s0)=>if e≠0 then ⟨e,[],[],[]⟩ else match qQ s0 1 with
 | (n1,s1)=>match zZt s1 n1.toNat with
 | (ns,s2)=>match qQ s2 1 with
 | (n2,s3)=>match zSs s3 n2.toNat with
 | (bl,s4)=>match qQ s4 1 with
 | (n3,s5)=>⟨0,ns,bl,(zSs s5 n3.toNat).1⟩
theorem jGm {ns:List Int}{bl no:List (List UInt8)}:rs3 ns bl no=bY 0::bY ns.length::(ns.flatMap w8++(bY bl.length::(bl.flatMap wB++(bY no.length::no.flatMap wB)))) ∨ ¬ (ns.length<256∧bl.length<256∧no.length<256):=by
 by_cases c:ns.length<256∧bl.length<256∧no.length<256
 ·left;rw[←qUt (n:=(ns.length:Int)) oM,←qUt (n:=(bl.length:Int)) oM,←qUt (n:=(no.length:Int)) oM];unfold rs3 rs1;simp only[List.foldl_cons,List.foldl_nil,bsE,qJj (f:=nsF) (w:=w8) (fun _ _=>rfl),qJj (f:=blL) (fun b k=>zAh),List.append_assoc,List.cons_append,List.nil_append,List.append_nil];rfl
 ·exact .inr c
theorem At.blob1 {b:List UInt8}{l:List (List UInt8)}{p:Nat}{r:List UInt8}(h:At b p (l.flatMap wB++r))(hx : ∀ x∈l,x.length≤1024) : ∃ q,zSs (b,p,0) l.length=(l,(b,q,0))∧At b q r:=
 At.many (w:=wB) (f:=fun s=>zU s 1024) (F:=zSs) (fun _=>rfl) (fun _ _=>rfl) (fun x hm p r g=>⟨_,(At.wblm 1024 g (hx x hm) oM).1,(At.wblm 1024 g (hx x hm) oM).2⟩) h
theorem zWd {r:Rs}(h:r.W):rdS (rsB r)=r:=by
 obtain⟨he,hn,hb,ho,hz⟩:=h;obtain⟨er,ns,bl,no⟩:=r;simp only at he hn hb ho hz;by_cases c0:er=0
 ·subst c0;have e:rsB ⟨0,ns,bl,no⟩=bY 0::bY ns.length::(ns.flatMap w8++(bY bl.length::(bl.flatMap wB++(bY no.length::no.flatMap wB)))):=by
   rw[rsB,if_pos rfl];exact jGm.resolve_right (fun g=>g ⟨by show ns.length<256;omega,by show bl.length<256;omega,by show no.length<256;omega⟩)
  have h0:At (rsB ⟨0,ns,bl,no⟩) 0 _:=⟨[],rfl,e⟩;generalize rsB ⟨0,ns,bl,no⟩=B at *;obtain⟨f0,h1⟩:=h0.byte oM;obtain⟨f1,h2⟩:=h1.byte oM;obtain⟨p2,f2,h3⟩:=At.many (w:=w8) (f:=fun s=>qQ s 8) (F:=zZt) (fun _=>rfl) (fun _ _=>rfl) (l:=ns) (fun x hm p r g=>⟨_,(At.w8 g (hn.2 x hm)).1,(At.w8 g (hn.2 x hm)).2⟩) h2;obtain⟨f3,h4⟩:=h3.byte oM;obtain⟨p4,f4,h5⟩:=h4.blob1 hb.2;obtain⟨f5,h6⟩:=h5.byte oM;obtain⟨p6,f6,h7⟩:=At.blob1 (r:=[]) (by rw[List.append_nil];exact h6) ho.2;simp only[rdS,f0,f1,f2,f3,f4,f5,f6,Int.toNat_natCast,ne_eq,not_true,if_false]
 ·obtain⟨rfl,rfl,rfl⟩:=hz c0;have e:rsB ⟨er,[],[],[]⟩=[bY er]:=by rw[rsB,if_neg c0];simp only[qUt (n:=er) oM]
  have h0:At (rsB ⟨er,[],[],[]⟩) 0 (bY er::[]):=⟨[],rfl,e⟩;generalize rsB ⟨er,[],[],[]⟩=B at *;obtain⟨f0,-⟩:=h0.byte oM;simp only[rdS,f0,ne_eq,c0,not_false_eq_true,if_true]
theorem jGn {r:Rs}(h:r.W):(rsB r).length≤20000:=by
 obtain⟨he,hn,hb,ho,hz⟩:=h;unfold rsB;split
 ·have h1:=zKl (L:=[r.bl,r.no]) (b:=rs1 r.ns) (by
   intro l hl;simp only[List.mem_cons,List.not_mem_nil,or_false] at hl;rcases hl with rfl | rfl
   ·exact hb
   ·exact ho) 2
  have h2:=zWm (ns:=r.ns) r.ns.length hn.1;rw[List.take_length] at h2;have h3:(rs1 r.ns).length≤66:=h2;have h4:(rs3 r.ns r.bl r.no).length≤(rs1 r.ns).length+8209*2:=h1;omega
 ·simp
def qI5:ECt where
 α:=List UInt8
 β:=Rs×Int
 aS:=fun b=>[.t (.sl (b.map qA))]
 pre:=fun b => ∃ r:Rs,r.W∧b=rsB r
 r:=fun (r,e)=> .tup [.t (rsA r),.t (.int .i64 e)]
 R:=fun b (r,e)=>r=rdS b∧e=0
theorem jHe {g:EF qI5}{b:List UInt8}(hp : ∃ r:Rs,r.W∧b=rsB r) : ∃ (r:Rs) (e:Int),(r=rdS b∧e=0)∧qI5.fs g [.t (.sl (b.map qA))] []=some (.tup [.t (rsA r),.t (.int .i64 e)],[]):=by
 obtain⟨y,h1,h2⟩:=qI5.eq g b hp;exact⟨y.1,y.2,h1,h2⟩
theorem jMc {b:List UInt8}(r:Rs)(e:Int)(hR:r=rdS b∧e=0)(hV:vv = .tup [.t (rsA r),.t (.int .i64 e)])(hO:oo=[]):qI5.K b vv oo:=⟨(r,e),hR,hV,hO⟩
theorem qHt (h1:LkC tab 54 qFa)(h2:LkC tab 55 qE9)(h3:LkC tab 56 qGo)(h4:LkC tab 57 qIe)(b:List UInt8)(hp : ∃ r:Rs,r.W∧b=rsB r) :
  yN.1.wp tab gl (qE 0 [.t (.sl (b.map qA))]) (qE 0 []) (zA [(2,(some (4,true))),(3,none)] 0 (qI5.K b)):=by
 obtain⟨r,hr,rfl⟩:=hp;have hQ:=zWd hr;have hle:=jGn hr;have hK : ∀ vv,vv = .tup [.t (rsA r),.t (.int .i64 0)]→qI5.K (rsB r) vv []:=fun vv h=>jMc r 0 ⟨hQ.symm,rfl⟩ h rfl
 clear hQ;obtain⟨he,hn,hb,ho,hz⟩:=hr;obtain⟨er,ns,bl,no⟩:=r;simp only at he hn hb ho hz;have k1:((1:Nat):Int)=1:=rfl;have k8:((8:Nat):Int)=8:=rfl;have zMb:((1024:Nat):Int)=1024:=rfl;have cz:((0:Nat):Int)=0:=rfl;by_cases c0:er=0
 rotate_left
 ·obtain⟨rfl,rfl,rfl⟩:=hz c0;have e:rsB ⟨er,[],[],[]⟩=[bY er]:=by rw[rsB,if_neg c0];simp only[qUt (n:=er) oM]
  have h0:At (rsB ⟨er,[],[],[]⟩) 0 (bY er::[]):=⟨[],rfl,e⟩;generalize rsB ⟨er,[],[],[]⟩=B at *;have hlt:B.length<1000000000:=oM;obtain⟨p1,f0,h1'⟩ : ∃ p1,qQ (B,0,0) 1=(er,(B,p1,0))∧At B p1 []:=⟨_,h0.byte oM⟩;have hp:=h1'.end;have e1:=qJr (b:=B) hlt;have e2:=vU (s:=(B,0,0)) (k:=1) ⟨h0.ok hlt,oM,oM⟩;have e3:=qP5 (s:=(B,p1,0)) (h1'.ok hlt);rw[show xO (B,p1,0)=0 from if_neg (by simp only;omega)] at e3;rw[f0,k1] at e2;simp only[rdO,cz] at e1 e2 e3;simp(maxSteps:=9^9)(disch:=try exact dS)only[go_sem,yN,xS,h1,e1,h2,e2,h4,e3,c0];repeat refine aiG ?_
  exact hK _ rfl
 subst c0;have e:rsB ⟨0,ns,bl,no⟩=bY 0::bY ns.length::(ns.flatMap w8++(bY bl.length::(bl.flatMap wB++(bY no.length::no.flatMap wB)))):=by
  rw[rsB,if_pos rfl];exact jGm.resolve_right (fun g=>g ⟨by show ns.length<256;omega,by show bl.length<256;omega,by show no.length<256;omega⟩)
 have h0:At (rsB ⟨0,ns,bl,no⟩) 0 _:=⟨[],rfl,e⟩;clear e;generalize rsB ⟨0,ns,bl,no⟩=B at *;have hlt:B.length<1000000000:=oM;have b3:ns.length≤8:=hn.1;have b4:bl.length≤8:=hb.1;have b5:no.length≤8:=ho.1;obtain⟨p1,f0,A1⟩ : ∃ p1,qQ (B,0,0) 1=(0,(B,p1,0))∧At B p1 _:=⟨_,h0.byte oM⟩;obtain⟨p2,f1,A2⟩ : ∃ p2,qQ (B,p1,0) 1=((ns.length:Int),(B,p2,0))∧At B p2 _:=⟨_,A1.byte oM⟩;have e1:=qJr (b:=B) hlt;have e2:=vU (s:=(B,0,0)) (k:=1) ⟨h0.ok hlt,oM,oM⟩;have e3:=vU (s:=(B,p1,0)) (k:=1) ⟨A1.ok hlt,oM,oM⟩;rw[f0,k1] at e2;rw[f1,k1] at e3;simp only[rdO,cz] at e1 e2 e3;simp(maxSteps:=9^9)(disch:=try exact dS)only[go_sem,yN,xS,h1,e1,h2,e2,e3];repeat refine aiG ?_
 clear h0 A1 f0 f1 e1 e2 e3;refine vK (σ:=Nat×List Int×Nat) (fun t=>t.1≤ns.length∧t.2.1=ns.take t.1∧At B t.2.2 ((ns.drop t.1).flatMap w8++(bY bl.length::(bl.flatMap wB++(bY no.length::no.flatMap wB))))) (fun t=>ns.length-t.1) (fun t=>[(2,.ref 4096 0 0),(4,.ref 8208 0 0),(5,.ref 12336 0 0),(6,.t (.int .i64 ns.length)),(7,.t (.int .i64 t.1))]) (fun t=>[(9001,.live 1 ((t.2.1.map iT).map V.t) true false),(12336,.live 4 [.agg [.t (.int .i64 0),.sl 9001 0 t.1,.nil,.nil]] true true),(8208,kH (B,t.2.2,0)),(4096,.live 4 [.agg [.t (.int .i64 0),.nil,.nil,.nil]] true true)]) (0,[],p2) ⟨sM,rfl,A2⟩ ?_ ?_
 ·refine qK.cv0 (hv:=[(9001,.live 1 [] true false)]) (ho:=[(12336,.live 4 [.agg [.t (.int .i64 0),.sl 9001 0 0,.nil,.nil]] true true),(8208,kH (B,p2,0)),(4096,.live 4 [.agg [.t (.int .i64 0),.nil,.nil,.nil]] true true)]) id ?_ ?_ rfl rfl;all_goals simp(maxSteps:=9^9)(disch:=try exact dS)only[go_sem,id,xS]
  all_goals rfl
 clear A2 p1 p2;rintro⟨k,l,p⟩ ⟨hk,hl,hA⟩;simp only at hk hl hA;have ll:l.length=k:=by rw[hl,List.length_take];omega
 rcases (by omega:k<ns.length∨k=ns.length) with c | hke
 ·obtain⟨x,hg,hm,hdr⟩:=zF c;rw[hdr,List.flatMap_cons,List.append_assoc] at hA;obtain⟨f,hA'⟩:=At.w8 hA (hn.2 x hm);have e:=vU (s:=(B,p,0)) (k:=8) ⟨hA.ok hlt,oM,oM⟩;rw[f,k8] at e;simp only[rdO] at e;simp(maxSteps:=9^9)(disch:=try exact dS)only[go_sem,xS,c,h2,e,ll];repeat refine aiG ?_
  refine qTy.of (k+1,l++[x],p+8) ⟨by show k+1≤_;omega,by rw[hl];exact (qM6 hg).symm,hA'⟩ (by show ns.length-(k+1)<ns.length-k;omega) (qK.rd (fun j=>if j=9001 then 36944 else j) ?_ ?_ rfl);all_goals simp(maxSteps:=9^9)(disch:=try exact dS)only[go_sem,id,xS,iT]
  all_goals simp only[List.map_append,mcn,iT]
 subst hke;rw[List.take_length] at hl;subst hl;rw[List.drop_length,List.flatMap_nil,List.nil_append] at hA;obtain⟨p2,f1,A2⟩ : ∃ p2,qQ (B,p,0) 1=((bl.length:Int),(B,p2,0))∧At B p2 _:=⟨_,hA.byte oM⟩;have e3:=vU (s:=(B,p,0)) (k:=1) ⟨hA.ok hlt,oM,oM⟩;rw[f1,k1] at e3;simp only[rdO] at e3;simp(maxSteps:=9^9)(disch:=try exact dS)only[go_sem,xS,h2,e3];repeat refine aiG ?_
 refine vK (σ:=Nat×List (List UInt8)×Nat) (fun t=>t.1≤bl.length∧t.2.1=bl.take t.1∧At B t.2.2 ((bl.drop t.1).flatMap wB++(bY no.length::no.flatMap wB))) (fun t=>bl.length-t.1) (fun t=>[(2,.ref 4096 0 0),(4,.ref 8208 0 0),(5,.ref 12336 0 0),(6,.t (.int .i64 bl.length)),(8,.t (.int .i64 t.1))]) (fun t=>[(9002,.live 1 ((t.2.1.map bsT).map V.t) true false),(9001,.live 1 ((l.map iT).map V.t) true false),(12336,.live 4 [.agg [.t (.int .i64 0),.sl 9001 0 l.length,.sl 9002 0 t.1,.nil]] true true),(8208,kH (B,t.2.2,0)),(4096,.live 4 [.agg [.t (.int .i64 0),.nil,.nil,.nil]] true true)]) (0,[],p2) ⟨sM,rfl,A2⟩ ?_ ?_
 ·refine qK.cv0 (hv:=[(9002,.live 1 [] true false)]) (ho:=[(9001,.live 1 ((l.map iT).map V.t) true false),(12336,.live 4 [.agg [.t (.int .i64 0),.sl 9001 0 l.length,.sl 9002 0 0,.nil]] true true),(8208,kH (B,p2,0)),(4096,.live 4 [.agg [.t (.int .i64 0),.nil,.nil,.nil]] true true)]) id ?_ ?_ rfl rfl;all_goals simp(maxSteps:=9^9)(disch:=try exact dS)only[go_sem,id,xS]
  all_goals rfl
 clear A2 p2 e3 f1 hA p hk;rintro⟨k,m,p⟩ ⟨hk,hl,hA⟩;simp only at hk hl hA;have lm:m.length=k:=by rw[hl,List.length_take];omega
 rcases (by omega:k<bl.length∨k=bl.length) with c | hke
 ·obtain⟨x,hg,hm,hdr⟩:=zF c;rw[hdr,List.flatMap_cons,List.append_assoc] at hA;obtain⟨f,hA'⟩:=At.wblm 1024 hA (hb.2 x hm) oM;have e:=qG7 (s:=(B,p,0)) (k:=1024) ⟨hA.ok hlt,oM⟩;rw[f,zMb] at e;simp only[rdO] at e;simp(maxSteps:=9^9)(disch:=try exact dS)only[go_sem,xS,c,h3,e,lm];repeat refine aiG ?_
  refine qTy.of (k+1,m++[x],p+2+x.length) ⟨by show k+1≤_;omega,by rw[hl];exact (qM6 hg).symm,hA'⟩ (by show bl.length-(k+1)<bl.length-k;omega) (qK.rd (fun j=>if j=9002 then 57424 else j) ?_ ?_ rfl);all_goals simp(maxSteps:=9^9)(disch:=try exact dS)only[go_sem,id,xS,qG]
  all_goals simp only[List.map_append,mcn,qG]
 subst hke;rw[List.take_length] at hl;subst hl;rw[List.drop_length,List.flatMap_nil,List.nil_append] at hA;obtain⟨p2,f1,A2⟩ : ∃ p2,qQ (B,p,0) 1=((no.length:Int),(B,p2,0))∧At B p2 _:=⟨_,hA.byte oM⟩;have e3:=vU (s:=(B,p,0)) (k:=1) ⟨hA.ok hlt,oM,oM⟩;rw[f1,k1] at e3;simp only[rdO] at e3;simp(maxSteps:=9^9)(disch:=try exact dS)only[go_sem,xS,h2,e3];repeat refine aiG ?_
 refine vK (σ:=Nat×List (List UInt8)×Nat) (fun t=>t.1≤no.length∧t.2.1=no.take t.1∧At B t.2.2 ((no.drop t.1).flatMap wB)) (fun t=>no.length-t.1) (fun t=>[(2,.ref 4096 0 0),(4,.ref 8208 0 0),(5,.ref 12336 0 0),(6,.t (.int .i64 no.length)),(9,.t (.int .i64 t.1))]) (fun t=>[(9003,.live 1 ((t.2.1.map bsT).map V.t) true false),(9002,.live 1 ((m.map bsT).map V.t) true false),(9001,.live 1 ((l.map iT).map V.t) true false),(12336,.live 4 [.agg [.t (.int .i64 0),.sl 9001 0 l.length,.sl 9002 0 m.length,.sl 9003 0 t.1]] true true),(8208,kH (B,t.2.2,0)),(4096,.live 4 [.agg [.t (.int .i64 0),.nil,.nil,.nil]] true true)]) (0,[],p2) ⟨sM,rfl,A2⟩ ?_ ?_
 ·refine qK.cv0 (hv:=[(9003,.live 1 [] true false)]) (ho:=[(9002,.live 1 ((m.map bsT).map V.t) true false),(9001,.live 1 ((l.map iT).map V.t) true false),(12336,.live 4 [.agg [.t (.int .i64 0),.sl 9001 0 l.length,.sl 9002 0 m.length,.sl 9003 0 0]] true true),(8208,kH (B,p2,0)),(4096,.live 4 [.agg [.t (.int .i64 0),.nil,.nil,.nil]] true true)]) id ?_ ?_ rfl rfl;all_goals simp(maxSteps:=9^9)(disch:=try exact dS)only[go_sem,id,xS]
  all_goals rfl
 clear A2 p2 e3 f1 hA p hk;rintro⟨k,o,p⟩ ⟨hk,hl,hA⟩;simp only at hk hl hA;have lo:o.length=k:=by rw[hl,List.length_take];omega
 rcases (by omega:k<no.length∨k=no.length) with c | hke
 ·obtain⟨x,hg,hm,hdr⟩:=zF c;rw[hdr,List.flatMap_cons] at hA;obtain⟨f,hA'⟩:=At.wblm 1024 hA (ho.2 x hm) oM;have e:=qG7 (s:=(B,p,0)) (k:=1024) ⟨hA.ok hlt,oM⟩;rw[f,zMb] at e;simp only[rdO] at e;simp(maxSteps:=9^9)(disch:=try exact dS)only[go_sem,xS,c,h3,e,lo];repeat refine aiG ?_
  refine qTy.of (k+1,o++[x],p+2+x.length) ⟨by show k+1≤_;omega,by rw[hl];exact (qM6 hg).symm,hA'⟩ (by show no.length-(k+1)<no.length-k;omega) (qK.rd (fun j=>if j=9003 then 77904 else j) ?_ ?_ rfl);all_goals simp(maxSteps:=9^9)(disch:=try exact dS)only[go_sem,id,xS,qG]
  all_goals simp only[List.map_append,mcn,qG]
 subst hke;rw[List.take_length] at hl;subst hl;rw[List.drop_length,List.flatMap_nil] at hA;have hp:=hA.end;have e:=qP5 (s:=(B,p,0)) (hA.ok hlt);rw[show xO (B,p,0)=0 from if_neg (by simp only;omega)] at e;simp only[rdO] at e;simp(maxSteps:=9^9)(disch:=try exact dS)only[go_sem,xS,h4,e,List.take_length];repeat refine aiG ?_
 exact hK _ rfl
def qL7:ECt where
 α:=Int×List UInt8
 β:=Int
 aS:=fun (e,b)=>[.t (.int .i64 e),.t (.sl (b.map qA))]
 pre:=fun (e,b)=>True
 r:=fun r'=> .t (.int .i64 r')
 R:=fun (e,b) r'=>r'=if e=0∧128<b.length then 4 else e
theorem zWc {g:EF qL7}{e:Int}{b:List UInt8}:qL7.fs g [.t (.int .i64 e),.t (.sl (b.map qA))] []=some (.t (.int .i64 (if e=0∧128<b.length then 4 else e)),[]):=fnQ qL7 (e,b) trivial
theorem jLj {e:Int}{b:List UInt8}(hV:vv = .t (.int .i64 (if e=0∧128<b.length then 4 else e)))(hO:oo=[]):qL7.K (e,b) vv oo:=⟨_,rfl,hV,hO⟩
theorem qV9  (e:Int)(b:List UInt8) :
  qDg.1.wp tab gl (qE 0 [.t (.int .i64 e),.t (.sl (b.map qA))]) (qE 0 []) (zA [(4,none)] 0 (qL7.K (e,b))):=by
 simp +contextual(maxSteps:=9^9)(disch:=try exact dS)only[go_sem,qDg,↓qPx,↓qTf,zXu]
 (repeat' (first | apply And.intro | intro _))<;>(try rfl)
 all_goals (refine jLj ?_ rfl;split;all_goals first | rfl | (exfalso;omega))
def qI1:ECt where
 α:=Av
 β:=Int
 aS:=fun a=>[.t (avA a)]
 pre:=fun a=>a.Ok
 r:=fun r'=> .t (.int .i64 r')
 R:=fun a r'=>r'=0
 inj:=by rintro a a' e _;simp only[xU,qJ7,qSf] at e;obtain rfl:=e;rfl
theorem qT8 {g:EF qI1}{a:Av}(hp:a.Ok):qI1.fs g [.t (avA a)] []=some (.t (.int .i64 (0)),[]):=fnQ qI1 a hp
theorem zEc {a:Av}(hV:vv = .t (.int .i64 (0)))(hO:oo=[]):qI1.K a vv oo:=⟨_,rfl,hV,hO⟩
theorem qV8 (h1:LkC tab 259 qX8)(h2:LkC tab 258 qX7){g3}(h3:LkE tab 260 qL7 g3)(a:Av)(hp:a.Ok) :
  jM.1.wp tab gl (qE 0 [.t (avA a)]) (qE 0 []) (zA [(2,none)] 0 (qI1.K a)):=by
 cases a with
 | reg s0 s1 d=>
  obtain⟨a0,a1,a2⟩:=hp;simp(maxSteps:=9^9)(disch:=try exact dS)only[go_sem,jM,avA,avL,h1,h2,qP3 a0,qP3 a1,qM0,a2,List.map_nil];exact zEc rfl rfl
 | loc n=>
  simp(maxSteps:=9^9)(disch:=try exact dS)only[go_sem,jM,avA,avL,h1,h2,qP3 hp,qM0,List.map_nil];exact zEc rfl rfl
 | cmd n=>
  simp(maxSteps:=9^9)(disch:=try exact dS)only[go_sem,jM,avA,avL,h1,h2,qP3 hp,qM0,List.map_nil];exact zEc rfl rfl
 | idx n op od nm=>
  obtain⟨a0,a1,a2⟩:=hp;have e := @zWc g3 0 od;rw[if_neg oM] at e;simp(maxSteps:=9^9)(disch:=try exact dS)only[go_sem,jM,avA,avL,h1,h2,h3,qP3 a0,qM0,a2,e,List.map_nil];exact⟨rfl,zEc rfl rfl⟩
 | aut=>
  simp(maxSteps:=9^9)(disch:=try exact dS)only[go_sem,jM,avA,avL,List.map_nil];exact zEc rfl rfl
 | apr nm rf=>
  obtain⟨a0,a1⟩:=hp;have e := @zWc g3 0 rf;rw[if_neg oM] at e;simp(maxSteps:=9^9)(disch:=try exact dS)only[go_sem,jM,avA,avL,h1,h2,h3,qM0,a0,e,List.map_nil];exact⟨rfl,zEc rfl rfl⟩
 | alt bs=>
  obtain⟨a0,a1⟩:=hp;have w:=qP3 (n:=(bs.length:Int)) (a:=2) (b:=8) oM;simp(maxSteps:=9^9)(disch:=try exact dS)only[go_sem,jM,avA,avL,h1,h2,w,qM0,List.map_nil];refine qB bs.length (fun k=>[(4,.t (.bool true)),(84,.t (.sl (bs.map bsT))),(85,.t (.int .i64 bs.length)),(86,.t (.int .i64 k))]) (fun _=>[]) ?_ (fun k hk=>?_)
  ·refine qK.rd id ?_ ?_ rfl;all_goals simp(maxSteps:=9^9)(disch:=try exact dS)only[go_sem,id]
  ·by_cases hlt:k<bs.length
   ·have hb:=zL1 a1 hlt;simp(maxSteps:=9^9)(disch:=try exact dS)only[go_sem,hlt,hb];refine qK.rd id ?_ ?_ rfl;all_goals simp(maxSteps:=9^9)(disch:=try exact dS)only[go_sem,id]
   ·have e:k=bs.length:=oM;subst e;simp(maxSteps:=9^9)(disch:=try exact dS)only[go_sem,h2,qM0];exact zEc rfl rfl
def qL6:ECt where
 α:=List UInt8×Av
 β:=List (List UInt8)
 aS:=fun (d,a)=>[.t (.sl (d.map qA)),.t (avA a)]
 pre:=fun (d,a)=>True
 r:=fun r'=> .t (.sl (r'.map bsT))
 R:=fun (d,a) r'=>r'=qPu d a
 inj:=by rintro⟨d,a⟩ ⟨d',a'⟩ e _;simp only[xU,qJ7,qSf] at e;obtain⟨rfl,rfl⟩:=e;rfl
theorem jFw {g:EF qL6}{d:List UInt8}{a:Av}:qL6.fs g [.t (.sl (d.map qA)),.t (avA a)] []=some (.t (.sl ((qPu d a).map bsT)),[]):=fnQ qL6 (d,a) trivial
theorem jFv {d:List UInt8}{a:Av}(hV:vv = .t (.sl ((qPu d a).map bsT)))(hO:oo=[]):qL6.K (d,a) vv oo:=⟨_,rfl,hV,hO⟩
theorem jMl {n:Int}:T.int .u8 (IntKind.u8.wrap n)=qA (u8I n):=u8w
theorem qVa (h1:LkC tab 63 yY)(d:List UInt8)(a:Av) :
  kZ.1.wp tab gl (qE 0 [.t (.sl (d.map qA)),.t (avA a)]) (qE 0 []) (zA [(4,none)] 0 (qL6.K (d,a))):=by
 cases a with
 | reg s0 s1 x=>
  have hu:=qM7 (b:=[]) (n:=s0) (by decide);simp only[List.map_nil,List.length_nil,List.nil_append] at hu;have hv:=qM7 (b:=beI 2 s0 2) (n:=s1) (by rw[qR];omega);rw[qR] at hv;have t2:List.take 2 (beI 2 s0 2)=beI 2 s0 2:=List.take_of_length_le (by rw[qR];exact Nat.le_refl _);have t4:List.take 4 (beI 2 s0 2++beI 2 s1 2)=beI 2 s0 2++beI 2 s1 2:=List.take_of_length_le (by rw[List.length_append,qR,qR];exact Nat.le_refl _);simp(maxSteps:=9^9)(disch:=try exact dS)only[go_sem,kZ,avA,avL,h1,hu,hv,qR,t2,t4,qPu,qCv,List.map_nil];exact⟨rfl,jFv rfl rfl⟩
 | _=>
  simp(maxSteps:=9^9)(disch:=try exact dS)only[go_sem,kZ,avA,avL,qPu,List.map_nil,jMl];exact jFv rfl rfl
theorem zA4 {t:Nat}{fs:List (List UInt8)}(h:t<256∧(qY t fs).length<1000000000):wC.fs [.t (.int .i64 t),.t (.sl (fs.map bsT))] []=some (.sl 0 0 32,[.live 1 (((qCu t fs).map qA).map V.t) true false]):=wC.eq (t,fs) h
theorem u8n:u8I 1=1∧u8I 2=2∧u8I 3=3∧u8I 4=4∧u8I 7=7∧u8I 8=8∧u8I 9=9:=by decide
theorem n8i:((8:Nat):Int)=8:=rfl
def qI2:ECt where
 α:=List UInt8×Av
 β:=List UInt8
 aS:=fun (d,a)=>[.t (.sl (d.map qA)),.t (avA a)]
 pre:=fun (d,a)=>d.length=32∧a.Ok
 r:=fun r=> .sl 0 0 r.length
 outs:=fun r=>[.live 1 ((r.map qA).map V.t) true false]
 R:=fun (d,a) r=>r=qPt d a
 inj:=by rintro⟨d,a⟩ ⟨d',a'⟩ e _;simp only[xU,qJ7,qSf] at e;obtain⟨rfl,rfl⟩:=e;rfl
theorem jFy {g:EF qI2}{d:List UInt8}{a:Av}(hp:d.length=32∧a.Ok) : ∃ (r:List UInt8),(r=qPt d a)∧qI2.fs g [.t (.sl (d.map qA)),.t (avA a)] []=some (.sl 0 0 r.length,[.live 1 ((r.map qA).map V.t) true false]):=qI2.eq g (d,a) hp
theorem jLm {d:List UInt8}{a:Av}(r:List UInt8)(hR:r=qPt d a)(hV:vv = .sl 0 0 r.length)(hO:oo=[.live 1 ((r.map qA).map V.t) true false]):qI2.K (d,a) vv oo:=⟨r,hR,hV,hO⟩
theorem qU9 {g1}(h1:LkE tab 210 qI1 g1){g2}(h2:LkE tab 286 qL6 g2)(h3:LkC tab 103 wC)(d:List UInt8)(a:Av)(hp:d.length=32∧a.Ok) :
  kY.1.wp tab gl (qE 0 [.t (.sl (d.map qA)),.t (avA a)]) (qE 0 []) (kN [] [(4,none)] 0 (qI2.K (d,a))):=by
 obtain⟨h0,ha⟩:=hp;have c1 := @qT8 g1 a ha;have c2 := @jFw g2 d a;have c3:=zA4 (t:=8) (fs:=[qW7 a]::qPu d a) ⟨oM,zGn h0 ha⟩;have hX:qCu 8 ([qW7 a]::qPu d a)=qPt d a:=rfl;have lX:=qBd (d0:=d) (a:=a);rw[hX] at c3;generalize hG:qPt d a=x at *;have hK : ∀ vv oo,vv = .sl 0 0 32→oo=[.live 1 ((x.map qA).map V.t) true false]→qI2.K (d,a) vv oo:=fun vv oo e1 e2=>jLm x hG.symm (by rw[e1,lX]) e2
 clear hG hX;cases a
 case alt bs=>
  have l:=ha.1;have t1:List.take (1+bs.length) (T.sl [qA 8]::List.map bsT bs)=T.sl [qA 8]::List.map bsT bs:=List.take_of_length_le soM;simp only[avA,avL,qPu,qW7,mcn,qG,n8i] at c1 c2 c3;simp(maxSteps:=9^9)(disch:=try exact dS)only[go_sem,kY,avA,avL,h1,h2,h3,c1,c2,c3,t1,jMl,u8n,List.map_nil];repeat refine aiG ?_
  exact hK _ _ rfl rfl
 all_goals
  simp only[avA,avL,qPu,qW7,mcn,qG,n8i] at c1 c2 c3;simp(maxSteps:=9^9)(disch:=try exact dS)only[go_sem,kY,avA,avL,h1,h2,h3,c1,c2,c3,jMl,u8n,List.map_nil];repeat refine aiG ?_
  exact hK _ _ rfl rfl
def hnF (h:Int):List UInt8:=qCu 11 [[u8I h]]
def ixB (x:Ix):List UInt8:=[u8I x.n,u8I x.kd,u8I x.ar]++beI 2 x.sz 2++[if x.wr then 1 else 0]
def inF (x:Ix):List UInt8:=qCu 7 [ixB x,x.po]
theorem qC4 {x:Ix}:(inF x).length=32:=qM
theorem zId {h:Int}:(hnF h).length=32:=qM
theorem jSl:((11:Nat):Int)=11:=rfl
theorem ci7:((7:Nat):Int)=7:=rfl
def qLi:ECt where
 α:=Int
 β:=List UInt8
 aS:=fun h=>[.t (.int .i64 h)]
 pre:=fun h=>0≤h∧h≤3
 r:=fun r'=> .t (.sl (r'.map qA))
 R:=fun h r'=>r'=hnF h
theorem jD3 {g:EF qLi}{h:Int}(hp:0≤h∧h≤3):qLi.fs g [.t (.int .i64 h)] []=some (.t (.sl ((hnF h).map qA)),[]):=fnQ qLi h hp
theorem jKt {h:Int}(hV:vv = .t (.sl ((hnF h).map qA)))(hO:oo=[]):qLi.K h vv oo:=⟨_,rfl,hV,hO⟩
theorem qKh (h1:LkC tab 103 wC)(h:Int)(hp:0≤h∧h≤3) :
  wZ.1.wp tab gl (qE 0 [.t (.int .i64 h)]) (qE 0 []) (zA [(2,none)] 0 (qLi.K h)):=by
 have e:=zA4 (t:=11) (fs:=[[u8I h]]) ⟨oM,by simp[qY,qAl]⟩;simp only[mcn,qG,jSl] at e;have l:=zId (h:=h);have t:List.take 32 (hnF h)=hnF h:=List.take_of_length_le oM;rw[show qCu 11 [[u8I h]]=hnF h from rfl] at e;simp +contextual(maxSteps:=9^9)(disch:=try exact dS)only[go_sem,wZ,h1,e,u8w,t,↓qPx,↓qTf,zXu];all_goals exact jKt rfl rfl
def qGs:ECt where
 α:=Ix
 β:=List UInt8
 aS:=fun x=>[.t (ixA x)]
 pre:=fun x=>x.po.length≤32
 r:=fun r'=> .t (.sl (r'.map qA))
 R:=fun x r'=>r'=inF x
theorem zL9 {g:EF qGs}{x:Ix}(hp:x.po.length≤32):qGs.fs g [.t (ixA x)] []=some (.t (.sl ((inF x).map qA)),[]):=fnQ qGs x hp
theorem jKx {x:Ix}(hV:vv = .t (.sl ((inF x).map qA)))(hO:oo=[]):qGs.K x vv oo:=⟨_,rfl,hV,hO⟩
theorem qRq (h1:LkC tab 63 yY)(h2:LkC tab 103 wC)(x:Ix)(hp:x.po.length≤32) :
  qAz.1.wp tab gl (qE 0 [.t (ixA x)]) (qE 0 []) (zA [(2,none)] 0 (qGs.K x)):=by
 have u:=qM7 (b:=[u8I x.n,u8I x.kd,u8I x.ar]) (n:=x.sz) sM;have e:=zA4 (t:=7) (fs:=[ixB x,x.po]) ⟨oM,by simp[qY,qAl,ixB,qR];omega⟩;simp only[mcn,qG,List.map_append,List.length_cons,List.length_nil] at u;have l:=qC4 (x:=x);have t:List.take 32 (inF x)=inF x:=List.take_of_length_le oM;rw[show qCu 7 [ixB x,x.po]=inF x from rfl] at e;have lu:(beI 2 x.sz 2).length=2:=qR;generalize hbb:beI 2 x.sz 2=bb at *;have t3 : ∀ c:UInt8,List.take 3 (bb++[c])=bb++[c]:=fun c=>List.take_of_length_le (by simp[lu])
 cases hw:x.wr;all_goals
  have hb:ixB x=u8I x.n::u8I x.kd::u8I x.ar::(bb++[if x.wr=true then 1 else 0]):=by simp only[ixB,hbb];rfl
  simp only[hw,if_true,Bool.false_eq_true,if_false] at hb;simp only[ci7,mcn,qG,hb] at e;simp(maxSteps:=9^9)(disch:=try exact dS)only[go_sem,qAz,ixA,h1,h2,u,e,u8w,t,hw,lu,t3];exact⟨rfl,jKx rfl rfl⟩
def qRf (s:St)(h:Int):Int×Int:=if ixP s.a.ix h 0 = -1 then (0,7) else (ixP s.a.ix h 0,0)
def qDr:ECt where
 α:=St×Int
 β:=Int×Int
 aS:=fun (s,h)=>[.t (stA s),.t (.int .i64 h)]
 pre:=fun (s,h)=>s.a.ix.length≤6∧(∀ x∈s.a.ix,0≤x.n∧x.n≤255)∧tmI h
 r:=fun (i,e)=> .tup [.t (.int .i64 i),.t (.int .i64 e)]
 R:=fun (s,h) (i,e)=>(i,e)=qRf s h
theorem zAw {g:EF qDr}{s:St}{h:Int}(hp:s.a.ix.length≤6∧(∀ x∈s.a.ix,0≤x.n∧x.n≤255)∧tmI h) : ∃ (i e:Int),((i,e)=qRf s h)∧qDr.fs g [.t (stA s),.t (.int .i64 h)] []=some (.tup [.t (.int .i64 i),.t (.int .i64 e)],[]):=by
 obtain⟨y,h1,h2⟩:=qDr.eq g (s,h) hp;exact⟨y.1,y.2,h1,h2⟩
theorem jDr {s:St}{h:Int}(i e:Int)(hR:(i,e)=qRf s h)(hV:vv = .tup [.t (.int .i64 i),.t (.int .i64 e)])(hO:oo=[]):qDr.K (s,h) vv oo:=⟨(i,e),hR,hV,hO⟩
theorem qV3  (s:St)(h:Int)(hp:s.a.ix.length≤6∧(∀ x∈s.a.ix,0≤x.n∧x.n≤255)∧tmI h) :
  qDb.1.wp tab gl (qE 0 [.t (stA s),.t (.int .i64 h)]) (qE 0 []) (zA [(4,none),(5,none)] 0 (qDr.K (s,h))):=by
 obtain⟨hl,hn,ht⟩:=hp;simp(maxSteps:=9^9)(disch:=try exact dS)only[go_sem,qDb,stA];refine vK (σ:=Nat) (fun k=>k≤s.a.ix.length∧ixP (s.a.ix.drop k) h k=ixP s.a.ix h 0) (fun k=>s.a.ix.length-k) (fun k=>[(1,.t (.int .i64 h)),(10,.t (.sl (s.a.ix.map ixA))),(11,.t (.int .i64 s.a.ix.length)),(12,.t (.int .i64 k))]) (fun _=>[]) 0 ⟨oM,rfl⟩ (qK.rd id ?_ ?_ rfl) ?_
 ·simp(maxSteps:=9^9)(disch:=try exact dS)only[go_sem,id]
 ·simp(maxSteps:=9^9)(disch:=try exact dS)only[go_sem,id]
 rintro k ⟨hk,hI⟩;by_cases hlt:k<s.a.ix.length
 ·obtain⟨x,hg,hm,hd⟩:=zF hlt;have hx:=hn x hm;rw[hd] at hI;by_cases c:h-256=x.n
  ·have hI':ixP s.a.ix h 0=k:=by rw[←hI,ixP,if_pos oM]
   simp(maxSteps:=9^9)(disch:=try exact dS)only[go_sem,hlt,hg,oms,ixA,c];exact jDr k 0 (by rw[qRf,hI',if_neg oM]) rfl rfl
  ·rw[ixP,if_neg oM] at hI;simp(maxSteps:=9^9)(disch:=try exact dS)only[go_sem,hlt,hg,oms,ixA,c];repeat refine aiG ?_
   refine qTy.of (k+1) ⟨oM,hI⟩ oM (qK.rd id ?_ ?_ rfl);all_goals simp(maxSteps:=9^9)(disch:=try exact dS)only[go_sem,id]
 ·have e:k=s.a.ix.length:=oM;subst e;rw[List.drop_length,ixP] at hI;simp(maxSteps:=9^9)(disch:=try exact dS)only[go_sem,hlt];exact jDr 0 7 (by rw[qRf,←hI,if_pos rfl]) rfl rfl
def xV (s:St)(h:Int):Obj×Int:=if h<512∨515≤h then (default,7) else if (s.obs.getD (h-512).toNat default).p.kd=0 then (default,7) else (s.obs.getD (h-512).toNat default,0)
def qFc:ECt where
 α:=St×Int
 β:=Obj×Int
 aS:=fun (s,h)=>[.t (stA s),.t (.int .i64 h)]
 pre:=fun (s,h)=>s.obs.length=3∧tmI h
 r:=fun (x,e)=> .tup [.t (qBl x),.t (.int .i64 e)]
 R:=fun (s,h) (x,e)=>(x,e)=xV s h
theorem zGm {g:EF qFc}{s:St}{h:Int}(hp:s.obs.length=3∧tmI h) : ∃ (x:Obj) (e:Int),((x,e)=xV s h)∧qFc.fs g [.t (stA s),.t (.int .i64 h)] []=some (.tup [.t (qBl x),.t (.int .i64 e)],[]):=by
 obtain⟨y,h1,h2⟩:=qFc.eq g (s,h) hp;exact⟨y.1,y.2,h1,h2⟩
theorem zQy {s:St}{h:Int}(x:Obj)(e:Int)(hR:(x,e)=xV s h)(hV:vv = .tup [.t (qBl x),.t (.int .i64 e)])(hO:oo=[]):qFc.K (s,h) vv oo:=⟨(x,e),hR,hV,hO⟩
theorem qU0  (s:St)(h:Int)(hp:s.obs.length=3∧tmI h) :
  vD.1.wp tab gl (qE 0 [.t (stA s),.t (.int .i64 h)]) (qE 0 []) (zA [(4,(some (9,true))),(5,none)] 0 (qFc.K (s,h))):=by
 obtain⟨hl,ht⟩:=hp;by_cases c1:h<512
 ·simp(maxSteps:=9^9)(disch:=try exact dS)only[go_sem,vD,stA,c1];exact zQy default 7 (by rw[xV,if_pos (.inl c1)]) rfl rfl
 by_cases c2:515≤h
 ·simp(maxSteps:=9^9)(disch:=try exact dS)only[go_sem,vD,stA,c1,c2,hl];exact zQy default 7 (by rw[xV,if_pos (.inr c2)]) rfl rfl
 obtain⟨n,rfl⟩ : ∃ n:Nat,h=((512+n:Nat):Int):=⟨(h-512).toNat,oM⟩;have hn:n<s.obs.length:=oM;have hg:s.obs[n]?=some (s.obs.getD n default):=by rw[List.getD_eq_getElem?_getD,List.getElem?_eq_getElem hn];rfl
 have hF:xV s ((512+n:Nat):Int)=if (s.obs.getD n default).p.kd=0 then (default,7) else (s.obs.getD n default,0):=by
  rw[xV,if_neg oM,show (((512+n:Nat):Int)-512).toNat=n by omega]
 have hs:(512:Int)+n-512=n:=oM;generalize s.obs.getD n default=x at *;by_cases c3:x.p.kd=0
 ·simp(maxSteps:=9^9)(disch:=try exact dS)only[go_sem,vD,stA,c1,c2,hl,hg,oms,qBl,c3,hs];exact zQy default 7 (by rw[hF,if_pos c3]) rfl rfl
 ·simp(maxSteps:=9^9)(disch:=try exact dS)only[go_sem,vD,stA,c1,c2,hl,hg,oms,qBl,c3,hs];exact zQy x 0 (by rw[hF,if_neg c3]) rfl rfl
theorem jJb {l:List Ses}:qWv 8 (l.map jP)=true:=by simp only[qWv,List.all_map,List.all_eq_true];intro x _;rfl
theorem jI8 {l:List Obj}:qWv 9 (l.map qBl)=true:=by simp only[qWv,List.all_map,List.all_eq_true];intro x _;rfl
theorem jRs {l:List Ix}:qWv 8 (l.map ixA)=true:=by simp only[qWv,List.all_map,List.all_eq_true];intro x _;rfl
theorem jG3 {s:St}(h:s.ses.length=3){k:Int}(h0:0≤k)(h2:k≤2):s.ses[k.toNat]?=some (s.ses.getD k.toNat qBw)∧s.ses.getD k.toNat qBw∈s.ses:=by
 have hn:k.toNat<s.ses.length:=oM;have e:s.ses.getD k.toNat qBw=s.ses[k.toNat]:=by rw[List.getD_eq_getElem?_getD,List.getElem?_eq_getElem hn];rfl
 exact⟨by rw[e,List.getElem?_eq_getElem hn],by rw[e];exact List.getElem_mem hn⟩
def zAo:Ct where
 α:=List Ses
 aS x:=[.t (.sl (x.map jP))]
 ins _:=[]
 pre x:=x≠[]∧x.length≤1000
 r x:= .sl 0 0 x.length
 outs x:=[.live 8 ((x.map jP).map V.t) true false]
 inj:=by
  intro a b h _;simp only[List.cons.injEq,V.t.injEq,T.sl.injEq,and_true,zHh] at h;subst h;exact⟨rfl,rfl⟩
theorem jC8 {x:List Ses}(h:x≠[]∧x.length≤1000):zAo.fs [.t (.sl (x.map jP))] []=some (.sl 0 0 x.length,[.live 8 ((x.map jP).map V.t) true false]):=zAo.eq x h
theorem qR9 (x:List Ses)(hx:x≠[]∧x.length≤1000):zQ.1.wp tab gl (qE 0 [.t (.sl (x.map jP))]) (qE 0 []) (kN [] [(2,none)] 0 (fun r o=>r = .sl 0 0 x.length∧o=[.live 8 ((x.map jP).map V.t) true false])):=by
 match x,hx with
 | [],hx=>exact absurd rfl hx.1
 | a::r,hx=>
  have hz:=jJb (l:=a::r);simp only[List.length_cons] at hx;simp only[List.map_cons] at hz;simp(maxSteps:=9^9)(disch:=try exact dS)only[go_sem,zQ,List.map_cons,hz];exact⟨hz,trivial⟩
theorem qZl (h1:LkC tab 161 zAo)(s:St)(k:Int)(x:Ses)(hp:s.ses.length=3∧0≤k∧k≤2) :
  qE3.1.wp tab gl (qE 0 [.t (stA s),.t (.int .i64 k),.t (jP x)]) (qE 0 []) (zA [(6,(some (30,true)))] 0 (qGx.K (s,k,x))):=by
 obtain⟨q1,q2,q3⟩:=hp;obtain⟨hg,hm⟩:=jG3 q1 q2 q3;have e:=jC8 (x:=s.ses) ⟨by intro h;rw[h] at q1;exact absurd q1 (by decide),oM⟩;rw[q1] at e;simp(maxSteps:=9^9)(disch:=try exact dS)only[go_sem,qE3,stA,jP,h1,e,q1,q2,q3,jJb,hg,oms];exact jLk (by rw[List.take_of_length_le (by simp[q1])];simp only[stA,List.map_set,jP]) rfl
def qBm (s:St)(h:Int):Int×Ses×Bool:=if zWq s h = -1 then (0,qBw,false) else (h-768,s.ses.getD (h-768).toNat qBw,true)
theorem qCz {s:St}{h:Int}(c:h<768∨771≤h):zWq s h = -1:=if_pos oM
def qGy:ECt where
 α:=St×Int
 β:=Int×Ses×Bool
 aS:=fun (s,h)=>[.t (stA s),.t (.int .i64 h)]
 pre:=fun (s,h)=>s.ses.length=3∧tmI h
 r:=fun (k,x,b)=> .tup [.t (.int .i64 k),.t (jP x),.t (.bool b)]
 R:=fun (s,h) (k,x,b)=>(k,x,b)=qBm s h
theorem zOc {g:EF qGy}{s:St}{h:Int}(hp:s.ses.length=3∧tmI h) : ∃ (k:Int) (x:Ses) (b:Bool),((k,x,b)=qBm s h)∧qGy.fs g [.t (stA s),.t (.int .i64 h)] []=some (.tup [.t (.int .i64 k),.t (jP x),.t (.bool b)],[]):=by
 obtain⟨y,h1,h2⟩:=qGy.eq g (s,h) hp;exact⟨y.1,y.2.1,y.2.2,h1,h2⟩
theorem qKe {s:St}{h:Int}(k:Int)(x:Ses)(b:Bool)(hR:(k,x,b)=qBm s h)(hV:vv = .tup [.t (.int .i64 k),.t (jP x),.t (.bool b)])(hO:oo=[]):qGy.K (s,h) vv oo:=⟨(k,x,b),hR,hV,hO⟩
theorem qWe  (s:St)(h:Int)(hp:s.ses.length=3∧tmI h) :
  vS.1.wp tab gl (qE 0 [.t (stA s),.t (.int .i64 h)]) (qE 0 []) (zA [(4,none),(5,(some (8,true))),(6,none)] 0 (qGy.K (s,h))):=by
 obtain⟨hl,ht⟩:=hp;by_cases c1:h<768
 ·simp(maxSteps:=9^9)(disch:=try exact dS)only[go_sem,vS,stA,c1];first | exact (qKe 0 qBw false (by simp[qBm,qCz (.inl c1)]) rfl rfl) | exact⟨rfl,(qKe 0 qBw false (by simp[qBm,qCz (.inl c1)]) rfl rfl)⟩ | exact⟨rfl,rfl,(qKe 0 qBw false (by simp[qBm,qCz (.inl c1)]) rfl rfl)⟩ | exact⟨rfl,rfl,rfl,(qKe 0 qBw false (by simp[qBm,qCz (.inl c1)]) rfl rfl)⟩
 by_cases c2:771≤h
 ·simp(maxSteps:=9^9)(disch:=try exact dS)only[go_sem,vS,stA,c1,c2,hl];first | exact (qKe 0 qBw false (by simp[qBm,qCz (.inr c2)]) rfl rfl) | exact⟨rfl,(qKe 0 qBw false (by simp[qBm,qCz (.inr c2)]) rfl rfl)⟩ | exact⟨rfl,rfl,(qKe 0 qBw false (by simp[qBm,qCz (.inr c2)]) rfl rfl)⟩ | exact⟨rfl,rfl,rfl,(qKe 0 qBw false (by simp[qBm,qCz (.inr c2)]) rfl rfl)⟩
 obtain⟨n,rfl⟩ : ∃ n:Nat,h=((768+n:Nat):Int):=⟨(h-768).toNat,oM⟩;have hs:((768+n:Nat):Int)-768=n:=oM;obtain⟨hg,hm⟩:=jG3 hl (k:=(n:Int)) oM oM;have hF:qBm s ((768+n:Nat):Int)=if (s.ses.getD n qBw).kd=0 then (0,qBw,false) else ((n:Int),s.ses.getD n qBw,true):=by
  simp only[qBm,zWq,hs,Int.toNat_natCast];rw[if_neg (show ¬ (((768+n:Nat):Int)<768∨(3:Int)≤n) by omega)];by_cases c:(s.ses.getD n qBw).kd=0
  ·simp only[c,if_true]
  ·simp only[c,if_false];rw[if_neg oM]
 rw[Int.toNat_natCast] at hg;generalize s.ses.getD n qBw=x at *;by_cases c3:x.kd=0
 ·simp(maxSteps:=9^9)(disch:=try exact dS)only[go_sem,vS,stA,c1,c2,hl,hg,oms,jP,c3,hs];first | exact (qKe 0 qBw false (by rw[hF,if_pos c3]) rfl rfl) | exact⟨rfl,(qKe 0 qBw false (by rw[hF,if_pos c3]) rfl rfl)⟩ | exact⟨rfl,rfl,(qKe 0 qBw false (by rw[hF,if_pos c3]) rfl rfl)⟩ | exact⟨rfl,rfl,rfl,(qKe 0 qBw false (by rw[hF,if_pos c3]) rfl rfl)⟩
 ·simp(maxSteps:=9^9)(disch:=try exact dS)only[go_sem,vS,stA,c1,c2,hl,hg,oms,jP,c3,hs];first | exact (qKe n x true (by rw[hF,if_neg c3]) rfl rfl) | exact⟨rfl,(qKe n x true (by rw[hF,if_neg c3]) rfl rfl)⟩ | exact⟨rfl,rfl,(qKe n x true (by rw[hF,if_neg c3]) rfl rfl)⟩ | exact⟨rfl,rfl,rfl,(qKe n x true (by rw[hF,if_neg c3]) rfl rfl)⟩
def qFe:ECt where
 α:=St×Int
 β:=Ses×Int
 aS:=fun (s,h)=>[.t (stA s),.t (.int .i64 h)]
 pre:=fun (s,h)=>s.ses.length=3∧tmI h
 r:=fun (x,e)=> .tup [.t (jP x),.t (.int .i64 e)]
 R:=fun (s,h) (x,e)=>(x,e)=if (qBm s h).2.2=true then ((qBm s h).2.1,0) else (qBw,8)
theorem zHb {g:EF qFe}{s:St}{h:Int}(hp:s.ses.length=3∧tmI h) : ∃ (x:Ses) (e:Int),((x,e)=if (qBm s h).2.2=true then ((qBm s h).2.1,0) else (qBw,8))∧qFe.fs g [.t (stA s),.t (.int .i64 h)] []=some (.tup [.t (jP x),.t (.int .i64 e)],[]):=by
 obtain⟨y,h1,h2⟩:=qFe.eq g (s,h) hp;exact⟨y.1,y.2,h1,h2⟩
theorem zBx {s:St}{h:Int}(x:Ses)(e:Int)(hR:(x,e)=if (qBm s h).2.2=true then ((qBm s h).2.1,0) else (qBw,8))(hV:vv = .tup [.t (jP x),.t (.int .i64 e)])(hO:oo=[]):qFe.K (s,h) vv oo:=⟨(x,e),hR,hV,hO⟩
theorem qWc {g1}(h1:LkE tab 186 qGy g1)(s:St)(h:Int)(hp:s.ses.length=3∧tmI h) :
  qAh.1.wp tab gl (qE 0 [.t (stA s),.t (.int .i64 h)]) (qE 0 []) (zA [(4,(some (8,true))),(5,none)] 0 (qFe.K (s,h))):=by
 obtain⟨k,x,b,e,e1⟩:=zOc (g:=g1) (h:=h) hp;simp only[stA,jP] at e1;cases b
 ·simp(maxSteps:=9^9)(disch:=try exact dS)only[go_sem,qAh,stA,h1,e1];first | exact (zBx qBw 8 (by rw[←e];rfl) rfl rfl) | exact⟨rfl,(zBx qBw 8 (by rw[←e];rfl) rfl rfl)⟩ | exact⟨rfl,rfl,(zBx qBw 8 (by rw[←e];rfl) rfl rfl)⟩ | exact⟨rfl,rfl,rfl,(zBx qBw 8 (by rw[←e];rfl) rfl rfl)⟩
 ·simp(maxSteps:=9^9)(disch:=try exact dS)only[go_sem,qAh,stA,h1,e1];first | exact (zBx x 0 (by rw[←e];rfl) rfl rfl) | exact⟨rfl,(zBx x 0 (by rw[←e];rfl) rfl rfl)⟩ | exact⟨rfl,rfl,(zBx x 0 (by rw[←e];rfl) rfl rfl)⟩ | exact⟨rfl,rfl,rfl,(zBx x 0 (by rw[←e];rfl) rfl rfl)⟩
def qMb:ECt where
 α:=St×Int
 β:=St×Int
 aS:=fun (s,h)=>[.t (stA s),.t (.int .i64 h)]
 pre:=fun (s,h)=>s.ses.length=3∧tmI h
 r:=fun (t,e)=> .tup [.t (stA t),.t (.int .i64 e)]
 R:=fun (s,h) (t,e)=>(t,e)=if (qBm s h).2.2=true then ({ s with ses:=s.ses.set (h-768).toNat qBw },0) else (default,8)
theorem jGq {g:EF qMb}{s:St}{h:Int}(hp:s.ses.length=3∧tmI h) : ∃ (t:St) (e:Int),((t,e)=if (qBm s h).2.2=true then ({ s with ses:=s.ses.set (h-768).toNat qBw },0) else (default,8))∧qMb.fs g [.t (stA s),.t (.int .i64 h)] []=some (.tup [.t (stA t),.t (.int .i64 e)],[]):=by
 obtain⟨y,h1,h2⟩:=qMb.eq g (s,h) hp;exact⟨y.1,y.2,h1,h2⟩
theorem zBw {s:St}{h:Int}(t:St)(e:Int)(hR:(t,e)=if (qBm s h).2.2=true then ({ s with ses:=s.ses.set (h-768).toNat qBw },0) else (default,8))(hV:vv = .tup [.t (stA t),.t (.int .i64 e)])(hO:oo=[]):qMb.K (s,h) vv oo:=⟨(t,e),hR,hV,hO⟩
theorem zWp {s:St}{h k:Int}{x:Ses}(e:(k,x,true)=qBm s h):k=h-768∧0≤k∧k≤2∧x=s.ses.getD k.toNat qBw:=by
 by_cases c:zWq s h = -1
 ·rw[qBm,if_pos c] at e;cases e
 ·rw[qBm,if_neg c] at e;simp only[Prod.mk.injEq,and_true] at e;obtain⟨rfl,rfl⟩:=e;have : ¬ (h<768∨771≤h):=fun d=>c (qCz d)
  exact⟨rfl,oM,oM,rfl⟩
theorem qVb {g1}(h1:LkE tab 186 qGy g1){g2}(h2:LkE tab 228 qGx g2)(s:St)(h:Int)(hp:s.ses.length=3∧tmI h) :
  xA.1.wp tab gl (qE 0 [.t (stA s),.t (.int .i64 h)]) (qE 0 []) (zA [(4,(some (30,true))),(5,none)] 0 (qMb.K (s,h))):=by
 obtain⟨k,x,b,e,e1⟩:=zOc (g:=g1) (h:=h) hp;simp only[stA,jP] at e1;cases b
 ·simp(maxSteps:=9^9)(disch:=try exact dS)only[go_sem,xA,stA,h1,e1];first | exact (zBw default 8 (by rw[←e];rfl) rfl rfl) | exact⟨rfl,(zBw default 8 (by rw[←e];rfl) rfl rfl)⟩ | exact⟨rfl,rfl,(zBw default 8 (by rw[←e];rfl) rfl rfl)⟩ | exact⟨rfl,rfl,rfl,(zBw default 8 (by rw[←e];rfl) rfl rfl)⟩
 ·obtain⟨k1,k2,k3,k4⟩:=zWp e;have e2:=zM3 (g:=g2) (s:=s) (k:=k) (x:=qBw) ⟨hp.1,k2,k3⟩;simp only[stA,jP,qBw,List.map_nil] at e2;simp(maxSteps:=9^9)(disch:=try exact dS)only[go_sem,xA,stA,h1,e1,h2,e2];first | exact (zBw { s with ses:=s.ses.set k.toNat qBw } 0 (by rw[←e,←k1];rfl) rfl rfl) | exact⟨rfl,(zBw { s with ses:=s.ses.set k.toNat qBw } 0 (by rw[←e,←k1];rfl) rfl rfl)⟩ | exact⟨rfl,rfl,(zBw { s with ses:=s.ses.set k.toNat qBw } 0 (by rw[←e,←k1];rfl) rfl rfl)⟩ | exact⟨rfl,rfl,rfl,(zBw { s with ses:=s.ses.set k.toNat qBw } 0 (by rw[←e,←k1];rfl) rfl rfl)⟩
def qHs (s:St)(h:Int):Int×Ses×Bool:=((qBm s h).1,(qBm s h).2.1,(qBm s h).2.2&&(decide ((qBm s h).2.1.kd=2)||decide ((qBm s h).2.1.kd=3)))
def qMe:ECt where
 α:=St×Int
 β:=Int×Ses×Bool
 aS:=fun (s,h)=>[.t (stA s),.t (.int .i64 h)]
 pre:=fun (s,h)=>s.ses.length=3∧tmI h
 r:=fun (k,x,b)=> .tup [.t (.int .i64 k),.t (jP x),.t (.bool b)]
 R:=fun (s,h) (k,x,b)=>(k,x,b)=qHs s h
theorem jGu {g:EF qMe}{s:St}{h:Int}(hp:s.ses.length=3∧tmI h) : ∃ (k:Int) (x:Ses) (b:Bool),((k,x,b)=qHs s h)∧qMe.fs g [.t (stA s),.t (.int .i64 h)] []=some (.tup [.t (.int .i64 k),.t (jP x),.t (.bool b)],[]):=by
 obtain⟨y,h1,h2⟩:=qMe.eq g (s,h) hp;exact⟨y.1,y.2.1,y.2.2,h1,h2⟩
theorem qKd {s:St}{h:Int}(k:Int)(x:Ses)(b:Bool)(hR:(k,x,b)=qHs s h)(hV:vv = .tup [.t (.int .i64 k),.t (jP x),.t (.bool b)])(hO:oo=[]):qMe.K (s,h) vv oo:=⟨(k,x,b),hR,hV,hO⟩
theorem qHe {g1}(h1:LkE tab 186 qGy g1)(s:St)(h:Int)(hp:s.ses.length=3∧tmI h) :
  zY.1.wp tab gl (qE 0 [.t (stA s),.t (.int .i64 h)]) (qE 0 []) (zA [(4,none),(5,(some (8,true))),(6,none)] 0 (qMe.K (s,h))):=by
 obtain⟨k,x,b,e,e1⟩:=zOc (g:=g1) (h:=h) hp;simp only[stA,jP] at e1;have hF:qHs s h=(k,x,b&&(decide (x.kd=2)||decide (x.kd=3))):=by rw[qHs,←e]
 cases b
 ·simp(maxSteps:=9^9)(disch:=try exact dS)only[go_sem,zY,stA,h1,e1];first | exact (qKd k x false hF.symm rfl rfl) | exact⟨rfl,(qKd k x false hF.symm rfl rfl)⟩ | exact⟨rfl,rfl,(qKd k x false hF.symm rfl rfl)⟩ | exact⟨rfl,rfl,rfl,(qKd k x false hF.symm rfl rfl)⟩
 by_cases c1:x.kd=2
 ·obtain⟨kd,no,dg,up,lo,cm,dl,av⟩:=x;simp only at c1 e1 hF;subst c1;simp(maxSteps:=9^9)(disch:=try exact dS)only[go_sem,zY,stA,h1,e1];first | exact (qKd k ⟨2,no,dg,up,lo,cm,dl,av⟩ true (by rw[hF];rfl) rfl rfl) | exact⟨rfl,(qKd k ⟨2,no,dg,up,lo,cm,dl,av⟩ true (by rw[hF];rfl) rfl rfl)⟩ | exact⟨rfl,rfl,(qKd k ⟨2,no,dg,up,lo,cm,dl,av⟩ true (by rw[hF];rfl) rfl rfl)⟩ | exact⟨rfl,rfl,rfl,(qKd k ⟨2,no,dg,up,lo,cm,dl,av⟩ true (by rw[hF];rfl) rfl rfl)⟩
 by_cases c2:x.kd=3
 ·obtain⟨kd,no,dg,up,lo,cm,dl,av⟩:=x;simp only at c2 e1 hF;subst c2;simp(maxSteps:=9^9)(disch:=try exact dS)only[go_sem,zY,stA,h1,e1];first | exact (qKd k ⟨3,no,dg,up,lo,cm,dl,av⟩ true (by rw[hF];rfl) rfl rfl) | exact⟨rfl,(qKd k ⟨3,no,dg,up,lo,cm,dl,av⟩ true (by rw[hF];rfl) rfl rfl)⟩ | exact⟨rfl,rfl,(qKd k ⟨3,no,dg,up,lo,cm,dl,av⟩ true (by rw[hF];rfl) rfl rfl)⟩ | exact⟨rfl,rfl,rfl,(qKd k ⟨3,no,dg,up,lo,cm,dl,av⟩ true (by rw[hF];rfl) rfl rfl)⟩
 ·simp(maxSteps:=9^9)(disch:=try exact dS)only[go_sem,zY,stA,h1,e1,c1,c2];first | exact (qKd k x false (by rw[hF];simp[c1,c2]) rfl rfl) | exact⟨rfl,(qKd k x false (by rw[hF];simp[c1,c2]) rfl rfl)⟩ | exact⟨rfl,rfl,(qKd k x false (by rw[hF];simp[c1,c2]) rfl rfl)⟩ | exact⟨rfl,rfl,rfl,(qKd k x false (by rw[hF];simp[c1,c2]) rfl rfl)⟩
def frS:List Ses→Nat→Int
 | [],_ => -1
 | x::r,k=>if x.kd=0 then (k:Int) else frS r (k+1)
def nwS (s:St)(k:Int):Ses:=⟨k,qYr s 16,z32,-1,31,0,0,false⟩
def qSj (s:St)(k:Int):St×Int×Int:=if frS s.ses 0 = -1 then (default,0,25) else ({ s with dr:=s.dr+1,ses:=s.ses.set (frS s.ses 0).toNat (nwS s k) },768+frS s.ses 0,0)
def qMd:ECt where
 α:=St×Int
 β:=St×Int×Int
 aS:=fun (s,k)=>[.t (stA s),.t (.int .i64 k)]
 pre:=fun (s,k)=>(s.a.en.length=32∧(0≤s.dr∧s.dr≤1000000))∧s.ses.length=3∧1≤k∧k≤3
 r:=fun (t,h,e)=> .tup [.t (stA t),.t (.int .i64 h),.t (.int .i64 e)]
 R:=fun (s,k) (t,h,e)=>(t,h,e)=qSj s k
theorem jGt {g:EF qMd}{s:St}{k:Int}(hp:(s.a.en.length=32∧(0≤s.dr∧s.dr≤1000000))∧s.ses.length=3∧1≤k∧k≤3) : ∃ (t:St) (h e:Int),((t,h,e)=qSj s k)∧qMd.fs g [.t (stA s),.t (.int .i64 k)] []=some (.tup [.t (stA t),.t (.int .i64 h),.t (.int .i64 e)],[]):=by
 obtain⟨y,h1,h2⟩:=qMd.eq g (s,k) hp;exact⟨y.1,y.2.1,y.2.2,h1,h2⟩
theorem zBy {s:St}{k:Int}(t:St)(h e:Int)(hR:(t,h,e)=qSj s k)(hV:vv = .tup [.t (stA t),.t (.int .i64 h),.t (.int .i64 e)])(hO:oo=[]):qMd.K (s,k) vv oo:=⟨(t,h,e),hR,hV,hO⟩
theorem qWd {g1}(h1:LkE tab 160 qPq g1)(h2:LkC tab 237 qTi){g3}(h3:LkE tab 228 qGx g3)(s:St)(k:Int)(hp:(s.a.en.length=32∧(0≤s.dr∧s.dr≤1000000))∧s.ses.length=3∧1≤k∧k≤3) :
  qDm.1.wp tab gl (qE 0 [.t (stA s),.t (.int .i64 k)]) (qE 0 []) (zA [(4,(some (30,true))),(5,none),(6,none)] 0 (qMd.K (s,k))):=by
 obtain⟨⟨he,hd⟩,hl,k1,k3⟩:=hp;obtain⟨t,b,⟨ht,hb⟩,e1⟩:=jGk (g:=g1) (s:=s) (n:=16) ⟨he,⟨hd.1,oM⟩,oM,oM⟩;have lb:b.length=16:=by rw[hb];exact wP
 have tz:List.take 32 z32=z32:=rfl;have lz:=qBh;subst ht;simp(maxSteps:=9^9)(disch:=try exact dS)only[go_sem,qDm,stA,k1,k3];refine vK (σ:=Nat) (fun j=>j≤3∧frS (s.ses.drop j) j=frS s.ses 0) (fun j=>3-j) (fun j=>[(1,.t (.int .i64 k)),(2,.ref 4096 0 0),(4,.ref 4112 0 0),(20,.t (.sl (s.ses.map jP))),(21,.t (.int .i64 3)),(22,.t (.int .i64 j))]) (fun j=>[(4112,.live 30 [.agg [.nil,.nil,.nil,.t (.int .i64 0),.t (.int .i64 0),.t (.int .i64 0),.t (.int .i64 0),.t (.bool false),.nil,.t (.int .i64 0),.t (.int .i64 0),.nil,.t (.int .i64 0),.t (.int .i64 0),.t (.int .i64 0),.t (.int .i64 0),.t (.int .i64 0),.t (.int .i64 0),.nil,.t (.bool false),.t (.bool false),.nil,.t (.int .i64 0),.t (.int .i64 0),.t (.bool false),.t (.int .i64 0),.nil,.nil,.nil,.nil]] true true),(4096,.live 30 [.t (stA s)] true true)]) 0 ⟨oM,rfl⟩ (qK.rd id ?_ ?_ rfl) ?_
 ·simp(maxSteps:=9^9)(disch:=try exact dS)only[go_sem,id,stA,hl]
 ·simp(maxSteps:=9^9)(disch:=try exact dS)only[go_sem,id,stA]
 rintro j ⟨hj,hF⟩;by_cases hlt:j<3
 ·obtain⟨x,hg,hm,hdr⟩:=zF (l:=s.ses) (k:=j) oM;rw[hdr,frS] at hF;by_cases c3:x.kd=0
  ·rw[if_pos c3] at hF;have e2:=zM3 (g:=g3) (s := { s with dr:=s.dr+1 }) (k:=(j:Int)) (x:=⟨k,b,z32,-1,31,0,0,false⟩) ⟨hl,oM,oM⟩;simp only[stA,jP] at e1 e2;simp(maxSteps:=9^9)(disch:=try exact dS)only[go_sem,stA,hl,hlt,hg,oms,jP,c3,h1,h2,h3,zM4,e1,e2,tz,lz];first | exact (zBy { s with dr:=s.dr+1,ses:=s.ses.set j ⟨k,b,z32,-1,31,0,0,false⟩ } (768+j) 0 (by rw[qSj,←hF,if_neg oM,Int.toNat_natCast,nwS,hb]) rfl rfl) | exact⟨rfl,(zBy { s with dr:=s.dr+1,ses:=s.ses.set j ⟨k,b,z32,-1,31,0,0,false⟩ } (768+j) 0 (by rw[qSj,←hF,if_neg oM,Int.toNat_natCast,nwS,hb]) rfl rfl)⟩ | exact⟨rfl,rfl,(zBy { s with dr:=s.dr+1,ses:=s.ses.set j ⟨k,b,z32,-1,31,0,0,false⟩ } (768+j) 0 (by rw[qSj,←hF,if_neg oM,Int.toNat_natCast,nwS,hb]) rfl rfl)⟩ | exact⟨rfl,rfl,rfl,(zBy { s with dr:=s.dr+1,ses:=s.ses.set j ⟨k,b,z32,-1,31,0,0,false⟩ } (768+j) 0 (by rw[qSj,←hF,if_neg oM,Int.toNat_natCast,nwS,hb]) rfl rfl)⟩
  ·rw[if_neg c3] at hF;simp(maxSteps:=9^9)(disch:=try exact dS)only[go_sem,stA,hl,hlt,hg,oms,jP,c3];refine qTy.of (j+1) ⟨oM,hF⟩ oM (qK.rd id ?_ ?_ rfl);all_goals simp(maxSteps:=9^9)(disch:=try exact dS)only[go_sem,id,stA]
 ·have e3:j=3:=oM;subst e3;rw[List.drop_eq_nil_of_le oM,frS] at hF;simp(maxSteps:=9^9)(disch:=try exact dS)only[go_sem,stA,hl];first | exact (zBy default 0 25 (by rw[qSj,←hF,if_pos rfl]) rfl rfl) | exact⟨rfl,(zBy default 0 25 (by rw[qSj,←hF,if_pos rfl]) rfl rfl)⟩ | exact⟨rfl,rfl,(zBy default 0 25 (by rw[qSj,←hF,if_pos rfl]) rfl rfl)⟩ | exact⟨rfl,rfl,rfl,(zBy default 0 25 (by rw[qSj,←hF,if_pos rfl]) rfl rfl)⟩
def exS (s:St)(k:Int)(x:Ses)(a:Av):St := { s with ses:=s.ses.set k.toNat { x with dg:=qPt x.dg a } }
def qI4:ECt where
 α:=St×Int×Ses×Av
 β:=St
 aS:=fun (s,k,x,a)=>[.t (stA s),.t (.int .i64 k),.t (jP x),.t (avA a)]
 pre:=fun (s,k,x,a)=>s.ses.length=3∧(0≤k∧k≤2)∧x.dg.length=32∧a.Ok
 r:=fun r'=> .t (stA r')
 R:=fun (s,k,x,a) r'=>r'=exS s k x a
 inj:=by rintro⟨s,k,x,a⟩ ⟨s',k',x',a'⟩ e _;simp only[xU,qJ7,qSf] at e;obtain⟨rfl,rfl,rfl,rfl⟩:=e;rfl
theorem jGs {g:EF qI4}{s:St}{k:Int}{x:Ses}{a:Av}(hp:s.ses.length=3∧(0≤k∧k≤2)∧x.dg.length=32∧a.Ok):qI4.fs g [.t (stA s),.t (.int .i64 k),.t (jP x),.t (avA a)] []=some (.t (stA (exS s k x a)),[]):=fnQ qI4 (s,k,x,a) hp
theorem jLy {s:St}{k:Int}{x:Ses}{a:Av}(hV:vv = .t (stA (exS s k x a)))(hO:oo=[]):qI4.K (s,k,x,a) vv oo:=⟨_,rfl,hV,hO⟩
theorem qR2 {g1}(h1:LkE tab 243 qI2 g1){g2}(h2:LkE tab 228 qGx g2)(s:St)(k:Int)(x:Ses)(a:Av)(hp:s.ses.length=3∧(0≤k∧k≤2)∧x.dg.length=32∧a.Ok) :
  qBa.1.wp tab gl (qE 0 [.t (stA s),.t (.int .i64 k),.t (jP x),.t (avA a)]) (qE 0 []) (zA [(8,(some (30,true)))] 0 (qI4.K (s,k,x,a))):=by
 obtain⟨hl,⟨k0,k2⟩,hd,ha⟩:=hp;obtain⟨r,hr,e1⟩:=jFy (g:=g1) (d:=x.dg) (a:=a) ⟨hd,ha⟩;have e2:=zM3 (g:=g2) (s:=s) (k:=k) (x := { x with dg:=r }) ⟨hl,k0,k2⟩;have lr:r.length=32:=by rw[hr];exact qBd
 have tr:List.take 32 r=r:=List.take_of_length_le oM;have hS:exS s k x a = { s with ses:=s.ses.set k.toNat { x with dg:=r } }:=by rw[hr];rfl
 rw[lr] at e1;clear hr;have hK : ∀ vv,vv = .t (stA { s with ses:=s.ses.set k.toNat { x with dg:=r } })→qI4.K (s,k,x,a) vv []:=fun vv h=>jLy (by rw[h,hS]) rfl
 clear hS;simp only[stA,jP] at e1 e2;cases a;all_goals
  simp only[avA,avL,List.map_nil] at e1;simp(maxSteps:=9^9)(disch:=try exact dS)only[go_sem,qBa,stA,jP,avA,avL,h1,h2,e1,e2,lr,tr,List.map_nil];first | exact (hK _ rfl) | exact⟨rfl,(hK _ rfl)⟩ | exact⟨rfl,rfl,(hK _ rfl)⟩ | exact⟨rfl,rfl,rfl,(hK _ rfl)⟩
def rgD (bk:List qX)(s0 s1:Int):List UInt8:=qCu 5 [qCv s0 s1,zC3 bk s0 s1]
theorem qXc {bk:List qX}{s0 s1:Int}:(rgD bk s0 s1).length=32:=qM
theorem zVn {bk:List qX}{u s0 s1:Int}(h:RV bk)(hE:qPo bk s0 s1=0):qK8.fs [.t (.agg [.sl (bk.map wY),.int .i64 u]),.t (.agg [.int .i64 s0,.int .i64 s1])] []=some (.tup [.sl 0 0 32,.t (.int .i64 0)],[.live 1 (((rgD bk s0 s1).map qA).map V.t) true false]):=by
 have he:qK8.fs [.t (.agg [.sl (bk.map wY),.int .i64 u]),.t (.agg [.int .i64 s0,.int .i64 s1])] []=some (zDp bk s0 s1,zDo bk s0 s1):=qK8.eq (bk,u,s0,s1) h;exact he.trans (by rw[zDp,if_pos hE,zDo,if_pos hE];rfl)
def jJi (bk:List qX)(a:Av):Prop := ∃ m,a = .reg 0 m []∧(0≤m∧m≤65535)∧qPo bk 0 m=0
def qMc:ECt where
 α:=St×Ses×Av
 β:=Ses×Av×Int
 aS:=fun (s,x,a)=>[.t (stA s),.t (jP x),.t (avA a)]
 pre:=fun (s,x,a)=>(RV s.bk∧0≤s.u)∧jJi s.bk a∧(x.up = -1∨x.up=s.u)∧(x.kd=2∨x.kd=3)
 r:=fun (y,b,e)=> .tup [.t (jP y),.t (avA b),.t (.int .i64 e)]
 R:=fun (s,x,a) (y,b,e)=>e=0∧y=(if x.kd=2 then { x with up:=s.u } else x) ∧ ∀ m,a = .reg 0 m []→b = .reg 0 m (rgD s.bk 0 m)
 inj:=by rintro⟨s,x,a⟩ ⟨s',x',a'⟩ e _;simp only[xU,qJ7,qSf] at e;obtain⟨rfl,rfl,rfl⟩:=e;rfl
theorem jGr {g:EF qMc}{s:St}{x:Ses}{a:Av}(hp:(RV s.bk∧0≤s.u)∧jJi s.bk a∧(x.up = -1∨x.up=s.u)∧(x.kd=2∨x.kd=3)) : ∃ (y:Ses) (b:Av) (e:Int),(e=0∧y=(if x.kd=2 then { x with up:=s.u } else x) ∧ ∀ m,a = .reg 0 m []→b = .reg 0 m (rgD s.bk 0 m))∧qMc.fs g [.t (stA s),.t (jP x),.t (avA a)] []=some (.tup [.t (jP y),.t (avA b),.t (.int .i64 e)],[]):=by
 obtain⟨y,h1,h2⟩:=qMc.eq g (s,x,a) hp;exact⟨y.1,y.2.1,y.2.2,h1,h2⟩
theorem qRp {s:St}{x:Ses}{a:Av}(y:Ses)(b:Av)(e:Int)(hR:e=0∧y=(if x.kd=2 then { x with up:=s.u } else x) ∧ ∀ m,a = .reg 0 m []→b = .reg 0 m (rgD s.bk 0 m))(hV:vv = .tup [.t (jP y),.t (avA b),.t (.int .i64 e)])(hO:oo=[]):qMc.K (s,x,a) vv oo:=⟨(y,b,e),hR,hV,hO⟩
theorem qF8 (h1:LkC tab 208 qK8)(s:St)(x:Ses)(a:Av)(hp:(RV s.bk∧0≤s.u)∧jJi s.bk a∧(x.up = -1∨x.up=s.u)∧(x.kd=2∨x.kd=3)) :
  jF.1.wp tab gl (qE 0 [.t (stA s),.t (jP x),.t (avA a)]) (qE 0 []) (zA [(6,(some (8,true))),(7,(some (10,true))),(8,none)] 0 (qMc.K (s,x,a))):=by
 obtain⟨⟨hv,u0⟩,⟨m,rfl,hm,hE⟩,hu,hk⟩:=hp;have e1:=zVn (u:=s.u) hv hE;have ld:=qXc (bk:=s.bk) (s0:=0) (s1:=m);have td:List.take 32 (rgD s.bk 0 m)=rgD s.bk 0 m:=List.take_of_length_le oM;generalize hd:rgD s.bk 0 m=d at *;have hb : ∀ m',Av.reg 0 m [] = .reg 0 m' []→Av.reg 0 m d = .reg 0 m' (rgD s.bk 0 m'):=by intro m' h;cases h;rw[hd]
 obtain⟨kd,no,dg,up,lo,cm,dl,av⟩:=x;simp only at hu hk;rcases hk with rfl | rfl
 ·rcases hu with rfl | rfl
  ·simp(maxSteps:=9^9)(disch:=try exact dS)only[go_sem,jF,stA,jP,avA,avL,h1,e1,ld,td,List.map_nil];first | exact (qRp ⟨2,no,dg,s.u,lo,cm,dl,av⟩ (.reg 0 m d) 0 ⟨rfl,rfl,hb⟩ rfl rfl) | exact⟨rfl,(qRp ⟨2,no,dg,s.u,lo,cm,dl,av⟩ (.reg 0 m d) 0 ⟨rfl,rfl,hb⟩ rfl rfl)⟩ | exact⟨rfl,rfl,(qRp ⟨2,no,dg,s.u,lo,cm,dl,av⟩ (.reg 0 m d) 0 ⟨rfl,rfl,hb⟩ rfl rfl)⟩ | exact⟨rfl,rfl,rfl,(qRp ⟨2,no,dg,s.u,lo,cm,dl,av⟩ (.reg 0 m d) 0 ⟨rfl,rfl,hb⟩ rfl rfl)⟩
  ·have c : ¬ s.u = -1:=oM;simp(maxSteps:=9^9)(disch:=try exact dS)only[go_sem,jF,stA,jP,avA,avL,h1,e1,ld,td,c,List.map_nil];first | exact (qRp ⟨2,no,dg,s.u,lo,cm,dl,av⟩ (.reg 0 m d) 0 ⟨rfl,rfl,hb⟩ rfl rfl) | exact⟨rfl,(qRp ⟨2,no,dg,s.u,lo,cm,dl,av⟩ (.reg 0 m d) 0 ⟨rfl,rfl,hb⟩ rfl rfl)⟩ | exact⟨rfl,rfl,(qRp ⟨2,no,dg,s.u,lo,cm,dl,av⟩ (.reg 0 m d) 0 ⟨rfl,rfl,hb⟩ rfl rfl)⟩ | exact⟨rfl,rfl,rfl,(qRp ⟨2,no,dg,s.u,lo,cm,dl,av⟩ (.reg 0 m d) 0 ⟨rfl,rfl,hb⟩ rfl rfl)⟩
 ·simp(maxSteps:=9^9)(disch:=try exact dS)only[go_sem,jF,stA,jP,avA,avL,h1,e1,ld,td,List.map_nil];first | exact (qRp ⟨3,no,dg,up,lo,cm,dl,av⟩ (.reg 0 m d) 0 ⟨rfl,rfl,hb⟩ rfl rfl) | exact⟨rfl,(qRp ⟨3,no,dg,up,lo,cm,dl,av⟩ (.reg 0 m d) 0 ⟨rfl,rfl,hb⟩ rfl rfl)⟩ | exact⟨rfl,rfl,(qRp ⟨3,no,dg,up,lo,cm,dl,av⟩ (.reg 0 m d) 0 ⟨rfl,rfl,hb⟩ rfl rfl)⟩ | exact⟨rfl,rfl,rfl,(qRp ⟨3,no,dg,up,lo,cm,dl,av⟩ (.reg 0 m d) 0 ⟨rfl,rfl,hb⟩ rfl rfl)⟩
end Go.Eng
end
