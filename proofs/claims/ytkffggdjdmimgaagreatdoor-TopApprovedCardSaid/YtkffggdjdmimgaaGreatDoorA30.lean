/- A part of an abstract machine, its walks, their tie. -/
import Derived.Test.YtkffggdjdmimgaaGreatDoorA29
import Derived.Test.YtkffggdjdmimgaaGreatDoorA28
import Derived.Test.YtkffggdjdmimgaaGreatDoorA27
import Derived.Test.YtkffggdjdmimgaaGreatDoorA22
import Derived.Test.YtkffggdjdmimgaaGreatDoorA26
import Derived.Test.YtkffggdjdmimgaaGreatDoorA16
import Derived.Test.YtkffggdjdmimgaaGreatDoorA24
set_option linter.all false
section
set_option maxHeartbeats 64000000
set_option maxRecDepth 20000
namespace Go.Eng
open List
variable (tab:Tab) (gl:Gl)
variable {vv:V} {oo:List Ob}
def qQf:ECt where
 α:=Int
 β:=Bool
 aS:=fun l=>[.t (.int .i64 l)]
 pre:=fun l=>l=0
 r:=fun r'=> .t (.bool r')
 R:=fun l r'=>r'=true
theorem jR6 {g:EF qQf}{l:Int}(hp:l=0):qQf.fs g [.t (.int .i64 l)] []=some (.t (.bool (true)),[]):=fnQ qQf l hp
theorem jCq {l:Int}(hV:vv = .t (.bool (true)))(hO:oo=[]):qQf.K l vv oo:=⟨_,rfl,hV,hO⟩
theorem qZh  (l:Int)(hp:l=0) :
  qDy.1.wp tab gl (qE 0 [.t (.int .i64 l)]) (qE 0 []) (qV [(2,none)] 0 (qQf.K l)):=by
 subst hp;simp(disch:=omega)only[go_sem,qDy];first | exact (jCq rfl rfl) | exact⟨rfl,(jCq rfl rfl)⟩ | exact⟨rfl,rfl,(jCq rfl rfl)⟩ | exact⟨rfl,rfl,rfl,(jCq rfl rfl)⟩
theorem qUi {g1}(h1:LkE tab 308 qQf g1){g2}(h2:LkE tab 309 qC0 g2)(h5:tab.look 312=some (zM3 310 313 314).fs){g7}(h7:LkE tab 311 qC1 g7)(l:Int)(m sg:List UInt8)(hp:l=0∧m.length≤1000∧sg.length=560) :
  qBu.1.wp tab gl (qE 0 [.t (.int .i64 l),.t (.sl (m.map qA)),.t (.sl (sg.map qA))]) (qE 0 []) (qV [(6,none),(7,none)] 0 (qD4.K (l,m,sg))):=by
 obtain⟨rfl,hm,hs⟩:=hp;have e0:=jR6 (g:=g1) (l:=0) rfl;have e1:=zWt (g:=g2) (m:=m) hm;obtain⟨ld,hd⟩:=jGj m;have hF:rcF m sg=qMs 2 [[u8I 0],rcE (dgF m) sg 35]:=rfl;have hK : ∀ vv,vv = .tup [.t (.sl ((qMs 2 [[u8I 0],rcE (dgF m) sg 35]).map qA)),.t (.bool true)]→qD4.K (0,m,sg) vv []:=fun vv h=>jR1 _ true ⟨hF.symm,rfl⟩ h rfl
 clear hF;generalize dgF m=d at *;have e2 := @jRb 310 313 314 sg d ⟨hs,ld,hd⟩;have lr:=qNc (d:=d) hs (Nat.le_refl 35);have e3:=zWw (g:=g7) (l:=0) (e:=rcE d sg 35) oM;generalize qMs 2 [[u8I 0],rcE d sg 35]=z at *;generalize rcE d sg 35=r at *;simp(disch:=omega)only[go_sem,qBu,h1,e0,hs,h2,e1,h5,e2,h7,e3];repeat refine aiG ?_
 exact hK _ rfl
def qHp:ECt where
 α:=List UInt8×Int×List (List UInt8)
 β:=List UInt8
 aS:=fun (x,i,p)=>[.t (.sl (x.map qA)),.t (.int .i64 i),.t (.sl (p.map bsT))]
 pre:=fun (x,i,p)=>x.length=16∧i=0∧p=[]
 r:=fun r'=> .t (.sl (r'.map qA))
 R:=fun (x,i,p) r'=>r'=x
theorem jFk {g:EF qHp}{x:List UInt8}{i:Int}{p:List (List UInt8)}(hp:x.length=16∧i=0∧p=[]):qHp.fs g [.t (.sl (x.map qA)),.t (.int .i64 i),.t (.sl (p.map bsT))] []=some (.t (.sl ((x).map qA)),[]):=fnQ qHp (x,i,p) hp
theorem zI6 {x:List UInt8}{i:Int}{p:List (List UInt8)}(hV:vv = .t (.sl ((x).map qA)))(hO:oo=[]):qHp.K (x,i,p) vv oo:=⟨_,rfl,hV,hO⟩
theorem zE6 (h1:LkC tab 49 qHd)(x:List UInt8)(i:Int)(p:List (List UInt8))(hp:x.length=16∧i=0∧p=[]) :
  qIu.1.wp tab gl (qE 0 [.t (.sl (x.map qA)),.t (.int .i64 i),.t (.sl (p.map bsT))]) (qE 0 []) (qV [(6,none)] 0 (qHp.K (x,i,p))):=by
 obtain⟨hx,rfl,rfl⟩:=hp;have e:=jK (bs:=x) oM;have t:List.take 16 x=x:=take_of_length_le oM;simp(disch:=omega)only[go_sem,qIu,h1,e,map_nil];refine qG 1 ?_;simp(disch:=omega)only[go_sem,qD,qVj,hx,t];first | exact (zI6 rfl rfl) | exact⟨rfl,(zI6 rfl rfl)⟩ | exact⟨rfl,rfl,(zI6 rfl rfl)⟩ | exact⟨rfl,rfl,rfl,(zI6 rfl rfl)⟩
theorem zIa  (x:List UInt8)(i:Int)(p:List (List UInt8))(hp:x.length=16∧i=0∧p=[]) :
  qI0.1.wp tab gl (qE 0 [.t (.sl (x.map qA)),.t (.int .i64 i),.t (.sl (p.map bsT))]) (qE 0 []) (qV [(6,none)] 0 (qHp.K (x,i,p))):=by
 obtain⟨hx,rfl,rfl⟩:=hp;have t:List.take 16 x=x:=take_of_length_le oM;simp(disch:=omega)only[go_sem,qI0,map_nil];refine qG 1 ?_;simp(disch:=omega)only[go_sem,qD,hx,t];first | exact (zI6 rfl rfl) | exact⟨rfl,(zI6 rfl rfl)⟩ | exact⟨rfl,rfl,(zI6 rfl rfl)⟩ | exact⟨rfl,rfl,rfl,(zI6 rfl rfl)⟩
def qQd:ECt where
 α:=Int
 β:=Bool
 aS:=fun h=>[.t (.int .i64 h)]
 pre:=fun h=>True
 r:=fun r'=> .t (.bool r')
 R:=fun h r'=>r'=decide (0≤h∧h≤3)
theorem jR5 {g:EF qQd}{h:Int}:qQd.fs g [.t (.int .i64 h)] []=some (.t (.bool (decide (0≤h∧h≤3))),[]):=fnQ qQd h trivial
theorem jKa {h:Int}(hV:vv = .t (.bool (decide (0≤h∧h≤3))))(hO:oo=[]):qQd.K h vv oo:=⟨_,rfl,hV,hO⟩
theorem zAu  (h:Int) :
  xT.1.wp tab gl (qE 0 [.t (.int .i64 h)]) (qE 0 []) (qV [(2,none)] 0 (qQd.K h)):=by
 by_cases c:0≤h
 ·by_cases d:h≤3
  ·simp(disch:=omega)only[go_sem,xT,c,d];exact jKa (by simp[c,d]) rfl
  ·simp(disch:=omega)only[go_sem,xT,c,d];exact jKa (by simp[c,d]) rfl
 ·simp(disch:=omega)only[go_sem,xT,c];exact jKa (by simp[c]) rfl
def vrF (u m sg:List UInt8):Bool:=decide (sg.length=561∧sg.getD 0 0=0∧rcF m (sg.drop 1)=u)
def qD5:ECt where
 α:=List UInt8×List UInt8×List UInt8
 β:=Int×Bool
 aS:=fun (p,m,sg)=>[.t (.sl (p.map qA)),.t (.sl (m.map qA)),.t (.sl (sg.map qA))]
 pre:=fun (p,m,sg)=>(∃ u:List UInt8,p=0::u∧u.length=16)∧m.length≤1000∧sg.length≤100000
 r:=fun (l,ok)=> .tup [.t (.int .i64 l),.t (.bool ok)]
 R:=fun (p,m,sg) (l,ok)=>l=0∧ok=vrF (p.drop 1) m sg
theorem jFq {g:EF qD5}{p m sg:List UInt8}(hp:(∃ u:List UInt8,p=0::u∧u.length=16)∧m.length≤1000∧sg.length≤100000) : ∃ (l:Int) (ok:Bool),(l=0∧ok=vrF (p.drop 1) m sg)∧qD5.fs g [.t (.sl (p.map qA)),.t (.sl (m.map qA)),.t (.sl (sg.map qA))] []=some (.tup [.t (.int .i64 l),.t (.bool ok)],[]):=by
 obtain⟨y,h1,h2⟩:=qD5.eq g (p,m,sg) hp;exact⟨y.1,y.2,h1,h2⟩
theorem jR7 {p m sg:List UInt8}(l:Int)(ok:Bool)(hR:l=0∧ok=vrF (p.drop 1) m sg)(hV:vv = .tup [.t (.int .i64 l),.t (.bool ok)])(hO:oo=[]):qD5.K (p,m,sg) vv oo:=⟨(l,ok),hR,hV,hO⟩
theorem zA4 {g1}(h1:LkE tab 40 qD4 g1){g2}(h2:LkE tab 41 qHp g2)(h3:LkC tab 23 qOj)(p m sg:List UInt8)(hp:(∃ u:List UInt8,p=0::u∧u.length=16)∧m.length≤1000∧sg.length≤100000) :
  qAo.1.wp tab gl (qE 0 [.t (.sl (p.map qA)),.t (.sl (m.map qA)),.t (.sl (sg.map qA))]) (qE 0 []) (qV [(6,none),(7,none)] 0 (qD5.K (p,m,sg))):=by
 obtain⟨⟨u,rfl,hu⟩,hm,hs⟩:=hp;have hK : ∀ b vv,b=vrF u m sg→vv = .tup [.t (.int .i64 0),.t (.bool b)]→qD5.K (0::u,m,sg) vv []:=fun b vv h g=>jR7 0 b ⟨rfl,h⟩ g rfl
 have k0:(0:UInt8).toNat=0:=rfl;by_cases c3:sg.length=561
 rotate_left
 ·have hv:false=vrF u m sg:=by simp[vrF,c3]
  simp(disch:=omega)only[go_sem,qAo,hu,k0,c3];exact hK false _ hv rfl
 obtain⟨b,w,rfl⟩ : ∃ b w,sg=b::w:=by cases sg with | nil=>simp at c3 | cons a p=>exact⟨a,p,rfl⟩
 have lw:w.length=560:=by simp at c3;exact c3
 by_cases c4:b=0
 rotate_left
 ·have hv:false=vrF u m (b::w):=by simp[vrF,c4]
  have c5:1≤b.toNat:=by
   have:b.toNat≠0:=fun h=>c4 (by rw[←UInt8.ofNat_toNat (x:=b),h];rfl)
   omega
  simp(disch:=omega)only[go_sem,qAo,hu,k0,lw,c5];exact hK false _ hv rfl
 subst c4;obtain⟨x,ok,⟨q1,q2⟩,e1⟩:=jFo (g:=g1) (l:=0) (m:=m) (sg:=w) ⟨rfl,hm,lw⟩;have hv:vrF u m (0::w)=decide (x=u):=by
  rw[q1];simp[vrF,lw]
 have lx:x.length=16:=by rw[q1];exact qBf
 rw[hv] at hK;clear q1 hv;have e2:=jFk (g:=g2) (x:=x) (i:=0) (p:=[]) ⟨lx,rfl,rfl⟩;have e3:=qYq (a:=x) (b:=u) ⟨oM,oM⟩;have t:List.take 560 w=w:=take_of_length_le oM;simp only[map_nil] at e2;simp(disch:=omega)only[go_sem,qAo,hu,k0,lw,h1,e1,t];refine qG 1 ?_;by_cases c6:x=u
 ·rw[decide_eq_true c6] at e3 hK;simp(disch:=omega)only[go_sem,qD,h2,e2,h3,e3];repeat refine aiG ?_
  exact hK true _ rfl rfl
 ·rw[decide_eq_false c6] at e3 hK;simp(disch:=omega)only[go_sem,qD,h2,e2,h3,e3];repeat refine aiG ?_
  exact hK false _ rfl rfl
theorem qZn {g1}(h1:LkE tab 271 qQd g1){g2}(h2:LkE tab 272 qD4 g2){g3}(h3:LkE tab 273 qHp g3)(p m sg:List UInt8)(hp:(∃ u:List UInt8,p=0::u∧u.length=16)∧m.length≤1000∧sg.length≤100000) :
  kS.1.wp tab gl (qE 0 [.t (.sl (p.map qA)),.t (.sl (m.map qA)),.t (.sl (sg.map qA))]) (qE 0 []) (qV [(6,none),(7,none)] 0 (qD5.K (p,m,sg))):=by
 obtain⟨⟨u,rfl,hu⟩,hm,hs⟩:=hp;have hK : ∀ b vv,b=vrF u m sg→vv = .tup [.t (.int .i64 0),.t (.bool b)]→qD5.K (0::u,m,sg) vv []:=fun b vv h g=>jR7 0 b ⟨rfl,h⟩ g rfl
 have k0:(0:UInt8).toNat=0:=rfl;have e0 := @jR5 g1 0;rw[decide_eq_true oM] at e0;by_cases c3:sg.length=561
 rotate_left
 ·have hv:false=vrF u m sg:=by simp[vrF,c3]
  simp(disch:=omega)only[go_sem,kS,hu,k0,h1,e0,c3];exact hK false _ hv rfl
 obtain⟨b,w,rfl⟩ : ∃ b w,sg=b::w:=by cases sg with | nil=>simp at c3 | cons a p=>exact⟨a,p,rfl⟩
 have lw:w.length=560:=by simp at c3;exact c3
 by_cases c4:b=0
 rotate_left
 ·have hv:false=vrF u m (b::w):=by simp[vrF,c4]
  have c5:1≤b.toNat:=by
   have:b.toNat≠0:=fun h=>c4 (by rw[←UInt8.ofNat_toNat (x:=b),h];rfl)
   omega
  simp(disch:=omega)only[go_sem,kS,hu,k0,h1,e0,lw,c5];exact hK false _ hv rfl
 subst c4;obtain⟨x,ok,⟨q1,q2⟩,e1⟩:=jFo (g:=g2) (l:=0) (m:=m) (sg:=w) ⟨rfl,hm,lw⟩;subst q2;have hv:vrF u m (0::w)=decide (x=u):=by
  rw[q1];simp[vrF,lw]
 have lx:x.length=16:=by rw[q1];exact qBf
 rw[hv] at hK;clear q1 hv;have e2:=jFk (g:=g3) (x:=x) (i:=0) (p:=[]) ⟨lx,rfl,rfl⟩;have t:List.take 560 w=w:=take_of_length_le oM;simp only[map_nil] at e2;simp(disch:=omega)only[go_sem,kS,hu,k0,h1,e0,lw,h2,e1,t];refine qG 1 ?_;by_cases c6:x=u
 ·rw[decide_eq_true c6] at hK;subst c6;simp(disch:=omega)only[go_sem,qD,h3,e2];repeat refine aiG ?_
  exact hK true _ rfl rfl
 ·rw[decide_eq_false c6] at hK;simp(disch:=omega)only[go_sem,qD,h3,e2,c6];repeat refine aiG ?_
  exact hK false _ rfl rfl
def qQa:ECt where
 α:=List UInt8×Int
 β:=List UInt8
 aS:=fun (s,l)=>[.t (.sl (s.map qA)),.t (.int .i64 l)]
 pre:=fun (s,l)=>s.length≤64∧l=0
 r:=fun r=> .t (.sl (r.map qA))
 R:=fun (s,l) r=>r.length=16
theorem jR0 {g:EF qQa}{s:List UInt8}{l:Int}(hp:s.length≤64∧l=0) : ∃ (r:List UInt8),(r.length=16)∧qQa.fs g [.t (.sl (s.map qA)),.t (.int .i64 l)] []=some (.t (.sl (r.map qA)),[]):=qQa.eq g (s,l) hp
theorem jWr {s:List UInt8}{l:Int}(r:List UInt8)(hR:r.length=16)(hV:vv = .t (.sl (r.map qA)))(hO:oo=[]):qQa.K (s,l) vv oo:=⟨r,hR,hV,hO⟩
theorem zA2 (h1:LkC tab 59 zGg){g2}(h2:LkE tab 58 qJn g2){g3}(h3:LkE tab 69 qC1 g3)(s:List UInt8)(l:Int)(hp:s.length≤64∧l=0) :
  qG3.1.wp tab gl (qE 0 [.t (.sl (s.map qA)),.t (.int .i64 l)]) (qE 0 []) (qV [(4,none)] 0 (qQa.K (s,l))):=by
 obtain⟨hs,rfl⟩:=hp;simp(disch:=omega)only[go_sem,qG3];refine yU (σ:=Nat×List UInt8) (fun t=>t.1≤35∧t.2.length=16*t.1) (fun t=>35-t.1) (fun t=>[(0,.t (.sl (s.map qA))),(1,.t (.int .i64 0)),(5,.sl 9000 0 t.2.length),(6,.t (.int .i64 t.1))]) (fun t=>[(9000,.live 1 ((t.2.map qA).map V.t) true false)]) (0,[]) ⟨sM,rfl⟩ ?_ ?_
 ·refine qJ.cv0 (hv:=[(9000,.live 1 [] true false)]) (ho:=[]) id ?_ ?_ rfl rfl;all_goals simp(disch:=omega)only[go_sem,id]
  all_goals rfl
 ·rintro⟨c,r⟩ ⟨hc,hr⟩;simp only at hc hr;by_cases hlt:c<35
  ·have e1:=jE2 (s:=s) (l:=0) (c:=c) hs;have lx:=qYz (s:=s) (l:=0) (c:=c);have cz:((0:Nat):Int)=0:=rfl;rw[cz] at e1;generalize jJh s 0 c=x at *;have e2:=zWv (g:=g2) (l:=0) (c:=c) (a:=0) (b:=15) (x:=x) ⟨lx,oM,oM⟩;have hy:=qId (l:=0) (c:=c) (a:=0) lx (n:=(15-0:Int).toNat);generalize stF 0 (c:Int) 0 x (15-0:Int).toNat=y at *;simp(disch:=omega)only[go_sem,hlt,h1,h2,e1,e2,hr,hy];repeat refine aiG ?_
   refine qZz.of (c+1,r++y) ⟨by show c+1≤35;omega,by simp[hr,hy];omega⟩ (by show 35-(c+1)<35-c;omega) (qJ.rd (fun j=>if j=9000 then 32896 else j) ?_ ?_ rfl);all_goals simp(disch:=omega)only[go_sem,id,hr,hy]
   all_goals first | omega | rfl
  ·have e:=zWw (g:=g3) (l:=0) (e:=r) oM;have t:List.take (16*c) r=r:=take_of_length_le oM;have lz:(qMs 2 [[u8I 0],r]).length=16:=qBf;generalize qMs 2 [[u8I 0],r]=z at *;simp(disch:=omega)only[go_sem,hlt,h3,e,hr,t];exact jWr z lz rfl rfl
def qQc:ECt where
 α:=List UInt8×Int×List UInt8
 β:=List UInt8
 aS:=fun (s,l,m)=>[.t (.sl (s.map qA)),.t (.int .i64 l),.t (.sl (m.map qA))]
 pre:=fun (s,l,m)=>s.length≤64∧l=0∧m.length≤1000
 r:=fun r=> .t (.sl (r.map qA))
 R:=fun (s,l,m) r=>r.length=560
theorem jR4 {g:EF qQc}{s:List UInt8}{l:Int}{m:List UInt8}(hp:s.length≤64∧l=0∧m.length≤1000) : ∃ (r:List UInt8),(r.length=560)∧qQc.fs g [.t (.sl (s.map qA)),.t (.int .i64 l),.t (.sl (m.map qA))] []=some (.t (.sl (r.map qA)),[]):=qQc.eq g (s,l,m) hp
theorem jWt {s:List UInt8}{l:Int}{m:List UInt8}(r:List UInt8)(hR:r.length=560)(hV:vv = .t (.sl (r.map qA)))(hO:oo=[]):qQc.K (s,l,m) vv oo:=⟨r,hR,hV,hO⟩
theorem zIb {g1}(h1:LkE tab 57 qC0 g1)(h2:LkC tab 59 zGg){g3}(h3:LkE tab 58 qJn g3)(s:List UInt8)(l:Int)(m:List UInt8)(hp:s.length≤64∧l=0∧m.length≤1000) :
  qKw.1.wp tab gl (qE 0 [.t (.sl (s.map qA)),.t (.int .i64 l),.t (.sl (m.map qA))]) (qE 0 []) (qV [(6,none)] 0 (qQc.K (s,l,m))):=by
 obtain⟨q1,rfl,q2⟩:=hp;have e0:=zWt (g:=g1) q2;obtain⟨ld,hd⟩:=jGj m;generalize dgF m=d at *;simp(disch:=omega)only[go_sem,qKw,h1,e0];refine yU (σ:=Nat×List UInt8) (fun t=>t.1≤35∧t.2.length=16*t.1) (fun t=>35-t.1) (fun t=>[(0,.t (.sl (s.map qA))),(1,.t (.int .i64 0)),(7,.t (.sl (d.map iT))),(8,.sl 9000 0 t.2.length),(9,.t (.int .i64 t.1))]) (fun t=>[(9000,.live 1 ((t.2.map qA).map V.t) true false)]) (0,[]) ⟨sM,rfl⟩ ?_ ?_
 ·refine qJ.cv0 (hv:=[(9000,.live 1 [] true false)]) (ho:=[]) id ?_ ?_ rfl rfl;all_goals simp(disch:=omega)only[go_sem,id]
  all_goals rfl
 ·rintro⟨c,r⟩ ⟨hc,hr⟩;simp only at hc hr;by_cases hlt:c<35
  ·obtain⟨v,hg,hm,_⟩:=qX (l:=d) (k:=c) oM;have hv:=hd v hm;have e1:=jE2 (s:=s) (l:=0) (c:=c) q1;have lx:=qYz (s:=s) (l:=0) (c:=c);have cz:((0:Nat):Int)=0:=rfl;rw[cz] at e1;generalize jJh s 0 c=x at *;have e2:=zWv (g:=g3) (l:=0) (c:=c) (a:=0) (b:=v) (x:=x) ⟨lx,oM,oM⟩;have hy:=qId (l:=0) (c:=c) (a:=0) lx (n:=(v-0).toNat);generalize stF 0 (c:Int) 0 x (v-0).toNat=y at *;simp(disch:=omega)only[go_sem,hlt,h2,h3,e1,e2,hr,hy,hg,ld,oms,iT];repeat refine aiG ?_
   refine qZz.of (c+1,r++y) ⟨by show c+1≤35;omega,by simp[hr,hy];omega⟩ (by show 35-(c+1)<35-c;omega) (qJ.rd (fun j=>if j=9000 then 37056 else j) ?_ ?_ rfl);all_goals simp(disch:=omega)only[go_sem,id,hr,hy]
   all_goals first | omega | rfl
  ·simp(disch:=omega)only[go_sem,hlt,hr];exact jWt r oM (by rw[take_of_length_le oM]) rfl
def qMj:ECt where
 α:=Int
 β:=Bool
 aS:=fun n=>[.t (.int .i64 n)]
 pre:=fun n=>n=1
 r:=fun r'=> .t (.bool r')
 R:=fun n r'=>r'=true
theorem jFl {g:EF qMj}{n:Int}(hp:n=1):qMj.fs g [.t (.int .i64 n)] []=some (.t (.bool (true)),[]):=fnQ qMj n hp
theorem jCl {n:Int}(hV:vv = .t (.bool (true)))(hO:oo=[]):qMj.K n vv oo:=⟨_,rfl,hV,hO⟩
theorem zIe  (n:Int)(hp:n=1) :
  qKz.1.wp tab gl (qE 0 [.t (.int .i64 n)]) (qE 0 []) (qV [(2,none)] 0 (qMj.K n)):=by
 subst hp;simp(disch:=omega)only[go_sem,qKz];first | exact (jCl rfl rfl) | exact⟨rfl,(jCl rfl rfl)⟩ | exact⟨rfl,rfl,(jCl rfl rfl)⟩ | exact⟨rfl,rfl,rfl,(jCl rfl rfl)⟩
def qQb:ECt where
 α:=List (List UInt8)
 β:=List UInt8
 aS:=fun l=>[.t (.sl (l.map bsT))]
 pre:=fun l => ∃ x:List UInt8,l=[x]∧x.length=16
 r:=fun r=> .t (.sl (r.map qA))
 R:=fun l r=>r.length=16
theorem jR2 {g:EF qQb}{l:List (List UInt8)}(hp : ∃ x:List UInt8,l=[x]∧x.length=16) : ∃ (r:List UInt8),(r.length=16)∧qQb.fs g [.t (.sl (l.map bsT))] []=some (.t (.sl (r.map qA)),[]):=qQb.eq g l hp
theorem jWs {l:List (List UInt8)}(r:List UInt8)(hR:r.length=16)(hV:vv = .t (.sl (r.map qA)))(hO:oo=[]):qQb.K l vv oo:=⟨r,hR,hV,hO⟩
theorem zId {g1}(h1:LkE tab 47 qMj g1)(h3:LkC tab 49 qHd)(l:List (List UInt8))(hp : ∃ x:List UInt8,l=[x]∧x.length=16) :
  qKy.1.wp tab gl (qE 0 [.t (.sl (l.map bsT))]) (qE 0 []) (qV [(2,none)] 0 (qQb.K l)):=by
 obtain⟨x,rfl,hx⟩:=hp;have e0:=jFl (g:=g1) (n:=1) rfl;have e:=jK (bs:=x) oM;have t:List.take 16 x=x:=take_of_length_le oM;simp(disch:=omega)only[go_sem,qKy,h1,e0,mcn,qI];refine qG 1 ?_;simp(disch:=omega)only[go_sem,qD,h3,e,hx,t];exact jWs x hx rfl rfl
def qP9:ECt where
 α:=Int×List (List UInt8)
 β:=List (List UInt8)
 aS:=fun (i,l)=>[.t (.int .i64 i),.t (.sl (l.map bsT))]
 pre:=fun (i,l)=>i=0 ∧ ∃ x:List UInt8,l=[x]∧x.length=16
 r:=fun r'=> .t (.sl (r'.map bsT))
 R:=fun (i,l) r'=>r'=[]
theorem jRz {g:EF qP9}{i:Int}{l:List (List UInt8)}(hp:i=0 ∧ ∃ x:List UInt8,l=[x]∧x.length=16):qP9.fs g [.t (.int .i64 i),.t (.sl (l.map bsT))] []=some (.t (.sl (([]).map bsT)),[]):=fnQ qP9 (i,l) hp
theorem jCp {i:Int}{l:List (List UInt8)}(hV:vv = .t (.sl (([]).map bsT)))(hO:oo=[]):qP9.K (i,l) vv oo:=⟨_,rfl,hV,hO⟩
theorem zIc {g1}(h1:LkE tab 47 qMj g1)(i:Int)(l:List (List UInt8))(hp:i=0 ∧ ∃ x:List UInt8,l=[x]∧x.length=16) :
  qKx.1.wp tab gl (qE 0 [.t (.int .i64 i),.t (.sl (l.map bsT))]) (qE 0 []) (qV [(4,none)] 0 (qP9.K (i,l))):=by
 obtain⟨rfl,x,rfl,hx⟩:=hp;have e0:=jFl (g:=g1) (n:=1) rfl;simp(disch:=omega)only[go_sem,qKx,h1,e0,mcn,qI];refine qG 1 ?_;simp(disch:=omega)only[go_sem,qD];first | exact (jCp rfl rfl) | exact⟨rfl,(jCp rfl rfl)⟩ | exact⟨rfl,rfl,(jCp rfl rfl)⟩ | exact⟨rfl,rfl,rfl,(jCp rfl rfl)⟩
def qMk:ECt where
 α:=List UInt8×Int
 β:=List UInt8
 aS:=fun (s,h)=>[.t (.sl (s.map qA)),.t (.int .i64 h)]
 pre:=fun (s,h)=>s.length≤64∧h=0
 r:=fun r=> .t (.sl (r.map qA))
 R:=fun (s,h) r=>r.length=32
theorem jFm {g:EF qMk}{s:List UInt8}{h:Int}(hp:s.length≤64∧h=0) : ∃ (r:List UInt8),(r.length=32)∧qMk.fs g [.t (.sl (s.map qA)),.t (.int .i64 h)] []=some (.t (.sl (r.map qA)),[]):=qMk.eq g (s,h) hp
theorem jWn {s:List UInt8}{h:Int}(r:List UInt8)(hR:r.length=32)(hV:vv = .t (.sl (r.map qA)))(hO:oo=[]):qMk.K (s,h) vv oo:=⟨r,hR,hV,hO⟩
theorem qWa (h1:LkC tab 60 qH2)(s:List UInt8)(h:Int)(hp:s.length≤64∧h=0) :
  qD1.1.wp tab gl (qE 0 [.t (.sl (s.map qA)),.t (.int .i64 h)]) (qE 0 []) (qV [(4,none)] 0 (qMk.K (s,h))):=by
 obtain⟨hs,rfl⟩:=hp;obtain⟨y,hy,e⟩:=jTl (k:=s) (l:=[115,105,103,110,101,114]) (c:=[u8I 0]) (n:=32) ⟨hs,sM,sM,oM,oM⟩;simp only[mcn] at e;rw[show ((32:Nat):Int)=32 from rfl] at e;simp(disch:=omega)only[go_sem,qD1,h1,e,u8w];exact jWn y hy rfl rfl
def qMl:ECt where
 α:=List UInt8×Int
 β:=List (List UInt8)
 aS:=fun (s,h)=>[.t (.sl (s.map qA)),.t (.int .i64 h)]
 pre:=fun (s,h)=>s.length≤64∧h=0
 r:=fun r=> .t (.sl (r.map bsT))
 R:=fun (s,h) r => ∃ x:List UInt8,r=[x]∧x.length=16
theorem jFn {g:EF qMl}{s:List UInt8}{h:Int}(hp:s.length≤64∧h=0) : ∃ (r:List (List UInt8)),(∃ x:List UInt8,r=[x]∧x.length=16)∧qMl.fs g [.t (.sl (s.map qA)),.t (.int .i64 h)] []=some (.t (.sl (r.map bsT)),[]):=qMl.eq g (s,h) hp
theorem jWo {s:List UInt8}{h:Int}(r:List (List UInt8))(hR : ∃ x:List UInt8,r=[x]∧x.length=16)(hV:vv = .t (.sl (r.map bsT)))(hO:oo=[]):qMl.K (s,h) vv oo:=⟨r,hR,hV,hO⟩
theorem zA5 {g1}(h1:LkE tab 34 qMk g1){g2}(h2:LkE tab 50 qQa g2)(s:List UInt8)(h:Int)(hp:s.length≤64∧h=0) :
  qG5.1.wp tab gl (qE 0 [.t (.sl (s.map qA)),.t (.int .i64 h)]) (qE 0 []) (qV [(4,none)] 0 (qMl.K (s,h))):=by
 obtain⟨hs,rfl⟩:=hp;obtain⟨y,hy,e⟩:=jFm (g:=g1) (s:=s) (h:=0) ⟨hs,rfl⟩;obtain⟨z,hz,e2⟩:=jR0 (g:=g2) (s:=y) (l:=0) ⟨oM,rfl⟩;simp(disch:=omega)only[go_sem,qG5,h1,e];refine qG 2 ?_;simp(disch:=omega)only[go_sem,qD,qTd,h2,e2];repeat refine aiG ?_
 exact jWo [z] ⟨z,rfl,hz⟩ rfl rfl
def qP6:ECt where
 α:=List UInt8×Int
 β:=List UInt8
 aS:=fun (s,h)=>[.t (.sl (s.map qA)),.t (.int .i64 h)]
 pre:=fun (s,h)=>s.length≤64∧h=0
 r:=fun r=> .t (.sl (r.map qA))
 R:=fun (s,h) r => ∃ u:List UInt8,r=0::u∧u.length=16
theorem jRo {g:EF qP6}{s:List UInt8}{h:Int}(hp:s.length≤64∧h=0) : ∃ (r:List UInt8),(∃ u:List UInt8,r=0::u∧u.length=16)∧qP6.fs g [.t (.sl (s.map qA)),.t (.int .i64 h)] []=some (.t (.sl (r.map qA)),[]):=qP6.eq g (s,h) hp
theorem jWk {s:List UInt8}{h:Int}(r:List UInt8)(hR : ∃ u:List UInt8,r=0::u∧u.length=16)(hV:vv = .t (.sl (r.map qA)))(hO:oo=[]):qP6.K (s,h) vv oo:=⟨r,hR,hV,hO⟩
theorem zA3 {g1}(h1:LkE tab 26 qMl g1){g2}(h2:LkE tab 25 qQb g2)(s:List UInt8)(h:Int)(hp:s.length≤64∧h=0) :
  qG4.1.wp tab gl (qE 0 [.t (.sl (s.map qA)),.t (.int .i64 h)]) (qE 0 []) (qV [(4,none)] 0 (qP6.K (s,h))):=by
 obtain⟨hs,rfl⟩:=hp;obtain⟨l,⟨x,rfl,hx⟩,e1⟩:=jFn (g:=g1) (s:=s) (h:=0) ⟨hs,rfl⟩;obtain⟨r,lr,e2⟩:=jR2 (g:=g2) (l:=[x]) ⟨x,rfl,hx⟩;have k0:u8I 0=0:=rfl;simp only[mcn,qI] at e1 e2;simp(disch:=omega)only[go_sem,qG4,h1,h2,e1,e2,u8w];have t:List.take 16 r=r:=take_of_length_le oM;refine jWk (0::r) ⟨r,rfl,lr⟩ ?_ rfl;simp only[lr,t,k0,map_cons];rw[take_of_length_le soM]
def qP7:ECt where
 α:=List UInt8×Int×Int×List UInt8
 β:=List UInt8
 aS:=fun (s,h,l,m)=>[.t (.sl (s.map qA)),.t (.int .i64 h),.t (.int .i64 l),.t (.sl (m.map qA))]
 pre:=fun (s,h,l,m)=>s.length≤64∧h=0∧l=0∧m.length≤1000
 r:=fun r=> .t (.sl (r.map qA))
 R:=fun (s,h,l,m) r=>r.length=561
theorem jRp {g:EF qP7}{s:List UInt8}{h l:Int}{m:List UInt8}(hp:s.length≤64∧h=0∧l=0∧m.length≤1000) : ∃ (r:List UInt8),(r.length=561)∧qP7.fs g [.t (.sl (s.map qA)),.t (.int .i64 h),.t (.int .i64 l),.t (.sl (m.map qA))] []=some (.t (.sl (r.map qA)),[]):=qP7.eq g (s,h,l,m) hp
theorem jWl {s:List UInt8}{h l:Int}{m:List UInt8}(r:List UInt8)(hR:r.length=561)(hV:vv = .t (.sl (r.map qA)))(hO:oo=[]):qP7.K (s,h,l,m) vv oo:=⟨r,hR,hV,hO⟩
theorem zIf {g1}(h1:LkE tab 34 qMk g1){g2}(h2:LkE tab 33 qQc g2){g3}(h3:LkE tab 26 qMl g3){g4}(h4:LkE tab 35 qP9 g4)(s:List UInt8)(h l:Int)(m:List UInt8)(hp:s.length≤64∧h=0∧l=0∧m.length≤1000) :
  qK1.1.wp tab gl (qE 0 [.t (.sl (s.map qA)),.t (.int .i64 h),.t (.int .i64 l),.t (.sl (m.map qA))]) (qE 0 []) (qV [(8,none)] 0 (qP7.K (s,h,l,m))):=by
 obtain⟨q1,rfl,rfl,q2⟩:=hp;obtain⟨y,hy,e1⟩:=jFm (g:=g1) (s:=s) (h:=0) ⟨q1,rfl⟩;obtain⟨z,hz,e2⟩:=jR4 (g:=g2) (s:=y) (l:=0) (m:=m) ⟨oM,rfl,q2⟩;obtain⟨lv,⟨x,rfl,hx⟩,e3⟩:=jFn (g:=g3) (s:=s) (h:=0) ⟨q1,rfl⟩;have e4:=jRz (g:=g4) (i:=0) (l:=[x]) ⟨rfl,x,rfl,hx⟩;simp only[mcn,qI] at e3 e4;have t:List.take 560 z=z:=take_of_length_le oM;simp(disch:=omega)only[go_sem,qK1,h1,h2,h3,h4,e1,e2,e3,e4,u8w,hz];refine qG 1 ?_;simp(disch:=omega)only[go_sem,qD,qW9];exact jWl (u8I 0::z) (by simp[hz]) (by rw[take_of_length_le (by simp[hz])];rfl) rfl
def qU5 (d r:List UInt8):List UInt8:=vW 9 [d,r]
theorem qFl {d r:List UInt8}:(qU5 d r).length=32:=qH
def qD3:ECt where
 α:=List UInt8×List UInt8
 β:=List UInt8
 aS:=fun (d,r)=>[.t (.sl (d.map qA)),.t (.sl (r.map qA))]
 pre:=fun (d,r)=>d.length≤100∧r.length≤200
 r:=fun r'=> .t (.sl (r'.map qA))
 R:=fun (d,r) r'=>r'=qU5 d r
theorem zWr {g:EF qD3}{d r:List UInt8}(hp:d.length≤100∧r.length≤200):qD3.fs g [.t (.sl (d.map qA)),.t (.sl (r.map qA))] []=some (.t (.sl ((qU5 d r).map qA)),[]):=fnQ qD3 (d,r) hp
theorem jRq {d r:List UInt8}(hV:vv = .t (.sl ((qU5 d r).map qA)))(hO:oo=[]):qD3.K (d,r) vv oo:=⟨_,rfl,hV,hO⟩
theorem qSs (h1:LkC tab 123 jL)(d r:List UInt8)(hp:d.length≤100∧r.length≤200) :
  qA4.1.wp tab gl (qE 0 [.t (.sl (d.map qA)),.t (.sl (r.map qA))]) (qE 0 []) (qV [(4,none)] 0 (qD3.K (d,r))):=by
 have e:=qX1 (t:=9) (fs:=[d,r]) ⟨oM,by simp[qZ,qAy];omega⟩;have k9:((9:Nat):Int)=9:=rfl;rw[show vW 9 [d,r]=qU5 d r from rfl] at e;have l:(qU5 d r).length=32:=qFl;have t:List.take 32 (qU5 d r)=qU5 d r:=take_of_length_le oM;have hK : ∀ vv,vv = .t (.sl ((qU5 d r).map qA))→qD3.K (d,r) vv []:=fun vv h=>jRq h rfl
 generalize qU5 d r=m at *;simp only[mcn,qI,k9] at e;simp(disch:=omega)only[go_sem,qA4,h1,e,t];first | exact (hK _ rfl) | exact⟨rfl,(hK _ rfl)⟩ | exact⟨rfl,rfl,(hK _ rfl)⟩ | exact⟨rfl,rfl,rfl,(hK _ rfl)⟩
theorem qUm (h1:LkC tab 29 jL)(d r:List UInt8)(hp:d.length≤100∧r.length≤200) :
  qCs.1.wp tab gl (qE 0 [.t (.sl (d.map qA)),.t (.sl (r.map qA))]) (qE 0 []) (qV [(4,none)] 0 (qD3.K (d,r))):=by
 have e:=qX1 (t:=9) (fs:=[d,r]) ⟨oM,by simp[qZ,qAy];omega⟩;have k9:((9:Nat):Int)=9:=rfl;rw[show vW 9 [d,r]=qU5 d r from rfl] at e;have l:(qU5 d r).length=32:=qFl;have t:List.take 32 (qU5 d r)=qU5 d r:=take_of_length_le oM;have hK : ∀ vv,vv = .t (.sl ((qU5 d r).map qA))→qD3.K (d,r) vv []:=fun vv h=>jRq h rfl
 generalize qU5 d r=m at *;simp only[mcn,qI,k9] at e;simp(disch:=omega)only[go_sem,qCs,h1,e,t];first | exact (hK _ rfl) | exact⟨rfl,(hK _ rfl)⟩ | exact⟨rfl,rfl,(hK _ rfl)⟩ | exact⟨rfl,rfl,rfl,(hK _ rfl)⟩
def apF (s:St)(h:Int)(u r g:List UInt8):St×Int:=
 if vrF u (qU5 (qF5 s h).2.1.dg r) g=true then (exS s (qF5 s h).1 (qF5 s h).2.1 (.apr (qN1 (qAe (0::u))) r),0) else (default,17)
def apP (s:St)(h:Int)(r g:List UInt8):Prop:=(s.ses.length=3∧tmI h)∧(qF5 s h).2.2=true∧(qF5 s h).2.1.kd=2∧(qF5 s h).2.1.dg.length=32∧r.length≤60∧g.length≤1000
def qPo:ECt where
 α:=St×Int×Pu×List UInt8×List UInt8
 β:=St×Int
 aS:=fun (s,h,x,r,w)=>[.t (stA s),.t (.int .i64 h),.t (puA x),.t (.sl (r.map qA)),.t (.sl (w.map qA))]
 pre:=fun (s,h,x,r,w)=>apP s h r w ∧ ∃ u:List UInt8,x=qAe (0::u)∧u.length=16
 r:=fun (t,e)=> .tup [.t (stA t),.t (.int .i64 e)]
 R:=fun (s,h,x,r,w) (t,e) => ∀ u,x=qAe (0::u)→(t,e)=apF s h u r w
theorem jO0 {g:EF qPo}{s:St}{h:Int}{x:Pu}{r w:List UInt8}(hp:apP s h r w ∧ ∃ u:List UInt8,x=qAe (0::u)∧u.length=16) : ∃ (t:St) (e:Int),(∀ u,x=qAe (0::u)→(t,e)=apF s h u r w)∧qPo.fs g [.t (stA s),.t (.int .i64 h),.t (puA x),.t (.sl (r.map qA)),.t (.sl (w.map qA))] []=some (.tup [.t (stA t),.t (.int .i64 e)],[]):=by
 obtain⟨y,h1,h2⟩:=qPo.eq g (s,h,x,r,w) hp;exact⟨y.1,y.2,h1,h2⟩
theorem jOz {s:St}{h:Int}{x:Pu}{r w:List UInt8}(t:St)(e:Int)(hR : ∀ u,x=qAe (0::u)→(t,e)=apF s h u r w)(hV:vv = .tup [.t (stA t),.t (.int .i64 e)])(hO:oo=[]):qPo.K (s,h,x,r,w) vv oo:=⟨(t,e),hR,hV,hO⟩
theorem qUj {g1}(h1:LkE tab 212 qL3 g1){g2}(h2:LkE tab 211 qJl g2){g3}(h3:LkE tab 214 qD3 g3){g4}(h4:LkE tab 213 qD5 g4){g5}(h5:LkE tab 216 qB5 g5){g6}(h6:LkE tab 215 qJh g6)(s:St)(h:Int)(x:Pu)(r w:List UInt8)(hp:apP s h r w ∧ ∃ u:List UInt8,x=qAe (0::u)∧u.length=16) :
  xJ.1.wp tab gl (qE 0 [.t (stA s),.t (.int .i64 h),.t (puA x),.t (.sl (r.map qA)),.t (.sl (w.map qA))]) (qE 0 []) (qV [(10,(some (30,true))),(11,none)] 0 (qPo.K (s,h,x,r,w))):=by
 obtain⟨⟨hl,hb,hk2,hd,hr,hg⟩,u,rfl,hu⟩:=hp;obtain⟨k,x,b,e,e1⟩:=jEv (g:=g1) (s:=s) (h:=h) hl;have hx:(qF5 s h).2.1=x:=by rw[←e]
 have hb':b=true:=by rw[←e] at hb;exact hb
 subst hb';obtain⟨k1,k2,k3,k4,k5⟩:=jEf e;rw[hx] at hd hk2;have hK2:(qAe (0::u)).K2:= .inr ⟨_,rfl,by simp[hu]⟩;have e2:=zWs (g:=g2) hK2;have e3:=zWr (g:=g3) (d:=x.dg) (r:=r) ⟨oM,oM⟩;obtain⟨l,ok,⟨rfl,hok⟩,e4⟩:=jFq (g:=g4) (p:=0::u) (m:=qU5 x.dg r) (sg:=w) ⟨⟨u,rfl,hu⟩,by rw[qFl];omega,oM⟩;have e5:=zOu (g:=g5) hK2;have e6:=jEu (g:=g6) (s:=s) (k:=k) (x:=x) (a:= .apr (qN1 (qAe (0::u))) r) ⟨hl.1,⟨k2,k3⟩,hd,⟨qFt,oM⟩⟩;have lN:(qN1 (qAe (0::u))).length=32:=qFt;have hok:ok=vrF u (qU5 x.dg r) w:=hok;have hK : ∀ t e',(t,e')=(if ok=true then (exS s k x (.apr (qN1 (qAe (0::u))) r),0) else (default,17)) → ∀ u',qAe (0::u)=qAe (0::u')→(t,e')=apF s h u' r w:=by
  intro t e' h' u' hu';obtain rfl:u=u':=by simpa [qAe] using hu'
  have h1:(qF5 s h).1=k:=by rw[←e]
  rw[h',apF,hx,h1,←hok]
 clear hok e hb hx;generalize qN1 (qAe (0::u))=N at *;generalize qU5 x.dg r=M at *;have hE : ∀ t,exS s k x (.apr N r)=t→stA (exS s k x (.apr N r))=stA t:=fun t h=>by rw[h]
 obtain⟨t,ht⟩ : ∃ t,exS s k x (.apr N r)=t:=⟨_,rfl⟩;rw[ht] at hK e6;obtain⟨kd,no,dg,up,lo,cm,dl,av⟩:=x;simp only at hk2 hd e3 e4;subst hk2;simp only[stA,yD,puA,qAe,avA,avL,mcn] at e1 e2 e4 e5 e6;cases ok
 ·simp(maxSteps:=9^9)(disch:=try exact dS)only[go_sem,xJ,stA,yD,puA,qAe,mcn,h1,e1,h2,e2,hr,h3,e3,h4,e4];repeat refine aiG ?_
  exact jOz default 17 (hK _ _ rfl) rfl rfl
 ·simp(maxSteps:=9^9)(disch:=try exact dS)only[go_sem,xJ,stA,yD,puA,qAe,mcn,h1,e1,h2,e2,hr,h3,e3,h4,e4,h5,e5,h6,e6];repeat refine aiG ?_
  exact jOz t 0 (hK _ _ rfl) rfl rfl
def vN (s:St):Cm→St×Rs
 | .up=>(qZ1 s,⟨0,[],[],[]⟩)
 | .ev i d=>(evS s i d,⟨0,[],[[],zT d],[]⟩)
 | .op k=>((qWt s k).1,⟨0,[768+frS s.ses 0],[qVc s 16],[]⟩)
 | .po h a=>asR s h a
 | .px h d=>asR s h (ixV s d)
 | .pd h=>(s,⟨0,[],[(qDa s h).2.1.dg],[]⟩)
 | .pr h po au da=>qNj s h po au da
 | .un h ss _=>if ckE s h ss=0 then (zBw s ss,⟨0,[],[(qBn s h).1.s.da],[]⟩) else (s,⟨ckE s h ss,[],[],[]⟩)
 | .df=>(dfS s,⟨0,[],[],[]⟩)
 | .ic=>(icS s,⟨0,[],[],[]⟩)
 | .ap h k r w=>if (apF s h (k.drop 8) r w).2=0 then ((apF s h (k.drop 8) r w).1,⟨0,[],[],[]⟩) else (s,⟨(apF s h (k.drop 8) r w).2,[],[],[]⟩)
def CmP (s:St)(lo:Int):Cm→Prop
 | .up=>s.a.Ok∧s.cn 1000000∧s.on=false∧s.off=false
 | .ev i d=>EvP s∧lo=4∧(0≤i∧i≤15)∧d.length≤100
 | .op k=>OpP s∧2≤k∧k≤3
 | .po h a=>((RV s.bk∧0≤s.u)∧s.ses.length=3)∧tmI h∧(qF5 s h).2.2=true∧fmP a∧ckP s (qF5 s h).2.1 a∧(qF5 s h).2.1.dg.length=32
 | .px h d=>((RV s.bk∧0≤s.u)∧s.ses.length=3)∧tmI h∧pxP s h d
 | .pd h=>s.ses.length=3∧tmI h∧(qDa s h).2.2=true∧(qDa s h).2.1.kd≠1
 | .pr h po au da=>PrP s h po au da
 | .un h ss v=>CkP s (qC (.un h ss v))∧(ckE s h ss=0→(qDa s ss).2.1.kd=2)∧s.En∧tmI h∧(qBn s h).2=0
 | .df=>CkP s (qC .df)∧s.En∧s.a.ix=[]
 | .ic=>CkP s (qC .ic)∧s.En∧s.wl=[]∧(0≤s.a.mc∧s.a.mc≤1000)∧s.a.ix=[ctI s.a.mc]
 | .ap h k r w=>apP s h r w ∧ ∃ u:List UInt8,k=qHq (qAe (0::u))∧u.length=16
theorem jOa {s:St}{lo:Int}{c d:Cm}(hc:CmP s lo c)(hd:CmP s lo d)(e:qC c=qC d):c=d:=by
 cases c<;>cases d<;>simp only[CmP] at hc hd
 case po.po h a h' a'=>
  obtain⟨rfl,rfl⟩:=zUp hc.2.2.2.1 hd.2.2.2.1 e;rfl
 case po.px=>exact absurd e (zN3 hc.2.2.2.1)
 case px.po=>exact absurd e.symm (zN3 hd.2.2.2.1)
 all_goals (simp[qC] at e)
 all_goals first | rfl | (subst e;rfl) | (obtain⟨rfl,rfl⟩:=e;rfl) | (obtain⟨rfl,rfl,rfl⟩:=e;rfl) | (obtain⟨rfl,rfl,rfl,rfl⟩:=e;rfl)
theorem zCd {s:St}{lo:Int}{c:Cm}(hc:CmP s lo c){t:St}{r:Rs}(h:(t,r)=vN s c) : ∀ d,CmP s lo d→qC c=qC d→(t,r)=vN s d:=by
 intro d hd e;rw[←jOa hc hd e];exact h
def qPd:ECt where
 α:=St×Int×Rq
 β:=St×Rs
 aS:=fun (s,lo,q)=>[.t (stA s),.t (.int .i64 lo),.t (rqA q)]
 pre:=fun (s,lo,q) => ∃ c,q=qC c∧CmP s lo c∧(c = .up∨(∃ i d,c = .ev i d)∨(∃ k,c = .op k)∨(∃ h a,c = .po h a)∨(∃ h d,c = .px h d)∨(∃ h,c = .pd h) ∨ ∃ h k r w,c = .ap h k r w)
 r:=fun (t,r)=> .tup [.t (stA t),.t (rsA r)]
 R:=fun (s,lo,q) (t,r) => ∀ d,CmP s lo d→q=qC d→(t,r)=vN s d
theorem jNj {g:EF qPd}{s:St}{lo:Int}{q:Rq}(hp : ∃ c,q=qC c∧CmP s lo c∧(c = .up∨(∃ i d,c = .ev i d)∨(∃ k,c = .op k)∨(∃ h a,c = .po h a)∨(∃ h d,c = .px h d)∨(∃ h,c = .pd h) ∨ ∃ h k r w,c = .ap h k r w)) : ∃ (t:St) (r:Rs),(∀ d,CmP s lo d→q=qC d→(t,r)=vN s d)∧qPd.fs g [.t (stA s),.t (.int .i64 lo),.t (rqA q)] []=some (.tup [.t (stA t),.t (rsA r)],[]):=by
 obtain⟨y,h1,h2⟩:=qPd.eq g (s,lo,q) hp;exact⟨y.1,y.2,h1,h2⟩
theorem qCd {s:St}{lo:Int}{q:Rq}(t:St)(r:Rs)(hR : ∀ d,CmP s lo d→q=qC d→(t,r)=vN s d)(hV:vv = .tup [.t (stA t),.t (rsA r)])(hO:oo=[]):qPd.K (s,lo,q) vv oo:=⟨(t,r),hR,hV,hO⟩
theorem zAk {g1}(h1:LkE tab 167 qPu g1){g2}(h2:LkE tab 168 qJe g2){g4}(h4:LkE tab 170 qPe g4){g6}(h6:LkE tab 172 qPc g6){g7}(h7:LkE tab 173 qO9 g7){g8}(h8:LkE tab 174 qP8 g8){g10}(h10:LkE tab 175 qPo g10){g11}(h11:LkE tab 176 qHj g11)(s:St)(lo:Int)(q:Rq)(hp : ∃ c,q=qC c∧CmP s lo c∧(c = .up∨(∃ i d,c = .ev i d)∨(∃ k,c = .op k)∨(∃ h a,c = .po h a)∨(∃ h d,c = .px h d)∨(∃ h,c = .pd h) ∨ ∃ h k r w,c = .ap h k r w)) :
  yE.1.wp tab gl (qE 0 [.t (stA s),.t (.int .i64 lo),.t (rqA q)]) (qE 0 []) (qV [(6,(some (30,true))),(7,(some (4,true)))] 0 (qPd.K (s,lo,q))):=by
 obtain⟨c,rfl,hc,hk⟩:=hp;have hS:=fun t r => @zCd s lo c hc t r
 rcases hk with rfl | ⟨i,d,rfl⟩ | ⟨k,rfl⟩ | ⟨h,a,rfl⟩ | ⟨h,d,rfl⟩ | ⟨h,rfl⟩ | ⟨h,k,r,w,rfl⟩
 ·obtain⟨ok,cn,on,off⟩:=hc;obtain⟨y,e,⟨q1,q2⟩,e1⟩:=jPl (g:=g1) (s:=s) (m:=0) ⟨ok,cn⟩;have hs:zI9 s 0=(qZ1 s,0):=by simp[zI9,on,off]
  rw[hs] at q1 q2;subst q1 q2;obtain⟨t,r,q3,e2⟩:=zNo (g:=g2) (s:=s) (c:=qZ1 s) (e:=0);rw[if_pos rfl] at q3;have hK:=hS t r q3;clear hS q3 hs;simp only at e1;generalize qZ1 s=y at *;simp only[stA,rsA] at e1 e2;simp(maxSteps:=9^9)(disch:=try exact dS)only[go_sem,yE,stA,rsA,rqA,qC,iT,mcn,h1,h2,e1,e2];first | exact (qCd t r hK rfl rfl) | exact⟨rfl,(qCd t r hK rfl rfl)⟩ | exact⟨rfl,rfl,(qCd t r hK rfl rfl)⟩ | exact⟨rfl,rfl,rfl,(qCd t r hK rfl rfl)⟩
 ·obtain⟨t,r,q,e1⟩:=jNk (g:=g4) (s:=s) (lo:=lo) (q:=qC (.ev i d)) ⟨hc.1,hc.2.1,i,d,rfl,hc.2.2⟩;obtain⟨rfl,rfl⟩:=q i d rfl;have hK:=hS _ _ rfl;simp only[vN] at hK;clear hS q;generalize evS s i d=y at *;simp only[stA,rsA,rqA,qC,iT,mcn,qI] at e1;simp(maxSteps:=9^9)(disch:=try exact dS)only[go_sem,yE,stA,rsA,rqA,qC,iT,mcn,qI,h4,e1];first | exact (qCd _ _ hK rfl rfl) | exact⟨rfl,(qCd _ _ hK rfl rfl)⟩ | exact⟨rfl,rfl,(qCd _ _ hK rfl rfl)⟩ | exact⟨rfl,rfl,rfl,(qCd _ _ hK rfl rfl)⟩
 ·obtain⟨t,r,q,e1⟩:=jNi (g:=g6) (s:=s) (q:=qC (.op k)) ⟨hc.1,k,rfl,hc.2⟩;obtain⟨rfl,rfl⟩:=q k rfl;have hK:=hS _ _ rfl;simp only[vN] at hK;clear hS q;generalize (qWt s k).1=y at *;simp only[stA,rsA,rqA,qC,iT,mcn,qI] at e1;simp(maxSteps:=9^9)(disch:=try exact dS)only[go_sem,yE,stA,rsA,rqA,qC,iT,mcn,qI,h6,e1];first | exact (qCd _ _ hK rfl rfl) | exact⟨rfl,(qCd _ _ hK rfl rfl)⟩ | exact⟨rfl,rfl,(qCd _ _ hK rfl rfl)⟩ | exact⟨rfl,rfl,rfl,(qCd _ _ hK rfl rfl)⟩
 ·obtain⟨t,r,q,e1⟩:=jD4 (g:=g7) (s:=s) (q:=qC (.po h a)) ⟨hc.1,.inl ⟨h,a,rfl,hc.2⟩⟩;have hK:=hS t r (q.1 h a hc.2.2.2.1 rfl);clear hS q;simp only[stA,rsA,rqA,qC,iT,mcn] at e1;simp(maxSteps:=9^9)(disch:=try exact dS)only[go_sem,yE,stA,rsA,rqA,qC,iT,mcn,h7,e1];first | exact (qCd t r hK rfl rfl) | exact⟨rfl,(qCd t r hK rfl rfl)⟩ | exact⟨rfl,rfl,(qCd t r hK rfl rfl)⟩ | exact⟨rfl,rfl,rfl,(qCd t r hK rfl rfl)⟩
 ·obtain⟨t,r,q,e1⟩:=jD4 (g:=g7) (s:=s) (q:=qC (.px h d)) ⟨hc.1,.inr ⟨h,d,rfl,hc.2⟩⟩;have hK:=hS t r (q.2 h d rfl);clear hS q hc;simp only[stA,rsA,rqA,qC,iT,mcn,qI] at e1;simp(maxSteps:=9^9)(disch:=try exact dS)only[go_sem,yE,stA,rsA,rqA,qC,iT,mcn,qI,h7,e1];first | exact (qCd t r hK rfl rfl) | exact⟨rfl,(qCd t r hK rfl rfl)⟩ | exact⟨rfl,rfl,(qCd t r hK rfl rfl)⟩ | exact⟨rfl,rfl,rfl,(qCd t r hK rfl rfl)⟩
 ·obtain⟨x,ex,q,e1⟩:=zOg (g:=g11) (s:=s) (h:=h) ⟨hc.1,hc.2.1⟩;rw[if_pos hc.2.2.1] at q;cases q;have hk:=hc.2.2.2;have hK:=hS s ⟨0,[],[(qDa s h).2.1.dg],[]⟩ rfl;clear hS hc;generalize (qDa s h).2.1=x at *;simp only[stA,yD] at e1;simp(maxSteps:=9^9)(disch:=try exact dS)only[go_sem,yE,stA,rsA,rqA,qC,iT,mcn,qI,h11,e1,hk];first | exact (qCd s ⟨0,[],[x.dg],[]⟩ hK rfl rfl) | exact⟨rfl,(qCd s ⟨0,[],[x.dg],[]⟩ hK rfl rfl)⟩ | exact⟨rfl,rfl,(qCd s ⟨0,[],[x.dg],[]⟩ hK rfl rfl)⟩ | exact⟨rfl,rfl,rfl,(qCd s ⟨0,[],[x.dg],[]⟩ hK rfl rfl)⟩
 ·obtain⟨ha,u,hk,hu⟩:=hc;obtain⟨x,e0,⟨rfl,rfl⟩,c1⟩:=jRr (g:=g8) (b:=k) ⟨0::u,hk,by simp[hu]⟩;have h7:k.drop 7=0::u:=by rw[hk,qMm (by simp[hu])];rfl
  have h8':k.drop 8=u:=by rw[hk,qMm (by simp[hu])];rfl
  rw[h7] at c1;obtain⟨t,e,q,c2⟩:=jO0 (g:=g10) (s:=s) (h:=h) (x:=qAe (0::u)) (r:=r) (w:=w) ⟨ha,u,rfl,hu⟩;obtain⟨t',r',q2,c3⟩:=zNo (g:=g2) (s:=s) (c:=t) (e:=e);have hK:=hS t' r' (by rw[q2,vN,h8',←q u rfl]);clear hS q q2 ha hk h7 h8';simp only[stA,rsA,puA,qAe,mcn] at c1 c2 c3;simp(maxSteps:=9^9)(disch:=try exact dS)only[go_sem,yE,stA,rsA,rqA,qC,iT,mcn,qI,h2,h8,h10,c1,c2,c3];first | exact (qCd t' r' hK rfl rfl) | exact⟨rfl,(qCd t' r' hK rfl rfl)⟩ | exact⟨rfl,rfl,(qCd t' r' hK rfl rfl)⟩ | exact⟨rfl,rfl,rfl,(qCd t' r' hK rfl rfl)⟩
def plC (c:Cm):Prop:=c = .up∨(∃ i d,c = .ev i d)∨(∃ k,c = .op k)∨(∃ h a,c = .po h a)∨(∃ h d,c = .px h d)∨(∃ h,c = .pd h) ∨ ∃ h k r w,c = .ap h k r w
def alP (s:St)(c:Cm):Prop:=plC c∨(s.En∧((∃ h po au da,c = .pr h po au da∧0≤h∧h≤2)∨(∃ h ss v,c = .un h ss v∧tmI h∧(qBn s h).2=0)∨c = .df∨(c = .ic∧s.a.ix=[ctI s.a.mc])))
def qO8:ECt where
 α:=St×Rq
 β:=Bool
 aS:=fun (s,q)=>[.t (stA s),.t (rqA q)]
 pre:=fun (s,q) => ∃ c,q=qC c∧alP s c
 r:=fun b=> .t (.bool b)
 R:=fun (s,q) b=>b=true
theorem jNe {g:EF qO8}{s:St}{q:Rq}(hp : ∃ c,q=qC c∧alP s c) : ∃ (b:Bool),(b=true)∧qO8.fs g [.t (stA s),.t (rqA q)] []=some (.t (.bool b),[]):=qO8.eq g (s,q) hp
theorem qH7 {s:St}{q:Rq}(b:Bool)(hR:b=true)(hV:vv = .t (.bool b))(hO:oo=[]):qO8.K (s,q) vv oo:=⟨b,hR,hV,hO⟩
theorem qV1 {g1}(h1:LkE tab 164 qI9 g1){g2}(h2:LkE tab 165 qHg g2){g3}(h3:LkE tab 166 qFs g3)(s:St)(q:Rq)(hp : ∃ c,q=qC c∧alP s c) :
  yK.1.wp tab gl (qE 0 [.t (stA s),.t (rqA q)]) (qE 0 []) (qV [(4,none)] 0 (qO8.K (s,q))):=by
 obtain⟨c,rfl,hc⟩:=hp;rcases hc with hk | ⟨he,⟨h,po,au,da,rfl,h0,h2'⟩ | ⟨h,ss,v,rfl,ht,ho⟩ | rfl | ⟨rfl,hix⟩⟩
 ·rcases hk with rfl | ⟨i,d,rfl⟩ | ⟨k,rfl⟩ | ⟨h,a,rfl⟩ | ⟨h,d,rfl⟩ | ⟨h,rfl⟩ | ⟨h,k,r,w,rfl⟩;all_goals
   simp(maxSteps:=9^9)(disch:=try exact dS)only[go_sem,yK,stA,rqA,qC,iT,mcn,qI];refine qG 1 ?_;simp(maxSteps:=9^9)(disch:=try exact dS)only[go_sem,qD,stA,rqA,qC,iT,mcn,qI];first | exact (qH7 true rfl rfl rfl) | exact⟨rfl,(qH7 true rfl rfl rfl)⟩ | exact⟨rfl,rfl,(qH7 true rfl rfl rfl)⟩ | exact⟨rfl,rfl,rfl,(qH7 true rfl rfl rfl)⟩
 ·obtain⟨x,e,q,e1⟩:=zGk (g:=g1) (s:=s) (h:=h) ⟨he,oM⟩;rw[qIh,if_pos oM] at q;cases q;simp only[stA] at e1;simp(maxSteps:=9^9)(disch:=try exact dS)only[go_sem,yK,stA,rqA,qC,azA,iT,mcn,qI];refine qG 2 ?_;simp(maxSteps:=9^9)(disch:=try exact dS)only[go_sem,qD,stA,rqA,qC,azA,iT,mcn,qI,h1,e1,h2'];first | exact (qH7 true rfl rfl rfl) | exact⟨rfl,(qH7 true rfl rfl rfl)⟩ | exact⟨rfl,rfl,(qH7 true rfl rfl rfl)⟩ | exact⟨rfl,rfl,rfl,(qH7 true rfl rfl rfl)⟩
 ·obtain⟨x,e,q,e1⟩:=zGk (g:=g1) (s:=s) (h:=h) ⟨he,ht⟩;rw[zTd he ho] at q;cases q;obtain⟨y,ey,q2,e2⟩:=zNd (g:=g2) (s:=s) (h:=h) ⟨he.obs.1,ht⟩;have k2:ey=0:=by rw[←ho,←q2]
  subst k2;clear q2;generalize zNt _ _=nm at *;simp only[stA,qC9] at e1 e2;simp(maxSteps:=9^9)(disch:=try exact dS)only[go_sem,yK,stA,rqA,qC,azA,iT,mcn,qI];refine qG 2 ?_;simp(maxSteps:=9^9)(disch:=try exact dS)only[go_sem,qD,stA,rqA,qC,azA,iT,mcn,qI,h1,h2,e1,e2];first | exact (qH7 true rfl rfl rfl) | exact⟨rfl,(qH7 true rfl rfl rfl)⟩ | exact⟨rfl,rfl,(qH7 true rfl rfl rfl)⟩ | exact⟨rfl,rfl,rfl,(qH7 true rfl rfl rfl)⟩
 ·obtain⟨x,e,q,e1⟩:=zGk (g:=g1) (s:=s) (h:=1) ⟨he,by unfold tmI;omega⟩;rw[qIh,if_pos oM] at q;cases q;simp only[stA] at e1;simp(maxSteps:=9^9)(disch:=try exact dS)only[go_sem,yK,stA,rqA,qC,azA,iT,mcn,qI];refine qG 2 ?_;simp(maxSteps:=9^9)(disch:=try exact dS)only[go_sem,qD,stA,rqA,qC,azA,iT,mcn,qI,h1,e1];first | exact (qH7 true rfl rfl rfl) | exact⟨rfl,(qH7 true rfl rfl rfl)⟩ | exact⟨rfl,rfl,(qH7 true rfl rfl rfl)⟩ | exact⟨rfl,rfl,rfl,(qH7 true rfl rfl rfl)⟩
 ·obtain⟨x,e,q,e1⟩:=zGk (g:=g1) (s:=s) (h:=1) ⟨he,by unfold tmI;omega⟩;rw[qIh,if_pos oM] at q;cases q;have hx:ixP s.a.ix 257 0=0:=by rw[hix];simp[ixP,ctI,cnI]
  have h0:qXu s 257=(0,0):=by rw[qXu,hx];rfl
  obtain⟨x2,ex2,q2,e2⟩:=zGk (g:=g1) (s:=s) (h:=257) ⟨he,by unfold tmI;omega⟩;rw[qIh,if_neg oM,h0,if_pos rfl] at q2;cases q2;obtain⟨i,ei,q3,e3⟩:=zGm (g:=g3) (s:=s) (h:=257) ⟨by rw[hix];simp,by rw[hix];simp[ctI,cnI],by unfold tmI;omega⟩;rw[h0] at q3;cases q3;generalize inF _=N at *;generalize hnF _=M at *;simp only[stA] at e1 e2 e3;simp(maxSteps:=9^9)(disch:=try exact dS)only[go_sem,yK,stA,rqA,qC,azA,iT,mcn,qI];refine qG 3 ?_;simp(maxSteps:=9^9)(disch:=try exact dS)only[go_sem,qD,stA,rqA,qC,azA,iT,mcn,qI,h1,e1,e2,h3,e3];first | exact (qH7 true rfl rfl rfl) | exact⟨rfl,(qH7 true rfl rfl rfl)⟩ | exact⟨rfl,rfl,(qH7 true rfl rfl rfl)⟩ | exact⟨rfl,rfl,rfl,(qH7 true rfl rfl rfl)⟩
def qPa:ECt where
 α:=St×Rq
 β:=St×Rs
 aS:=fun (s,q)=>[.t (stA s),.t (rqA q)]
 pre:=fun (s,q) => ∃ lo c,q=qC c∧CmP s lo c∧((∃ h po au da,c = .pr h po au da)∨(∃ h ss v,c = .un h ss v)∨c = .df∨c = .ic)
 r:=fun (t,r)=> .tup [.t (stA t),.t (rsA r)]
 R:=fun (s,q) (t,r)=>(∀ c,c = .df∨c = .ic→q=qC c→(t,r)=vN s c)∧(∀ h po au da,q=qC (.pr h po au da)→(t,r)=qNj s h po au da) ∧ ∀ h ss v,q=qC (.un h ss v)→t=s∧r=⟨0,[],[(qBn s h).1.s.da],[]⟩
theorem zNn {g:EF qPa}{s:St}{q:Rq}(hp : ∃ lo c,q=qC c∧CmP s lo c∧((∃ h po au da,c = .pr h po au da)∨(∃ h ss v,c = .un h ss v)∨c = .df∨c = .ic)) : ∃ (t:St) (r:Rs),((∀ c,c = .df∨c = .ic→q=qC c→(t,r)=vN s c)∧(∀ h po au da,q=qC (.pr h po au da)→(t,r)=qNj s h po au da) ∧ ∀ h ss v,q=qC (.un h ss v)→t=s∧r=⟨0,[],[(qBn s h).1.s.da],[]⟩)∧qPa.fs g [.t (stA s),.t (rqA q)] []=some (.tup [.t (stA t),.t (rsA r)],[]):=by
 obtain⟨y,h1,h2⟩:=qPa.eq g (s,q) hp;exact⟨y.1,y.2,h1,h2⟩
theorem qNi {s:St}{q:Rq}(t:St)(r:Rs)(hR:(∀ c,c = .df∨c = .ic→q=qC c→(t,r)=vN s c)∧(∀ h po au da,q=qC (.pr h po au da)→(t,r)=qNj s h po au da) ∧ ∀ h ss v,q=qC (.un h ss v)→t=s∧r=⟨0,[],[(qBn s h).1.s.da],[]⟩)(hV:vv = .tup [.t (stA t),.t (rsA r)])(hO:oo=[]):qPa.K (s,q) vv oo:=⟨(t,r),hR,hV,hO⟩
theorem qQz {g1}(h1:LkE tab 179 qPi g1){g4}(h4:LkE tab 182 qPj g4){g11}(h11:LkE tab 186 qLv g11){g14}(h14:LkE tab 189 qLw g14)(s:St)(q:Rq)(hp : ∃ lo c,q=qC c∧CmP s lo c∧((∃ h po au da,c = .pr h po au da)∨(∃ h ss v,c = .un h ss v)∨c = .df∨c = .ic)) :
  yI.1.wp tab gl (qE 0 [.t (stA s),.t (rqA q)]) (qE 0 []) (qV [(4,(some (30,true))),(5,(some (4,true)))] 0 (qPa.K (s,q))):=by
 obtain⟨lo,c,rfl,hc,⟨h,po,au,da,rfl⟩ | ⟨h,ss,v,rfl⟩ | rfl | rfl⟩:=hp
 ·obtain⟨t,r,q,e1⟩:=jNu (g:=g1) (s:=s) (q:=qC (.pr h po au da)) ⟨h,po,au,da,rfl,hc⟩;have hK:(∀ c,c = .df∨c = .ic→qC (.pr h po au da)=qC c→(t,r)=vN s c)∧(∀ h' po' au' da',qC (.pr h po au da)=qC (.pr h' po' au' da')→(t,r)=qNj s h' po' au' da') ∧ ∀ h' ss v,qC (.pr h po au da)=qC (.un h' ss v)→t=s∧r=⟨0,[],[(qBn s h').1.s.da],[]⟩:=⟨fun c hc' g=>by rcases hc' with rfl | rfl<;>simp[qC] at g,q,fun _ _ _ g=>by simp[qC] at g⟩;clear q;simp only[stA,rsA,rqA,qC,azA,iT,mcn,qI] at e1;simp(maxSteps:=9^9)(disch:=try exact dS)only[go_sem,yI,stA,rsA,rqA,qC,azA,iT,mcn,qI,h1,e1];first | exact (qNi t r hK rfl rfl) | exact⟨rfl,(qNi t r hK rfl rfl)⟩ | exact⟨rfl,rfl,(qNi t r hK rfl rfl)⟩ | exact⟨rfl,rfl,rfl,(qNi t r hK rfl rfl)⟩
 ·obtain⟨t,r,⟨rfl,q⟩,e1⟩:=jNw (g:=g4) (s:=s) (q:=qC (.un h ss v)) ⟨hc.2.2.1,h,ss,v,rfl,hc.2.2.2⟩;have hr:=q h ss v rfl;subst hr;have hK:(∀ c,c = .df∨c = .ic→qC (.un h ss v)=qC c→(t,(⟨0,[],[(qBn t h).1.s.da],[]⟩:Rs))=vN t c)∧(∀ h' po' au' da',qC (.un h ss v)=qC (.pr h' po' au' da')→(t,(⟨0,[],[(qBn t h).1.s.da],[]⟩:Rs))=qNj t h' po' au' da') ∧ ∀ h' ss' v',qC (.un h ss v)=qC (.un h' ss' v')→t=t∧(⟨0,[],[(qBn t h).1.s.da],[]⟩:Rs)=⟨0,[],[(qBn t h').1.s.da],[]⟩:=⟨fun c hc' g=>by rcases hc' with rfl | rfl<;>simp[qC] at g,fun _ _ _ _ g=>by simp[qC] at g,fun _ _ _ g=>⟨rfl,by rw[(wD g).1]⟩⟩;clear q hc;generalize (qBn t h).1.s.da=da at *;simp only[stA,rsA,rqA,qC,azA,iT,mcn,qI] at e1;simp(maxSteps:=9^9)(disch:=try exact dS)only[go_sem,yI,stA,rsA,rqA,qC,azA,iT,mcn,qI,h4,e1];first | exact (qNi t ⟨0,[],[da],[]⟩ hK rfl rfl) | exact⟨rfl,(qNi t ⟨0,[],[da],[]⟩ hK rfl rfl)⟩ | exact⟨rfl,rfl,(qNi t ⟨0,[],[da],[]⟩ hK rfl rfl)⟩ | exact⟨rfl,rfl,rfl,(qNi t ⟨0,[],[da],[]⟩ hK rfl rfl)⟩
 ·obtain⟨t,r,⟨ht,rfl⟩,e1⟩:=jNf (g:=g11) (s:=s) (q:=qC .df) ⟨rfl,hc.2.2⟩;have hK:(∀ c,c = .df∨c = .ic→qC .df=qC c→(t,(⟨0,[],[],[]⟩:Rs))=vN s c)∧(∀ h' po' au' da',qC .df=qC (.pr h' po' au' da')→(t,(⟨0,[],[],[]⟩:Rs))=qNj s h' po' au' da') ∧ ∀ h' ss' v',qC .df=qC (.un h' ss' v')→t=s∧(⟨0,[],[],[]⟩:Rs)=⟨0,[],[(qBn s h').1.s.da],[]⟩:=⟨fun c hc' g=>by
   rcases hc' with rfl | rfl
   ·rw[ht];rfl
   ·simp[qC] at g,fun _ _ _ _ g=>by simp[qC] at g,fun _ _ _ g=>by simp[qC] at g⟩
  clear hc ht;simp only[stA,rsA,rqA,qC,azA,iT,mcn,qI] at e1;simp(maxSteps:=9^9)(disch:=try exact dS)only[go_sem,yI,stA,rsA,rqA,qC,azA,iT,mcn,qI,h11,e1];first | exact (qNi t ⟨0,[],[],[]⟩ hK rfl rfl) | exact⟨rfl,(qNi t ⟨0,[],[],[]⟩ hK rfl rfl)⟩ | exact⟨rfl,rfl,(qNi t ⟨0,[],[],[]⟩ hK rfl rfl)⟩ | exact⟨rfl,rfl,rfl,(qNi t ⟨0,[],[],[]⟩ hK rfl rfl)⟩
 ·obtain⟨t,r,⟨ht,rfl⟩,e1⟩:=jNh (g:=g14) (s:=s) (q:=qC .ic) ⟨rfl,hc.2.2⟩;have hK:(∀ c,c = .df∨c = .ic→qC .ic=qC c→(t,(⟨0,[],[],[]⟩:Rs))=vN s c)∧(∀ h' po' au' da',qC .ic=qC (.pr h' po' au' da')→(t,(⟨0,[],[],[]⟩:Rs))=qNj s h' po' au' da') ∧ ∀ h' ss' v',qC .ic=qC (.un h' ss' v')→t=s∧(⟨0,[],[],[]⟩:Rs)=⟨0,[],[(qBn s h').1.s.da],[]⟩:=⟨fun c hc' g=>by
   rcases hc' with rfl | rfl
   ·simp[qC] at g
   ·rw[ht];rfl,fun _ _ _ _ g=>by simp[qC] at g,fun _ _ _ g=>by simp[qC] at g⟩
  clear hc ht;simp only[stA,rsA,rqA,qC,azA,iT,mcn,qI] at e1;simp(maxSteps:=9^9)(disch:=try exact dS)only[go_sem,yI,stA,rsA,rqA,qC,azA,iT,mcn,qI,h14,e1];first | exact (qNi t ⟨0,[],[],[]⟩ hK rfl rfl) | exact⟨rfl,(qNi t ⟨0,[],[],[]⟩ hK rfl rfl)⟩ | exact⟨rfl,rfl,(qNi t ⟨0,[],[],[]⟩ hK rfl rfl)⟩ | exact⟨rfl,rfl,rfl,(qNi t ⟨0,[],[],[]⟩ hK rfl rfl)⟩
structure ExP (s:St) (lo:Int) (c:Cm):Prop where
 cm:CmP s lo c
 al:alP s c
 lc:0≤lo∧lo≤4
 on:c = .up∨s.on=true
 au:plC c∨(lo=0∧CkP s (qC c)∧((∃ h po au da,c = .pr h po au da)∨(∃ h ss v,c = .un h ss v∧(s.ses.length=3∧tmI ss∧ss≠0)∧(qDa s ss).2.2=true)∨c = .df∨c = .ic))
def qPb:ECt where
 α:=St×Int×Rq
 β:=St×Rs
 aS:=fun (s,lo,q)=>[.t (stA s),.t (.int .i64 lo),.t (rqA q)]
 pre:=fun (s,lo,q) => ∃ c,q=qC c∧ExP s lo c∧(qC c).W
 r:=fun (t,r)=> .tup [.t (stA t),.t (rsA r)]
 R:=fun (s,lo,q) (t,r) => ∀ c,CmP s lo c→q=qC c→(t,r)=vN s c
theorem jNg {g:EF qPb}{s:St}{lo:Int}{q:Rq}(hp : ∃ c,q=qC c∧ExP s lo c∧(qC c).W) : ∃ (t:St) (r:Rs),(∀ c,CmP s lo c→q=qC c→(t,r)=vN s c)∧qPb.fs g [.t (stA s),.t (.int .i64 lo),.t (rqA q)] []=some (.tup [.t (stA t),.t (rsA r)],[]):=by
 obtain⟨y,h1,h2⟩:=qPb.eq g (s,lo,q) hp;exact⟨y.1,y.2,h1,h2⟩
theorem qD7 {s:St}{lo:Int}{q:Rq}(t:St)(r:Rs)(hR : ∀ c,CmP s lo c→q=qC c→(t,r)=vN s c)(hV:vv = .tup [.t (stA t),.t (rsA r)])(hO:oo=[]):qPb.K (s,lo,q) vv oo:=⟨(t,r),hR,hV,hO⟩
theorem qV0 {g1}(h1:LkE tab 145 qOn g1){g2}(h2:LkE tab 146 qBb g2){g3}(h3:LkE tab 147 qO8 g3){g4}(h4:LkE tab 148 qPd g4){g5}(h5:LkE tab 149 qO2 g5){g6}(h6:LkE tab 150 qPa g6){g7}(h7:LkE tab 151 qO4 g7)(s:St)(lo:Int)(q:Rq)(hp : ∃ c,q=qC c∧ExP s lo c∧(qC c).W) :
  jJ.1.wp tab gl (qE 0 [.t (stA s),.t (.int .i64 lo),.t (rqA q)]) (qE 0 []) (qV [(6,(some (30,true))),(7,(some (4,true)))] 0 (qPb.K (s,lo,q))):=by
 obtain⟨c,rfl,⟨hc,ha,hlo,hon,hk⟩,hw⟩:=hp;obtain⟨e,rfl,e1⟩:=jLf (g:=g1) hw;obtain⟨b,rfl,e3⟩:=jNe (g:=g3) (s:=s) (q:=qC c) ⟨c,rfl,ha⟩;clear hw ha;rcases hk with hk | ⟨rfl,hck,hk⟩
 ·obtain⟨t,r,hK,e4⟩:=jNj (g:=g4) (s:=s) (lo:=lo) (q:=qC c) ⟨c,rfl,hc,hk⟩;clear hc;rcases hk with rfl | ⟨i,d,rfl⟩ | ⟨k,rfl⟩ | ⟨h,a,rfl⟩ | ⟨h,d,rfl⟩ | ⟨h,rfl⟩ | ⟨h,k,rf,w,rfl⟩
  ·simp only[stA,rsA,rqA,qC,iT,mcn,qI] at e1 e3 e4;simp(maxSteps:=9^9)(disch:=try exact dS)only[go_sem,jJ,stA,rsA,rqA,qC,iT,mcn,qI,h1,h3,h4,e1,e3,e4];first | exact (qD7 t r hK rfl rfl) | exact⟨rfl,(qD7 t r hK rfl rfl)⟩ | exact⟨rfl,rfl,(qD7 t r hK rfl rfl)⟩ | exact⟨rfl,rfl,rfl,(qD7 t r hK rfl rfl)⟩
  all_goals
   have on:s.on=true:=hon.resolve_left (by nofun);simp only[stA,rsA,rqA,qC,iT,mcn,qI,on] at e1 e3 e4;simp(maxSteps:=9^9)(disch:=try exact dS)only[go_sem,jJ,stA,rsA,rqA,qC,iT,mcn,qI,on,h1,h3,h4,e1,e3,e4];first | exact (qD7 t r hK rfl rfl) | exact⟨rfl,(qD7 t r hK rfl rfl)⟩ | exact⟨rfl,rfl,(qD7 t r hK rfl rfl)⟩ | exact⟨rfl,rfl,rfl,(qD7 t r hK rfl rfl)⟩
 rcases hk with⟨h,po,au,da,rfl⟩ | ⟨h,ss,v,rfl,hs,hb⟩ | rfl | rfl
 ·have on:s.on=true:=hon.resolve_left (by nofun);obtain⟨t5,e5,⟨rfl,q5,-⟩,c5⟩:=zNk (g:=g5) (s:=s) (lo:=0) (q:=qC (.pr h po au da)) ⟨hck,rfl⟩;obtain rfl:=q5 (by show (9:Int)≠13;decide);obtain⟨t,r,⟨-,q6,-⟩,c6⟩:=zNn (g:=g6) (s:=t5) (q:=qC (.pr h po au da)) ⟨0,_,rfl,hc,.inl ⟨h,po,au,da,rfl⟩⟩;have q6':=q6 h po au da rfl;obtain⟨t7,l7,⟨rfl,q7,-⟩,c7⟩:=zNl (g:=g7) (s:=t) (q:=qC (.pr h po au da)) (.pr h po au da);obtain rfl:=q7 (by show (9:Int)≠13;decide);have hf : ¬ frO t5.obs 0 = -1:=hc.1.2;have hK : ∀ d,CmP t5 0 d→qC (.pr h po au da)=qC d→(t7,r)=vN t5 d:=zCd hc q6';clear q5 q6 q7 hck hc;rw[qNj,if_neg hf] at q6';simp only[Prod.mk.injEq] at q6';obtain⟨-,rfl⟩:=q6';generalize zW2 _ _=en at *;generalize zNt _ _=nm at *;generalize frO t5.obs 0=f at *;simp only[stA,rsA,rqA,qC,azA,iT,mcn,qI,on] at e1 e3 c5 c6 c7;simp(maxSteps:=9^9)(disch:=try exact dS)only[go_sem,jJ,stA,rsA,rqA,qC,azA,iT,mcn,qI,on,h1,h3,h5,h6,h7,e1,e3,c5,c6,c7];first | exact (qD7 t7 ⟨0,[512+f],[en,nm],[]⟩ hK rfl rfl) | exact⟨rfl,(qD7 t7 ⟨0,[512+f],[en,nm],[]⟩ hK rfl rfl)⟩ | exact⟨rfl,rfl,(qD7 t7 ⟨0,[512+f],[en,nm],[]⟩ hK rfl rfl)⟩ | exact⟨rfl,rfl,rfl,(qD7 t7 ⟨0,[512+f],[en,nm],[]⟩ hK rfl rfl)⟩
 ·have on:s.on=true:=hon.resolve_left (by nofun);obtain⟨t5,e5,⟨rfl,-,q5⟩,c5⟩:=zNk (g:=g5) (s:=s) (lo:=0) (q:=qC (.un h ss v)) ⟨hck,rfl⟩;have q5':=q5 h ss v rfl;by_cases c0:ckE t5 h ss=0
  ·rw[c0] at q5';subst q5';obtain⟨t,r,⟨-,-,q6⟩,c6⟩:=zNn (g:=g6) (s:=t5) (q:=qC (.un h ss v)) ⟨0,_,rfl,hc,.inr (.inl ⟨h,ss,v,rfl⟩)⟩;obtain⟨rfl,rfl⟩:=q6 h ss v rfl;obtain⟨t7,l7,⟨rfl,-,q7⟩,c7⟩:=zNl (g:=g7) (s:=t) (q:=qC (.un h ss v)) (.un h ss v hs hb (hc.2.1 c0));obtain rfl:=q7 h ss v rfl;have hK : ∀ d,CmP t 0 d→qC (.un h ss v)=qC d→(zBw t ss,(⟨0,[],[(qBn t h).1.s.da],[]⟩:Rs))=vN t d:=zCd hc (by simp only[vN];rw[if_pos c0]);clear q5 q6 q7 hck hc;generalize zBw t ss=y at *;generalize (qBn t h).1.s.da=da at *;simp only[stA,rsA,rqA,qC,azA,iT,mcn,qI,on] at e1 e3 c5 c6 c7;simp(maxSteps:=9^9)(disch:=try exact dS)only[go_sem,jJ,stA,rsA,rqA,qC,azA,iT,mcn,qI,on,h1,h3,h5,h6,h7,e1,e3,c5,c6,c7];first | exact (qD7 y ⟨0,[],[da],[]⟩ hK rfl rfl) | exact⟨rfl,(qD7 y ⟨0,[],[da],[]⟩ hK rfl rfl)⟩ | exact⟨rfl,rfl,(qD7 y ⟨0,[],[da],[]⟩ hK rfl rfl)⟩ | exact⟨rfl,rfl,rfl,(qD7 y ⟨0,[],[da],[]⟩ hK rfl rfl)⟩
  ·obtain⟨t2,r2,⟨rfl,rfl⟩,c2⟩:=jD5 (g:=g2) (s:=t5) (e:=e5);have hK : ∀ d,CmP t2 0 d→qC (.un h ss v)=qC d→(t2,(⟨e5,[],[],[]⟩:Rs))=vN t2 d:=zCd hc (by simp only[vN];rw[if_neg c0,q5']);rw[←q5'] at c0;clear q5 q5' hck hc;simp only[stA,rsA,rqA,qC,azA,iT,mcn,qI,on] at e1 e3 c5 c2;simp(maxSteps:=9^9)(disch:=try exact dS)only[go_sem,jJ,stA,rsA,rqA,qC,azA,iT,mcn,qI,on,h1,h2,h3,h5,e1,e3,c5,c2,c0];exact qD7 t2 ⟨e5,[],[],[]⟩ hK (by simp only[stA,rsA,on,map_nil]) rfl
 ·have on:s.on=true:=hon.resolve_left (by nofun);obtain⟨t5,e5,⟨rfl,q5,-⟩,c5⟩:=zNk (g:=g5) (s:=s) (lo:=0) (q:=qC .df) ⟨hck,rfl⟩;obtain rfl:=q5 (by show (21:Int)≠13;decide);obtain⟨t,r,⟨q6,-⟩,c6⟩:=zNn (g:=g6) (s:=t5) (q:=qC .df) ⟨0,_,rfl,hc,.inr (.inr (.inl rfl))⟩;have q6':=q6 .df (.inl rfl) rfl;obtain⟨t7,l7,⟨rfl,q7,-⟩,c7⟩:=zNl (g:=g7) (s:=t) (q:=qC .df) .df;obtain rfl:=q7 (by show (21:Int)≠13;decide);have hK : ∀ d,CmP t5 0 d→qC .df=qC d→(t7,r)=vN t5 d:=zCd hc q6';have hr:r=⟨0,[],[],[]⟩:=congrArg Prod.snd q6';subst hr;clear q5 q6 q6' q7 hck hc;simp only[stA,rsA,rqA,qC,azA,iT,mcn,qI,on] at e1 e3 c5 c6 c7;simp(maxSteps:=9^9)(disch:=try exact dS)only[go_sem,jJ,stA,rsA,rqA,qC,azA,iT,mcn,qI,on,h1,h3,h5,h6,h7,e1,e3,c5,c6,c7];first | exact (qD7 t7 ⟨0,[],[],[]⟩ hK rfl rfl) | exact⟨rfl,(qD7 t7 ⟨0,[],[],[]⟩ hK rfl rfl)⟩ | exact⟨rfl,rfl,(qD7 t7 ⟨0,[],[],[]⟩ hK rfl rfl)⟩ | exact⟨rfl,rfl,rfl,(qD7 t7 ⟨0,[],[],[]⟩ hK rfl rfl)⟩
 ·have on:s.on=true:=hon.resolve_left (by nofun);obtain⟨t5,e5,⟨rfl,q5,-⟩,c5⟩:=zNk (g:=g5) (s:=s) (lo:=0) (q:=qC .ic) ⟨hck,rfl⟩;obtain rfl:=q5 (by show (25:Int)≠13;decide);obtain⟨t,r,⟨q6,-⟩,c6⟩:=zNn (g:=g6) (s:=t5) (q:=qC .ic) ⟨0,_,rfl,hc,.inr (.inr (.inr rfl))⟩;have q6':=q6 .ic (.inr rfl) rfl;obtain⟨t7,l7,⟨rfl,q7,-⟩,c7⟩:=zNl (g:=g7) (s:=t) (q:=qC .ic) .ic;obtain rfl:=q7 (by show (25:Int)≠13;decide);have hK : ∀ d,CmP t5 0 d→qC .ic=qC d→(t7,r)=vN t5 d:=zCd hc q6';have hr:r=⟨0,[],[],[]⟩:=congrArg Prod.snd q6';subst hr;clear q5 q6 q6' q7 hck hc;simp only[stA,rsA,rqA,qC,azA,iT,mcn,qI,on] at e1 e3 c5 c6 c7;simp(maxSteps:=9^9)(disch:=try exact dS)only[go_sem,jJ,stA,rsA,rqA,qC,azA,iT,mcn,qI,on,h1,h3,h5,h6,h7,e1,e3,c5,c6,c7];first | exact (qD7 t7 ⟨0,[],[],[]⟩ hK rfl rfl) | exact⟨rfl,(qD7 t7 ⟨0,[],[],[]⟩ hK rfl rfl)⟩ | exact⟨rfl,rfl,(qD7 t7 ⟨0,[],[],[]⟩ hK rfl rfl)⟩ | exact⟨rfl,rfl,rfl,(qD7 t7 ⟨0,[],[],[]⟩ hK rfl rfl)⟩
def qPf:ECt where
 α:=St×Int×List UInt8
 β:=St×List UInt8
 aS:=fun (s,lo,b)=>[.t (stA s),.t (.int .i64 lo),.t (.sl (b.map qA))]
 pre:=fun (s,lo,b) => ∃ c,ExP s lo c∧(qC c).W∧b=rqB (qC c)∧(vN s c).2.W
 r:=fun (t,o)=> .tup [.t (stA t),.t (.sl (o.map qA))]
 R:=fun (s,lo,b) (t,o) => ∀ c,CmP s lo c→(qC c).W→b=rqB (qC c)→t=(vN s c).1∧o=rsB (vN s c).2
theorem jNl {g:EF qPf}{s:St}{lo:Int}{b:List UInt8}(hp : ∃ c,ExP s lo c∧(qC c).W∧b=rqB (qC c)∧(vN s c).2.W) : ∃ (t:St) (o:List UInt8),(∀ c,CmP s lo c→(qC c).W→b=rqB (qC c)→t=(vN s c).1∧o=rsB (vN s c).2)∧qPf.fs g [.t (stA s),.t (.int .i64 lo),.t (.sl (b.map qA))] []=some (.tup [.t (stA t),.t (.sl (o.map qA))],[]):=by
 obtain⟨y,h1,h2⟩:=qPf.eq g (s,lo,b) hp;exact⟨y.1,y.2,h1,h2⟩
theorem zZk {s:St}{lo:Int}{b:List UInt8}(t:St)(o:List UInt8)(hR : ∀ c,CmP s lo c→(qC c).W→b=rqB (qC c)→t=(vN s c).1∧o=rsB (vN s c).2)(hV:vv = .tup [.t (stA t),.t (.sl (o.map qA))])(hO:oo=[]):qPf.K (s,lo,b) vv oo:=⟨(t,o),hR,hV,hO⟩
theorem zH6 {g1}(h1:LkE tab 115 qLf g1){g2}(h2:LkE tab 116 qLg g2){g3}(h3:LkE tab 117 qPb g3)(s:St)(lo:Int)(b:List UInt8)(hp : ∃ c,ExP s lo c∧(qC c).W∧b=rqB (qC c)∧(vN s c).2.W) :
  qIk.1.wp tab gl (qE 0 [.t (stA s),.t (.int .i64 lo),.t (.sl (b.map qA))]) (qE 0 []) (qV [(6,(some (30,true))),(7,none)] 0 (qPf.K (s,lo,b))):=by
 obtain⟨c,hx,hw,rfl,hr⟩:=hp;obtain⟨q,e,⟨hq,rfl⟩,e1⟩:=jLg (g:=g1) ⟨qC c,hw,rfl⟩;obtain rfl:q=qC c:=by rw[hq,zN8 hw]
 obtain⟨t,r,q3,e3⟩:=jNg (g:=g3) (s:=s) (lo:=lo) (q:=qC c) ⟨c,rfl,hx,hw⟩;have q3':=q3 c hx.cm rfl;obtain⟨o,ho,e2⟩:=jLh (g:=g2) (r:=r) (by have:=congrArg Prod.snd q3';simp only at this;rw[this];exact hr);have hK : ∀ d,CmP s lo d→(qC d).W→rqB (qC c)=rqB (qC d)→t=(vN s d).1∧o=rsB (vN s d).2:=by
  intro d hd hdw e;have e':=jIm hw hdw e;have:=q3 d hd e';rw[←this];exact⟨rfl,ho⟩
 clear q3 q3' ho hq hr hx hw;generalize rqB (qC c)=b at *;generalize qC c=q at *;simp only[stA,rsA,rqA] at e1 e2 e3;simp(maxSteps:=9^9)(disch:=try exact dS)only[go_sem,qIk,stA,rsA,rqA,h1,h2,h3,e1,e2,e3];first | exact (zZk t o hK rfl rfl) | exact⟨rfl,(zZk t o hK rfl rfl)⟩ | exact⟨rfl,rfl,(zZk t o hK rfl rfl)⟩ | exact⟨rfl,rfl,rfl,(zZk t o hK rfl rfl)⟩
theorem jLx {b:List UInt8}(h:b.length<1000000000):zC3.fs [.t (.sl (b.map qA))] []=some (.tup [.t (.agg [.sl ((dcT b).1.map vS),.int .i64 (dcT b).2.1]),.t (.int .i64 (dcT b).2.2)],[]):=by
 rw[←(zM6 b).1];exact zC3.eq b h
end Go.Eng
end
