/- A part of an abstract machine, its walks, their tie. -/
import Derived.Test.YteglhhgmfnbalaaGreatDoorK37
import Derived.Test.YteglhhgmfnbalaaGreatDoorK34
set_option linter.all false
section
set_option maxHeartbeats 64000000
set_option maxRecDepth 100000
namespace Go.Eng
open List
variable (tab:Tab)(gl:Gl)
theorem qTl {g1}(h1:LkE tab 4 qO0 g1){g2}(h2:LkE tab 5 qK1 g2){g3}(h3:LkE tab 6 qIf g3)
  {g4} (h4:LkE tab 7 qO1 g4) {g5} (h5:LkE tab 8 qE9 g5) {g6} (h6:LkE tab 10 qK2 g6) {g7} (h7:LkE tab 9 qNi g7) {g8} (h8:LkE tab 11 qBr g8)
  {g9} (h9:LkE tab 12 qCj g9) (h10:LkC tab 13 qE5) (h11:LkC tab 14 qE4) (cs to:List UInt8) (hp:cs.length<=9223372036854775807/\to.length<=9223372036854775807) :
  SW tab gl qFs.1 (qD 0 [.t (.sl (cs.map qA)),.t (.sl (to.map qA))]) (qD 0 []) (qZ [(4,none)] 0 (λr o=>r=.t (.bool true)/\o=[])):=by
 obtain⟨hcs,hto⟩:=hp;obtain⟨a,rfl,e1⟩:=@jSa g1;refine SW.seq (SW.of ?_);simp(disch:=omega)only[go_sem];refine SW.seq (SW.of ?_);simp(disch:=omega)only[go_sem,h1,e1];by_cases hc:20<cs.length
 .refine SW.seq (SW.of ?_);simp(disch:=omega)only[go_sem,hc];repeat refine aiG ?_
 refine SW.seq (SW.of ?_);simp(disch:=omega)only[go_sem,hc];obtain⟨v,ok,⟨rfl,hv⟩,e2⟩:=jEu (g:=g2) (a:=2) rfl;obtain⟨k0,s0,hf,hE⟩:=jUk;rw[hv,hf]at e2;refine SW.seq (SW.of ?_);simp(disch:=omega)only[go_sem,qWf,qXb,qWh,qXd,qWg,qXc,qWe,qXa,h2,e2];refine SW.seq (SW.of ?_);simp(disch:=omega)only[go_sem];refine SW.seq (SW.of ?_);simp(disch:=omega)only[go_sem];refine SW.seq (SW.seq (SW.of ?_));simp(disch:=omega)only[go_sem];refine SW.blockS (SW.loopS (σ:=Nat×Int×Dk×St×Int) (λt=>t.1<=cs.length/\∃r m q kd,CnP t.2.1 (1+t.1) t.1 t.2.2.1 t.2.2.2.1 t.2.2.2.2 r m q kd) (λt=>cs.length-t.1) (λt=>[(0,.t (.sl (cs.map qA))),(1,.t (.sl (to.map qA))),(5,.ref 24640 0 0),(7,.t (.int .i64 t.2.1)),(8,.t (.int .i64 (t.1:Nat)))]) (λt=>[(24640,.live 37 [.t (dvA ⟨t.2.2.1,t.2.2.2.1,true,t.2.2.2.2⟩)] true true)]) (0,0,k0,s0,3) ⟨Nat.zero_le _,1,0,0,.n,hE⟩ (qL.rd id ?_ ?_ rfl) ?_)
 .simp(disch:=omega)only[go_sem,id]
 .simp(disch:=omega)only[go_sem,id]
 clear e1 e2 hE h1 h2 hv hf;rintro⟨i,need,k,s,nx⟩ ⟨hi,r,m,q,kd,hE⟩;simp only at hi hE;rcases(by omega:i<cs.length\/i=cs.length)with hlt|hke
 rotate_left
 .subst hke;refine SW.seq (SW.of ?_);simp(disch:=omega)only[go_sem];refine SW.of ?_;simp(disch:=omega)only[go_sem];repeat refine aiG ?_
 obtain⟨x,hg,_,_⟩:=qX (l:=cs) (k:=i) hlt;refine SW.seq (SW.of ?_);simp(disch:=omega)only[go_sem,hlt];refine SW.seq (SW.blockS (SW.seq (SW.of ?_)));simp(disch:=omega)only[go_sem,hlt,hg,oms];have e3:qIf.fs g3 [.t (.int .i64 25),.t (.sl [])] []=some (.t (rqA (qC .ic)),[]):=jEr (c:=25) (ns:=[]);refine SW.seq (SW.of ?_);simp(disch:=omega)only[go_sem,qWf,qXb,qWh,qXd,qWg,qXc,qWe,qXa,h3,e3];have hc':cs.length<=20:=oM;obtain⟨X,hX,hX1⟩:∃X:Int,((x.toNat:Nat):Int)=X/\0<=X/\X<=255:=⟨_,rfl,oM,by have:=x.toNat_lt;omega⟩;simp only[hX];refine SW.cut (ι:=Cm) (λc=>([(0,.t (.sl (cs.map qA))),(1,.t (.sl (to.map qA))),(5,.ref 24640 0 0),(7,.t (.int .i64 need)),(8,.t (.int .i64 (i:Nat))),(9,.t (.int .i64 X)),(10,.ref 57360 0 0)],[(24640,.live 37 [.t (dvA ⟨k,s,true,nx⟩)] true true),(57360,.live 5 [.t (rqA (qC c))] true true)])) (λc=>(c=.df\/c=.ud\/c=.ic)/\(2<X.tmod 8->c=.ic)) (λb' Q' hrest=>?_) ?_
 .by_cases A0:X.tmod 8=0
  .have e4:=@jEt g4;refine SW.of ?_;simp(disch:=omega)only[go_sem,qWf,qXb,qWh,qXd,qWg,qXc,qWe,qXa,A0,h4,e4];refine SW.weak (qL.rd id ?_ ?_ rfl) (hrest .df ⟨.inl rfl,λh=>oM⟩);all_goals simp(disch:=omega)only[go_sem,id]
  by_cases A1:X.tmod 8=1
  .have e4:=@jEt g4;refine SW.of ?_;simp(disch:=omega)only[go_sem,qWf,qXb,qWh,qXd,qWg,qXc,qWe,qXa,A1,h4,e4];refine SW.weak (qL.rd id ?_ ?_ rfl) (hrest .df ⟨.inl rfl,λh=>oM⟩);all_goals simp(disch:=omega)only[go_sem,id]
  by_cases A2:X.tmod 8=2
  .have e5:qE9.fs g5 [.t (rqA ⟨22,[1],[],[1],[]⟩),.t (.sl [])] []=some (.t (rqA (qC .ud)),[]):=zMs (q:=⟨22,[1],[],[1],[]⟩) (v:=[]);obtain⟨r1,hr1⟩:∃r1,qC .ud=r1:=⟨_,rfl⟩;rw[hr1]at e5;simp only[show rqA ⟨22,[1],[],[1],[]⟩=.agg [.int .i64 22,.sl [.int .i64 1],.sl [],.sl [.int .i64 1],.sl []] from rfl]at e5;refine SW.of ?_;simp(disch:=omega)only[go_sem,qWf,qXb,qWh,qXd,qWg,qXc,qWe,qXa,A2,h5,e5];rw[<-hr1];refine SW.weak (qL.rd id ?_ ?_ rfl) (hrest .ud ⟨.inr (.inl rfl),λh=>oM⟩);all_goals simp(disch:=omega)only[go_sem,id]
  .refine SW.of ?_;simp(disch:=omega)only[go_sem,qWf,qXb,qWh,qXd,qWg,qXc,qWe,qXa,A0,A1,A2];refine SW.weak (qL.rd id ?_ ?_ rfl) (hrest .ic ⟨.inr (.inr rfl),λ_=>rfl⟩);all_goals simp(disch:=omega)only[go_sem,id]
 rintro c ⟨hcc,hci⟩;have w8:IntKind.i64.wrap (X.tdiv 8)=X.tdiv 8:=xP (by rw[Int.tdiv_eq_ediv_of_nonneg oM];omega);have w24:IntKind.i64.wrap (X.tdiv 24)=X.tdiv 24:=xP (by rw[Int.tdiv_eq_ediv_of_nonneg oM];omega);refine SW.cut (ι:=Dk) (λk1=>([(0,.t (.sl (cs.map qA))),(1,.t (.sl (to.map qA))),(5,.ref 24640 0 0),(7,.t (.int .i64 need)),(8,.t (.int .i64 (i:Nat))),(9,.t (.int .i64 X)),(10,.ref 57360 0 0)],[(24640,.live 37 [.t (dvA ⟨k1,s,true,nx⟩)] true true),(57360,.live 5 [.t (rqA (qC c))] true true)])) (λk1=>CnP need (1+i) i k1 s nx r m q kd) (λb' Q' hrest=>?_) ?_
 .by_cases C0:(X.tdiv 8).tmod 3=0
  .have hw:=hE.ok;have e6:=jSb (g:=g6) (l:=to) (i:=(i:Nat)) oM;have e7:=jLi (g:=g7) (k:=k) (a:=k.wr+1) (t:=nuF to (i:Nat));simp only[dkA]at e7;refine SW.of ?_;simp(disch:=omega)only[go_sem,dvA,w8,C0,h6,e6,h7,e7];repeat refine aiG ?_
   refine SW.weak (qL.rd id ?_ ?_ rfl) (hrest _ (hE.cut (T:=nuF to (i:Nat)) (jN9 oM)));all_goals simp(disch:=omega)only[go_sem,id,dvA]
  .refine SW.of ?_;simp(disch:=omega)only[go_sem,w8,C0];refine SW.weak (qL.rd id ?_ ?_ rfl) (hrest k hE);all_goals simp(disch:=omega)only[go_sem,id]
 intro k1 hE1;obtain⟨d2,x2,ok2,e8,hO⟩:=jKk (gA:=g8) (gC:=g9) hE1 oM hcc;refine SW.seq (SW.of ?_);simp only[rsA,iT,mcn,qG]at e8;simp(disch:=omega)only[go_sem,qWf,qXb,qWh,qXd,qWg,qXc,qWe,qXa,h8,e8];have hnd:=hE1.nd;have hmq:=hE1.qk.le;have hqi:=hE1.hqb;refine SW.cut (ι:=Int) (λn'=>([(0,.t (.sl (cs.map qA))),(1,.t (.sl (to.map qA))),(5,.ref 24640 0 0),(7,.t (.int .i64 n')),(8,.t (.int .i64 (i:Nat))),(9,.t (.int .i64 X)),(11,.ref 94320 0 0),(13,.t (.bool ok2))],[(94320,.live 37 [.t (dvA d2)] true true),(24640,.live 37 [.t (dvA ⟨k1,s,true,nx⟩)] true true)])) (λn'=>(ok2=true/\∃k' t nx' r m q kd,d2=⟨k',t,true,nx'⟩/\CnP n' (1+i) (i+1) k' t nx' r m q kd)\/(ok2=false/\∃k' s' nx' r m q kd,qCj.fs g9 [.t (dvA d2)] []=some (.tup [.t (dvA ⟨k',s',true,nx'⟩),.t (.bool true)],[])/\CnP n' (2+i) (i+1) k' s' nx' r m q kd)) (λb' Q' hrest=>?_) ?_
 .rcases hO with⟨rfl,hx0,rfl⟩|⟨rfl,rfl,k',t,m',kd',rfl,hC,hic⟩|⟨rfl,rfl,k',s',nx',r',m',q',kd',eC,hC⟩
  .refine SW.of ?_;simp(disch:=omega)only[go_sem,qWf,qXb,qWh,qXd,qWg,qXc,qWe,qXa,hx0];refine SW.weak (qL.rd id ?_ ?_ rfl) (hrest need (.inl ⟨rfl,k1,s,nx,r,m,q,kd,rfl,hE1.mono (Nat.le_refl _) (Nat.le_succ _)⟩));all_goals simp(disch:=omega)only[go_sem,id]
  .by_cases A3:2<X.tmod 8
   .have hm1:=hic (hci A3);refine SW.of ?_;simp(disch:=omega)only[go_sem,qWf,qXb,qWh,qXd,qWg,qXc,qWe,qXa,A3];refine SW.weak (qL.rd id ?_ ?_ rfl) (hrest (need+1) (.inl ⟨rfl,k',t,nx+1,r,m',q+1,kd',rfl,hC.need oM⟩));all_goals simp(disch:=omega)only[go_sem,id]
   .refine SW.of ?_;simp(disch:=omega)only[go_sem,qWf,qXb,qWh,qXd,qWg,qXc,qWe,qXa,A3];refine SW.weak (qL.rd id ?_ ?_ rfl) (hrest need (.inl ⟨rfl,k',t,nx+1,r,m',q+1,kd',rfl,hC⟩));all_goals simp(disch:=omega)only[go_sem,id]
  .refine SW.of ?_;simp(disch:=omega)only[go_sem,qWf,qXb,qWh,qXd,qWg,qXc,qWe,qXa];refine SW.weak (qL.rd id ?_ ?_ rfl) (hrest need (.inr ⟨rfl,k',s',nx',r',m',q',kd',eC,hC.mono oM (Nat.le_refl _)⟩));all_goals simp(disch:=omega)only[go_sem,id]
 intro n' hN;refine SW.cut (ι:=Dk×St×Int) (λp=>([(0,.t (.sl (cs.map qA))),(1,.t (.sl (to.map qA))),(5,.ref 24640 0 0),(7,.t (.int .i64 n')),(8,.t (.int .i64 (i:Nat))),(11,.ref 94320 0 0)],[(94320,.live 37 [.t (dvA ⟨p.1,p.2.1,true,p.2.2⟩)] true true),(24640,.live 37 [.t (dvA ⟨k1,s,true,nx⟩)] true true)])) (λp=>∃r m q kd,CnP n' (2+i) (i+1) p.1 p.2.1 p.2.2 r m q kd) (λb' Q' hrest=>?_) ?_
 .rcases hN with⟨rfl,k',t,nx',r',m',q',kd',rfl,hC⟩|⟨rfl,k',s',nx',r',m',q',kd',eC,hC⟩
  .by_cases D0:(X.tdiv 24).tmod 3=0
   .obtain⟨c1,k2,s2,c2,c3⟩:=hC.cy oM;have eC:=zQp (g:=g9) (d:=⟨k',t,true,nx'⟩) hC.ok.2.1 c1;rw[c2]at eC;refine SW.of ?_;simp(disch:=omega)only[go_sem,qWf,qXb,qWh,qXd,qWg,qXc,qWe,qXa,w24,D0,h9,eC];refine SW.weak (qL.rd id ?_ ?_ rfl) (hrest (k2,s2,nx'+1) ⟨_,_,_,_,c3.mono oM (Nat.le_refl _)⟩);all_goals simp(disch:=omega)only[go_sem,id]
   .refine SW.of ?_;simp(disch:=omega)only[go_sem,qWf,qXb,qWh,qXd,qWg,qXc,qWe,qXa,w24,D0];refine SW.weak (qL.rd id ?_ ?_ rfl) (hrest (k',t,nx') ⟨_,_,_,_,hC.mono oM (Nat.le_refl _)⟩);all_goals simp(disch:=omega)only[go_sem,id]
  .refine SW.of ?_;simp(disch:=omega)only[go_sem,qWf,qXb,qWh,qXd,qWg,qXc,qWe,qXa,h9,eC];refine SW.weak (qL.rd id ?_ ?_ rfl) (hrest (k',s',nx') ⟨_,_,_,_,hC⟩);all_goals simp(disch:=omega)only[go_sem,id]
 rintro⟨k3,s3,nx3⟩ ⟨r3,m3,q3,kd3,hC⟩;simp only at hC;have e9:=jKl (gA:=g8) hC oM;have e3':qIf.fs g3 [.t (.int .i64 24),.t (.sl [.int .i64 0,.int .i64 8])] []=some (.t (rqA (qC .rd)),[]):=jEr (c:=24) (ns:=[0,8]);generalize qC .rd=r1 at *;have hn3:=hC.nd;have hm3:=hC.qk.le;have hq3:=hC.hqb;cases kd3
 .simp only[rdX,rsA,iT,mcn,qG]at e9;refine SW.seq (SW.of ?_);simp(disch:=omega)only[go_sem,qWf,qXb,qWh,qXd,qWg,qXc,qWe,qXa,h3,e3',h8,e9];repeat refine aiG ?_
  refine SW.of ?_;simp(disch:=omega)only[go_sem,qWf,qXb,qWh,qXd,qWg,qXc,qWe,qXa];refine SW.of ?_;simp(disch:=omega)only[go_sem];refine zF3.mk (i+1,n',k3,s3,nx3) ⟨by show i+1<=cs.length;omega,r3,m3,q3,.n,(hC.need oM).mono (by show 2+i<=1+(i+1);omega) (Nat.le_refl _)⟩ (by show cs.length-(i+1)<cs.length-i;omega) (qL.rd id ?_ ?_ rfl);all_goals simp(disch:=omega)only[go_sem,id]
 .simp only[rdX,rsA,iT,mcn,qG]at e9;refine SW.seq (SW.of ?_);simp(disch:=omega)only[go_sem,qWf,qXb,qWh,qXd,qWg,qXc,qWe,qXa,h3,e3',h8,e9];repeat refine aiG ?_
  refine SW.of ?_;simp(disch:=omega)only[go_sem,qWf,qXb,qWh,qXd,qWg,qXc,qWe,qXa];refine SW.of ?_;simp(disch:=omega)only[go_sem];refine zF3.mk (i+1,n',k3,s3,nx3) ⟨by show i+1<=cs.length;omega,r3,m3,q3,.u,(hC.need oM).mono (by show 2+i<=1+(i+1);omega) (Nat.le_refl _)⟩ (by show cs.length-(i+1)<cs.length-i;omega) (qL.rd id ?_ ?_ rfl);all_goals simp(disch:=omega)only[go_sem,id]
 .simp only[rdX,rsA,iT,mcn,qG]at e9;have lb:(beI 8 (m3:Int) 8).length=8:=qN;have e10:=qIm (b:=beI 8 (m3:Int) 8) oM;have o:qG4 ((beI 8 (m3:Int) 8),0,0):=⟨sM,by show(beI 8 (m3:Int) 8).length<1000000000;omega⟩;have e11:=wW (s:=(beI 8 (m3:Int) 8,0,0)) (k:=8) ⟨o,oM,oM⟩;have hr:∃p,qI (beI 8 (m3:Int) 8,0,0) 8=((m3:Int),(beI 8 (m3:Int) 8,p,0)):=by
   have A:At (beI 8 (m3:Int) 8) 0 (beI 8 (m3:Int) 8++[]):=⟨[],rfl,sM⟩;obtain⟨p,h,_⟩:∃p,qI (beI 8 (m3:Int) 8,0,0) 8=((m3:Int),(beI 8 (m3:Int) 8,p,0))/\At (beI 8 (m3:Int) 8) p []:=⟨_,At.uint A (.inl ⟨rfl,oM⟩)⟩;exact⟨p,h⟩
  obtain⟨p,hr⟩:=hr;rw[hr,show((8:Nat):Int)=8 from rfl]at e11;have cz:((0:Nat):Int)=0:=rfl;simp only[rdO,cz]at e10 e11;have nlt:¬ ((m3:Nat):Int)<n':=oM;generalize beI 8 (m3:Int) 8=B at *;refine SW.seq (SW.of ?_);simp(disch:=omega)only[go_sem,qWf,qXb,qWh,qXd,qWg,qXc,qWe,qXa,h3,e3',h8,e9];repeat refine aiG ?_
  refine SW.of ?_;simp(disch:=omega)only[go_sem,qWf,qXb,qWh,qXd,qWg,qXc,qWe,qXa,lb,h10,e10,h11,e11,nlt];refine SW.of ?_;simp(disch:=omega)only[go_sem];refine zF3.mk (i+1,(m3:Int),k3,s3,nx3) ⟨by show i+1<=cs.length;omega,r3,m3,q3,.w,(hC.need (need':=(m3:Int)) oM).mono (by show 2+i<=1+(i+1);omega) (Nat.le_refl _)⟩ (by show cs.length-(i+1)<cs.length-i;omega) (qL.rd id ?_ ?_ rfl);all_goals simp(disch:=omega)only[go_sem,id]
end Go.Eng
end
section
set_option maxRecDepth 20000
namespace Go.Eng
open List
open Go.MuLone
theorem jQm {P:Program}{G:Gl}{tab:Tab}{f:FuncId}(fn:Func)(hints:List (Nat×List Nat))(ac:AC)(rs:List (Nat×Option (Nat×Bool)))(ht:xQ P G tab){aS:List V}
  (h:SW tab G ac (qD 0 aS) (qD 0 []) (qZ rs 0 (λr o=>r=.t (.bool true)/\o=[])))
  (hf:P.funcs[f]?=some fn:=by kernel_rfl) (hb:fn.body=some (fn.body.getD .skip):=by kernel_rfl) (hann:ann P fn.ntmps hints (fn.body.getD .skip)=some ac:=by kernel_rfl) (hmx:P.follows .mixedOrders=true:=by kernel_rfl)
  (hrs:qMb P fn.results.toList=some rs:=by kernel_rfl) (hn:aS.length<=fn.ntmps:=by exact Nat.le_of_ble_eq_true (by kernel_rfl)):zJz P G f aS [] (.t (.bool true)) []:=jA1 hf hb hann hmx ht hrs hn (Nat.zero_le _) h
end Go.Eng
end
section
set_option maxRecDepth 100000
namespace Go.Eng
open List
open Go.Proofs Go.Proofs.YteglhhgmfnbalaaGreatDoor
theorem qRb (cs to:List UInt8)(hp:cs.length<=9223372036854775807/\to.length<=9223372036854775807):zJz Tryz.prog gl0 3 [.t (.sl (cs.map qA)),.t (.sl (to.map qA))] [] (.t (.bool true)) []:=jQm _ _ _ _ yGb.h (qTl yGb.t gl0  rfl rfl rfl rfl rfl rfl rfl rfl rfl rfl rfl cs to hp) (hann:=qFs.2)
end Go.Eng
end
