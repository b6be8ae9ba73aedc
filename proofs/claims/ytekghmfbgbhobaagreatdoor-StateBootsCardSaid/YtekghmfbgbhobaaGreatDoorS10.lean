/- A part of an abstract machine, its walks, their tie. -/
import Derived.Test.YtekghmfbgbhobaaGreatDoorS9
set_option linter.all false
section
namespace Go.Eng
variable {tab:Tab} {gl:Gl} {fs:Fs} {hs:Hs}
def AC.strict:AC→Bool
 | .seq a b=>a.strict&&b.strict
 | .cond _ a b=>a.strict&&b.strict
 | .condb _ _ _=>false
 | .block _ a=>a.strict
 | .loop a=>a.strict
 | _=>true
theorem qUs {κ:Type} : ∀ {ops:List zU} {nb:Nat} {fs:Fs} {hs:Hs} {acc:List (List Nat×List Nat)} {K:κ→Fs→Hs→List (List Nat×List Nat)→Prop},
  qZ9 tab gl ops nb fs hs acc (fun f g c => ∃ i,K i f g c) → ∃ i,qZ9 tab gl ops nb fs hs acc (K i)
 | [],_,_,_,_,_,h=>h
 | o::r,nb,fs,hs,acc,K,h=>by
  obtain⟨x,l,h1,h2⟩:=h;obtain⟨i,h3⟩:=qUs (ops:=r) h2;exact⟨i,x,l,h1,h3⟩
def jJx {ι κ:Type}(I:ι→Fs×Hs)(m:ι→Nat)(n:Nat)(Q:κ→qF0):Sum ι κ→qF0
 | .inl j,.normal,f,h=>m j<n∧qI f h (I j).1 (I j).2
 | .inl _,_,_,_=>False
 | .inr _,.normal,_,_=>False
 | .inr k,e,f,h=>Q k e f h
theorem zDl {a:AC} : ∀ {κ:Type} {fs:Fs} {hs:Hs} {Q:κ→qF0},a.strict=true→a.wp tab gl fs hs (fun e f h => ∃ i,Q i e f h) → ∃ i,a.wp tab gl fs hs (Q i):=by
 induction a with
 | skip=>intro κ fs hs Q _ hw;exact hw
 | ret=>intro κ fs hs Q _ hw;exact hw
 | exit id=>intro κ fs hs Q _ hw;exact hw
 | seq a b iha ihb=>
  intro κ fs hs Q hs' hw;simp only[AC.strict,Bool.and_eq_true] at hs';refine iha (Q:=fun i e f h=>match e with | .normal=>b.wp tab gl f h (Q i) | e=>Q i e f h) hs'.1 (zX (fun e f h hq=>?_) hw);cases e with
  | normal=>exact ihb hs'.2 hq
  | exit id=>exact hq
  | ret=>exact hq
 | cond c a b iha ihb=>
  intro κ fs hs Q hs' hw;simp only[AC.strict,Bool.and_eq_true] at hs';simp only[AC.wp,qIy] at hw ⊢;split at hw
  ·rename_i v b hv;cases b with
   | true=>obtain⟨i,h⟩:=iha hs'.1 (hw.1 rfl);exact⟨i,fun _=>h,(fun h=>by cases h)⟩
   | false=>obtain⟨i,h⟩:=ihb hs'.2 (hw.2 rfl);exact⟨i,(fun h=>by cases h),fun _=>h⟩
  ·exact hw.elim
 | condb c a b iha ihb=>intro κ fs hs Q hs' hw;cases hs'
 | block id a ih=>
  intro κ fs hs Q hs' hw;refine ih (Q:=fun i e f h=>match e with | .exit id'=>(if id'=id then Q i .normal f h else Q i (.exit id') f h) | e=>Q i e f h) hs' (zX (fun e f h hq=>?_) hw);cases e with
  | normal=>exact hq
  | exit id'=>
   simp only at hq ⊢;split
   ·rename_i h1;rw[if_pos h1] at hq;exact hq
   ·rename_i h1;rw[if_neg h1] at hq;exact hq
  | ret=>exact hq
 | loop a ih=>
  intro κ fs hs Q hs' hw;simp only[AC.strict] at hs';obtain⟨ι,I,m,i0,h0,hr⟩:=hw;have key : ∀ n i,m i=n → ∃ k,zJ9 (fun fs hs K=>a.wp tab gl fs hs K) (I i).1 (I i).2 (Q k):=by
   intro n
   induction n using Nat.strongRecOn with
   | _ n ihn=>
    intro i hi;obtain⟨z,hz⟩:=ih (Q:=jJx I m (m i) Q) hs' (zX (fun e f h hq=>by
     cases e with
     | normal=>obtain⟨j,hj⟩:=hq;exact⟨.inl j,hj⟩
     | exit id=>obtain⟨k,hk⟩:=hq;exact⟨.inr k,hk⟩
     | ret=>obtain⟨k,hk⟩:=hq;exact⟨.inr k,hk⟩) (hr i))
    cases z with
    | inr k=>
     refine⟨k,Unit,fun _=>I i,fun _=>0,(),qI.refl,fun _=>zX (fun e f h hq=>?_) hz⟩;cases e with
     | normal=>exact hq.elim
     | exit id=>exact hq
     | ret=>exact hq
    | inl j=>
     by_cases hlt:m j<m i
     ·obtain⟨k,ι2,I2,m2,j0,g0,gr⟩:=ihn (m j) (hi▸hlt) j rfl;refine⟨k,Option ι2,fun o=>match o with | none=>I i | some x=>I2 x,fun o=>match o with | none=>m2 j0+1 | some x=>m2 x,none,qI.refl,fun o=>?_⟩;cases o with
      | none=>
       refine zX (fun e f h hq=>?_) hz;cases e with
       | normal=>exact⟨some j0,Nat.lt_succ_self _,hq.2.trans g0⟩
       | exit id=>exact hq.elim
       | ret=>exact hq.elim
      | some x=>
       refine zX (fun e f h hq=>?_) (gr x);cases e with
       | normal=>obtain⟨y,h1,h2⟩:=hq;exact⟨some y,h1,h2⟩
       | exit id=>exact hq
       | ret=>exact hq
     ·refine ?_;have:a.wp tab gl (I i).1 (I i).2 (fun _ _ _=>False):=zX (fun e f h hq=>by
       cases e with
       | normal=>exact (hlt hq.1).elim
       | exit id=>exact hq
       | ret=>exact hq) hz
      have hk : ∃ _:κ,True:=by
       obtain⟨k,_⟩:=ih (κ:=κ) (Q:=fun _ _ _ _=>False) hs' (zX (fun e f h hq=>hq.elim) this);exact⟨k,trivial⟩
      obtain⟨k,_⟩:=hk;exact⟨k,Unit,fun _=>I i,fun _=>0,(),qI.refl,fun _=>zX (fun e f h hq=>hq.elim) this⟩
  obtain⟨k,ι2,I2,m2,j0,g0,gr⟩:=key _ i0 rfl;exact⟨k,ι2,I2,m2,j0,h0.trans g0,gr⟩
 | reg nb anc ops=>
  intro κ fs hs Q hs' hw;refine qUs (K:=fun i f g c=>(match anc with | none=>True | some l=>chk l c=true)∧Q i .normal f g) ?_;refine (?_ : ∀ {X Y:Fs→Hs→List (List Nat×List Nat)→Prop},(∀ f g c,X f g c→Y f g c)→qZ9 tab gl ops nb fs hs [] X→qZ9 tab gl ops nb fs hs [] Y) (fun f g c h=>?_) hw
  ·intro X Y h hw;have : ∀ (ops:List zU) (nb:Nat) (fs:Fs) (hs:Hs) (acc:List (List Nat×List Nat)),qZ9 tab gl ops nb fs hs acc X→qZ9 tab gl ops nb fs hs acc Y:=by
    intro ops
    induction ops with
    | nil=>intro nb fs hs acc hw;exact h _ _ _ hw
    | cons o r ih=>
     intro nb fs hs acc hw;obtain⟨x,l,h1,h2⟩:=hw;exact⟨x,l,h1,ih _ _ _ _ h2⟩
   exact this _ _ _ _ _ hw
  ·obtain⟨h1,i,h2⟩:=h;exact⟨i,h1,h2⟩
end Go.Eng
end
section
namespace Go.Eng
def zJh (ρ:Nat→Nat)(ks:List Nat)(v:Option V)(v':V):Prop:=v=some (v'.ren ρ)∧(v'.ids.all fun i=>ks.contains i)=true
def qWo (fs:Fs)(ρ:Nat→Nat)(ks:List Nat):Fs→Prop
 | []=>True
 | (t,v')::r=>zJh ρ ks (jU fs t) v'∧qWo fs ρ ks r
def obR (ρ:Nat→Nat)(ks:List Nat):Option Ob→Ob→Prop
 | some (.live z es wr full),.live z' es' wr' full'=>z=z'∧wr=wr'∧(full'=true→full=true)∧es=qF2 ρ es'∧((qOt es').all fun i=>ks.contains i)=true
 | some _,.dead=>True
 | _,_=>False
def jA1 (hs:Hs)(ρ:Nat→Nat)(ks:List Nat):Hs→Prop
 | []=>True
 | (i,o')::r=>obR ρ ks (jU hs (ρ i)) o'∧jA1 hs ρ ks r
def zHa (ρ:Nat→Nat)(old new:List Nat):Bool:=
 new.all (fun i=>(decide (i<100)&&ρ i==i)||(decide (100≤i)&&decide (100≤ρ i)))&&decide ((new.map ρ).Nodup)&&old.all fun k => !decide (k<100)||new.contains k
theorem qI.ren {fs fs':Fs}{hs ho:Hs}(ρ:Nat→Nat)(h1:qWo fs ρ (ho.map (·.1)) fs')(h2:jA1 hs ρ (ho.map (·.1)) ho)(h3:zHa ρ (hs.map (·.1)) (ho.map (·.1))=true):qI fs hs fs' ho:=by
 simp only[zHa,Bool.and_eq_true] at h3;obtain⟨⟨h4,h5⟩,h6⟩:=h3;have a1 : ∀ {fs':Fs},qWo fs ρ (ho.map (·.1)) fs'→qWp fs hs ρ [] (ho.map (·.1)) fs':=by
  intro fs'
  induction fs' with
  | nil=>intro _;trivial
  | cons p r ih=>
   obtain⟨t,v'⟩:=p;intro h;obtain⟨⟨g1,g2⟩,g3⟩:=h;refine⟨⟨_,g1,.inl ⟨.inl rfl,fun i hi=>?_⟩⟩,ih g3⟩;have:=List.all_eq_true.1 g2 i hi;simpa using this
 have a2 : ∀ {h':Hs},(∀ i∈h'.map (·.1),i∈ho.map (·.1))→jA1 hs ρ (ho.map (·.1)) h'→jA2 hs ρ (ho.map (·.1)) h':=by
  intro h'
  induction h' with
  | nil=>intro _ _;trivial
  | cons p r ih=>
   obtain⟨i,o'⟩:=p;intro hm h;obtain⟨g1,g2⟩:=h;have hi:=List.all_eq_true.1 h4 i (hm i sM);have hi':(i<100∧ρ i=i)∨(100≤i∧100≤ρ i):=by simpa using hi
   refine⟨⟨?_,fun h=>by rcases hi' with h' | h';exact h'.2;omega,fun h=>by rcases hi' with h' | h';omega;exact h'.2⟩,ih (fun j hj=>hm j (by simp at hj ⊢;exact .inr hj)) g2⟩;unfold obR at g1;split at g1
   ·rename_i z es wr full z' es' wr' full' hl;obtain⟨rfl,rfl,k1,k2,k3⟩:=g1;exact⟨_,hl,rfl,rfl,k1,.inl k2,fun j hj=>by have:=List.all_eq_true.1 k3 j hj;simpa using this⟩
   ·rename_i o hl;refine⟨_,hl,?_⟩;cases o<;>trivial
   ·exact g1.elim
 have:=qI.of (hs:=hs) (hv:=[]) (ho:=ho) (fs:=fs) (fs':=fs') ρ (a1 h1) (a2 (fun _ h=>h) h2) trivial sM (of_decide_eq_true h5) (fun k hk hlt=>by
  have:=List.all_eq_true.1 h6 k hk;simpa [hlt] using this)
 exact this
theorem zHy {fs:Fs}{ρ:Nat→Nat}{ks:List Nat}:qWo fs ρ ks []=True:=Eq.trans (Eq.refl _) rfl
theorem zDr {fs:Fs}{ρ:Nat→Nat}{ks:List Nat}{t:Nat}{v':V}{r:Fs}:qWo fs ρ ks ((t,v')::r)=(zJh ρ ks (jU fs t) v'∧qWo fs ρ ks r):=Eq.trans (Eq.refl _) rfl
theorem zJj {ρ:Nat→Nat}{ks:List Nat}{v v':V}:zJh ρ ks (some v) v'=(v=v'.ren ρ∧(v'.ids.all fun i=>ks.contains i)=true):=by
 simp[zJh]
theorem zJi {ρ:Nat→Nat}{ks:List Nat}{v':V}:zJh ρ ks none v'=False:=by simp[zJh]
theorem zPk {hs:Hs}{ρ:Nat→Nat}{ks:List Nat}:jA1 hs ρ ks []=True:=Eq.trans (Eq.refl _) rfl
theorem zKb {hs:Hs}{ρ:Nat→Nat}{ks:List Nat}{i:Nat}{o':Ob}{r:Hs}:jA1 hs ρ ks ((i,o')::r)=(obR ρ ks (jU hs (ρ i)) o'∧jA1 hs ρ ks r):=Eq.trans (Eq.refl _) rfl
theorem zRk {ρ:Nat→Nat}{ks:List Nat}{z z':Nat}{es es':List V}{wr wr' full full':Bool}:obR ρ ks (some (.live z es wr full)) (.live z' es' wr' full') =
  (z=z'∧wr=wr'∧(full'=true→full=true)∧es=qF2 ρ es'∧((qOt es').all fun i=>ks.contains i)=true):=Eq.trans (Eq.refl _) rfl
attribute [go_sem] zHy zDr zJj zJi zPk zKb zRk V.t.injEq T.int.injEq T.bool.injEq T.sl.injEq T.agg.injEq T.str.injEq V.ref.injEq V.bd.injEq V.sl.injEq V.agg.injEq V.fn.injEq List.cons.injEq
 List.all_nil List.contains_cons List.contains_nil Bool.or_false Bool.or_true Bool.true_or beq_self_eq_true eq_self implies_true imp_self Int.natCast_zero Int.natCast_one
end Go.Eng
end
section
namespace Go.Eng
def zW (x:UInt32):T:= .int .u32 x.toNat
def zV0 (x:UInt64):T:= .int .u64 x.toNat
theorem qKa (n:Int):IntKind.u8.wrap n=n%256:=by simp[IntKind.wrap,IntKind.bits,IntKind.signed]
theorem qPu (n:Int):IntKind.u32.wrap n=n%4294967296:=by simp[IntKind.wrap,IntKind.bits,IntKind.signed]
theorem qSm (n:Int):IntKind.u64.wrap n=n%18446744073709551616:=by simp[IntKind.wrap,IntKind.bits,IntKind.signed]
theorem zTy (n:Int):IntKind.i64.wrap n=if n%18446744073709551616 ≥ 9223372036854775808 then n%18446744073709551616-18446744073709551616 else n%18446744073709551616:=by
 simp[IntKind.wrap,IntKind.bits,IntKind.signed]
theorem xX {n:Int}(h : -9223372036854775808≤n∧n<9223372036854775808):IntKind.i64.wrap n=n:=by
 rw[zTy];split<;>omega
theorem qHv {n:Int}(h:0≤n∧n<18446744073709551616):IntKind.u64.wrap n=n:=by
 rw[qSm];omega
theorem zGh {n:Int}(h:0≤n∧n<4294967296):IntKind.u32.wrap n=n:=by
 rw[qPu];omega
theorem qD1 (x:UInt32):(BitVec.ofInt 32 (x.toNat:Int))=x.toBitVec:=by
 apply BitVec.eq_of_toNat_eq;simp
theorem qSl (z:UInt32):T.int .u32 (IntKind.u32.wrap (z.toBitVec.toNat:Int))=zW z:=by
 rw[qPu];have:=z.toNat_lt;unfold zW;rw[UInt32.toNat_toBitVec];congr 1;omega
theorem zH2 {x y:UInt32}:qCv .or (zW x) (zW y)=some (zW (x ||| y)):=by
 change some (T.int .u32 (IntKind.u32.wrap ((BitVec.ofInt 32 (x.toNat:Int) ||| BitVec.ofInt 32 (y.toNat:Int)).toNat:Int)))=_;rw[qD1,qD1,←UInt32.toBitVec_or,qSl]
theorem zDx {x y:UInt32}:qCv .and (zW x) (zW y)=some (zW (x &&& y)):=by
 change some (T.int .u32 (IntKind.u32.wrap ((BitVec.ofInt 32 (x.toNat:Int) &&& BitVec.ofInt 32 (y.toNat:Int)).toNat:Int)))=_;rw[qD1,qD1,←UInt32.toBitVec_and,qSl]
theorem zDy {x y:UInt32}:qCv .xor (zW x) (zW y)=some (zW (x ^^^ y)):=by
 change some (T.int .u32 (IntKind.u32.wrap ((BitVec.ofInt 32 (x.toNat:Int) ^^^ BitVec.ofInt 32 (y.toNat:Int)).toNat:Int)))=_;rw[qD1,qD1,←UInt32.toBitVec_xor,qSl]
theorem zDw {x y:UInt32}:qCv .add (zW x) (zW y)=some (zW (x+y)):=by
 change some (T.int .u32 (IntKind.u32.wrap ((x.toNat:Int)+(y.toNat:Int))))=_;rw[qPu];unfold zW;rw[UInt32.toNat_add];congr 2
theorem zJl {x:UInt32}:unT .xor (zW x)=some (zW (~~~ x)):=by
 change some (T.int .u32 (IntKind.u32.wrap ((BitVec.ofInt 32 (IntKind.max .u32) ^^^ BitVec.ofInt 32 (x.toNat:Int)).toNat:Int)))=_;have:BitVec.ofInt 32 (IntKind.max .u32)=BitVec.allOnes 32:=by decide
 rw[qD1,this,←qSl];congr 5
theorem qSx {x:UInt32}{k:IntKind}{n:Nat}(h:n<32):qCv .shr (zW x) (.int k n)=some (zW (x >>> UInt32.ofNat n)):=by
 change (if (n:Int)<0 then none else some (T.int .u32 ((x.toNat:Int).fdiv (2^min (n:Int).toNat 32))))=_;rw[if_neg oM];have hm:min (n:Int).toNat 32=n:=soM;rw[hm];unfold zW;rw[UInt32.toNat_shiftRight];have hn:(UInt32.ofNat n).toNat%32=n:=by
  rw[UInt32.toNat_ofNat_of_lt' (by simp[UInt32.size];omega)];omega
 rw[hn,Nat.shiftRight_eq_div_pow];congr 2;rw[Int.fdiv_eq_ediv_of_nonneg _ (by exact Int.pow_nonneg oM)]
 norm_cast
theorem qSw {x:UInt32}{k:IntKind}{n:Nat}(h:n<32):qCv .shl (zW x) (.int k n)=some (zW (x <<< UInt32.ofNat n)):=by
 change (if (n:Int)<0 then none else some (T.int .u32 (IntKind.u32.wrap ((x.toNat:Int)*2^min (n:Int).toNat 32))))=_;rw[if_neg oM];have hm:min (n:Int).toNat 32=n:=soM;rw[hm,qPu];unfold zW;rw[UInt32.toNat_shiftLeft];have hn:(UInt32.ofNat n).toNat%32=n:=by
  rw[UInt32.toNat_ofNat_of_lt' (by simp[UInt32.size];omega)];omega
 rw[hn,Nat.shiftLeft_eq];congr 2
theorem qXs {b:UInt8}:qHr .u32 [.t (qA b)] = .ret (.t (zW b.toUInt32),[]):=by
 change Q.ret (V.t (.int .u32 (IntKind.u32.wrap (b.toNat:Int))),([]:Wr))=_;have:=b.toNat_lt;rw[qPu];unfold zW;rw[UInt8.toNat_toUInt32];have:(b.toNat:Int)%4294967296=b.toNat:=oM;rw[this]
theorem zD7 {x:UInt32}:qHr .u8 [.t (zW x)] = .ret (.t (qA x.toUInt8),[]):=by
 change Q.ret (V.t (.int .u8 (IntKind.u8.wrap (x.toNat:Int))),([]:Wr))=_;rw[qKa];unfold qA;rw[UInt32.toNat_toUInt8];congr 4
theorem zD8 {x:UInt64}:qHr .u8 [.t (zV0 x)] = .ret (.t (qA x.toUInt8),[]):=by
 change Q.ret (V.t (.int .u8 (IntKind.u8.wrap (x.toNat:Int))),([]:Wr))=_;rw[qKa];unfold qA;rw[UInt64.toNat_toUInt8];congr 4
theorem zKr {x:UInt32}:(zW x).cells=[zW x]:=Eq.trans (Eq.refl _) rfl
theorem zKs {x:UInt64}:(zV0 x).cells=[zV0 x]:=Eq.trans (Eq.refl _) rfl
theorem zH5 {x:UInt8}:(qA x).cells=[qA x]:=Eq.trans (Eq.refl _) rfl
theorem zJp {x:UInt32}:(V.t (zW x)).cells=[V.t (zW x)]:=Eq.trans (Eq.refl _) rfl
theorem zJq {x:UInt64}:(V.t (zV0 x)).cells=[V.t (zV0 x)]:=Eq.trans (Eq.refl _) rfl
theorem zFr {x:UInt8}:(V.t (qA x)).cells=[V.t (qA x)]:=Eq.trans (Eq.refl _) rfl
theorem qOg : ∀ {bs:List UInt8},qG2 (bs.map fun b=>V.t (qA b))=some bs
 | []=>rfl
 | b::r=>by
  have ih:=qOg (bs:=r);simp only[List.map_cons];show (qG2 (r.map fun b=>V.t (qA b))).map (UInt8.ofNat (b.toNat:Int).toNat :: ·)=_;rw[ih];simp
theorem zXh {b:UInt8}:vO (.t (qA b))=some (b.toNat:Int):=Eq.trans (Eq.refl _) rfl
theorem jC0 {b:UInt32}:vO (.t (zW b))=some (b.toNat:Int):=Eq.trans (Eq.refl _) rfl
theorem jC1 {b:UInt64}:vO (.t (zV0 b))=some (b.toNat:Int):=Eq.trans (Eq.refl _) rfl
theorem jAq {b:UInt8}:(V.t (qA b)).plain=true:=Eq.trans (Eq.refl _) rfl
theorem jHj {b:UInt32}:(V.t (zW b)).plain=true:=Eq.trans (Eq.refl _) rfl
theorem jHk {b:UInt64}:(V.t (zV0 b)).plain=true:=Eq.trans (Eq.refl _) rfl
theorem zLm {b:UInt8}:(qA b).flat=true:=Eq.trans (Eq.refl _) rfl
theorem zQm {b:UInt32}:(zW b).flat=true:=Eq.trans (Eq.refl _) rfl
theorem zQn {b:UInt64}:(zV0 b).flat=true:=Eq.trans (Eq.refl _) rfl
attribute [go_sem] zXh jC0 jC1 jAq jHj jHk zLm zQm zQn zH5 zKr zKs zFr zJp zJq qXs zD7 zD8 zH2 zDx zDy zDw zJl
end Go.Eng
end
section
namespace Go.Eng
def d8:T→Option UInt8
 | .int .u8 n=>if 0≤n∧n<256 then some (UInt8.ofNat n.toNat) else none
 | _=>none
def d32:T→Option UInt32
 | .int .u32 n=>if 0≤n∧n<4294967296 then some (UInt32.ofNat n.toNat) else none
 | _=>none
def dL {α:Type}(d:T→Option α):List T→Option (List α)
 | []=>some []
 | x::r=>(d x).bind fun y=>(dL d r).map (y :: ·)
def dSl {α:Type}(d:T→Option α):T→Option (List α)
 | .sl es=>dL d es
 | _=>none
theorem zD9 {x:UInt8}:d8 (qA x)=some x:=by
 have:=x.toNat_lt;unfold d8 qA;simp only;rw[if_pos oM];simp
theorem zK1 {x:UInt32}:d32 (zW x)=some x:=by
 have:=x.toNat_lt;unfold d32 zW;simp only;rw[if_pos oM];simp
theorem zUg {α:Type}{d:T→Option α}{e:α→T}(hd : ∀ x,d (e x)=some x) : ∀ {xs:List α},dL d (xs.map e)=some xs
 | []=>rfl
 | x::r=>by simp[dL,hd,zUg hd]
def bsT (bs:List UInt8):T:= .sl (bs.map qA)
def dBs (t:T):Option (List UInt8):=dSl d8 t
theorem zAl {bs:List UInt8}:dBs (.sl (bs.map qA))=some bs:=zUg (fun _=>zD9)
end Go.Eng
end
section
namespace Go.Eng
variable {cx:Cx} {β:Nat→Option BI} {F:Nat→Prop} {a:Act} {w:World}
theorem qI.freeze {fs:Fs}{hs:Hs}{fz:List Nat}{fw:Wr}{l:List Nat}(h:(qXy fz).run (jU hs)=some (fw,l)):qI fs hs fs (qZ8 hs fw):=by
 intro cx β F a w R;obtain⟨F1,R1,_⟩:=Rel.freezeAll h R (fun id _=> .inl rfl);exact⟨β,F1,by rw[qOw];exact R1⟩
def rdL (g:V→Q V):List V→Q (List V)
 | []=> .ret []
 | c::r=>(g c).bind fun x=>(rdL g r).bind fun y=> .ret (x::y)
def rdV:Nat→V→Q V
 | n+1,.sl id off len=> .get id fun
  | .live _ _ false _=>(zM (n+1) (.sl id off len)).bind fun p=>Q.assert (p.2=[]) (.ret p.1)
  | _=> .ret (.sl id off len)
 | n+1,.agg cs=>(rdL (rdV n) cs).bind fun p=> .ret (V.mk p)
 | n+1,.fn f cs=>(rdL (rdV n) cs).bind fun p=> .ret (.fn f p)
 | _,v=> .ret v
def zPh (es:List V):Q (List V):=
 match qFg es with
 | some _=> .ret es
 | none=>rdL (rdV 4) es
theorem qN1 {hm:Nat→Option Ob}{g:V→Q V} : ∀ {cs cs':List V} {l:List Nat},(rdL g cs).run hm=some (cs',l)→
  cs'.length=cs.length ∧ ∀ (i:Nat) (c c':V),cs[i]?=some c→cs'[i]?=some c' → ∃ li,(g c).run hm=some (c',li)
 | [],cs',l,h=>by
  obtain⟨e,_⟩:=qE h;cases e;exact⟨rfl,by intro i c c' h;simp at h⟩
 | c::r,cs',l,h=>by
  simp only[rdL] at h;obtain⟨x,l1,l2,hx,h,_⟩:=zB h;obtain⟨y,l3,l4,hy,h,_⟩:=zB h;obtain⟨e,_⟩:=qE h;cases e;obtain⟨g1,g2⟩:=qN1 hy;refine⟨by simp[g1],fun i a b ha hb=>?_⟩;cases i with
  | zero=>simp at ha hb;subst ha hb;exact⟨_,hx⟩
  | succ i=>exact g2 i a b (by simpa using ha) (by simpa using hb)
theorem qHo {fm:Nat→Option V}{hm:Nat→Option Ob}(R:Rel cx β F fm hm a w) : ∀ {n:Nat} {v v':V} {l:List Nat} {x:Value},(rdV n v).run hm=some (v',l)→qV β F w v x→qV β F w v' x
 | 0,v,v',l,x,h,hx=>by
  have h':(Q.ret v).run hm=some (v',l):=by cases v<;>exact h
  obtain⟨e,_⟩:=qE h';cases e;exact hx
 | n+1,v,v',l,x,h,hx=>by
  cases v with
  | sl id off len=>
   simp only[rdV] at h;obtain⟨o,l',ho,h2,_⟩:=yZ h;have keep:(Q.ret (V.sl id off len)).run hm=some (v',l')→qV β F w v' x:=by
    intro h3;obtain⟨e,_⟩:=qE h3;cases e;exact hx
   cases o with
   | dead=>exact keep h2
   | live z es wr full=>
    cases wr with
    | true=>exact keep h2
    | false=>
     obtain⟨p,l1,l2,hp,h3,_⟩:=zB h2;obtain⟨hp2,h3⟩:=qM h3;obtain⟨e,_⟩:=qE h3;cases e;obtain⟨p1,p2⟩:=p;simp only at hp2 ⊢;subst hp2;have:=wN R hp hx (fz':=[]) sM;rw[qX0] at this;exact this
  | agg cs=>
   simp only[rdV] at h;obtain⟨p,l1,l2,hp,h,_⟩:=zB h;obtain⟨e,_⟩:=qE h;cases e;obtain⟨g1,g2⟩:=qN1 hp;obtain⟨us,rfl,k1,k2,k3⟩:=hx.agg_inv;refine qV.mk (by rw[k1,g1]) k2 (fun i c' u hc' hu=>?_);have hi:i<cs.length:=by rw[←g1];exact (List.getElem?_eq_some_iff.1 hc').1
   obtain⟨li,m1⟩:=g2 i cs[i] c' (by simp[hi]) hc';exact qHo R m1 (k3 i cs[i] u (by simp[hi]) hu)
  | fn f cs=>
   simp only[rdV] at h;obtain⟨p,l1,l2,hp,h,_⟩:=zB h;obtain⟨e,_⟩:=qE h;cases e;obtain⟨g1,g2⟩:=qN1 hp;cases hx with
   | fn _ _ us k1 k3=>
    refine .fn f _ us (by rw[k1,g1]) (fun i c' u hc' hu=>?_);have hi:i<cs.length:=by rw[←g1];exact (List.getElem?_eq_some_iff.1 hc').1
    obtain⟨li,m1⟩:=g2 i cs[i] c' (by simp[hi]) hc';exact qHo R m1 (k3 i cs[i] u (by simp[hi]) hu)
  | t y=>obtain⟨e,_⟩:=qE (x:=V.t y) h;cases e;exact hx
  | nil=>obtain⟨e,_⟩:=qE (x:=V.nil) h;cases e;exact hx
  | ro y=>obtain⟨e,_⟩:=qE (x:=V.ro y) h;cases e;exact hx
  | ref i j k=>obtain⟨e,_⟩:=qE (x:=V.ref i j k) h;cases e;exact hx
  | bd g i j k=>obtain⟨e,_⟩:=qE (x:=V.bd g i j k) h;cases e;exact hx
  | bq=>obtain⟨e,_⟩:=qE (x:=V.bq) h;cases e;exact hx
  | tup y=>obtain⟨e,_⟩:=qE (x:=V.tup y) h;cases e;exact hx
theorem zR1 {fm:Nat→Option V}{hm:Nat→Option Ob}(R:Rel cx β F fm hm a w){n:Nat}{v v':V}{l:List Nat}(h:(rdV n v).run hm=some (v',l))(hc : ∀ (j:Nat) (y:V),v.cells[j]?=some y → ∃ u,qV β F w y u∧u.oneCell'=true) :
  v'.cells.length=v.cells.length ∧ ∀ (j:Nat) (y y':V) (u:Value),v.cells[j]?=some y→v'.cells[j]?=some y'→qV β F w y u→u.oneCell'=true→qV β F w y' u:=by
 have one:v.cells=[v]→v'.cells.length=v.cells.length ∧ ∀ (j:Nat) (y y':V) (u:Value),v.cells[j]?=some y→v'.cells[j]?=some y'→qV β F w y u→u.oneCell'=true→qV β F w y' u:=by
  intro hv;obtain⟨u0,h1,h2⟩:=hc 0 v (by rw[hv];rfl);have hv':v'.cells=[v']:=(qHo R h h1).one_cells h2;rw[hv,hv'];refine⟨rfl,fun j y y' u hy hy' hr ho=>?_⟩;cases j with
  | zero=>simp at hy hy';subst hy hy';exact qHo R h hr
  | succ j=>simp at hy
 have same:v'=v→v'.cells.length=v.cells.length ∧ ∀ (j:Nat) (y y':V) (u:Value),v.cells[j]?=some y→v'.cells[j]?=some y'→qV β F w y u→u.oneCell'=true→qV β F w y' u:=by
  rintro rfl;refine⟨rfl,fun j y y' u hy hy' hr _=>?_⟩;rw[hy] at hy';cases hy';exact hr
 cases v with
 | agg cs=>
  cases n with
  | zero=>obtain⟨e,_⟩:=qE (x:=V.agg cs) h;exact same e
  | succ n=>
   simp only[rdV] at h;obtain⟨p,l1,l2,hp,h,_⟩:=zB h;obtain⟨e,_⟩:=qE h;cases e;obtain⟨g1,g2⟩:=qN1 hp;rw[qR9];refine⟨g1,fun j y y' u hy hy' hr _=>?_⟩;obtain⟨li,m1⟩:=g2 j y y' hy hy';exact qHo R m1 hr
 | t y=>
  have h':(Q.ret (V.t y)).run hm=some (v',l):=by cases n<;>exact h
  obtain⟨e,_⟩:=qE h';exact same e
 | sl id off len=>exact one rfl
 | fn f cs=>exact one rfl
 | nil=>exact one rfl
 | ro y=>exact one rfl
 | ref i j k=>exact one rfl
 | bd g i j k=>exact one rfl
 | bq=>exact one rfl
 | tup y=>exact one rfl
theorem qW3 {fm:Nat→Option V}{hm:Nat→Option Ob}(R:Rel cx β F fm hm a w){es es':List V}{l:List Nat}(h:(zPh es).run hm=some (es',l)){sz:Nat}{c:Array Value}(hh:yS β F w es sz c):es'.length=es.length∧yS β F w es' sz c:=by
 unfold zPh at h;split at h
 ·obtain⟨e,_⟩:=qE h;cases e;exact⟨rfl,hh⟩
 ·obtain⟨g1,g2⟩:=qN1 h;refine⟨g1,fun i x hx=>?_⟩;have hi:i<es.length:=by rw[←g1];exact (List.getElem?_eq_some_iff.1 hx).1
  obtain⟨li,m1⟩:=g2 i es[i] x (by simp[hi]) hx;obtain⟨k1,k2⟩:=hh i es[i] (by simp[hi]);obtain⟨q1,q2⟩:=zR1 R m1 (fun j y hy=>let ⟨u,_,b,d⟩:=k2 j y hy;⟨u,b,d⟩);refine⟨q1.trans k1,fun j y' hy'=>?_⟩;have hj:j<es[i].cells.length:=by rw[←q1];exact (List.getElem?_eq_some_iff.1 hy').1
  obtain⟨u,hu,hr,ho⟩:=k2 j (es[i].cells[j]'hj) (by simp[hj]);exact⟨u,hu,q2 j (es[i].cells[j]'hj) y' u (by simp[hj]) hy' hr ho,ho⟩
theorem qTq {hm:Nat→Option Ob}{es es':List V}{l:List Nat}(h:(zPh es).run hm=some (es',l)):es'.length=es.length:=by
 unfold zPh at h;split at h
 ·obtain⟨e,_⟩:=qE h;cases e;rfl
 ·exact (qN1 h).1
end Go.Eng
end
section
namespace Go.Eng
variable {cx:Cx} {β:Nat→Option BI} {F:Nat→Prop} {a:Act} {w:World}
mutual
def vEq (ρ:Nat→Nat)(vt ko:List Nat):V→V→Prop
 | .nil,.nil=>True
 | .nil,.t x=>x = .sl []
 | .nil,.sl id off len=>(vt.contains id=true∧off=0)∧len=0
 | .agg cs,.agg cs'=>qYr ρ vt ko cs cs'
 | .agg cs,.t (.agg ts)=>qYr ρ vt ko cs (ts.map .t)
 | .fn f cs,.fn f' cs'=>f=f'∧qYr ρ vt ko cs cs'
 | v,v'=>v=v'.ren ρ∧(v'.ids.all fun i=>ko.contains i)=true
def qYr (ρ:Nat→Nat)(vt ko:List Nat):List V→List V→Prop
 | [],[]=>True
 | c::r,c'::r'=>vEq ρ vt ko c c'∧qYr ρ vt ko r r'
 | _,_=>False
end
theorem qHt {ρ:Nat→Nat}{vt ko:List Nat} : ∀ {cs cs':List V},qYr ρ vt ko cs cs'→cs'.length=cs.length ∧ ∀ (i:Nat) (c c':V),cs[i]?=some c→cs'[i]?=some c'→vEq ρ vt ko c c'
 | [],[],_=>⟨rfl,by intro i c c' h;simp at h⟩
 | [],_::_,h=>by simp[qYr] at h
 | _::_,[],h=>by simp[qYr] at h
 | c::r,c'::r',h=>by
  simp only[qYr] at h;obtain⟨h1,h2⟩:=h;obtain⟨g1,g2⟩:=qHt h2;refine⟨by simp[g1],fun i a b ha hb=>?_⟩;cases i with
  | zero=>simp at ha hb;subst ha hb;exact h1
  | succ i=>exact g2 i a b (by simpa using ha) (by simpa using hb)
structure jBd (ρ:Nat→Nat) (vt ko:List Nat) (β β':Nat→Option BI):Prop where
 o : ∀ i,i∈ko→β' i=β (ρ i)
 v : ∀ i,i∈vt → ∃ z,β' i=some ⟨none,z,0⟩
theorem qHu {ρ:Nat→Nat}{vt ko:List Nat}{β β':Nat→Option BI}(N:jBd ρ vt ko β β'){v':V}{x:Value}(hx:qV β F w (v'.ren ρ) x)(h:(v'.ids.all fun i=>ko.contains i)=true):qV β' F w v' x:=by
 have h1:=hx.unren (ρ:=ρ) rfl;refine h1.sub (fun i hi bi hb=>?_);have:=List.all_eq_true.1 h i hi;rw[N.o i (by simpa using this)];exact hb
theorem qPj {ρ:Nat→Nat}{vt ko:List Nat}{β β':Nat→Option BI}(N:jBd ρ vt ko β β'){v:V}{x:Value}(hx:qV β F w v x) : ∀ {v':V},vEq ρ vt ko v v'→qV β' F w v' x:=by
 have aggc : ∀ {cs cs':List V} {vs:Array Value},vs.size=cs.length→(∀ u∈vs,u.oneCell'=true)→(∀ (i:Nat) (c:V) (u:Value),cs[i]?=some c→vs[i]?=some u → ∀ {v':V},vEq ρ vt ko c v'→qV β' F w v' u)→
   qYr ρ vt ko cs cs'→vs.size=cs'.length ∧ ∀ (i:Nat) (c:V) (u:Value),cs'[i]?=some c→vs[i]?=some u→qV β' F w c u:=by
  intro cs cs' vs hl _ ih h;obtain⟨g1,g2⟩:=qHt h;refine⟨by rw[hl,g1],fun i c u hc hu=>?_⟩;have hi:i<cs.length:=by rw[←g1];exact (List.getElem?_eq_some_iff.1 hc).1
  exact ih i cs[i] u (by simp[hi]) hu (g2 i cs[i] c (by simp[hi]) hc)
 induction hx with
 | @t y z hy=>
  intro v' h;have h':V.t y=v'.ren ρ∧(v'.ids.all fun i=>ko.contains i)=true:=by cases v'<;>(try exact h)<;>(rename_i q;cases q<;>exact h)
  exact qHu N (by rw[←h'.1];exact .t hy) h'.2
 | nil=>
  intro v' h;cases v' with
  | nil=>exact .nil
  | t y=>simp only[vEq] at h;subst h;exact .t .nil
  | sl id off len=>
   simp only[vEq] at h;obtain⟨⟨h1,rfl⟩,rfl⟩:=h;obtain⟨z,hz⟩:=N.v id (by simpa using h1);exact .slv id z 0 hz
  | _=>simp[vEq,V.ren] at h
 | ref id i f b sz room hb=>
  intro v' h;have h':V.ref id i f=v'.ren ρ∧(v'.ids.all fun i=>ko.contains i)=true:=by cases v'<;>(try exact h)<;>(rename_i q;cases q<;>exact h)
  exact qHu N (by rw[←h'.1];exact .ref id i f b sz room hb) h'.2
 | bd g id i f b sz room hb=>
  intro v' h;have h':V.bd g id i f=v'.ren ρ∧(v'.ids.all fun i=>ko.contains i)=true:=by cases v'<;>(try exact h)<;>(rename_i q;cases q<;>exact h)
  exact qHu N (by rw[←h'.1];exact .bd g id i f b sz room hb) h'.2
 | bq b=>
  intro v' h;have h':V.bq=v'.ren ρ∧(v'.ids.all fun i=>ko.contains i)=true:=by cases v'<;>(try exact h)<;>(rename_i q;cases q<;>exact h)
  exact qHu N (by rw[←h'.1];exact .bq b) h'.2
 | ro cs a news ha hn h1 hF hw hh=>
  intro v' h;have h':V.ro cs=v'.ren ρ∧(v'.ids.all fun i=>ko.contains i)=true:=by cases v'<;>(try exact h)<;>(rename_i q;cases q<;>exact h)
  exact qHu N (by rw[←h'.1];exact .ro cs a news ha hn h1 hF hw hh) h'.2
 | sl id off len cap b sz room a hb hlc hr ha hs=>
  intro v' h;have h':V.sl id off len=v'.ren ρ∧(v'.ids.all fun i=>ko.contains i)=true:=by cases v'<;>(try exact h)<;>(rename_i q;cases q<;>exact h)
  exact qHu N (by rw[←h'.1];exact .sl id off len cap b sz room a hb hlc hr ha hs) h'.2
 | slv id sz room hb=>
  intro v' h;have h':V.sl id 0 0=v'.ren ρ∧(v'.ids.all fun i=>ko.contains i)=true:=by cases v'<;>(try exact h)<;>(rename_i q;cases q<;>exact h)
  exact qHu N (by rw[←h'.1];exact .slv id sz room hb) h'.2
 | agg cs vs hl h1 hh ih=>
  intro v' h;cases v' with
  | agg cs'=>
   simp only[vEq] at h;obtain⟨g1,g2⟩:=aggc hl h1 ih h;exact .agg cs' vs g1 h1 g2
  | t y=>
   cases y with
   | agg ts=>
    simp only[vEq] at h;obtain⟨g1,g2⟩:=aggc hl h1 ih h;refine .t (.agg ts vs (by simpa using g1) h1 (fun i c u hc hu=>?_));have:=g2 i (.t c) u (by rw[List.getElem?_map,hc];rfl) hu;cases this with
    | t h=>exact h
   | _=>simp[vEq,V.ren] at h
  | _=>simp[vEq,V.ren] at h
 | tup cs vs hl hh ih=>
  intro v' h;have h':V.tup cs=v'.ren ρ∧(v'.ids.all fun i=>ko.contains i)=true:=by cases v'<;>(try exact h)<;>(rename_i q;cases q<;>exact h)
  exact qHu N (by rw[←h'.1];exact .tup cs vs hl hh) h'.2
 | fn f cs vs hl hh ih=>
  intro v' h;cases v' with
  | fn f' cs'=>
   simp only[vEq] at h;obtain⟨rfl,h⟩:=h;obtain⟨g1,g2⟩:=qHt h;refine .fn f cs' vs (by rw[hl,g1]) (fun i c u hc hu=>?_);have hi:i<cs.length:=by rw[←g1];exact (List.getElem?_eq_some_iff.1 hc).1
   exact ih i cs[i] u (by simp[hi]) hu (g2 i cs[i] c (by simp[hi]) hc)
  | t y=>cases y<;>simp[vEq,V.ren] at h
  | _=>simp[vEq,V.ren] at h
theorem qTd {v y:V}{j:Nat}(hy:v.cells[j]?=some y) : ∀ r∈y.ids,r∈v.ids:=by
 intro r hr;cases v with
 | agg cs=>simp only[V.ids];exact kN (List.mem_of_getElem? hy) hr
 | t t=>
  obtain⟨c,_,rfl⟩:=xN hy;simp[V.ids] at hr
 | _=>
  simp only[V.cells] at hy;cases j with
  | zero=>simp at hy;subst hy;exact hr
  | succ j=>simp at hy
theorem zOz {ρ:Nat→Nat}{vt ko:List Nat}{β β':Nat→Option BI}(N:jBd ρ vt ko β β'){v v':V}(h:vEq ρ vt ko v v') :
  v'.cells.length=v.cells.length ∧ ∀ (j:Nat) (y y':V),v.cells[j]?=some y→v'.cells[j]?=some y' → ∀ x,qV β F w y x→qV β' F w y' x:=by
 have ren:v=v'.ren ρ∧(v'.ids.all fun i=>ko.contains i)=true→v'.cells.length=v.cells.length ∧ ∀ (j:Nat) (y y':V),v.cells[j]?=some y→v'.cells[j]?=some y' → ∀ x,qV β F w y x→qV β' F w y' x:=by
  rintro⟨rfl,hall⟩;rw[qIw,zN];refine⟨sM,fun j y y' hy hy' x hx=>?_⟩;rw[List.getElem?_map,hy'] at hy;cases hy;refine qHu N hx (List.all_eq_true.2 (fun r hr=>?_));exact List.all_eq_true.1 hall r (qTd hy' r hr)
 have one:v.cells=[v]→v'.cells=[v']→v'.cells.length=v.cells.length ∧ ∀ (j:Nat) (y y':V),v.cells[j]?=some y→v'.cells[j]?=some y' → ∀ x,qV β F w y x→qV β' F w y' x:=by
  intro e1 e2;rw[e1,e2];refine⟨rfl,fun j y y' hy hy' x hx=>?_⟩;cases j with
  | zero=>simp at hy hy';subst hy hy';exact qPj N hx h
  | succ j=>simp at hy
 cases v with
 | nil=>
  cases v' with
  | t y=>simp only[vEq] at h;subst h;exact one rfl rfl
  | agg cs=>simp[vEq,V.ren] at h
  | _=>exact one rfl rfl
 | agg cs=>
  cases v' with
  | agg cs'=>
   simp only[vEq] at h;obtain⟨g1,g2⟩:=qHt h;exact⟨g1,fun j y y' hy hy' x hx=>qPj N hx (g2 j y y' hy hy')⟩
  | t y=>
   cases y with
   | agg ts=>
    simp only[vEq] at h;obtain⟨g1,g2⟩:=qHt h;exact⟨g1,fun j y y' hy hy' x hx=>qPj N hx (g2 j y y' hy hy')⟩
   | _=>simp[vEq,V.ren] at h
  | _=>simp[vEq,V.ren] at h
 | fn f cs=>
  cases v' with
  | fn f' cs'=>exact one rfl rfl
  | t y=>cases y<;>simp[vEq,V.ren] at h
  | _=>simp[vEq,V.ren] at h
 | t y=>exact ren (by cases v'<;>(try exact h)<;>(rename_i q;cases q<;>exact h))
 | ref i j k=>exact ren (by cases v'<;>(try exact h)<;>(rename_i q;cases q<;>exact h))
 | bd g i j k=>exact ren (by cases v'<;>(try exact h)<;>(rename_i q;cases q<;>exact h))
 | bq=>exact ren (by cases v'<;>(try exact h)<;>(rename_i q;cases q<;>exact h))
 | sl i j k=>exact ren (by cases v'<;>(try exact h)<;>(rename_i q;cases q<;>exact h))
 | ro cs=>exact ren (by cases v'<;>(try exact h)<;>(rename_i q;cases q<;>exact h))
 | tup cs=>exact ren (by cases v'<;>(try exact h)<;>(rename_i q;cases q<;>exact h))
def zW5 (ρ:Nat→Nat)(vt ko:List Nat)(u es':List V):Prop:=
 match qFg u with
 | some _=>u=qF2 ρ es'∧((qOt es').all fun i=>ko.contains i)=true
 | none=>qYr ρ vt ko u es'
theorem zIa {ρ:Nat→Nat}{vt ko:List Nat}{β β':Nat→Option BI}(N:jBd ρ vt ko β β'){u es':List V}(h:zW5 ρ vt ko u es'){sz:Nat}{c:Array Value}(hh:yS β F w u sz c):yS β' F w es' sz c:=by
 unfold zW5 at h;split at h
 ·obtain⟨rfl,h⟩:=h;have h1:=hh.unren;intro i x hx;obtain⟨k1,k2⟩:=h1 i x hx;refine⟨k1,fun j y hy=>?_⟩;obtain⟨u,g1,g2,g3⟩:=k2 j y hy;refine⟨u,g1,g2.sub (fun r hr bi hb=>?_),g3⟩;have:=List.all_eq_true.1 h r (kN (List.mem_of_getElem? hx) (qTd hy r hr));rw[N.o r (by simpa using this)];exact hb
 ·obtain⟨g1,g2⟩:=qHt h;intro i x hx;have hi:i<u.length:=by rw[←g1];exact (List.getElem?_eq_some_iff.1 hx).1
  obtain⟨k1,k2⟩:=hh i u[i] (by simp[hi]);obtain⟨q1,q2⟩:=zOz (F:=F) (w:=w) N (g2 i u[i] x (by simp[hi]) hx);refine⟨q1.trans k1,fun j y' hy'=>?_⟩;have hj:j<u[i].cells.length:=by rw[←q1];exact (List.getElem?_eq_some_iff.1 hy').1
  obtain⟨q,hu,hr,ho⟩:=k2 j (u[i].cells[j]'hj) (by simp[hj]);exact⟨q,hu,q2 j (u[i].cells[j]'hj) y' (by simp[hj]) hy' q hr,ho⟩
theorem zEa {ρ:Nat→Nat}{vt ko:List Nat}{u es':List V}(h:zW5 ρ vt ko u es'):es'.length=u.length:=by
 unfold zW5 at h;split at h
 ·rw[h.1,zN];simp
 ·exact (qHt h).1
def zJe (hs:Hs)(ρ:Nat→Nat)(vt ko:List Nat)(v:Option V)(v':V):Prop:=
 match v with
 | some v=>(rdV 4 v).wp hs (fun u _=>vEq ρ vt ko u v')
 | none=>False
def qKv (fs:Fs)(hs:Hs)(ρ:Nat→Nat)(vt ko:List Nat):Fs→Prop
 | []=>True
 | (t,v')::r=>zJe hs ρ vt ko (jU fs t) v'∧qKv fs hs ρ vt ko r
def obC (hs:Hs)(ρ:Nat→Nat)(vt ko:List Nat):Option Ob→Ob→Prop
 | some (.live z es wr full),.live z' es' wr' full'=>z=z'∧wr=wr'∧(full'=true→full=true)∧(zPh es).wp hs (fun u _=>zW5 ρ vt ko u es')
 | some _,.dead=>True
 | _,_=>False
def zPd (hs:Hs)(ρ:Nat→Nat)(vt ko:List Nat):Hs→Prop
 | []=>True
 | (i,o')::r=>obC hs ρ vt ko (jU hs (ρ i)) o'∧zPd hs ρ vt ko r
def zO2:Hs→Bool
 | []=>true
 | (i,.live _ [] true _)::r=>decide (100≤i)&&zO2 r
 | _=>false
def zRh (ρ:Nat→Nat)(old vt new:List Nat):Bool:=zHa ρ old new&&vt.all fun i => !new.contains i
theorem qKv.get {fs:Fs}{hs:Hs}{ρ:Nat→Nat}{vt ko:List Nat} : ∀ {fs':Fs},qKv fs hs ρ vt ko fs' → ∀ t v',jU fs' t=some v'→zJe hs ρ vt ko (jU fs t) v'
 | [],_,t,v',h=>by cases h
 | (k,u)::r,hw,t,v',h=>by
  simp only[jU] at h;split at h
  ·cases h;subst_vars;exact hw.1
  ·exact qKv.get hw.2 t v' h
theorem zPd.get {hs:Hs}{ρ:Nat→Nat}{vt ko:List Nat} : ∀ {hs':Hs},zPd hs ρ vt ko hs' → ∀ i o',jU hs' i=some o'→obC hs ρ vt ko (jU hs (ρ i)) o'
 | [],_,t,v',h=>by cases h
 | (k,u)::r,hw,t,v',h=>by
  simp only[jU] at h;split at h
  ·cases h;subst_vars;exact hw.1
  ·exact zPd.get hw.2 t v' h
theorem zO2.get : ∀ {hs':Hs},zO2 hs'=true → ∀ i o',jU hs' i=some o'→(∃ z full,o' = .live z [] true full)∧100≤i
 | [],_,t,v',h=>by cases h
 | (k,u)::r,hw,t,v',h=>by
  cases u with
  | dead=>simp[zO2] at hw
  | live z es wr full=>
   cases es with
   | cons _ _=>simp[zO2] at hw
   | nil=>
    cases wr with
    | false=>simp[zO2] at hw
    | true=>
     simp only[zO2,Bool.and_eq_true,decide_eq_true_eq] at hw;simp only[jU] at h;split at h
     ·cases h;subst_vars;exact⟨⟨z,full,rfl⟩,hw.1⟩
     ·exact zO2.get hw.2 t v' h
theorem qI.cv0 {fs fs':Fs}{hs hv ho:Hs}(ρ:Nat→Nat)(h1:qKv fs hs ρ (hv.map (·.1)) (ho.map (·.1)) fs')(h2:zPd hs ρ (hv.map (·.1)) (ho.map (·.1)) ho)(h3:zO2 hv=true)(h4:zRh ρ (hs.map (·.1)) (hv.map (·.1)) (ho.map (·.1))=true):qI fs hs fs' (hv++ho):=by
 simp only[zRh,zHa,Bool.and_eq_true] at h4;obtain⟨⟨⟨hnum,hinj⟩,hkeep⟩,hdis⟩:=h4;intro cx β F a w R
 let β':Nat→Option BI:=fun i=>match jU hv i with
  | some o=>some ⟨none,o.z,0⟩
  | none=>match jU ho i with
   | some _=>β (ρ i)
   | none=>none
 have bv : ∀ i o,jU hv i=some o→β' i=some ⟨none,o.z,0⟩:=fun i o h=>by simp[β',h]
 have hvo : ∀ i,i∈ho.map (·.1)→jU hv i=none:=by
  intro i hi;cases h:jU hv i with
  | none=>rfl
  | some o=>
   have:=List.all_eq_true.1 hdis i (qAw h);exact absurd hi (by simpa using this)
 have bo : ∀ i,i∈ho.map (·.1)→β' i=β (ρ i):=by
  intro i hi;obtain⟨o,h⟩:=qFs hi;simp[β',hvo i hi,h]
 have N:jBd ρ (hv.map (·.1)) (ho.map (·.1)) β β':=⟨bo,fun i hi=>by
  obtain⟨o,h⟩:=qFs hi;exact⟨o.z,bv i o h⟩⟩
 have inj : ∀ i j,i∈ho.map (·.1)→j∈ho.map (·.1)→ρ i=ρ j→i=j:=by
  intro i j hi hj e;obtain⟨m,hm⟩:=List.getElem?_of_mem hi;obtain⟨n,hn⟩:=List.getElem?_of_mem hj;have hml:m<(ho.map (·.1)).length:=(List.getElem?_eq_some_iff.1 hm).1;have hnl:n<(ho.map (·.1)).length:=(List.getElem?_eq_some_iff.1 hn).1;have:=qD0 (of_decide_eq_true hinj) (i:=m) (j:=n) (by simpa using hml) (by simpa using hnl) (by
   have a1:(ho.map (·.1))[m]=i:=by rw[List.getElem?_eq_getElem hml] at hm;exact Option.some.inj hm
   have a2:(ho.map (·.1))[n]=j:=by rw[List.getElem?_eq_getElem hnl] at hn;exact Option.some.inj hn
   simp only[List.getElem_map] at a1 a2 ⊢;rw[a1,a2];exact e)
  subst this;rw[hm] at hn;exact Option.some.inj hn
 have ob : ∀ {bi:BI} {o o':Ob},qFj β F w bi o→obC hs ρ (hv.map (·.1)) (ho.map (·.1)) (some o) o'→qFj β' F w bi o':=by
  intro bi o o' hok hc;cases o' with
  | dead=>trivial
  | live z' es' wr' full'=>
   cases o with
   | dead=>exact hc.elim
   | live z es wr full=>
    obtain⟨rfl,rfl,hfull,u,l,hrd,hes⟩:=hc;have l1:=qTq hrd;have l2:=zEa hes;unfold qFj at hok ⊢;obtain⟨g1,g2,g3⟩:=hok;refine⟨g1,fun h=>by rw[l2,l1];exact g2 (hfull h),?_⟩;cases hb:bi.blk with
    | none=>
     simp only[hb] at g3 ⊢;refine⟨?_,g3.2⟩;rw[g3.1] at l1;exact List.eq_nil_of_length_eq_zero (by rw[l2,l1];rfl)
    | some b=>
     simp only[hb] at g3 ⊢;obtain⟨c,e,fz,k1,k2,k3,k4,k5,k6,k7⟩:=g3;exact⟨c,e,fz,k1,k2,k3,by rw[l2,l1];exact k4,k5,zIa N hes (qW3 R hrd k6).2,k7⟩
 have cases_ : ∀ id o',jU (hv++ho) id=some o'→(∃ z full,o' = .live z [] true full∧β' id=some ⟨none,z,0⟩∧100≤id)∨(id∈ho.map (·.1) ∧ ∃ o,jU hs (ρ id)=some o∧obC hs ρ (hv.map (·.1)) (ho.map (·.1)) (some o) o'∧(id<100→ρ id=id)∧(100≤id→100≤ρ id)):=by
  intro id o' h;rw[qOv] at h;split at h
  ·rename_i o hvl;cases h;obtain⟨⟨z,full,rfl⟩,h100⟩:=zO2.get h3 id o' hvl;exact .inl ⟨z,full,rfl,bv id _ hvl,h100⟩
  ·have hob:=h2.get id o' h;have hm:=qAw h;have hi:=List.all_eq_true.1 hnum id hm;have hi':(id<100∧ρ id=id)∨(100≤id∧100≤ρ id):=by simpa using hi
   cases hl:jU hs (ρ id) with
   | none=>rw[hl] at hob;cases o'<;>exact hob.elim
   | some o=>
    rw[hl] at hob;exact .inr ⟨hm,o,rfl,hob,fun h=>by rcases hi' with h' | h';exact h'.2;omega,fun h=>by rcases hi' with h' | h';omega;exact h'.2⟩
 have notdead : ∀ {o o':Ob},obC hs ρ (hv.map (·.1)) (ho.map (·.1)) (some o) o'→o'≠ .dead→o≠ .dead:=by
  intro o o' hc hd hd';subst hd';cases o' with
  | dead=>exact hd rfl
  | live _ _ _ _=>exact hc
 refine⟨β',F,R.tsz,R.dfr,fun t v' hv'=>?_,fun id o' ho'=>?_,fun id hn=>?_,fun i j bi bj b oi oj e1 e2 e3 e4 e5 e6 e7 e8=>?_,R.os,R.tape,R.output,R.size,R.ext,fun id z es full bi b e1 e2 e3=>?_,R.inF,R.inw,R.Fw,R.F0,fun id bi b e1 e2=>?_,fun g cs hg=>?_,fun k bi hk=>?_,R.gs⟩
 ·have hsl:=h1.get t v' hv';unfold zJe at hsl;split at hsl
  ·rename_i v hl;obtain⟨u,l,hrd,heq⟩:=hsl;obtain⟨x,g3,g4⟩:=R.fr t v hl;exact⟨x,g3,qPj N (qHo R hrd g4) heq⟩
  ·exact hsl.elim
 ·rcases cases_ id o' ho' with⟨z,full,rfl,hb,_⟩ | ⟨hm,o,g1,g2,_⟩
  ·exact⟨_,hb,rfl,fun _=>rfl,rfl,rfl⟩
  ·obtain⟨bi,g3,g4⟩:=R.hp _ o g1;exact⟨bi,by rw[bo id hm];exact g3,ob g4 g2⟩
 ·rw[qOv] at hn;split at hn
  ·cases hn
  ·rename_i hv0;simp[β',hv0,hn]
 ·rcases cases_ i oi e5 with⟨z,full,rfl,hb,_⟩ | ⟨hm,o,g1,g2,_⟩
  ·rw[hb] at e1;cases e1;cases e3
  ·rcases cases_ j oj e6 with⟨z,full,rfl,hb,_⟩ | ⟨hm',o',g1',g2',_⟩
   ·rw[hb] at e2;cases e2;cases e4
   ·rw[bo i hm] at e1;rw[bo j hm'] at e2;exact inj i j hm hm' (R.inj _ _ bi bj b o o' e1 e2 e3 e4 g1 g1' (notdead g2 e7) (notdead g2' e8))
 ·rcases cases_ id _ e1 with⟨z',full',_,hb,_⟩ | ⟨hm,o,g1,g2,g3,g4⟩
  ·rw[hb] at e2;cases e2;cases e3
  ·rw[bo id hm] at e2;cases o with
   | dead=>exact g2.elim
   | live z0 es0 wr0 full0=>
    obtain⟨_,rfl,_⟩:=g2;rcases R.old _ z0 es0 full0 bi b g1 e2 e3 with h | ⟨h,h'⟩
    ·exact .inl h
    ·refine .inr ⟨?_,h'⟩;rcases Nat.lt_or_ge id 100 with h7 | h7
     ·exact h7
     ·have:=g4 h7;omega
 ·cases hl:jU hv id with
  | some o=>rw[bv id o hl] at e1;cases e1;cases e2
  | none=>
   cases hl2:jU ho id with
   | none=>simp[β',hl,hl2] at e1
   | some o=>
    rw[bo id (qAw hl2)] at e1;exact R.blt _ bi b e1 e2
 ·have:=R.gl g cs hg;cases this with
  | ro _ ad news ha hn h1' hF hw h=>exact .ro cs _ news ha hn h1' hF hw h
 ·have hβ:=R.ext0 k bi hk;cases hl:jU hs k with
  | none=>rw[R.dom k hl] at hβ;cases hβ
  | some o=>
   have hk100:=cx.d0 k bi hk;have hm:k∈ho.map (·.1):=by
    have:=List.all_eq_true.1 hkeep k (qAw hl);simpa [hk100] using this
   rw[bo k hm];have hi:=List.all_eq_true.1 hnum k hm;have hi':(k<100∧ρ k=k)∨(100≤k∧100≤ρ k):=by simpa using hi
   rw[show ρ k=k by rcases hi' with h | h;exact h.2;omega];exact hβ
theorem qI.cv {fs fs':Fs}{hs hv ho:Hs}(fz:List Nat)(ρ:Nat→Nat)
  (h:(qXy fz).wp hs (fun fw _=>qKv fs (qZ8 hs fw) ρ (hv.map (·.1)) (ho.map (·.1)) fs'∧zPd (qZ8 hs fw) ρ (hv.map (·.1)) (ho.map (·.1)) ho∧zRh ρ ((qZ8 hs fw).map (·.1)) (hv.map (·.1)) (ho.map (·.1))=true)) (h3:zO2 hv=true):qI fs hs fs' (hv++ho):=by
 obtain⟨fw,l,hf,h1,h2,h4⟩:=h;exact (qI.freeze hf).trans (qI.cv0 ρ h1 h2 h3 h4)
theorem qI.rd {fs fs':Fs}{hs ho:Hs}(ρ:Nat→Nat)(h1:qKv fs hs ρ [] (ho.map (·.1)) fs')(h2:zPd hs ρ [] (ho.map (·.1)) ho)(h4:zRh ρ (hs.map (·.1)) [] (ho.map (·.1))=true):qI fs hs fs' ho:=
 qI.cv0 (hv:=[]) ρ h1 h2 rfl h4
end Go.Eng
end
