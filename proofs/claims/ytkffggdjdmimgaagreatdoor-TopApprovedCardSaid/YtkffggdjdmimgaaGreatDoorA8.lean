/- A part of an abstract machine, its walks, their tie. -/
import Derived.Test.YtkffggdjdmimgaaGreatDoorA7
set_option linter.all false
section
namespace Go.Eng
open List
variable {tab:Tab} {gl:Gl} {fs:Fs} {hs:Hs}
def AC.strict:AC→Bool
 | .seq a b=>a.strict&&b.strict
 | .cond _ a b=>a.strict&&b.strict
 | .condb _ _ _=>false
 | .block _ a=>a.strict
 | .loop a=>a.strict
 | _=>true
theorem qZs {κ:Type} : ∀ {ops:List zZ} {nb:Nat} {fs:Fs} {hs:Hs} {acc:List (List Nat×List Nat)} {K:κ→Fs→Hs→List (List Nat×List Nat)→Prop},
  zFw tab gl ops nb fs hs acc (fun f g c => ∃ i,K i f g c) → ∃ i,zFw tab gl ops nb fs hs acc (K i)
 | [],_,_,_,_,_,h=>h
 | o::r,nb,fs,hs,acc,K,h=>by
  obtain⟨x,l,h1,h2⟩:=h;obtain⟨i,h3⟩:=qZs (ops:=r) h2;exact⟨i,x,l,h1,h3⟩
def jUg {ι κ:Type}(I:ι→Fs×Hs)(m:ι→Nat)(n:Nat)(Q:κ→qHw):Sum ι κ→qHw
 | .inl j,.normal,f,h=>m j<n∧qJ f h (I j).1 (I j).2
 | .inl _,_,_,_=>False
 | .inr _,.normal,_,_=>False
 | .inr k,e,f,h=>Q k e f h
theorem zI2 {a:AC} : ∀ {κ:Type} {fs:Fs} {hs:Hs} {Q:κ→qHw},a.strict=true→a.wp tab gl fs hs (fun e f h => ∃ i,Q i e f h) → ∃ i,a.wp tab gl fs hs (Q i):=by
 induction a with
 | skip=>intro κ fs hs Q _ hw;exact hw
 | ret=>intro κ fs hs Q _ hw;exact hw
 | exit id=>intro κ fs hs Q _ hw;exact hw
 | seq a b iha ihb=>
  intro κ fs hs Q hs' hw;simp only[AC.strict,Bool.and_eq_true] at hs';refine iha (Q:=fun i e f h=>match e with | .normal=>b.wp tab gl f h (Q i) | e=>Q i e f h) hs'.1 (jD (fun e f h hq=>?_) hw);cases e with
  | normal=>exact ihb hs'.2 hq
  | exit id=>exact hq
  | ret=>exact hq
 | cond c a b iha ihb=>
  intro κ fs hs Q hs' hw;simp only[AC.strict,Bool.and_eq_true] at hs';simp only[AC.wp,qLb] at hw ⊢;split at hw
  ·rename_i v b hv;cases b with
   | true=>obtain⟨i,h⟩:=iha hs'.1 (hw.1 rfl);exact⟨i,fun _=>h,fun h=>nomatch h⟩
   | false=>obtain⟨i,h⟩:=ihb hs'.2 (hw.2 rfl);exact⟨i,(fun h=>nomatch h),fun _=>h⟩
  ·exact hw.elim
 | condb c a b iha ihb=>intro κ fs hs Q hs' hw;cases hs'
 | block id a ih=>
  intro κ fs hs Q hs' hw;refine ih (Q:=fun i e f h=>match e with | .exit id'=>(if id'=id then Q i .normal f h else Q i (.exit id') f h) | e=>Q i e f h) hs' (jD (fun e f h hq=>?_) hw);cases e with
  | normal=>exact hq
  | exit id'=>
   simp only at hq ⊢;split
   ·rename_i h1;rw[if_pos h1] at hq;exact hq
   ·rename_i h1;rw[if_neg h1] at hq;exact hq
  | ret=>exact hq
 | loop a ih=>
  intro κ fs hs Q hs' hw;simp only[AC.strict] at hs';obtain⟨ι,I,m,i0,h0,hr⟩:=hw;have key : ∀ n i,m i=n → ∃ k,zRk (fun fs hs K=>a.wp tab gl fs hs K) (I i).1 (I i).2 (Q k):=by
   intro n
   induction n using Nat.strongRecOn with
   | _ n ihn=>
    intro i hi;obtain⟨z,hz⟩:=ih (Q:=jUg I m (m i) Q) hs' (jD (fun e f h hq=>by
     cases e with
     | normal=>obtain⟨j,hj⟩:=hq;exact⟨.inl j,hj⟩
     | exit id=>obtain⟨k,hk⟩:=hq;exact⟨.inr k,hk⟩
     | ret=>obtain⟨k,hk⟩:=hq;exact⟨.inr k,hk⟩) (hr i))
    cases z with
    | inr k=>
     refine⟨k,Unit,fun _=>I i,fun _=>0,(),qJ.refl,fun _=>jD (fun e f h hq=>?_) hz⟩;cases e with
     | normal=>exact hq.elim
     | exit id=>exact hq
     | ret=>exact hq
    | inl j=>
     by_cases hlt:m j<m i
     ·obtain⟨k,ι2,I2,m2,j0,g0,gr⟩:=ihn (m j) (hi▸hlt) j rfl;refine⟨k,Option ι2,fun o=>match o with | none=>I i | some x=>I2 x,fun o=>match o with | none=>m2 j0+1 | some x=>m2 x,none,qJ.refl,fun o=>?_⟩;cases o with
      | none=>
       refine jD (fun e f h hq=>?_) hz;cases e with
       | normal=>exact⟨some j0,Nat.lt_succ_self _,hq.2.trans g0⟩
       | exit id=>exact hq.elim
       | ret=>exact hq.elim
      | some x=>
       refine jD (fun e f h hq=>?_) (gr x);cases e with
       | normal=>obtain⟨y,h1,h2⟩:=hq;exact⟨some y,h1,h2⟩
       | exit id=>exact hq
       | ret=>exact hq
     ·refine ?_;have:a.wp tab gl (I i).1 (I i).2 (fun _ _ _=>False):=jD (fun e f h hq=>by
       cases e with
       | normal=>exact (hlt hq.1).elim
       | exit id=>exact hq
       | ret=>exact hq) hz
      have hk : ∃ _:κ,True:=by
       obtain⟨k,_⟩:=ih (κ:=κ) (Q:=fun _ _ _ _=>False) hs' (jD (fun e f h hq=>hq.elim) this);exact⟨k,trivial⟩
      obtain⟨k,_⟩:=hk;exact⟨k,Unit,fun _=>I i,fun _=>0,(),qJ.refl,fun _=>jD (fun e f h hq=>hq.elim) this⟩
  obtain⟨k,ι2,I2,m2,j0,g0,gr⟩:=key _ i0 rfl;exact⟨k,ι2,I2,m2,j0,h0.trans g0,gr⟩
 | reg nb anc ops=>
  intro κ fs hs Q hs' hw;refine qZs (K:=fun i f g c=>(match anc with | none=>True | some l=>chk l c=true)∧Q i .normal f g) ?_;refine (?_ : ∀ {X Y:Fs→Hs→List (List Nat×List Nat)→Prop},(∀ f g c,X f g c→Y f g c)→zFw tab gl ops nb fs hs [] X→zFw tab gl ops nb fs hs [] Y) (fun f g c h=>?_) hw
  ·intro X Y h hw;have : ∀ (ops:List zZ) (nb:Nat) (fs:Fs) (hs:Hs) (acc:List (List Nat×List Nat)),zFw tab gl ops nb fs hs acc X→zFw tab gl ops nb fs hs acc Y:=by
    intro ops
    induction ops with
    | nil=>intro nb fs hs acc hw;exact h _ _ _ hw
    | cons o r ih=>
     intro nb fs hs acc hw;obtain⟨x,l,h1,h2⟩:=hw;exact⟨x,l,h1,ih _ _ _ _ h2⟩
   exact this _ _ _ _ _ hw
  ·obtain⟨h1,i,h2⟩:=h;exact⟨i,h1,h2⟩
end Go.Eng
end
section
namespace Go.Eng
open List
def zQj (ρ:Nat→Nat)(ks:List Nat)(v:Option V)(v':V):Prop:=v=some (v'.ren ρ)∧(v'.ids.all fun i=>ks.contains i)=true
def zBo (fs:Fs)(ρ:Nat→Nat)(ks:List Nat):Fs→Prop
 | []=>True
 | (t,v')::r=>zQj ρ ks (jM fs t) v'∧zBo fs ρ ks r
def obR (ρ:Nat→Nat)(ks:List Nat):Option Ob→Ob→Prop
 | some (.live z es wr full),.live z' es' wr' full'=>z=z'∧wr=wr'∧(full'=true→full=true)∧es=qHz ρ es'∧((qQm es').all fun i=>ks.contains i)=true
 | some _,.dead=>True
 | _,_=>False
def jKb (hs:Hs)(ρ:Nat→Nat)(ks:List Nat):Hs→Prop
 | []=>True
 | (i,o')::r=>obR ρ ks (jM hs (ρ i)) o'∧jKb hs ρ ks r
def zNx (ρ:Nat→Nat)(old new:List Nat):Bool:=
 new.all (fun i=>(decide (i<100)&&ρ i==i)||(decide (100≤i)&&decide (100≤ρ i)))&&decide ((new.map ρ).Nodup)&&old.all fun k => !decide (k<100)||new.contains k
theorem qJ.ren {fs fs':Fs}{hs ho:Hs}(ρ:Nat→Nat)(h1:zBo fs ρ (ho.map (·.1)) fs')(h2:jKb hs ρ (ho.map (·.1)) ho)(h3:zNx ρ (hs.map (·.1)) (ho.map (·.1))=true):qJ fs hs fs' ho:=by
 simp only[zNx,Bool.and_eq_true] at h3;obtain⟨⟨h4,h5⟩,h6⟩:=h3;have a1 : ∀ {fs':Fs},zBo fs ρ (ho.map (·.1)) fs'→zBp fs hs ρ [] (ho.map (·.1)) fs':=by
  intro fs'
  induction fs' with
  | nil=>intro _;trivial
  | cons p r ih=>
   obtain⟨t,v'⟩:=p;intro h;obtain⟨⟨g1,g2⟩,g3⟩:=h;refine⟨⟨_,g1,.inl ⟨.inl rfl,fun i hi=>?_⟩⟩,ih g3⟩;have:=all_eq_true.1 g2 i hi;simpa using this
 have a2 : ∀ {h':Hs},(∀ i∈h'.map (·.1),i∈ho.map (·.1))→jKb hs ρ (ho.map (·.1)) h'→jKc hs ρ (ho.map (·.1)) h':=by
  intro h'
  induction h' with
  | nil=>intro _ _;trivial
  | cons p r ih=>
   obtain⟨i,o'⟩:=p;intro hm h;obtain⟨g1,g2⟩:=h;have hi:=all_eq_true.1 h4 i (hm i sM);have hi':(i<100∧ρ i=i)∨(100≤i∧100≤ρ i):=by simpa using hi
   refine⟨⟨?_,fun h=>by rcases hi' with h' | h';exact h'.2;omega,fun h=>by rcases hi' with h' | h';omega;exact h'.2⟩,ih (fun j hj=>hm j (by simp at hj ⊢;exact .inr hj)) g2⟩;unfold obR at g1;split at g1
   ·rename_i z es wr full z' es' wr' full' hl;obtain⟨rfl,rfl,k1,k2,k3⟩:=g1;exact⟨_,hl,rfl,rfl,k1,.inl k2,fun j hj=>by have:=all_eq_true.1 k3 j hj;simpa using this⟩
   ·rename_i o hl;refine⟨_,hl,?_⟩;cases o<;>trivial
   ·exact g1.elim
 have:=qJ.of (hs:=hs) (hv:=[]) (ho:=ho) (fs:=fs) (fs':=fs') ρ (a1 h1) (a2 (fun _ h=>h) h2) trivial sM (of_decide_eq_true h5) (fun k hk hlt=>by
  have:=all_eq_true.1 h6 k hk;simpa [hlt] using this)
 exact this
theorem zOy {fs:Fs}{ρ:Nat→Nat}{ks:List Nat}:zBo fs ρ ks []=True:=Eq.trans (Eq.refl _) rfl
theorem zJd {fs:Fs}{ρ:Nat→Nat}{ks:List Nat}{t:Nat}{v':V}{r:Fs}:zBo fs ρ ks ((t,v')::r)=(zQj ρ ks (jM fs t) v'∧zBo fs ρ ks r):=Eq.trans (Eq.refl _) rfl
theorem zQl {ρ:Nat→Nat}{ks:List Nat}{v v':V}:zQj ρ ks (some v) v'=(v=v'.ren ρ∧(v'.ids.all fun i=>ks.contains i)=true):=by
 simp[zQj]
theorem zQk {ρ:Nat→Nat}{ks:List Nat}{v':V}:zQj ρ ks none v'=False:=by simp[zQj]
theorem zW8 {hs:Hs}{ρ:Nat→Nat}{ks:List Nat}:jKb hs ρ ks []=True:=Eq.trans (Eq.refl _) rfl
theorem zRm {hs:Hs}{ρ:Nat→Nat}{ks:List Nat}{i:Nat}{o':Ob}{r:Hs}:jKb hs ρ ks ((i,o')::r)=(obR ρ ks (jM hs (ρ i)) o'∧jKb hs ρ ks r):=Eq.trans (Eq.refl _) rfl
theorem zZy {ρ:Nat→Nat}{ks:List Nat}{z z':Nat}{es es':List V}{wr wr' full full':Bool}:obR ρ ks (some (.live z es wr full)) (.live z' es' wr' full') =
  (z=z'∧wr=wr'∧(full'=true→full=true)∧es=qHz ρ es'∧((qQm es').all fun i=>ks.contains i)=true):=Eq.trans (Eq.refl _) rfl
attribute [go_sem] zOy zJd zQl zQk zW8 zRm zZy V.t.injEq T.int.injEq T.bool.injEq T.sl.injEq T.agg.injEq T.str.injEq V.ref.injEq V.bd.injEq V.sl.injEq V.agg.injEq V.fn.injEq List.cons.injEq
 all_nil contains_cons contains_nil Bool.or_false Bool.or_true Bool.true_or beq_self_eq_true eq_self implies_true imp_self Int.natCast_zero Int.natCast_one
end Go.Eng
end
section
namespace Go.Eng
open List
def jC (x:UInt32):T:= .int .u32 x.toNat
def jE5 (x:UInt64):T:= .int .u64 x.toNat
theorem qRf (n:Int):IntKind.u8.wrap n=n%256:=by simp[IntKind.wrap,IntKind.bits,IntKind.signed]
theorem qTa (n:Int):IntKind.u32.wrap n=n%4294967296:=by simp[IntKind.wrap,IntKind.bits,IntKind.signed]
theorem qW6 (n:Int):IntKind.u64.wrap n=n%18446744073709551616:=by simp[IntKind.wrap,IntKind.bits,IntKind.signed]
theorem jCi (n:Int):IntKind.i64.wrap n=if n%18446744073709551616 ≥ 9223372036854775808 then n%18446744073709551616-18446744073709551616 else n%18446744073709551616:=by
 simp[IntKind.wrap,IntKind.bits,IntKind.signed]
theorem qC5 {n:Int}(h : -9223372036854775808≤n∧n<9223372036854775808):IntKind.i64.wrap n=n:=by
 rw[jCi];split<;>omega
theorem qJ4 {n:Int}(h:0≤n∧n<18446744073709551616):IntKind.u64.wrap n=n:=by
 rw[qW6];omega
theorem zL9 {n:Int}(h:0≤n∧n<4294967296):IntKind.u32.wrap n=n:=by
 rw[qTa];omega
theorem qFu (x:UInt32):(BitVec.ofInt 32 (x.toNat:Int))=x.toBitVec:=by
 apply BitVec.eq_of_toNat_eq;simp
theorem qW5 (z:UInt32):T.int .u32 (IntKind.u32.wrap (z.toBitVec.toNat:Int))=jC z:=by
 rw[qTa];have:=z.toNat_lt;unfold jC;rw[UInt32.toNat_toBitVec];congr 1;omega
theorem zO1 {x y:UInt32}:qKb .or (jC x) (jC y)=some (jC (x ||| y)):=by
 change some (T.int .u32 (IntKind.u32.wrap ((BitVec.ofInt 32 (x.toNat:Int) ||| BitVec.ofInt 32 (y.toNat:Int)).toNat:Int)))=_;rw[qFu,qFu,←UInt32.toBitVec_or,qW5]
theorem zJj {x y:UInt32}:qKb .and (jC x) (jC y)=some (jC (x &&& y)):=by
 change some (T.int .u32 (IntKind.u32.wrap ((BitVec.ofInt 32 (x.toNat:Int) &&& BitVec.ofInt 32 (y.toNat:Int)).toNat:Int)))=_;rw[qFu,qFu,←UInt32.toBitVec_and,qW5]
theorem zJk {x y:UInt32}:qKb .xor (jC x) (jC y)=some (jC (x ^^^ y)):=by
 change some (T.int .u32 (IntKind.u32.wrap ((BitVec.ofInt 32 (x.toNat:Int) ^^^ BitVec.ofInt 32 (y.toNat:Int)).toNat:Int)))=_;rw[qFu,qFu,←UInt32.toBitVec_xor,qW5]
theorem zJi {x y:UInt32}:qKb .add (jC x) (jC y)=some (jC (x+y)):=by
 change some (T.int .u32 (IntKind.u32.wrap ((x.toNat:Int)+(y.toNat:Int))))=_;rw[qTa];unfold jC;rw[UInt32.toNat_add];congr 2
theorem zQo {x:UInt32}:unT .xor (jC x)=some (jC (~~~ x)):=by
 change some (T.int .u32 (IntKind.u32.wrap ((BitVec.ofInt 32 (IntKind.max .u32) ^^^ BitVec.ofInt 32 (x.toNat:Int)).toNat:Int)))=_;have:BitVec.ofInt 32 (IntKind.max .u32)=BitVec.allOnes 32:=by decide
 rw[qFu,this,←qW5];congr 5
theorem qXm {x:UInt32}{k:IntKind}{n:Nat}(h:n<32):qKb .shr (jC x) (.int k n)=some (jC (x >>> UInt32.ofNat n)):=by
 change (if (n:Int)<0 then none else some (T.int .u32 ((x.toNat:Int).fdiv (2^min (n:Int).toNat 32))))=_;rw[if_neg oM];have hm:min (n:Int).toNat 32=n:=soM;rw[hm];unfold jC;rw[UInt32.toNat_shiftRight];have hn:(UInt32.ofNat n).toNat%32=n:=by
  rw[UInt32.toNat_ofNat_of_lt' (by simp[UInt32.size];omega)];omega
 rw[hn,Nat.shiftRight_eq_div_pow];congr 2;rw[Int.fdiv_eq_ediv_of_nonneg _ (by exact Int.pow_nonneg oM)]
 norm_cast
theorem qXl {x:UInt32}{k:IntKind}{n:Nat}(h:n<32):qKb .shl (jC x) (.int k n)=some (jC (x <<< UInt32.ofNat n)):=by
 change (if (n:Int)<0 then none else some (T.int .u32 (IntKind.u32.wrap ((x.toNat:Int)*2^min (n:Int).toNat 32))))=_;rw[if_neg oM];have hm:min (n:Int).toNat 32=n:=soM;rw[hm,qTa];unfold jC;rw[UInt32.toNat_shiftLeft];have hn:(UInt32.ofNat n).toNat%32=n:=by
  rw[UInt32.toNat_ofNat_of_lt' (by simp[UInt32.size];omega)];omega
 rw[hn,Nat.shiftLeft_eq];congr 2
theorem zC1 {b:UInt8}:qJw .u32 [.t (qA b)] = .ret (.t (jC b.toUInt32),[]):=by
 change Q.ret (V.t (.int .u32 (IntKind.u32.wrap (b.toNat:Int))),([]:Wr))=_;have:=b.toNat_lt;rw[qTa];unfold jC;rw[UInt8.toNat_toUInt32];have:(b.toNat:Int)%4294967296=b.toNat:=oM;rw[this]
theorem zJs {x:UInt32}:qJw .u8 [.t (jC x)] = .ret (.t (qA x.toUInt8),[]):=by
 change Q.ret (V.t (.int .u8 (IntKind.u8.wrap (x.toNat:Int))),([]:Wr))=_;rw[qRf];unfold qA;rw[UInt32.toNat_toUInt8];congr 4
theorem zJt {x:UInt64}:qJw .u8 [.t (jE5 x)] = .ret (.t (qA x.toUInt8),[]):=by
 change Q.ret (V.t (.int .u8 (IntKind.u8.wrap (x.toNat:Int))),([]:Wr))=_;rw[qRf];unfold qA;rw[UInt64.toNat_toUInt8];congr 4
theorem zR6 {x:UInt32}:(jC x).cells=[jC x]:=Eq.trans (Eq.refl _) rfl
theorem zR7 {x:UInt64}:(jE5 x).cells=[jE5 x]:=Eq.trans (Eq.refl _) rfl
theorem zO4 {x:UInt8}:(qA x).cells=[qA x]:=Eq.trans (Eq.refl _) rfl
theorem zQw {x:UInt32}:(V.t (jC x)).cells=[V.t (jC x)]:=Eq.trans (Eq.refl _) rfl
theorem zQx {x:UInt64}:(V.t (jE5 x)).cells=[V.t (jE5 x)]:=Eq.trans (Eq.refl _) rfl
theorem zLi {x:UInt8}:(V.t (qA x)).cells=[V.t (qA x)]:=Eq.trans (Eq.refl _) rfl
theorem qRj : ∀ {bs:List UInt8},qI2 (bs.map fun b=>V.t (qA b))=some bs
 | []=>rfl
 | b::r=>by
  have ih:=qRj (bs:=r);simp only[map_cons];show (qI2 (r.map fun b=>V.t (qA b))).map (UInt8.ofNat (b.toNat:Int).toNat :: ·)=_;rw[ih];simp
theorem jGy {b:UInt8}:wW (.t (qA b))=some (b.toNat:Int):=Eq.trans (Eq.refl _) rfl
theorem jMm {b:UInt32}:wW (.t (jC b))=some (b.toNat:Int):=Eq.trans (Eq.refl _) rfl
theorem jMn {b:UInt64}:wW (.t (jE5 b))=some (b.toNat:Int):=Eq.trans (Eq.refl _) rfl
theorem jJz {b:UInt8}:(V.t (qA b)).plain=true:=Eq.trans (Eq.refl _) rfl
theorem jQ2 {b:UInt32}:(V.t (jC b)).plain=true:=Eq.trans (Eq.refl _) rfl
theorem jQ3 {b:UInt64}:(V.t (jE5 b)).plain=true:=Eq.trans (Eq.refl _) rfl
theorem zS5 {b:UInt8}:(qA b).flat=true:=Eq.trans (Eq.refl _) rfl
theorem zYj {b:UInt32}:(jC b).flat=true:=Eq.trans (Eq.refl _) rfl
theorem zYk {b:UInt64}:(jE5 b).flat=true:=Eq.trans (Eq.refl _) rfl
attribute [go_sem] jGy jMm jMn jJz jQ2 jQ3 zS5 zYj zYk zO4 zR6 zR7 zLi zQw zQx zC1 zJs zJt zO1 zJj zJk zJi zQo
end Go.Eng
end
section
namespace Go.Eng
open List
def d8:T→Option UInt8
 | .int .u8 n=>if 0≤n∧n<256 then some (UInt8.ofNat n.toNat) else none
 | _=>none
def d32:T→Option UInt32
 | .int .u32 n=>if 0≤n∧n<4294967296 then some (UInt32.ofNat n.toNat) else none
 | _=>none
def dL {α:Type}(d:T→Option α):List T→Option (List α)
 | []=>some []
 | x::r=>(d x).bind fun y=>(dL d r).map (y :: ·)
def dSl {α:Type}(d:T→Option α):T→Option (List α)
 | .sl es=>dL d es
 | _=>none
theorem zJv {x:UInt8}:d8 (qA x)=some x:=by
 have:=x.toNat_lt;unfold d8 qA;simp only;rw[if_pos oM];simp
theorem zSf {x:UInt32}:d32 (jC x)=some x:=by
 have:=x.toNat_lt;unfold d32 jC;simp only;rw[if_pos oM];simp
theorem jDa {α:Type}{d:T→Option α}{e:α→T}(hd : ∀ x,d (e x)=some x) : ∀ {xs:List α},dL d (xs.map e)=some xs
 | []=>rfl
 | x::r=>by simp[dL,hd,jDa hd]
def bsT (bs:List UInt8):T:= .sl (bs.map qA)
def dBs (t:T):Option (List UInt8):=dSl d8 t
theorem zGj {bs:List UInt8}:dBs (.sl (bs.map qA))=some bs:=jDa (fun _=>zJv)
end Go.Eng
end
section
namespace Go.Eng
open List
variable {cx:Cx} {β:Nat→Option BI} {F:Nat→Prop} {a:Act} {w:World}
theorem qJ.freeze {fs:Fs}{hs:Hs}{fz:List Nat}{fw:Wr}{l:List Nat}(h:(zB4 fz).run (jM hs)=some (fw,l)):qJ fs hs fs (zCg hs fw):=by
 intro cx β F a w R;obtain⟨F1,R1,_⟩:=Rel.freezeAll h R (fun id _=> .inl rfl);exact⟨β,F1,by rw[qH6];exact R1⟩
def rdL (g:V→Q V):List V→Q (List V)
 | []=> .ret []
 | c::r=>(g c).bind fun x=>(rdL g r).bind fun y=> .ret (x::y)
def rdV:Nat→V→Q V
 | n+1,.sl id off len=> .get id fun
  | .live _ _ false _=>(zO (n+1) (.sl id off len)).bind fun p=>Q.assert (p.2=[]) (.ret p.1)
  | _=> .ret (.sl id off len)
 | n+1,.agg cs=>(rdL (rdV n) cs).bind fun p=> .ret (V.mk p)
 | n+1,.fn f cs=>(rdL (rdV n) cs).bind fun p=> .ret (.fn f p)
 | _,v=> .ret v
def zW4 (es:List V):Q (List V):=
 match qF4 es with
 | some _=> .ret es
 | none=>rdL (rdV 4) es
theorem qMx {hm:Nat→Option Ob}{g:V→Q V} : ∀ {cs cs':List V} {l:List Nat},(rdL g cs).run hm=some (cs',l)→
  cs'.length=cs.length ∧ ∀ (i:Nat) (c c':V),cs[i]?=some c→cs'[i]?=some c' → ∃ li,(g c).run hm=some (c',li)
 | [],cs',l,h=>by
  obtain⟨e,_⟩:=qF h;cases e;exact⟨rfl,by intro i c c' h;simp at h⟩
 | c::r,cs',l,h=>by
  simp only[rdL] at h;obtain⟨x,l1,l2,hx,h,_⟩:=zC h;obtain⟨y,l3,l4,hy,h,_⟩:=zC h;obtain⟨e,_⟩:=qF h;cases e;obtain⟨g1,g2⟩:=qMx hy;refine⟨by simp[g1],fun i a b ha hb=>?_⟩;cases i with
  | zero=>simp at ha hb;subst ha hb;exact⟨_,hx⟩
  | succ i=>exact g2 i a b (by simpa using ha) (by simpa using hb)
theorem qGh {fm:Nat→Option V}{hm:Nat→Option Ob}(R:Rel cx β F fm hm a w) : ∀ {n:Nat} {v v':V} {l:List Nat} {x:Value},(rdV n v).run hm=some (v',l)→qW β F w v x→qW β F w v' x
 | 0,v,v',l,x,h,hx=>by
  have h':(Q.ret v).run hm=some (v',l):=by cases v<;>exact h
  obtain⟨e,_⟩:=qF h';cases e;exact hx
 | n+1,v,v',l,x,h,hx=>by
  cases v with
  | sl id off len=>
   simp only[rdV] at h;obtain⟨o,l',ho,h2,_⟩:=vV h;have keep:(Q.ret (V.sl id off len)).run hm=some (v',l')→qW β F w v' x:=by
    intro h3;obtain⟨e,_⟩:=qF h3;cases e;exact hx
   cases o with
   | dead=>exact keep h2
   | live z es wr full=>
    cases wr with
    | true=>exact keep h2
    | false=>
     obtain⟨p,l1,l2,hp,h3,_⟩:=zC h2;obtain⟨hp2,h3⟩:=qS h3;obtain⟨e,_⟩:=qF h3;cases e;obtain⟨p1,p2⟩:=p;simp only at hp2 ⊢;subst hp2;have:=kZ R hp hx (fz':=[]) sM;rw[zDm] at this;exact this
  | agg cs=>
   simp only[rdV] at h;obtain⟨p,l1,l2,hp,h,_⟩:=zC h;obtain⟨e,_⟩:=qF h;cases e;obtain⟨g1,g2⟩:=qMx hp;obtain⟨us,rfl,k1,k2,k3⟩:=hx.agg_inv;refine qW.mk (by rw[k1,g1]) k2 (fun i c' u hc' hu=>?_);have hi:i<cs.length:=by rw[←g1];exact (List.getElem?_eq_some_iff.1 hc').1
   obtain⟨li,m1⟩:=g2 i cs[i] c' (by simp[hi]) hc';exact qGh R m1 (k3 i cs[i] u (by simp[hi]) hu)
  | fn f cs=>
   simp only[rdV] at h;obtain⟨p,l1,l2,hp,h,_⟩:=zC h;obtain⟨e,_⟩:=qF h;cases e;obtain⟨g1,g2⟩:=qMx hp;cases hx with
   | fn _ _ us k1 k3=>
    refine .fn f _ us (by rw[k1,g1]) (fun i c' u hc' hu=>?_);have hi:i<cs.length:=by rw[←g1];exact (List.getElem?_eq_some_iff.1 hc').1
    obtain⟨li,m1⟩:=g2 i cs[i] c' (by simp[hi]) hc';exact qGh R m1 (k3 i cs[i] u (by simp[hi]) hu)
  | t y=>obtain⟨e,_⟩:=qF (x:=V.t y) h;cases e;exact hx
  | nil=>obtain⟨e,_⟩:=qF (x:=V.nil) h;cases e;exact hx
  | ro y=>obtain⟨e,_⟩:=qF (x:=V.ro y) h;cases e;exact hx
  | ref i j k=>obtain⟨e,_⟩:=qF (x:=V.ref i j k) h;cases e;exact hx
  | bd g i j k=>obtain⟨e,_⟩:=qF (x:=V.bd g i j k) h;cases e;exact hx
  | bq=>obtain⟨e,_⟩:=qF (x:=V.bq) h;cases e;exact hx
  | tup y=>obtain⟨e,_⟩:=qF (x:=V.tup y) h;cases e;exact hx
theorem jAj {fm:Nat→Option V}{hm:Nat→Option Ob}(R:Rel cx β F fm hm a w){n:Nat}{v v':V}{l:List Nat}(h:(rdV n v).run hm=some (v',l))(hc : ∀ (j:Nat) (y:V),v.cells[j]?=some y → ∃ u,qW β F w y u∧u.oneCell'=true) :
  v'.cells.length=v.cells.length ∧ ∀ (j:Nat) (y y':V) (u:Value),v.cells[j]?=some y→v'.cells[j]?=some y'→qW β F w y u→u.oneCell'=true→qW β F w y' u:=by
 have one:v.cells=[v]→v'.cells.length=v.cells.length ∧ ∀ (j:Nat) (y y':V) (u:Value),v.cells[j]?=some y→v'.cells[j]?=some y'→qW β F w y u→u.oneCell'=true→qW β F w y' u:=by
  intro hv;obtain⟨u0,h1,h2⟩:=hc 0 v (by rw[hv];rfl);have hv':v'.cells=[v']:=(qGh R h h1).one_cells h2;rw[hv,hv'];refine⟨rfl,fun j y y' u hy hy' hr ho=>?_⟩;cases j with
  | zero=>simp at hy hy';subst hy hy';exact qGh R h hr
  | succ j=>simp at hy
 have same:v'=v→v'.cells.length=v.cells.length ∧ ∀ (j:Nat) (y y':V) (u:Value),v.cells[j]?=some y→v'.cells[j]?=some y'→qW β F w y u→u.oneCell'=true→qW β F w y' u:=by
  rintro rfl;refine⟨rfl,fun j y y' u hy hy' hr _=>?_⟩;rw[hy] at hy';cases hy';exact hr
 cases v with
 | agg cs=>
  cases n with
  | zero=>obtain⟨e,_⟩:=qF (x:=V.agg cs) h;exact same e
  | succ n=>
   simp only[rdV] at h;obtain⟨p,l1,l2,hp,h,_⟩:=zC h;obtain⟨e,_⟩:=qF h;cases e;obtain⟨g1,g2⟩:=qMx hp;rw[qWs];refine⟨g1,fun j y y' u hy hy' hr _=>?_⟩;obtain⟨li,m1⟩:=g2 j y y' hy hy';exact qGh R m1 hr
 | t y=>
  have h':(Q.ret (V.t y)).run hm=some (v',l):=by cases n<;>exact h
  obtain⟨e,_⟩:=qF h';exact same e
 | sl id off len=>exact one rfl
 | fn f cs=>exact one rfl
 | nil=>exact one rfl
 | ro y=>exact one rfl
 | ref i j k=>exact one rfl
 | bd g i j k=>exact one rfl
 | bq=>exact one rfl
 | tup y=>exact one rfl
theorem qT3 {fm:Nat→Option V}{hm:Nat→Option Ob}(R:Rel cx β F fm hm a w){es es':List V}{l:List Nat}(h:(zW4 es).run hm=some (es',l)){sz:Nat}{c:Array Value}(hh:vO β F w es sz c):es'.length=es.length∧vO β F w es' sz c:=by
 unfold zW4 at h;split at h
 ·obtain⟨e,_⟩:=qF h;cases e;exact⟨rfl,hh⟩
 ·obtain⟨g1,g2⟩:=qMx h;refine⟨g1,fun i x hx=>?_⟩;have hi:i<es.length:=by rw[←g1];exact (List.getElem?_eq_some_iff.1 hx).1
  obtain⟨li,m1⟩:=g2 i es[i] x (by simp[hi]) hx;obtain⟨k1,k2⟩:=hh i es[i] (by simp[hi]);obtain⟨q1,q2⟩:=jAj R m1 (fun j y hy=>let ⟨u,_,b,d⟩:=k2 j y hy;⟨u,b,d⟩);refine⟨q1.trans k1,fun j y' hy'=>?_⟩;have hj:j<es[i].cells.length:=by rw[←q1];exact (List.getElem?_eq_some_iff.1 hy').1
  obtain⟨u,hu,hr,ho⟩:=k2 j (es[i].cells[j]'hj) (by simp[hj]);exact⟨u,hu,q2 j (es[i].cells[j]'hj) y' u (by simp[hj]) hy' hr ho,ho⟩
theorem qQr {hm:Nat→Option Ob}{es es':List V}{l:List Nat}(h:(zW4 es).run hm=some (es',l)):es'.length=es.length:=by
 unfold zW4 at h;split at h
 ·obtain⟨e,_⟩:=qF h;cases e;rfl
 ·exact (qMx h).1
end Go.Eng
end
section
namespace Go.Eng
open List
variable {cx:Cx} {β:Nat→Option BI} {F:Nat→Prop} {a:Act} {w:World}
mutual
def vEq (ρ:Nat→Nat)(vt ko:List Nat):V→V→Prop
 | .nil,.nil=>True
 | .nil,.t x=>x = .sl []
 | .nil,.sl id off len=>(vt.contains id=true∧off=0)∧len=0
 | .agg cs,.agg cs'=>zEi ρ vt ko cs cs'
 | .agg cs,.t (.agg ts)=>zEi ρ vt ko cs (ts.map .t)
 | .fn f cs,.fn f' cs'=>f=f'∧zEi ρ vt ko cs cs'
 | v,v'=>v=v'.ren ρ∧(v'.ids.all fun i=>ko.contains i)=true
def zEi (ρ:Nat→Nat)(vt ko:List Nat):List V→List V→Prop
 | [],[]=>True
 | c::r,c'::r'=>vEq ρ vt ko c c'∧zEi ρ vt ko r r'
 | _,_=>False
end
theorem qJz {ρ:Nat→Nat}{vt ko:List Nat} : ∀ {cs cs':List V},zEi ρ vt ko cs cs'→cs'.length=cs.length ∧ ∀ (i:Nat) (c c':V),cs[i]?=some c→cs'[i]?=some c'→vEq ρ vt ko c c'
 | [],[],_=>⟨rfl,by intro i c c' h;simp at h⟩
 | [],_::_,h=>by simp[zEi] at h
 | _::_,[],h=>by simp[zEi] at h
 | c::r,c'::r',h=>by
  simp only[zEi] at h;obtain⟨h1,h2⟩:=h;obtain⟨g1,g2⟩:=qJz h2;refine⟨by simp[g1],fun i a b ha hb=>?_⟩;cases i with
  | zero=>simp at ha hb;subst ha hb;exact h1
  | succ i=>exact g2 i a b (by simpa using ha) (by simpa using hb)
structure jKu (ρ:Nat→Nat) (vt ko:List Nat) (β β':Nat→Option BI):Prop where
 o : ∀ i,i∈ko→β' i=β (ρ i)
 v : ∀ i,i∈vt → ∃ z,β' i=some ⟨none,z,0⟩
theorem qJ1 {ρ:Nat→Nat}{vt ko:List Nat}{β β':Nat→Option BI}(N:jKu ρ vt ko β β'){v':V}{x:Value}(hx:qW β F w (v'.ren ρ) x)(h:(v'.ids.all fun i=>ko.contains i)=true):qW β' F w v' x:=by
 have h1:=hx.unren (ρ:=ρ) rfl;refine h1.sub (fun i hi bi hb=>?_);have:=all_eq_true.1 h i hi;rw[N.o i (by simpa using this)];exact hb
theorem qSp {ρ:Nat→Nat}{vt ko:List Nat}{β β':Nat→Option BI}(N:jKu ρ vt ko β β'){v:V}{x:Value}(hx:qW β F w v x) : ∀ {v':V},vEq ρ vt ko v v'→qW β' F w v' x:=by
 have aggc : ∀ {cs cs':List V} {vs:Array Value},vs.size=cs.length→(∀ u∈vs,u.oneCell'=true)→(∀ (i:Nat) (c:V) (u:Value),cs[i]?=some c→vs[i]?=some u → ∀ {v':V},vEq ρ vt ko c v'→qW β' F w v' u)→
   zEi ρ vt ko cs cs'→vs.size=cs'.length ∧ ∀ (i:Nat) (c:V) (u:Value),cs'[i]?=some c→vs[i]?=some u→qW β' F w c u:=by
  intro cs cs' vs hl _ ih h;obtain⟨g1,g2⟩:=qJz h;refine⟨by rw[hl,g1],fun i c u hc hu=>?_⟩;have hi:i<cs.length:=by rw[←g1];exact (List.getElem?_eq_some_iff.1 hc).1
  exact ih i cs[i] u (by simp[hi]) hu (g2 i cs[i] c (by simp[hi]) hc)
 induction hx with
 | @t y z hy=>
  intro v' h;have h':V.t y=v'.ren ρ∧(v'.ids.all fun i=>ko.contains i)=true:=by cases v'<;>(try exact h)<;>(rename_i q;cases q<;>exact h)
  exact qJ1 N (by rw[←h'.1];exact .t hy) h'.2
 | nil=>
  intro v' h;cases v' with
  | nil=>exact .nil
  | t y=>simp only[vEq] at h;subst h;exact .t .nil
  | sl id off len=>
   simp only[vEq] at h;obtain⟨⟨h1,rfl⟩,rfl⟩:=h;obtain⟨z,hz⟩:=N.v id (by simpa using h1);exact .slv id z 0 hz
  | _=>simp[vEq,V.ren] at h
 | ref id i f b sz room hb=>
  intro v' h;have h':V.ref id i f=v'.ren ρ∧(v'.ids.all fun i=>ko.contains i)=true:=by cases v'<;>(try exact h)<;>(rename_i q;cases q<;>exact h)
  exact qJ1 N (by rw[←h'.1];exact .ref id i f b sz room hb) h'.2
 | bd g id i f b sz room hb=>
  intro v' h;have h':V.bd g id i f=v'.ren ρ∧(v'.ids.all fun i=>ko.contains i)=true:=by cases v'<;>(try exact h)<;>(rename_i q;cases q<;>exact h)
  exact qJ1 N (by rw[←h'.1];exact .bd g id i f b sz room hb) h'.2
 | bq b=>
  intro v' h;have h':V.bq=v'.ren ρ∧(v'.ids.all fun i=>ko.contains i)=true:=by cases v'<;>(try exact h)<;>(rename_i q;cases q<;>exact h)
  exact qJ1 N (by rw[←h'.1];exact .bq b) h'.2
 | ro cs a news ha hn h1 hF hw hh=>
  intro v' h;have h':V.ro cs=v'.ren ρ∧(v'.ids.all fun i=>ko.contains i)=true:=by cases v'<;>(try exact h)<;>(rename_i q;cases q<;>exact h)
  exact qJ1 N (by rw[←h'.1];exact .ro cs a news ha hn h1 hF hw hh) h'.2
 | sl id off len cap b sz room a hb hlc hr ha hs=>
  intro v' h;have h':V.sl id off len=v'.ren ρ∧(v'.ids.all fun i=>ko.contains i)=true:=by cases v'<;>(try exact h)<;>(rename_i q;cases q<;>exact h)
  exact qJ1 N (by rw[←h'.1];exact .sl id off len cap b sz room a hb hlc hr ha hs) h'.2
 | slv id sz room hb=>
  intro v' h;have h':V.sl id 0 0=v'.ren ρ∧(v'.ids.all fun i=>ko.contains i)=true:=by cases v'<;>(try exact h)<;>(rename_i q;cases q<;>exact h)
  exact qJ1 N (by rw[←h'.1];exact .slv id sz room hb) h'.2
 | agg cs vs hl h1 hh ih=>
  intro v' h;cases v' with
  | agg cs'=>
   simp only[vEq] at h;obtain⟨g1,g2⟩:=aggc hl h1 ih h;exact .agg cs' vs g1 h1 g2
  | t y=>
   cases y with
   | agg ts=>
    simp only[vEq] at h;obtain⟨g1,g2⟩:=aggc hl h1 ih h;refine .t (.agg ts vs (by simpa using g1) h1 (fun i c u hc hu=>?_));have:=g2 i (.t c) u (by rw[getElem?_map,hc];rfl) hu;cases this with
    | t h=>exact h
   | _=>simp[vEq,V.ren] at h
  | _=>simp[vEq,V.ren] at h
 | tup cs vs hl hh ih=>
  intro v' h;have h':V.tup cs=v'.ren ρ∧(v'.ids.all fun i=>ko.contains i)=true:=by cases v'<;>(try exact h)<;>(rename_i q;cases q<;>exact h)
  exact qJ1 N (by rw[←h'.1];exact .tup cs vs hl hh) h'.2
 | fn f cs vs hl hh ih=>
  intro v' h;cases v' with
  | fn f' cs'=>
   simp only[vEq] at h;obtain⟨rfl,h⟩:=h;obtain⟨g1,g2⟩:=qJz h;refine .fn f cs' vs (by rw[hl,g1]) (fun i c u hc hu=>?_);have hi:i<cs.length:=by rw[←g1];exact (List.getElem?_eq_some_iff.1 hc).1
   exact ih i cs[i] u (by simp[hi]) hu (g2 i cs[i] c (by simp[hi]) hc)
  | t y=>cases y<;>simp[vEq,V.ren] at h
  | _=>simp[vEq,V.ren] at h
theorem qX2 {v y:V}{j:Nat}(hy:v.cells[j]?=some y) : ∀ r∈y.ids,r∈v.ids:=by
 intro r hr;cases v with
 | agg cs=>simp only[V.ids];exact xK (mem_of_getElem? hy) hr
 | t t=>
  obtain⟨c,_,rfl⟩:=qA8 hy;simp[V.ids] at hr
 | _=>
  simp only[V.cells] at hy;cases j with
  | zero=>simp at hy;subst hy;exact hr
  | succ j=>simp at hy
theorem zWe {ρ:Nat→Nat}{vt ko:List Nat}{β β':Nat→Option BI}(N:jKu ρ vt ko β β'){v v':V}(h:vEq ρ vt ko v v') :
  v'.cells.length=v.cells.length ∧ ∀ (j:Nat) (y y':V),v.cells[j]?=some y→v'.cells[j]?=some y' → ∀ x,qW β F w y x→qW β' F w y' x:=by
 have ren:v=v'.ren ρ∧(v'.ids.all fun i=>ko.contains i)=true→v'.cells.length=v.cells.length ∧ ∀ (j:Nat) (y y':V),v.cells[j]?=some y→v'.cells[j]?=some y' → ∀ x,qW β F w y x→qW β' F w y' x:=by
  rintro⟨rfl,hall⟩;rw[qK9,zJ];refine⟨sM,fun j y y' hy hy' x hx=>?_⟩;rw[getElem?_map,hy'] at hy;cases hy;refine qJ1 N hx (all_eq_true.2 (fun r hr=>?_));exact all_eq_true.1 hall r (qX2 hy' r hr)
 have one:v.cells=[v]→v'.cells=[v']→v'.cells.length=v.cells.length ∧ ∀ (j:Nat) (y y':V),v.cells[j]?=some y→v'.cells[j]?=some y' → ∀ x,qW β F w y x→qW β' F w y' x:=by
  intro e1 e2;rw[e1,e2];refine⟨rfl,fun j y y' hy hy' x hx=>?_⟩;cases j with
  | zero=>simp at hy hy';subst hy hy';exact qSp N hx h
  | succ j=>simp at hy
 cases v with
 | nil=>
  cases v' with
  | t y=>simp only[vEq] at h;subst h;exact one rfl rfl
  | agg cs=>simp[vEq,V.ren] at h
  | _=>exact one rfl rfl
 | agg cs=>
  cases v' with
  | agg cs'=>
   simp only[vEq] at h;obtain⟨g1,g2⟩:=qJz h;exact⟨g1,fun j y y' hy hy' x hx=>qSp N hx (g2 j y y' hy hy')⟩
  | t y=>
   cases y with
   | agg ts=>
    simp only[vEq] at h;obtain⟨g1,g2⟩:=qJz h;exact⟨g1,fun j y y' hy hy' x hx=>qSp N hx (g2 j y y' hy hy')⟩
   | _=>simp[vEq,V.ren] at h
  | _=>simp[vEq,V.ren] at h
 | fn f cs=>
  cases v' with
  | fn f' cs'=>exact one rfl rfl
  | t y=>cases y<;>simp[vEq,V.ren] at h
  | _=>simp[vEq,V.ren] at h
 | t y=>exact ren (by cases v'<;>(try exact h)<;>(rename_i q;cases q<;>exact h))
 | ref i j k=>exact ren (by cases v'<;>(try exact h)<;>(rename_i q;cases q<;>exact h))
 | bd g i j k=>exact ren (by cases v'<;>(try exact h)<;>(rename_i q;cases q<;>exact h))
 | bq=>exact ren (by cases v'<;>(try exact h)<;>(rename_i q;cases q<;>exact h))
 | sl i j k=>exact ren (by cases v'<;>(try exact h)<;>(rename_i q;cases q<;>exact h))
 | ro cs=>exact ren (by cases v'<;>(try exact h)<;>(rename_i q;cases q<;>exact h))
 | tup cs=>exact ren (by cases v'<;>(try exact h)<;>(rename_i q;cases q<;>exact h))
def jGq (ρ:Nat→Nat)(vt ko:List Nat)(u es':List V):Prop:=
 match qF4 u with
 | some _=>u=qHz ρ es'∧((qQm es').all fun i=>ko.contains i)=true
 | none=>zEi ρ vt ko u es'
theorem zO8 {ρ:Nat→Nat}{vt ko:List Nat}{β β':Nat→Option BI}(N:jKu ρ vt ko β β'){u es':List V}(h:jGq ρ vt ko u es'){sz:Nat}{c:Array Value}(hh:vO β F w u sz c):vO β' F w es' sz c:=by
 unfold jGq at h;split at h
 ·obtain⟨rfl,h⟩:=h;have h1:=hh.unren;intro i x hx;obtain⟨k1,k2⟩:=h1 i x hx;refine⟨k1,fun j y hy=>?_⟩;obtain⟨u,g1,g2,g3⟩:=k2 j y hy;refine⟨u,g1,g2.sub (fun r hr bi hb=>?_),g3⟩;have:=all_eq_true.1 h r (xK (mem_of_getElem? hx) (qX2 hy r hr));rw[N.o r (by simpa using this)];exact hb
 ·obtain⟨g1,g2⟩:=qJz h;intro i x hx;have hi:i<u.length:=by rw[←g1];exact (List.getElem?_eq_some_iff.1 hx).1
  obtain⟨k1,k2⟩:=hh i u[i] (by simp[hi]);obtain⟨q1,q2⟩:=zWe (F:=F) (w:=w) N (g2 i u[i] x (by simp[hi]) hx);refine⟨q1.trans k1,fun j y' hy'=>?_⟩;have hj:j<u[i].cells.length:=by rw[←q1];exact (List.getElem?_eq_some_iff.1 hy').1
  obtain⟨q,hu,hr,ho⟩:=k2 j (u[i].cells[j]'hj) (by simp[hj]);exact⟨q,hu,q2 j (u[i].cells[j]'hj) y' (by simp[hj]) hy' q hr,ho⟩
theorem zJ1 {ρ:Nat→Nat}{vt ko:List Nat}{u es':List V}(h:jGq ρ vt ko u es'):es'.length=u.length:=by
 unfold jGq at h;split at h
 ·rw[h.1,zJ];simp
 ·exact (qJz h).1
def zQg (hs:Hs)(ρ:Nat→Nat)(vt ko:List Nat)(v:Option V)(v':V):Prop:=
 match v with
 | some v=>(rdV 4 v).wp hs (fun u _=>vEq ρ vt ko u v')
 | none=>False
def qNv (fs:Fs)(hs:Hs)(ρ:Nat→Nat)(vt ko:List Nat):Fs→Prop
 | []=>True
 | (t,v')::r=>zQg hs ρ vt ko (jM fs t) v'∧qNv fs hs ρ vt ko r
def obC (hs:Hs)(ρ:Nat→Nat)(vt ko:List Nat):Option Ob→Ob→Prop
 | some (.live z es wr full),.live z' es' wr' full'=>z=z'∧wr=wr'∧(full'=true→full=true)∧(zW4 es).wp hs (fun u _=>jGq ρ vt ko u es')
 | some _,.dead=>True
 | _,_=>False
def zWy (hs:Hs)(ρ:Nat→Nat)(vt ko:List Nat):Hs→Prop
 | []=>True
 | (i,o')::r=>obC hs ρ vt ko (jM hs (ρ i)) o'∧zWy hs ρ vt ko r
def zWh:Hs→Bool
 | []=>true
 | (i,.live _ [] true _)::r=>decide (100≤i)&&zWh r
 | _=>false
def zZs (ρ:Nat→Nat)(old vt new:List Nat):Bool:=zNx ρ old new&&vt.all fun i => !new.contains i
theorem qNv.get {fs:Fs}{hs:Hs}{ρ:Nat→Nat}{vt ko:List Nat} : ∀ {fs':Fs},qNv fs hs ρ vt ko fs' → ∀ t v',jM fs' t=some v'→zQg hs ρ vt ko (jM fs t) v'
 | [],_,t,v',h=>by cases h
 | (k,u)::r,hw,t,v',h=>by
  simp only[jM] at h;split at h
  ·cases h;subst_vars;exact hw.1
  ·exact qNv.get hw.2 t v' h
theorem zWy.get {hs:Hs}{ρ:Nat→Nat}{vt ko:List Nat} : ∀ {hs':Hs},zWy hs ρ vt ko hs' → ∀ i o',jM hs' i=some o'→obC hs ρ vt ko (jM hs (ρ i)) o'
 | [],_,t,v',h=>by cases h
 | (k,u)::r,hw,t,v',h=>by
  simp only[jM] at h;split at h
  ·cases h;subst_vars;exact hw.1
  ·exact zWy.get hw.2 t v' h
theorem zWh.get : ∀ {hs':Hs},zWh hs'=true → ∀ i o',jM hs' i=some o'→(∃ z full,o' = .live z [] true full)∧100≤i
 | [],_,t,v',h=>by cases h
 | (k,u)::r,hw,t,v',h=>by
  cases u with
  | dead=>simp[zWh] at hw
  | live z es wr full=>
   cases es with
   | cons _ _=>simp[zWh] at hw
   | nil=>
    cases wr with
    | false=>simp[zWh] at hw
    | true=>
     simp only[zWh,Bool.and_eq_true,decide_eq_true_eq] at hw;simp only[jM] at h;split at h
     ·cases h;subst_vars;exact⟨⟨z,full,rfl⟩,hw.1⟩
     ·exact zWh.get hw.2 t v' h
theorem qJ.cv0 {fs fs':Fs}{hs hv ho:Hs}(ρ:Nat→Nat)(h1:qNv fs hs ρ (hv.map (·.1)) (ho.map (·.1)) fs')(h2:zWy hs ρ (hv.map (·.1)) (ho.map (·.1)) ho)(h3:zWh hv=true)(h4:zZs ρ (hs.map (·.1)) (hv.map (·.1)) (ho.map (·.1))=true):qJ fs hs fs' (hv++ho):=by
 simp only[zZs,zNx,Bool.and_eq_true] at h4;obtain⟨⟨⟨hnum,hinj⟩,hkeep⟩,hdis⟩:=h4;intro cx β F a w R
 let β':Nat→Option BI:=fun i=>match jM hv i with
  | some o=>some ⟨none,o.z,0⟩
  | none=>match jM ho i with
   | some _=>β (ρ i)
   | none=>none
 have bv : ∀ i o,jM hv i=some o→β' i=some ⟨none,o.z,0⟩:=fun i o h=>by simp[β',h]
 have hvo : ∀ i,i∈ho.map (·.1)→jM hv i=none:=by
  intro i hi;cases h:jM hv i with
  | none=>rfl
  | some o=>
   have:=all_eq_true.1 hdis i (qB6 h);exact absurd hi (by simpa using this)
 have bo : ∀ i,i∈ho.map (·.1)→β' i=β (ρ i):=by
  intro i hi;obtain⟨o,h⟩:=qH5 hi;simp[β',hvo i hi,h]
 have N:jKu ρ (hv.map (·.1)) (ho.map (·.1)) β β':=⟨bo,fun i hi=>by
  obtain⟨o,h⟩:=qH5 hi;exact⟨o.z,bv i o h⟩⟩
 have inj : ∀ i j,i∈ho.map (·.1)→j∈ho.map (·.1)→ρ i=ρ j→i=j:=by
  intro i j hi hj e;obtain⟨m,hm⟩:=getElem?_of_mem hi;obtain⟨n,hn⟩:=getElem?_of_mem hj;have hml:m<(ho.map (·.1)).length:=(List.getElem?_eq_some_iff.1 hm).1;have hnl:n<(ho.map (·.1)).length:=(List.getElem?_eq_some_iff.1 hn).1;have:=qB9 (of_decide_eq_true hinj) (i:=m) (j:=n) (by simpa using hml) (by simpa using hnl) (by
   have a1:(ho.map (·.1))[m]=i:=by rw[getElem?_eq_getElem hml] at hm;exact Option.some.inj hm
   have a2:(ho.map (·.1))[n]=j:=by rw[getElem?_eq_getElem hnl] at hn;exact Option.some.inj hn
   simp only[getElem_map] at a1 a2 ⊢;rw[a1,a2];exact e)
  subst this;rw[hm] at hn;exact Option.some.inj hn
 have ob : ∀ {bi:BI} {o o':Ob},qHv β F w bi o→obC hs ρ (hv.map (·.1)) (ho.map (·.1)) (some o) o'→qHv β' F w bi o':=by
  intro bi o o' hok hc;cases o' with
  | dead=>trivial
  | live z' es' wr' full'=>
   cases o with
   | dead=>exact hc.elim
   | live z es wr full=>
    obtain⟨rfl,rfl,hfull,u,l,hrd,hes⟩:=hc;have l1:=qQr hrd;have l2:=zJ1 hes;unfold qHv at hok ⊢;obtain⟨g1,g2,g3⟩:=hok;refine⟨g1,fun h=>by rw[l2,l1];exact g2 (hfull h),?_⟩;cases hb:bi.blk with
    | none=>
     simp only[hb] at g3 ⊢;refine⟨?_,g3.2⟩;rw[g3.1] at l1;exact eq_nil_of_length_eq_zero (by rw[l2,l1];rfl)
    | some b=>
     simp only[hb] at g3 ⊢;obtain⟨c,e,fz,k1,k2,k3,k4,k5,k6,k7⟩:=g3;exact⟨c,e,fz,k1,k2,k3,by rw[l2,l1];exact k4,k5,zO8 N hes (qT3 R hrd k6).2,k7⟩
 have cases_ : ∀ id o',jM (hv++ho) id=some o'→(∃ z full,o' = .live z [] true full∧β' id=some ⟨none,z,0⟩∧100≤id)∨(id∈ho.map (·.1) ∧ ∃ o,jM hs (ρ id)=some o∧obC hs ρ (hv.map (·.1)) (ho.map (·.1)) (some o) o'∧(id<100→ρ id=id)∧(100≤id→100≤ρ id)):=by
  intro id o' h;rw[qRz] at h;split at h
  ·rename_i o hvl;cases h;obtain⟨⟨z,full,rfl⟩,h100⟩:=zWh.get h3 id o' hvl;exact .inl ⟨z,full,rfl,bv id _ hvl,h100⟩
  ·have hob:=h2.get id o' h;have hm:=qB6 h;have hi:=all_eq_true.1 hnum id hm;have hi':(id<100∧ρ id=id)∨(100≤id∧100≤ρ id):=by simpa using hi
   cases hl:jM hs (ρ id) with
   | none=>rw[hl] at hob;cases o'<;>exact hob.elim
   | some o=>
    rw[hl] at hob;exact .inr ⟨hm,o,rfl,hob,fun h=>by rcases hi' with h' | h';exact h'.2;omega,fun h=>by rcases hi' with h' | h';omega;exact h'.2⟩
 have notdead : ∀ {o o':Ob},obC hs ρ (hv.map (·.1)) (ho.map (·.1)) (some o) o'→o'≠ .dead→o≠ .dead:=by
  intro o o' hc hd hd';subst hd';cases o' with
  | dead=>exact hd rfl
  | live _ _ _ _=>exact hc
 refine⟨β',F,R.tsz,R.dfr,fun t v' hv'=>?_,fun id o' ho'=>?_,fun id hn=>?_,fun i j bi bj b oi oj e1 e2 e3 e4 e5 e6 e7 e8=>?_,R.os,R.tape,R.output,R.size,R.ext,fun id z es full bi b e1 e2 e3=>?_,R.inF,R.inw,R.Fw,R.F0,fun id bi b e1 e2=>?_,fun g cs hg=>?_,fun k bi hk=>?_,R.gs⟩
 ·have hsl:=h1.get t v' hv';unfold zQg at hsl;split at hsl
  ·rename_i v hl;obtain⟨u,l,hrd,heq⟩:=hsl;obtain⟨x,g3,g4⟩:=R.fr t v hl;exact⟨x,g3,qSp N (qGh R hrd g4) heq⟩
  ·exact hsl.elim
 ·rcases cases_ id o' ho' with⟨z,full,rfl,hb,_⟩ | ⟨hm,o,g1,g2,_⟩
  ·exact⟨_,hb,rfl,fun _=>rfl,rfl,rfl⟩
  ·obtain⟨bi,g3,g4⟩:=R.hp _ o g1;exact⟨bi,by rw[bo id hm];exact g3,ob g4 g2⟩
 ·rw[qRz] at hn;split at hn
  ·cases hn
  ·rename_i hv0;simp[β',hv0,hn]
 ·rcases cases_ i oi e5 with⟨z,full,rfl,hb,_⟩ | ⟨hm,o,g1,g2,_⟩
  ·rw[hb] at e1;cases e1;cases e3
  ·rcases cases_ j oj e6 with⟨z,full,rfl,hb,_⟩ | ⟨hm',o',g1',g2',_⟩
   ·rw[hb] at e2;cases e2;cases e4
   ·rw[bo i hm] at e1;rw[bo j hm'] at e2;exact inj i j hm hm' (R.inj _ _ bi bj b o o' e1 e2 e3 e4 g1 g1' (notdead g2 e7) (notdead g2' e8))
 ·rcases cases_ id _ e1 with⟨z',full',_,hb,_⟩ | ⟨hm,o,g1,g2,g3,g4⟩
  ·rw[hb] at e2;cases e2;cases e3
  ·rw[bo id hm] at e2;cases o with
   | dead=>exact g2.elim
   | live z0 es0 wr0 full0=>
    obtain⟨_,rfl,_⟩:=g2;rcases R.old _ z0 es0 full0 bi b g1 e2 e3 with h | ⟨h,h'⟩
    ·exact .inl h
    ·refine .inr ⟨?_,h'⟩;rcases Nat.lt_or_ge id 100 with h7 | h7
     ·exact h7
     ·have:=g4 h7;omega
 ·cases hl:jM hv id with
  | some o=>rw[bv id o hl] at e1;cases e1;cases e2
  | none=>
   cases hl2:jM ho id with
   | none=>simp[β',hl,hl2] at e1
   | some o=>
    rw[bo id (qB6 hl2)] at e1;exact R.blt _ bi b e1 e2
 ·have:=R.gl g cs hg;cases this with
  | ro _ ad news ha hn h1' hF hw h=>exact .ro cs _ news ha hn h1' hF hw h
 ·have hβ:=R.ext0 k bi hk;cases hl:jM hs k with
  | none=>rw[R.dom k hl] at hβ;cases hβ
  | some o=>
   have hk100:=cx.d0 k bi hk;have hm:k∈ho.map (·.1):=by
    have:=all_eq_true.1 hkeep k (qB6 hl);simpa [hk100] using this
   rw[bo k hm];have hi:=all_eq_true.1 hnum k hm;have hi':(k<100∧ρ k=k)∨(100≤k∧100≤ρ k):=by simpa using hi
   rw[show ρ k=k by rcases hi' with h | h;exact h.2;omega];exact hβ
theorem qJ.cv {fs fs':Fs}{hs hv ho:Hs}(fz:List Nat)(ρ:Nat→Nat)
  (h:(zB4 fz).wp hs (fun fw _=>qNv fs (zCg hs fw) ρ (hv.map (·.1)) (ho.map (·.1)) fs'∧zWy (zCg hs fw) ρ (hv.map (·.1)) (ho.map (·.1)) ho∧zZs ρ ((zCg hs fw).map (·.1)) (hv.map (·.1)) (ho.map (·.1))=true)) (h3:zWh hv=true):qJ fs hs fs' (hv++ho):=by
 obtain⟨fw,l,hf,h1,h2,h4⟩:=h;exact (qJ.freeze hf).trans (qJ.cv0 ρ h1 h2 h3 h4)
theorem qJ.rd {fs fs':Fs}{hs ho:Hs}(ρ:Nat→Nat)(h1:qNv fs hs ρ [] (ho.map (·.1)) fs')(h2:zWy hs ρ [] (ho.map (·.1)) ho)(h4:zZs ρ (hs.map (·.1)) [] (ho.map (·.1))=true):qJ fs hs fs' ho:=
 qJ.cv0 (hv:=[]) ρ h1 h2 rfl h4
end Go.Eng
end
section
namespace Go.Eng
open List
def jGz (es:List V):List Nat:=
 match qF4 es with
 | some _=>[]
 | none=>qQm es
def qRv:Nat→List Nat→List Nat→List Ob→Q (List Nat×List Ob)
 | _,[],ids,obs=> .ret (ids,obs)
 | 0,_::_,_,_=> .fail
 | n+1,id::todo,ids,obs=>if ids.contains id then qRv n todo ids obs else
  .get id fun
   | .live z es true full=>(zW4 es).bind fun es'=>qRv n (todo++jGz es') (ids++[id]) (obs++[.live z es' true full])
   | _=> .fail
def jEp (n:Nat)(vs:List V):Q (V×List Ob):=
 (rdL (rdV 4) vs).bind fun us=>(qRv (40+n) (List.range n++qQm us) [] []).bind fun q=>
  Q.assert ((qQm us).all (fun i=>q.1.contains i)=true) (.ret (jEo (qHz (fun r=>q.1.idxOf r) us),q.2.map (Ob.ren fun r=>q.1.idxOf r)))
def kG (fz:List Nat)(rs:List (Nat×Option (Nat×Bool)))(n:Nat)(R:V→List Ob→Prop):qHw:=fun e fs hs=>
 match e with
 | .exit _=>False
 | _=>(zB4 fz).wp hs (fun fw _=>((rsQ fs rs).bind fun vs=>jEp n vs).wp (zCg hs fw) (fun p _=>R p.1 p.2))
def jKt (hm:Nat→Option Ob)(id:Nat)(o:Ob):Prop:=
 ∃ z es es' full l,hm id=some (.live z es true full)∧o = .live z es' true full∧(zW4 es).run hm=some (es',l)
theorem qRw {hm:Nat→Option Ob} : ∀ {n:Nat} {todo ids:List Nat} {obs:List Ob} {ids':List Nat} {obs':List Ob} {l:List Nat},(qRv n todo ids obs).run hm=some ((ids',obs'),l)→
  ids.Nodup→ids.length=obs.length→(∀ (k id:Nat) (o:Ob),ids[k]?=some id→obs[k]?=some o→jKt hm id o)→(∀ o∈obs,∀ z es wr full,o = .live z es wr full → ∀ r∈jGz es,r∈ids∨r∈todo)→
   ids'.Nodup∧ids'.length=obs'.length∧(∀ (k id:Nat) (o:Ob),ids'[k]?=some id→obs'[k]?=some o→jKt hm id o)∧(∀ o∈obs',∀ z es wr full,o = .live z es wr full → ∀ r∈jGz es,r∈ids')∧
    (∀ r∈todo,r∈ids') ∧ ∃ s,ids'=ids++s
 | n,[],ids,obs,ids',obs',l,h,h1,h2,h3,h4=>by
  have h':(Q.ret (ids,obs):Q _).run hm=some ((ids',obs'),l):=by cases n<;>exact h
  obtain⟨e,_⟩:=qF h';cases e;refine⟨h1,h2,h3,fun o ho z es wr full e r hr=>?_,sM,[],sM⟩;rcases h4 o ho z es wr full e r hr with h | h
  ·exact h
  ·simp at h
 | 0,_::_,ids,obs,ids',obs',l,h,_,_,_,_=>by cases h
 | n+1,id::todo,ids,obs,ids',obs',l,h,h1,h2,h3,h4=>by
  simp only[qRv] at h;split at h
  ·rename_i hc;have hc':id∈ids:=by simpa using hc
   obtain⟨g1,g2,g3,g4,g5,s,g6⟩:=qRw h h1 h2 h3 (fun o ho z es wr full e r hr=>by
    rcases h4 o ho z es wr full e r hr with h | h
    ·exact .inl h
    ·rcases mem_cons.1 h with rfl | h
     ·exact .inl hc'
     ·exact .inr h)
   refine⟨g1,g2,g3,g4,fun r hr=>?_,s,g6⟩;rcases mem_cons.1 hr with rfl | hr
   ·rw[g6];simp[hc']
   ·exact g5 r hr
  ·rename_i hc;have hc':id ∉ ids:=by simpa using hc
   obtain⟨o,l',ho,hs2,_⟩:=vV h;cases o with
   | dead=>cases hs2
   | live z es wr full=>
    cases wr with
    | false=>cases hs2
    | true=>
     obtain⟨es',l1,l2,hp,hs3,_⟩:=zC hs2;obtain⟨g1,g2,g3,g4,g5,s,g6⟩:=qRw hs3 (by
       rw[nodup_append];refine⟨h1,sM,?_⟩;intro x hx y hy e;simp at hy;subst e hy;exact hc' hx) (by simp[h2]) (fun k i o hk hok=>by
       rcases Nat.lt_or_ge k ids.length with hlt | hge
       ·rw[getElem?_append_left hlt] at hk;rw[getElem?_append_left oM] at hok;exact h3 k i o hk hok
       ·rw[getElem?_append_right hge] at hk;rw[getElem?_append_right oM] at hok;have e1:k-ids.length=0:=by
         have:=(List.getElem?_eq_some_iff.1 hk).1;simp at this;omega
        have e2:k-obs.length=0:=oM;rw[e1] at hk;rw[e2] at hok;simp at hk hok;subst hk hok;exact⟨z,es,es',full,l1,ho,rfl,hp⟩) (fun o ho' z' es2 wr' full' e r hr=>by
       rcases mem_append.1 ho' with ho' | ho'
       ·rcases h4 o ho' z' es2 wr' full' e r hr with h | h
        ·exact .inl (by simp[h])
        ·rcases mem_cons.1 h with rfl | h
         ·exact .inl sM
         ·exact .inr (by simp[h])
       ·simp at ho';rw[ho'] at e;cases e;exact .inr (by simp[hr]))
     refine⟨g1,g2,g3,g4,fun r hr=>?_,id::s,by rw[g6];simp⟩;rcases mem_cons.1 hr with rfl | hr
     ·rw[g6];simp
     ·exact g5 r (by simp[hr])
theorem qQk {hm:Nat→Option Ob} : ∀ {m n s:Nat} {rest:List Nat} {obs:List Ob} {ids':List Nat} {obs':List Ob} {l:List Nat},(qRv n (List.range' s m++rest) (List.range s) obs).run hm=some ((ids',obs'),l) → ∃ t,ids'=List.range (s+m)++t
 | 0,n,s,rest,obs,ids',obs',l,h=>by
  have key : ∀ {n:Nat} {todo ids:List Nat} {obs:List Ob} {ids':List Nat} {obs':List Ob} {l:List Nat},(qRv n todo ids obs).run hm=some ((ids',obs'),l) → ∃ s,ids'=ids++s:=by
   intro n
   induction n with
   | zero=>
    intro todo ids obs ids' obs' l h;cases todo with
    | nil=>obtain⟨e,_⟩:=qF (x:=(ids,obs)) h;cases e;exact⟨[],sM⟩
    | cons _ _=>cases h
   | succ n ih=>
    intro todo ids obs ids' obs' l h;cases todo with
    | nil=>obtain⟨e,_⟩:=qF (x:=(ids,obs)) h;cases e;exact⟨[],sM⟩
    | cons id todo=>
     simp only[qRv] at h;split at h
     ·exact ih h
     ·obtain⟨o,l',ho,hs2,_⟩:=vV h;cases o with
      | dead=>cases hs2
      | live z es wr full=>
       cases wr with
       | false=>cases hs2
       | true=>
        obtain⟨es',l1,l2,hp,hs3,_⟩:=zC hs2;obtain⟨s,hs⟩:=ih hs3;exact⟨id::s,by rw[hs];simp⟩
  obtain⟨t,ht⟩:=key h;exact⟨t,ht⟩
 | m+1,n,s,rest,obs,ids',obs',l,h=>by
  cases n with
  | zero=>rw[range'_succ] at h;cases h
  | succ n=>
   rw[range'_succ,cons_append] at h;simp only[qRv] at h;split at h
   ·rename_i hc;simp at hc
   ·obtain⟨o,l',ho,hs2,_⟩:=vV h;cases o with
    | dead=>cases hs2
    | live z es wr full=>
     cases wr with
     | false=>cases hs2
     | true=>
      obtain⟨es',l1,l2,hp,hs3,_⟩:=zC hs2;rw[←range_succ,append_assoc] at hs3;obtain⟨t,ht⟩:=qQk hs3;exact⟨t,by rw[ht];congr 2;omega⟩
variable {cx:Cx} {β:Nat→Option BI} {F:Nat→Prop} {a:Act} {w:World} {fm:Nat→Option V} {hm:Nat→Option Ob}
theorem qX3 {ids:List Nat}{v:V}{x:Value}(h:qW β F w v x):(∀ r∈v.ids,r∈ids)→qW (qH9 ids β) F w (v.ren (fun r=>ids.idxOf r)) x:=by
 induction h with
 | t h=>intro _;exact .t h
 | nil=>intro _;exact .nil
 | ref id i f b sz room hb=>intro hr;exact .ref _ i f b sz room (by rw[qNb (hr id (by simp[V.ids]))];exact hb)
 | bd g id i f b sz room hb=>intro hr;exact .bd g _ i f b sz room (by rw[qNb (hr id (by simp[V.ids]))];exact hb)
 | bq b=>intro _;exact .bq b
 | ro cs a news ha hn h1 hF hw h=>intro _;exact .ro cs a news ha hn h1 hF hw h
 | sl id off len cap b sz room a hb hlc hr ha hs=>intro hi;exact .sl _ off len cap b sz room a (by rw[qNb (hi id (by simp[V.ids]))];exact hb) hlc hr ha hs
 | slv id sz room hb=>intro hi;exact .slv _ sz room (by rw[qNb (hi id (by simp[V.ids]))];exact hb)
 | agg cs vs hl h1 _ ih=>
  intro hr;simp only[V.ren,zJ];refine .agg _ vs (by simpa using hl) h1 (fun i c u hc hu=>?_);rw[getElem?_map,Option.map_eq_some_iff] at hc;obtain⟨c',hc',rfl⟩:=hc;exact ih i c' u hc' hu (fun r h=>hr r (by simp only[V.ids];exact xK (mem_of_getElem? hc') h))
 | tup cs vs hl _ ih=>
  intro hr;simp only[V.ren,zJ];refine .tup _ vs (by simpa using hl) (fun i c u hc hu=>?_);rw[getElem?_map,Option.map_eq_some_iff] at hc;obtain⟨c',hc',rfl⟩:=hc;exact ih i c' u hc' hu (fun r h=>hr r (by simp only[V.ids];exact xK (mem_of_getElem? hc') h))
 | fn f cs vs hl _ ih=>
  intro hr;simp only[V.ren,zJ];refine .fn f _ vs (by simpa using hl) (fun i c u hc hu=>?_);rw[getElem?_map,Option.map_eq_some_iff] at hc;obtain⟨c',hc',rfl⟩:=hc;exact ih i c' u hc' hu (fun r h=>hr r (by simp only[V.ids];exact xK (mem_of_getElem? hc') h))
theorem zNj {es:List V} : ∀ r∈qQm es,r∈jGz es:=by
 intro r hr;unfold jGz;split
 ·rename_i ts h;rw[qFk h,jDv] at hr;simp at hr
 ·exact hr
theorem zGx {ids:List Nat}{es:List V}{sz:Nat}{c:Array Value}(h:vO β F w es sz c)(hi : ∀ r∈qQm es,r∈ids):vO (qH9 ids β) F w (qHz (fun r=>ids.idxOf r) es) sz c:=by
 intro i x hx;rw[zJ,getElem?_map,Option.map_eq_some_iff] at hx;obtain⟨x0,hx0,rfl⟩:=hx;obtain⟨h1,h2⟩:=h i x0 hx0;rw[qK9,zJ];refine⟨by simpa using h1,fun j y hy=>?_⟩;rw[getElem?_map,Option.map_eq_some_iff] at hy;obtain⟨y0,hy0,rfl⟩:=hy;obtain⟨u,g1,g2,g3⟩:=h2 j y0 hy0;exact⟨u,g1,qX3 g2 (fun r hr=>hi r (xK (mem_of_getElem? hx0) (qX2 hy0 r hr))),g3⟩
theorem zH0 {P:Program}{G:Gl}{tab:Tab}{f:FuncId}{fn:Func}{c:Code}{ac:AC}{hints:List (Nat×List Nat)}{rs:List (Nat×Option (Nat×Bool))}(fz:List Nat)(hf:P.funcs[f]?=some fn)(hb:fn.body=some c)(hann:ann P fn.ntmps hints c=some ac)(hmx:P.follows .mixedOrders=true)
  (ht:qCc P G tab) (hrs:qNk P fn.results.toList=some rs) {aS:List V} {ins:List Ob} {r:V} {outs:List Ob} (hn:aS.length≤fn.ntmps) (hi:ins.length≤100)
  (h:ac.wp tab G (qE 0 aS) (qE 0 ins) (kG fz rs ins.length (fun r' outs'=>r'=r∧outs'=outs))):zMa P G f aS ins r outs:=by
 intro w β F vals env fits hargs;have hd0 : ∀ k bi,β k=some bi→k<100:=by
  intro k bi h;rcases Nat.lt_or_ge k ins.length with h1 | h1
  ·omega
  ·rw[fits.dom k h1] at h;cases h
 let cx:Cx := { P,w0:=w,F0:=F,inb:=fun b => ∃ k bi,β k=some bi∧bi.blk=some b,nt:=fn.ntmps,gl:=G,β0:=β,d0:=hd0 }
 have hlen:aS.length=vals.size:=by simpa using hargs.length
 have lookAs : ∀ t v,jM (qE 0 aS) t=some v→aS[t]?=some v:=by
  intro t v h;simpa [qAq] using h
 have lookIns : ∀ t v,jM (qE 0 ins) t=some v→ins[t]?=some v:=by
  intro t v h;simpa [qAq] using h
 have R0:Rel cx β F (jM (qE 0 aS)) (jM (qE 0 ins)) { tmps:=vals++Array.replicate (fn.ntmps-vals.size) undef,defers:=[] } w:=by
  refine⟨by simp[cx];omega,rfl,fun t v hv=>?_,fun id o ho=>?_,fun id hn=>?_,fun i j bi bj b oi oj h1 h2 h3 h4 _ _ _ _=>fits.inj i j bi bj b h1 h2 h3 h4,rfl,rfl,rfl,Nat.le_refl _,fun _ _ _=>rfl,fun id z es full bi b h1 h2 h3=> .inr ⟨?_,id,bi,h2,h3⟩,fun b hb=>?_,fun b hb=>?_,env.Fw,fun _ _=>Iff.rfl,fun id bi b h1 h2=>(fits.blt id bi b h1 h2).1,fun g cs hg=>?_,fun _ _ h=>h,env.gs⟩
  ·obtain⟨x,h1,h2⟩:=hargs.get' t v (lookAs t v hv);refine⟨x,?_,h2⟩;have hlt:t<vals.size:=by
    have:=(List.getElem?_eq_some_iff.1 (lookAs t v hv)).1;omega
   rw[Array.getElem?_append_left hlt];simpa using h1
  ·obtain⟨bi,h1,h2,_⟩:=fits.ok id o (lookIns id o ho);exact⟨bi,h1,h2⟩
  ·refine fits.dom id ?_;rcases Nat.lt_or_ge id ins.length with h1 | h1
   ·rw[qAq] at hn;simp[h1] at hn
   ·exact h1
  ·have:=(List.getElem?_eq_some_iff.1 (lookIns id _ h1)).1;omega
  ·obtain⟨k,bi,h1,h2⟩:=hb;exact (fits.blt k bi b h1 h2).2
  ·obtain⟨k,bi,h1,h2⟩:=hb;exact (fits.blt k bi b h1 h2).1
  ·exact (env.gl g cs hg).mono (fun _ _ h=>by cases h) (fun _ h=>h) (fun _ _=>rfl)
 refine calls_of_wp hf hb (AC.sound (cx:=cx) ht hmx hann h R0 (fun e fs hs βR FR0 a w' hq R0'=>?_));have fin:((zB4 fz).wp hs (fun fw _=>((rsQ fs rs).bind fun vs=>jEp ins.length vs).wp (zCg hs fw) (fun p _=>p.1=r∧p.2=outs)))→a.defers=[] ∧ ∃ v,(results fn a.tmps).run P w' = .ok v w' ∧ ∃ x β' F',Ending.returned v = .returned x∧qRh w β F ins r outs x β' F' w':=by
  rintro⟨fw,lf,hfz,hq⟩;obtain⟨FR,R,_⟩:=Rel.freezeAll hfz R0' (fun id _=> .inl rfl);rw[←qH6] at R;rw[Q.wp_bind] at hq;obtain⟨vs,l0,hvs,⟨r',outs'⟩,l,hrun,e1,e2⟩:=hq;obtain⟨xs,hxs,hall⟩:=qSa (cx:=cx) R hrs hvs;refine⟨R.dfr,_,qQw hxs,?_⟩;simp only at e1 e2;subst e1 e2;unfold jEp at hrun;obtain⟨us,l1,l2,hp,hrun,_⟩:=zC hrun;obtain⟨q,l3,l4,hqq,hrun,_⟩:=zC hrun;obtain⟨hsub,hrun⟩:=qS hrun;obtain⟨e,_⟩:=qF hrun;simp only[Prod.mk.injEq] at e;obtain⟨rfl,rfl⟩:=e;obtain⟨ids,obs⟩:=q;simp only at hsub ⊢;obtain⟨t,htt⟩:=qQk (s:=0) (m:=ins.length) (n:=40+ins.length) (rest:=qQm us) (by simpa [range_eq_range'] using hqq);obtain⟨hnd,hlo,hG,hin,_,_⟩:=qRw hqq sM rfl (by intro k id o h;simp at h) sM;have hidk : ∀ k,k<ins.length→ids[k]?=some k:=by
   intro k hk;rw[htt,getElem?_append_left (by simpa using hk)];simp[hk]
  have hlive : ∀ (k id:Nat),ids[k]?=some id → ∃ z es full,jM (zCg hs fw) id=some (.live z es true full):=by
   intro k id hk;have hkl:k<obs.length:=by rw[←hlo];exact (List.getElem?_eq_some_iff.1 hk).1
   obtain⟨z,es,es',full,_,g1,_⟩:=hG k id obs[k] hk (by simp[hkl]);exact⟨z,es,full,g1⟩
  have hβk : ∀ k bi,β k=some bi→βR k=some bi:=R.ext0;have hklt : ∀ k bi,β k=some bi→k<ins.length:=by
   intro k bi h;rcases Nat.lt_or_ge k ins.length with h1 | h1
   ·exact h1
   ·rw[fits.dom k h1] at h;cases h
  have hus:qBm (qW βR FR w') us xs:=by
   obtain⟨g1,g2⟩:=qMx hp;refine qXe (by rw[g1];exact hall.length.symm) (fun i c u hc hu=>?_);have hi:i<vs.length:=by rw[←g1];exact (List.getElem?_eq_some_iff.1 hc).1
   obtain⟨li,m1⟩:=g2 i vs[i] c (by simp[hi]) hc;obtain⟨y,h1,h2⟩:=hall.get' i vs[i] (by simp[hi]);rw[hu] at h1;cases h1;exact qGh R m1 h2
  have hren:qBm (qW (qH9 ids βR) FR w') (qHz (fun r=>ids.idxOf r) us) xs:=by
   refine qXe (by rw[zJ];simpa using hus.length.symm) (fun i c u hc hu=>?_);rw[zJ,getElem?_map,Option.map_eq_some_iff] at hc;obtain⟨c0,hc0,rfl⟩:=hc;obtain⟨y,h1,h2⟩:=hus.get' i c0 hc0;rw[hu] at h1;cases h1;refine qX3 h2 (fun r hr=>?_);have:=all_eq_true.1 hsub r (xK (mem_of_getElem? hc0) hr);simpa using this
  have hfits:zW6 (qH9 ids βR) FR w' (obs.map (Ob.ren fun r=>ids.idxOf r)):=by
   refine⟨fun k o ho=>?_,fun k hk=>?_,fun i j bi bj b h1 h2 h3 h4=>?_,fun k bi b h1 h2=>?_⟩
   ·rw[getElem?_map,Option.map_eq_some_iff] at ho;obtain⟨o',ho',rfl⟩:=ho;have hkl:k<ids.length:=by rw[hlo];exact (List.getElem?_eq_some_iff.1 ho').1
    obtain⟨z,es,es',full,lr,g1,g2,g3⟩:=hG k ids[k] o' (by simp[hkl]) ho';obtain⟨bi,hb,hok⟩:=R.hp _ _ g1;refine⟨bi,by simp[qH9,hkl,hb],?_,?_⟩
    ·rw[g2];have l1:=qQr g3;have l2:(qHz (fun r=>ids.idxOf r) es').length=es'.length:=by rw[zJ];simp
     have hii : ∀ r∈qQm es',r∈ids:=fun r hr=>hin o' (mem_of_getElem? ho') z es' true full g2 r (zNj r hr)
     unfold qHv at hok ⊢;obtain⟨k1,k2,k3⟩:=hok;refine⟨k1,fun h=>by rw[l2,l1];exact k2 h,?_⟩;cases hb:bi.blk with
     | none=>
      simp only[hb] at k3 ⊢;refine⟨?_,k3.2⟩;rw[k3.1] at l1;exact eq_nil_of_length_eq_zero (by rw[l2,l1];rfl)
     | some b=>
      simp only[hb] at k3 ⊢;obtain⟨c,e,fz,m1,m2,m3,m4,m5,m6,m7⟩:=k3;exact⟨c,e,fz,m1,m2,m3,by rw[l2,l1];exact m4,m5,zGx (qT3 R g3 m6).2 hii,m7⟩
    ·rw[g2];exact⟨z,_,full,rfl⟩
   ·rw[length_map,←hlo] at hk;simp[qH9,getElem?_eq_none hk]
   ·unfold qH9 at h1 h2;rw[Option.bind_eq_some_iff] at h1 h2;obtain⟨x,hx,h1⟩:=h1;obtain⟨y,hy,h2⟩:=h2;obtain⟨z1,e1,f1,m1⟩:=hlive i x hx;obtain⟨z2,e2,f2,m2⟩:=hlive j y hy;have:=R.inj x y bi bj b _ _ h1 h2 h3 h4 m1 m2 sM sM;subst this;have hi:i<ids.length:=(List.getElem?_eq_some_iff.1 hx).1;have hj:j<ids.length:=(List.getElem?_eq_some_iff.1 hy).1;exact qB9 hnd hi hj (by rw[getElem?_eq_getElem hi] at hx;rw[getElem?_eq_getElem hj] at hy;rw[Option.some.inj hx,Option.some.inj hy])
   ·unfold qH9 at h1;rw[Option.bind_eq_some_iff] at h1;obtain⟨x,hx,h1⟩:=h1;obtain⟨z1,e1,f1,m1⟩:=hlive k x hx;exact⟨R.blt x bi b h1 h2,R.notF m1 h1 h2⟩
  refine⟨_,qH9 ids βR,FR,rfl,hfits,qYj hren,fun k hk=>?_,fun k bi b hk h1 h2=>?_,fun b hb=>R.F0 b hb,R.Fw,R.os,R.tape,R.output,R.size,fun b hb hk=>R.ext b hb (fun ⟨k,bi,h1,h2⟩=>hk k bi h1 h2)⟩
  ·obtain⟨bi,h1,_⟩:=fits.ok k ins[k] (by simp[hk]);simp[qH9,hidk k hk,hβk k bi h1,h1]
  ·unfold qH9 at h1;rw[Option.bind_eq_some_iff] at h1;obtain⟨id,hid,h1⟩:=h1;obtain⟨z,es,full,hl⟩:=hlive k id hid;rcases R.old id z es full bi b hl h1 h2 with h | ⟨_,k0,bi0,g1,g2⟩
   ·exact h
   ·exfalso;have hk0:=hklt k0 bi0 g1;obtain⟨z0,es0,full0,hl0⟩:=hlive k0 k0 (hidk k0 hk0);have e:=R.inj id k0 bi bi0 b _ _ h1 (hβk k0 bi0 g1) h2 g2 hl hl0 sM sM;subst e;have hi1:k<ids.length:=(List.getElem?_eq_some_iff.1 hid).1;have hi2:id<ids.length:=(List.getElem?_eq_some_iff.1 (hidk id hk0)).1;have:=qB9 hnd hi1 hi2 (by
     have a1:=hid;have a2:=hidk id hk0;rw[getElem?_eq_getElem hi1] at a1;rw[getElem?_eq_getElem hi2] at a2;rw[Option.some.inj a1,Option.some.inj a2])
    omega
 cases e with
 | normal=>exact fin hq
 | ret=>exact fin hq
 | exit id=>exact hq.elim
def zG5 (tab:Tab)(gl:Gl)(a:AC):Nat→Fs→Hs→qHw→Prop
 | 0,_,_,_=>False
 | n+1,fs,hs,Qx=>a.wp tab gl fs hs (fun e fs' hs'=>match e with | .normal=>zG5 tab gl a n fs' hs' Qx | e=>Qx e fs' hs')
theorem qG {tab:Tab}{gl:Gl}{a:AC}(n:Nat){fs:Fs}{hs:Hs}{Qx:qHw}(h:zG5 tab gl a n fs hs Qx):qZ6 tab gl a fs hs Qx:=by
 refine qMu (ι := { p:Nat×Fs×Hs // zG5 tab gl a p.1 p.2.1 p.2.2 Qx }) (fun i=>i.1.2) (fun i=>i.1.1) ⟨(n,fs,hs),h⟩ qJ.refl (fun i=>?_);obtain⟨⟨m,f,g⟩,hi⟩:=i;cases m with
 | zero=>exact hi.elim
 | succ m=>
  refine jD (fun e f' g' hq=>?_) hi;cases e with
  | normal=>exact⟨⟨(m,f',g'),hq⟩,Nat.lt_succ_self m,qJ.refl⟩
  | exit id=>exact hq
  | ret=>exact hq
end Go.Eng
end
