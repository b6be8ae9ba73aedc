/- A part of an abstract machine, its walks, their tie. -/
import Derived.Test.YtekghmfbgbhobaaGreatDoorD7
set_option linter.all false
section
namespace Go.Eng
variable {tab:Tab} {gl:Gl} {fs:Fs} {hs:Hs}
def AC.strict:AC→Bool
 | .seq a b=>a.strict&&b.strict
 | .cond _ a b=>a.strict&&b.strict
 | .condb _ _ _=>false
 | .block _ a=>a.strict
 | .loop a=>a.strict
 | _=>true
theorem qXl {κ:Type} : ∀ {ops:List jC} {nb:Nat} {fs:Fs} {hs:Hs} {acc:List (List Nat×List Nat)} {K:κ→Fs→Hs→List (List Nat×List Nat)→Prop},
  zDk tab gl ops nb fs hs acc (fun f g c => ∃ i,K i f g c) → ∃ i,zDk tab gl ops nb fs hs acc (K i)
 | [],_,_,_,_,_,h=>h
 | o::r,nb,fs,hs,acc,K,h=>by
  obtain⟨x,l,h1,h2⟩:=h;obtain⟨i,h3⟩:=qXl (ops:=r) h2;exact⟨i,x,l,h1,h3⟩
def jPc {ι κ:Type}(I:ι→Fs×Hs)(m:ι→Nat)(n:Nat)(Q:κ→qHq):Sum ι κ→qHq
 | .inl j,.normal,f,h=>m j<n∧qI f h (I j).1 (I j).2
 | .inl _,_,_,_=>False
 | .inr _,.normal,_,_=>False
 | .inr k,e,f,h=>Q k e f h
theorem zGw {a:AC} : ∀ {κ:Type} {fs:Fs} {hs:Hs} {Q:κ→qHq},a.strict=true→a.wp tab gl fs hs (fun e f h => ∃ i,Q i e f h) → ∃ i,a.wp tab gl fs hs (Q i):=by
 induction a with
 | skip=>intro κ fs hs Q _ hw;exact hw
 | ret=>intro κ fs hs Q _ hw;exact hw
 | exit id=>intro κ fs hs Q _ hw;exact hw
 | seq a b iha ihb=>
  intro κ fs hs Q hs' hw;simp only[AC.strict,Bool.and_eq_true] at hs';refine iha (Q:=fun i e f h=>match e with | .normal=>b.wp tab gl f h (Q i) | e=>Q i e f h) hs'.1 (jF (fun e f h hq=>?_) hw);cases e with
  | normal=>exact ihb hs'.2 hq
  | exit id=>exact hq
  | ret=>exact hq
 | cond c a b iha ihb=>
  intro κ fs hs Q hs' hw;simp only[AC.strict,Bool.and_eq_true] at hs';simp only[AC.wp,qKn] at hw ⊢;split at hw
  ·rename_i v b hv;cases b with
   | true=>obtain⟨i,h⟩:=iha hs'.1 (hw.1 rfl);exact⟨i,fun _=>h,(fun h=>by cases h)⟩
   | false=>obtain⟨i,h⟩:=ihb hs'.2 (hw.2 rfl);exact⟨i,(fun h=>by cases h),fun _=>h⟩
  ·exact hw.elim
 | condb c a b iha ihb=>intro κ fs hs Q hs' hw;cases hs'
 | block id a ih=>
  intro κ fs hs Q hs' hw;refine ih (Q:=fun i e f h=>match e with | .exit id'=>(if id'=id then Q i .normal f h else Q i (.exit id') f h) | e=>Q i e f h) hs' (jF (fun e f h hq=>?_) hw);cases e with
  | normal=>exact hq
  | exit id'=>
   simp only at hq ⊢;split
   ·rename_i h1;rw[if_pos h1] at hq;exact hq
   ·rename_i h1;rw[if_neg h1] at hq;exact hq
  | ret=>exact hq
 | loop a ih=>
  intro κ fs hs Q hs' hw;simp only[AC.strict] at hs';obtain⟨ι,I,m,i0,h0,hr⟩:=hw;have key : ∀ n i,m i=n → ∃ k,zOj (fun fs hs K=>a.wp tab gl fs hs K) (I i).1 (I i).2 (Q k):=by
   intro n
   induction n using Nat.strongRecOn with
   | _ n ihn=>
    intro i hi;obtain⟨z,hz⟩:=ih (Q:=jPc I m (m i) Q) hs' (jF (fun e f h hq=>by
     cases e with
     | normal=>obtain⟨j,hj⟩:=hq;exact⟨.inl j,hj⟩
     | exit id=>obtain⟨k,hk⟩:=hq;exact⟨.inr k,hk⟩
     | ret=>obtain⟨k,hk⟩:=hq;exact⟨.inr k,hk⟩) (hr i))
    cases z with
    | inr k=>
     refine⟨k,Unit,fun _=>I i,fun _=>0,(),qI.refl,fun _=>jF (fun e f h hq=>?_) hz⟩;cases e with
     | normal=>exact hq.elim
     | exit id=>exact hq
     | ret=>exact hq
    | inl j=>
     by_cases hlt:m j<m i
     ·obtain⟨k,ι2,I2,m2,j0,g0,gr⟩:=ihn (m j) (hi▸hlt) j rfl;refine⟨k,Option ι2,fun o=>match o with | none=>I i | some x=>I2 x,fun o=>match o with | none=>m2 j0+1 | some x=>m2 x,none,qI.refl,fun o=>?_⟩;cases o with
      | none=>
       refine jF (fun e f h hq=>?_) hz;cases e with
       | normal=>exact⟨some j0,Nat.lt_succ_self _,hq.2.trans g0⟩
       | exit id=>exact hq.elim
       | ret=>exact hq.elim
      | some x=>
       refine jF (fun e f h hq=>?_) (gr x);cases e with
       | normal=>obtain⟨y,h1,h2⟩:=hq;exact⟨some y,h1,h2⟩
       | exit id=>exact hq
       | ret=>exact hq
     ·refine ?_;have:a.wp tab gl (I i).1 (I i).2 (fun _ _ _=>False):=jF (fun e f h hq=>by
       cases e with
       | normal=>exact (hlt hq.1).elim
       | exit id=>exact hq
       | ret=>exact hq) hz
      have hk : ∃ _:κ,True:=by
       obtain⟨k,_⟩:=ih (κ:=κ) (Q:=fun _ _ _ _=>False) hs' (jF (fun e f h hq=>hq.elim) this);exact⟨k,trivial⟩
      obtain⟨k,_⟩:=hk;exact⟨k,Unit,fun _=>I i,fun _=>0,(),qI.refl,fun _=>jF (fun e f h hq=>hq.elim) this⟩
  obtain⟨k,ι2,I2,m2,j0,g0,gr⟩:=key _ i0 rfl;exact⟨k,ι2,I2,m2,j0,h0.trans g0,gr⟩
 | reg nb anc ops=>
  intro κ fs hs Q hs' hw;refine qXl (K:=fun i f g c=>(match anc with | none=>True | some l=>chk l c=true)∧Q i .normal f g) ?_;refine (?_ : ∀ {X Y:Fs→Hs→List (List Nat×List Nat)→Prop},(∀ f g c,X f g c→Y f g c)→zDk tab gl ops nb fs hs [] X→zDk tab gl ops nb fs hs [] Y) (fun f g c h=>?_) hw
  ·intro X Y h hw;have : ∀ (ops:List jC) (nb:Nat) (fs:Fs) (hs:Hs) (acc:List (List Nat×List Nat)),zDk tab gl ops nb fs hs acc X→zDk tab gl ops nb fs hs acc Y:=by
    intro ops
    induction ops with
    | nil=>intro nb fs hs acc hw;exact h _ _ _ hw
    | cons o r ih=>
     intro nb fs hs acc hw;obtain⟨x,l,h1,h2⟩:=hw;exact⟨x,l,h1,ih _ _ _ _ h2⟩
   exact this _ _ _ _ _ hw
  ·obtain⟨h1,i,h2⟩:=h;exact⟨i,h1,h2⟩
end Go.Eng
end
section
namespace Go.Eng
def zNo (ρ:Nat→Nat)(ks:List Nat)(v:Option V)(v':V):Prop:=v=some (v'.ren ρ)∧(v'.ids.all fun i=>ks.contains i)=true
def qZi (fs:Fs)(ρ:Nat→Nat)(ks:List Nat):Fs→Prop
 | []=>True
 | (t,v')::r=>zNo ρ ks (yF fs t) v'∧qZi fs ρ ks r
def obR (ρ:Nat→Nat)(ks:List Nat):Option Ob→Ob→Prop
 | some (.live z es wr full),.live z' es' wr' full'=>z=z'∧wr=wr'∧(full'=true→full=true)∧es=qHr ρ es'∧((qQo es').all fun i=>ks.contains i)=true
 | some _,.dead=>True
 | _,_=>False
def jF8 (hs:Hs)(ρ:Nat→Nat)(ks:List Nat):Hs→Prop
 | []=>True
 | (i,o')::r=>obR ρ ks (yF hs (ρ i)) o'∧jF8 hs ρ ks r
def zK5 (ρ:Nat→Nat)(old new:List Nat):Bool:=
 new.all (fun i=>(decide (i<100)&&ρ i==i)||(decide (100≤i)&&decide (100≤ρ i)))&&decide ((new.map ρ).Nodup)&&old.all fun k => !decide (k<100)||new.contains k
theorem qI.ren {fs fs':Fs}{hs ho:Hs}(ρ:Nat→Nat)(h1:qZi fs ρ (ho.map (·.1)) fs')(h2:jF8 hs ρ (ho.map (·.1)) ho)(h3:zK5 ρ (hs.map (·.1)) (ho.map (·.1))=true):qI fs hs fs' ho:=by
 simp only[zK5,Bool.and_eq_true] at h3;obtain⟨⟨h4,h5⟩,h6⟩:=h3;have a1 : ∀ {fs':Fs},qZi fs ρ (ho.map (·.1)) fs'→qZj fs hs ρ [] (ho.map (·.1)) fs':=by
  intro fs'
  induction fs' with
  | nil=>intro _;trivial
  | cons p r ih=>
   obtain⟨t,v'⟩:=p;intro h;obtain⟨⟨g1,g2⟩,g3⟩:=h;refine⟨⟨_,g1,.inl ⟨.inl rfl,fun i hi=>?_⟩⟩,ih g3⟩;have:=List.all_eq_true.1 g2 i hi;simpa using this
 have a2 : ∀ {h':Hs},(∀ i∈h'.map (·.1),i∈ho.map (·.1))→jF8 hs ρ (ho.map (·.1)) h'→jF9 hs ρ (ho.map (·.1)) h':=by
  intro h'
  induction h' with
  | nil=>intro _ _;trivial
  | cons p r ih=>
   obtain⟨i,o'⟩:=p;intro hm h;obtain⟨g1,g2⟩:=h;have hi:=List.all_eq_true.1 h4 i (hm i sM);have hi':(i<100∧ρ i=i)∨(100≤i∧100≤ρ i):=by simpa using hi
   refine⟨⟨?_,fun h=>by rcases hi' with h' | h';exact h'.2;omega,fun h=>by rcases hi' with h' | h';omega;exact h'.2⟩,ih (fun j hj=>hm j (by simp at hj ⊢;exact .inr hj)) g2⟩;unfold obR at g1;split at g1
   ·rename_i z es wr full z' es' wr' full' hl;obtain⟨rfl,rfl,k1,k2,k3⟩:=g1;exact⟨_,hl,rfl,rfl,k1,.inl k2,fun j hj=>by have:=List.all_eq_true.1 k3 j hj;simpa using this⟩
   ·rename_i o hl;refine⟨_,hl,?_⟩;cases o<;>trivial
   ·exact g1.elim
 have:=qI.of (hs:=hs) (hv:=[]) (ho:=ho) (fs:=fs) (fs':=fs') ρ (a1 h1) (a2 (fun _ h=>h) h2) trivial sM (of_decide_eq_true h5) (fun k hk hlt=>by
  have:=List.all_eq_true.1 h6 k hk;simpa [hlt] using this)
 exact this
theorem zL3 {fs:Fs}{ρ:Nat→Nat}{ks:List Nat}:qZi fs ρ ks []=True:=Eq.trans (Eq.refl _) rfl
theorem zG0 {fs:Fs}{ρ:Nat→Nat}{ks:List Nat}{t:Nat}{v':V}{r:Fs}:qZi fs ρ ks ((t,v')::r)=(zNo ρ ks (yF fs t) v'∧qZi fs ρ ks r):=Eq.trans (Eq.refl _) rfl
theorem zNq {ρ:Nat→Nat}{ks:List Nat}{v v':V}:zNo ρ ks (some v) v'=(v=v'.ren ρ∧(v'.ids.all fun i=>ks.contains i)=true):=by
 simp[zNo]
theorem zNp {ρ:Nat→Nat}{ks:List Nat}{v':V}:zNo ρ ks none v'=False:=by simp[zNo]
theorem zT3 {hs:Hs}{ρ:Nat→Nat}{ks:List Nat}:jF8 hs ρ ks []=True:=Eq.trans (Eq.refl _) rfl
theorem zOm {hs:Hs}{ρ:Nat→Nat}{ks:List Nat}{i:Nat}{o':Ob}{r:Hs}:jF8 hs ρ ks ((i,o')::r)=(obR ρ ks (yF hs (ρ i)) o'∧jF8 hs ρ ks r):=Eq.trans (Eq.refl _) rfl
theorem zV5 {ρ:Nat→Nat}{ks:List Nat}{z z':Nat}{es es':List V}{wr wr' full full':Bool}:obR ρ ks (some (.live z es wr full)) (.live z' es' wr' full') =
  (z=z'∧wr=wr'∧(full'=true→full=true)∧es=qHr ρ es'∧((qQo es').all fun i=>ks.contains i)=true):=Eq.trans (Eq.refl _) rfl
attribute [go_sem] zL3 zG0 zNq zNp zT3 zOm zV5 V.t.injEq T.int.injEq T.bool.injEq T.sl.injEq T.agg.injEq T.str.injEq V.ref.injEq V.bd.injEq V.sl.injEq V.agg.injEq V.fn.injEq List.cons.injEq
 List.all_nil List.contains_cons List.contains_nil Bool.or_false Bool.or_true Bool.true_or beq_self_eq_true eq_self implies_true imp_self Int.natCast_zero Int.natCast_one
end Go.Eng
end
section
namespace Go.Eng
def jE (x:UInt32):T:= .int .u32 x.toNat
def jAz (x:UInt64):T:= .int .u64 x.toNat
theorem qL2 (n:Int):IntKind.u8.wrap n=n%256:=by simp[IntKind.wrap,IntKind.bits,IntKind.signed]
theorem qRy (n:Int):IntKind.u32.wrap n=n%4294967296:=by simp[IntKind.wrap,IntKind.bits,IntKind.signed]
theorem qU9 (n:Int):IntKind.u64.wrap n=n%18446744073709551616:=by simp[IntKind.wrap,IntKind.bits,IntKind.signed]
theorem zYl (n:Int):IntKind.i64.wrap n=if n%18446744073709551616 ≥ 9223372036854775808 then n%18446744073709551616-18446744073709551616 else n%18446744073709551616:=by
 simp[IntKind.wrap,IntKind.bits,IntKind.signed]
theorem qBd {n:Int}(h : -9223372036854775808≤n∧n<9223372036854775808):IntKind.i64.wrap n=n:=by
 rw[zYl];split<;>omega
theorem qJk {n:Int}(h:0≤n∧n<18446744073709551616):IntKind.u64.wrap n=n:=by
 rw[qU9];omega
theorem zJ6 {n:Int}(h:0≤n∧n<4294967296):IntKind.u32.wrap n=n:=by
 rw[qRy];omega
theorem qFm (x:UInt32):(BitVec.ofInt 32 (x.toNat:Int))=x.toBitVec:=by
 apply BitVec.eq_of_toNat_eq;simp
theorem qU8 (z:UInt32):T.int .u32 (IntKind.u32.wrap (z.toBitVec.toNat:Int))=jE z:=by
 rw[qRy];have:=z.toNat_lt;unfold jE;rw[UInt32.toNat_toBitVec];congr 1;omega
theorem zL7 {x y:UInt32}:qGy .or (jE x) (jE y)=some (jE (x ||| y)):=by
 change some (T.int .u32 (IntKind.u32.wrap ((BitVec.ofInt 32 (x.toNat:Int) ||| BitVec.ofInt 32 (y.toNat:Int)).toNat:Int)))=_;rw[qFm,qFm,←UInt32.toBitVec_or,qU8]
theorem zHa {x y:UInt32}:qGy .and (jE x) (jE y)=some (jE (x &&& y)):=by
 change some (T.int .u32 (IntKind.u32.wrap ((BitVec.ofInt 32 (x.toNat:Int) &&& BitVec.ofInt 32 (y.toNat:Int)).toNat:Int)))=_;rw[qFm,qFm,←UInt32.toBitVec_and,qU8]
theorem zHb {x y:UInt32}:qGy .xor (jE x) (jE y)=some (jE (x ^^^ y)):=by
 change some (T.int .u32 (IntKind.u32.wrap ((BitVec.ofInt 32 (x.toNat:Int) ^^^ BitVec.ofInt 32 (y.toNat:Int)).toNat:Int)))=_;rw[qFm,qFm,←UInt32.toBitVec_xor,qU8]
theorem zG9 {x y:UInt32}:qGy .add (jE x) (jE y)=some (jE (x+y)):=by
 change some (T.int .u32 (IntKind.u32.wrap ((x.toNat:Int)+(y.toNat:Int))))=_;rw[qRy];unfold jE;rw[UInt32.toNat_add];congr 2
theorem zNt {x:UInt32}:unT .xor (jE x)=some (jE (~~~ x)):=by
 change some (T.int .u32 (IntKind.u32.wrap ((BitVec.ofInt 32 (IntKind.max .u32) ^^^ BitVec.ofInt 32 (x.toNat:Int)).toNat:Int)))=_;have:BitVec.ofInt 32 (IntKind.max .u32)=BitVec.allOnes 32:=by decide
 rw[qFm,this,←qU8];congr 5
theorem qVn {x:UInt32}{k:IntKind}{n:Nat}(h:n<32):qGy .shr (jE x) (.int k n)=some (jE (x >>> UInt32.ofNat n)):=by
 change (if (n:Int)<0 then none else some (T.int .u32 ((x.toNat:Int).fdiv (2^min (n:Int).toNat 32))))=_;rw[if_neg oM];have hm:min (n:Int).toNat 32=n:=soM;rw[hm];unfold jE;rw[UInt32.toNat_shiftRight];have hn:(UInt32.ofNat n).toNat%32=n:=by
  rw[UInt32.toNat_ofNat_of_lt' (by simp[UInt32.size];omega)];omega
 rw[hn,Nat.shiftRight_eq_div_pow];congr 2;rw[Int.fdiv_eq_ediv_of_nonneg _ (by exact Int.pow_nonneg oM)]
 norm_cast
theorem qVm {x:UInt32}{k:IntKind}{n:Nat}(h:n<32):qGy .shl (jE x) (.int k n)=some (jE (x <<< UInt32.ofNat n)):=by
 change (if (n:Int)<0 then none else some (T.int .u32 (IntKind.u32.wrap ((x.toNat:Int)*2^min (n:Int).toNat 32))))=_;rw[if_neg oM];have hm:min (n:Int).toNat 32=n:=soM;rw[hm,qRy];unfold jE;rw[UInt32.toNat_shiftLeft];have hn:(UInt32.ofNat n).toNat%32=n:=by
  rw[UInt32.toNat_ofNat_of_lt' (by simp[UInt32.size];omega)];omega
 rw[hn,Nat.shiftLeft_eq];congr 2
theorem zAr {b:UInt8}:qJg .u32 [.t (qA b)] = .ret (.t (jE b.toUInt32),[]):=by
 change Q.ret (V.t (.int .u32 (IntKind.u32.wrap (b.toNat:Int))),([]:Wr))=_;have:=b.toNat_lt;rw[qRy];unfold jE;rw[UInt8.toNat_toUInt32];have:(b.toNat:Int)%4294967296=b.toNat:=oM;rw[this]
theorem zHk {x:UInt32}:qJg .u8 [.t (jE x)] = .ret (.t (qA x.toUInt8),[]):=by
 change Q.ret (V.t (.int .u8 (IntKind.u8.wrap (x.toNat:Int))),([]:Wr))=_;rw[qL2];unfold qA;rw[UInt32.toNat_toUInt8];congr 4
theorem zHl {x:UInt64}:qJg .u8 [.t (jAz x)] = .ret (.t (qA x.toUInt8),[]):=by
 change Q.ret (V.t (.int .u8 (IntKind.u8.wrap (x.toNat:Int))),([]:Wr))=_;rw[qL2];unfold qA;rw[UInt64.toNat_toUInt8];congr 4
theorem zO4 {x:UInt32}:(jE x).cells=[jE x]:=Eq.trans (Eq.refl _) rfl
theorem zO5 {x:UInt64}:(jAz x).cells=[jAz x]:=Eq.trans (Eq.refl _) rfl
theorem zMa {x:UInt8}:(qA x).cells=[qA x]:=Eq.trans (Eq.refl _) rfl
theorem zNy {x:UInt32}:(V.t (jE x)).cells=[V.t (jE x)]:=Eq.trans (Eq.refl _) rfl
theorem zNz {x:UInt64}:(V.t (jAz x)).cells=[V.t (jAz x)]:=Eq.trans (Eq.refl _) rfl
theorem zJc {x:UInt8}:(V.t (qA x)).cells=[V.t (qA x)]:=Eq.trans (Eq.refl _) rfl
theorem qP8 : ∀ {bs:List UInt8},qIn (bs.map fun b=>V.t (qA b))=some bs
 | []=>rfl
 | b::r=>by
  have ih:=qP8 (bs:=r);simp only[List.map_cons];show (qIn (r.map fun b=>V.t (qA b))).map (UInt8.ofNat (b.toNat:Int).toNat :: ·)=_;rw[ih];simp
theorem jCl {b:UInt8}:wH (.t (qA b))=some (b.toNat:Int):=Eq.trans (Eq.refl _) rfl
theorem jIa {b:UInt32}:wH (.t (jE b))=some (b.toNat:Int):=Eq.trans (Eq.refl _) rfl
theorem jIb {b:UInt64}:wH (.t (jAz b))=some (b.toNat:Int):=Eq.trans (Eq.refl _) rfl
theorem jFx {b:UInt8}:(V.t (qA b)).plain=true:=Eq.trans (Eq.refl _) rfl
theorem jMy {b:UInt32}:(V.t (jE b)).plain=true:=Eq.trans (Eq.refl _) rfl
theorem jMz {b:UInt64}:(V.t (jAz b)).plain=true:=Eq.trans (Eq.refl _) rfl
theorem zP7 {b:UInt8}:(qA b).flat=true:=Eq.trans (Eq.refl _) rfl
theorem zU6 {b:UInt32}:(jE b).flat=true:=Eq.trans (Eq.refl _) rfl
theorem zU7 {b:UInt64}:(jAz b).flat=true:=Eq.trans (Eq.refl _) rfl
attribute [go_sem] jCl jIa jIb jFx jMy jMz zP7 zU6 zU7 zMa zO4 zO5 zJc zNy zNz zAr zHk zHl zL7 zHa zHb zG9 zNt
end Go.Eng
end
section
namespace Go.Eng
def d8:T→Option UInt8
 | .int .u8 n=>if 0≤n∧n<256 then some (UInt8.ofNat n.toNat) else none
 | _=>none
def d32:T→Option UInt32
 | .int .u32 n=>if 0≤n∧n<4294967296 then some (UInt32.ofNat n.toNat) else none
 | _=>none
def dL {α:Type}(d:T→Option α):List T→Option (List α)
 | []=>some []
 | x::r=>(d x).bind fun y=>(dL d r).map (y :: ·)
def dSl {α:Type}(d:T→Option α):T→Option (List α)
 | .sl es=>dL d es
 | _=>none
theorem zHm {x:UInt8}:d8 (qA x)=some x:=by
 have:=x.toNat_lt;unfold d8 qA;simp only;rw[if_pos oM];simp
theorem zPe {x:UInt32}:d32 (jE x)=some x:=by
 have:=x.toNat_lt;unfold d32 jE;simp only;rw[if_pos oM];simp
theorem zY7 {α:Type}{d:T→Option α}{e:α→T}(hd : ∀ x,d (e x)=some x) : ∀ {xs:List α},dL d (xs.map e)=some xs
 | []=>rfl
 | x::r=>by simp[dL,hd,zY7 hd]
def bsT (bs:List UInt8):T:= .sl (bs.map qA)
def dBs (t:T):Option (List UInt8):=dSl d8 t
theorem zDv {bs:List UInt8}:dBs (.sl (bs.map qA))=some bs:=zY7 (fun _=>zHm)
end Go.Eng
end
section
namespace Go.Eng
variable {cx:Cx} {β:Nat→Option BI} {F:Nat→Prop} {a:Act} {w:World}
theorem qI.freeze {fs:Fs}{hs:Hs}{fz:List Nat}{fw:Wr}{l:List Nat}(h:(zA1 fz).run (yF hs)=some (fw,l)):qI fs hs fs (zDj hs fw):=by
 intro cx β F a w R;obtain⟨F1,R1,_⟩:=Rel.freezeAll h R (fun id _=> .inl rfl);exact⟨β,F1,by rw[qQr];exact R1⟩
def rdL (g:V→Q V):List V→Q (List V)
 | []=> .ret []
 | c::r=>(g c).bind fun x=>(rdL g r).bind fun y=> .ret (x::y)
def rdV:Nat→V→Q V
 | n+1,.sl id off len=> .get id fun
  | .live _ _ false _=>(zS (n+1) (.sl id off len)).bind fun p=>Q.assert (p.2=[]) (.ret p.1)
  | _=> .ret (.sl id off len)
 | n+1,.agg cs=>(rdL (rdV n) cs).bind fun p=> .ret (V.mk p)
 | n+1,.fn f cs=>(rdL (rdV n) cs).bind fun p=> .ret (.fn f p)
 | _,v=> .ret v
def zT0 (es:List V):Q (List V):=
 match qG5 es with
 | some _=> .ret es
 | none=>rdL (rdV 4) es
theorem qPn {hm:Nat→Option Ob}{g:V→Q V} : ∀ {cs cs':List V} {l:List Nat},(rdL g cs).run hm=some (cs',l)→
  cs'.length=cs.length ∧ ∀ (i:Nat) (c c':V),cs[i]?=some c→cs'[i]?=some c' → ∃ li,(g c).run hm=some (c',li)
 | [],cs',l,h=>by
  obtain⟨e,_⟩:=qF h;cases e;exact⟨rfl,by intro i c c' h;simp at h⟩
 | c::r,cs',l,h=>by
  simp only[rdL] at h;obtain⟨x,l1,l2,hx,h,_⟩:=zF h;obtain⟨y,l3,l4,hy,h,_⟩:=zF h;obtain⟨e,_⟩:=qF h;cases e;obtain⟨g1,g2⟩:=qPn hy;refine⟨by simp[g1],fun i a b ha hb=>?_⟩;cases i with
  | zero=>simp at ha hb;subst ha hb;exact⟨_,hx⟩
  | succ i=>exact g2 i a b (by simpa using ha) (by simpa using hb)
theorem qJc {fm:Nat→Option V}{hm:Nat→Option Ob}(R:Rel cx β F fm hm a w) : ∀ {n:Nat} {v v':V} {l:List Nat} {x:Value},(rdV n v).run hm=some (v',l)→qY β F w v x→qY β F w v' x
 | 0,v,v',l,x,h,hx=>by
  have h':(Q.ret v).run hm=some (v',l):=by cases v<;>exact h
  obtain⟨e,_⟩:=qF h';cases e;exact hx
 | n+1,v,v',l,x,h,hx=>by
  cases v with
  | sl id off len=>
   simp only[rdV] at h;obtain⟨o,l',ho,h2,_⟩:=vQ h;have keep:(Q.ret (V.sl id off len)).run hm=some (v',l')→qY β F w v' x:=by
    intro h3;obtain⟨e,_⟩:=qF h3;cases e;exact hx
   cases o with
   | dead=>exact keep h2
   | live z es wr full=>
    cases wr with
    | true=>exact keep h2
    | false=>
     obtain⟨p,l1,l2,hp,h3,_⟩:=zF h2;obtain⟨hp2,h3⟩:=qP h3;obtain⟨e,_⟩:=qF h3;cases e;obtain⟨p1,p2⟩:=p;simp only at hp2 ⊢;subst hp2;have:=kS R hp hx (fz':=[]) sM;rw[zA3] at this;exact this
  | agg cs=>
   simp only[rdV] at h;obtain⟨p,l1,l2,hp,h,_⟩:=zF h;obtain⟨e,_⟩:=qF h;cases e;obtain⟨g1,g2⟩:=qPn hp;obtain⟨us,rfl,k1,k2,k3⟩:=hx.agg_inv;refine qY.mk (by rw[k1,g1]) k2 (fun i c' u hc' hu=>?_);have hi:i<cs.length:=by rw[←g1];exact (List.getElem?_eq_some_iff.1 hc').1
   obtain⟨li,m1⟩:=g2 i cs[i] c' (by simp[hi]) hc';exact qJc R m1 (k3 i cs[i] u (by simp[hi]) hu)
  | fn f cs=>
   simp only[rdV] at h;obtain⟨p,l1,l2,hp,h,_⟩:=zF h;obtain⟨e,_⟩:=qF h;cases e;obtain⟨g1,g2⟩:=qPn hp;cases hx with
   | fn _ _ us k1 k3=>
    refine .fn f _ us (by rw[k1,g1]) (fun i c' u hc' hu=>?_);have hi:i<cs.length:=by rw[←g1];exact (List.getElem?_eq_some_iff.1 hc').1
    obtain⟨li,m1⟩:=g2 i cs[i] c' (by simp[hi]) hc';exact qJc R m1 (k3 i cs[i] u (by simp[hi]) hu)
  | t y=>obtain⟨e,_⟩:=qF (x:=V.t y) h;cases e;exact hx
  | nil=>obtain⟨e,_⟩:=qF (x:=V.nil) h;cases e;exact hx
  | ro y=>obtain⟨e,_⟩:=qF (x:=V.ro y) h;cases e;exact hx
  | ref i j k=>obtain⟨e,_⟩:=qF (x:=V.ref i j k) h;cases e;exact hx
  | bd g i j k=>obtain⟨e,_⟩:=qF (x:=V.bd g i j k) h;cases e;exact hx
  | bq=>obtain⟨e,_⟩:=qF (x:=V.bq) h;cases e;exact hx
  | tup y=>obtain⟨e,_⟩:=qF (x:=V.tup y) h;cases e;exact hx
theorem zWq {fm:Nat→Option V}{hm:Nat→Option Ob}(R:Rel cx β F fm hm a w){n:Nat}{v v':V}{l:List Nat}(h:(rdV n v).run hm=some (v',l))(hc : ∀ (j:Nat) (y:V),v.cells[j]?=some y → ∃ u,qY β F w y u∧u.oneCell'=true) :
  v'.cells.length=v.cells.length ∧ ∀ (j:Nat) (y y':V) (u:Value),v.cells[j]?=some y→v'.cells[j]?=some y'→qY β F w y u→u.oneCell'=true→qY β F w y' u:=by
 have one:v.cells=[v]→v'.cells.length=v.cells.length ∧ ∀ (j:Nat) (y y':V) (u:Value),v.cells[j]?=some y→v'.cells[j]?=some y'→qY β F w y u→u.oneCell'=true→qY β F w y' u:=by
  intro hv;obtain⟨u0,h1,h2⟩:=hc 0 v (by rw[hv];rfl);have hv':v'.cells=[v']:=(qJc R h h1).one_cells h2;rw[hv,hv'];refine⟨rfl,fun j y y' u hy hy' hr ho=>?_⟩;cases j with
  | zero=>simp at hy hy';subst hy hy';exact qJc R h hr
  | succ j=>simp at hy
 have same:v'=v→v'.cells.length=v.cells.length ∧ ∀ (j:Nat) (y y':V) (u:Value),v.cells[j]?=some y→v'.cells[j]?=some y'→qY β F w y u→u.oneCell'=true→qY β F w y' u:=by
  rintro rfl;refine⟨rfl,fun j y y' u hy hy' hr _=>?_⟩;rw[hy] at hy';cases hy';exact hr
 cases v with
 | agg cs=>
  cases n with
  | zero=>obtain⟨e,_⟩:=qF (x:=V.agg cs) h;exact same e
  | succ n=>
   simp only[rdV] at h;obtain⟨p,l1,l2,hp,h,_⟩:=zF h;obtain⟨e,_⟩:=qF h;cases e;obtain⟨g1,g2⟩:=qPn hp;rw[qUu];refine⟨g1,fun j y y' u hy hy' hr _=>?_⟩;obtain⟨li,m1⟩:=g2 j y y' hy hy';exact qJc R m1 hr
 | t y=>
  have h':(Q.ret (V.t y)).run hm=some (v',l):=by cases n<;>exact h
  obtain⟨e,_⟩:=qF h';exact same e
 | sl id off len=>exact one rfl
 | fn f cs=>exact one rfl
 | nil=>exact one rfl
 | ro y=>exact one rfl
 | ref i j k=>exact one rfl
 | bd g i j k=>exact one rfl
 | bq=>exact one rfl
 | tup y=>exact one rfl
theorem qZz {fm:Nat→Option V}{hm:Nat→Option Ob}(R:Rel cx β F fm hm a w){es es':List V}{l:List Nat}(h:(zT0 es).run hm=some (es',l)){sz:Nat}{c:Array Value}(hh:vG β F w es sz c):es'.length=es.length∧vG β F w es' sz c:=by
 unfold zT0 at h;split at h
 ·obtain⟨e,_⟩:=qF h;cases e;exact⟨rfl,hh⟩
 ·obtain⟨g1,g2⟩:=qPn h;refine⟨g1,fun i x hx=>?_⟩;have hi:i<es.length:=by rw[←g1];exact (List.getElem?_eq_some_iff.1 hx).1
  obtain⟨li,m1⟩:=g2 i es[i] x (by simp[hi]) hx;obtain⟨k1,k2⟩:=hh i es[i] (by simp[hi]);obtain⟨q1,q2⟩:=zWq R m1 (fun j y hy=>let ⟨u,_,b,d⟩:=k2 j y hy;⟨u,b,d⟩);refine⟨q1.trans k1,fun j y' hy'=>?_⟩;have hj:j<es[i].cells.length:=by rw[←q1];exact (List.getElem?_eq_some_iff.1 hy').1
  obtain⟨u,hu,hr,ho⟩:=k2 j (es[i].cells[j]'hj) (by simp[hj]);exact⟨u,hu,q2 j (es[i].cells[j]'hj) y' u (by simp[hj]) hy' hr ho,ho⟩
theorem qWi {hm:Nat→Option Ob}{es es':List V}{l:List Nat}(h:(zT0 es).run hm=some (es',l)):es'.length=es.length:=by
 unfold zT0 at h;split at h
 ·obtain⟨e,_⟩:=qF h;cases e;rfl
 ·exact (qPn h).1
end Go.Eng
end
section
namespace Go.Eng
variable {cx:Cx} {β:Nat→Option BI} {F:Nat→Prop} {a:Act} {w:World}
mutual
def vEq (ρ:Nat→Nat)(vt ko:List Nat):V→V→Prop
 | .nil,.nil=>True
 | .nil,.t x=>x = .sl []
 | .nil,.sl id off len=>(vt.contains id=true∧off=0)∧len=0
 | .agg cs,.agg cs'=>zBx ρ vt ko cs cs'
 | .agg cs,.t (.agg ts)=>zBx ρ vt ko cs (ts.map .t)
 | .fn f cs,.fn f' cs'=>f=f'∧zBx ρ vt ko cs cs'
 | v,v'=>v=v'.ren ρ∧(v'.ids.all fun i=>ko.contains i)=true
def zBx (ρ:Nat→Nat)(vt ko:List Nat):List V→List V→Prop
 | [],[]=>True
 | c::r,c'::r'=>vEq ρ vt ko c c'∧zBx ρ vt ko r r'
 | _,_=>False
end
theorem qJi {ρ:Nat→Nat}{vt ko:List Nat} : ∀ {cs cs':List V},zBx ρ vt ko cs cs'→cs'.length=cs.length ∧ ∀ (i:Nat) (c c':V),cs[i]?=some c→cs'[i]?=some c'→vEq ρ vt ko c c'
 | [],[],_=>⟨rfl,by intro i c c' h;simp at h⟩
 | [],_::_,h=>by simp[zBx] at h
 | _::_,[],h=>by simp[zBx] at h
 | c::r,c'::r',h=>by
  simp only[zBx] at h;obtain⟨h1,h2⟩:=h;obtain⟨g1,g2⟩:=qJi h2;refine⟨by simp[g1],fun i a b ha hb=>?_⟩;cases i with
  | zero=>simp at ha hb;subst ha hb;exact h1
  | succ i=>exact g2 i a b (by simpa using ha) (by simpa using hb)
structure jGk (ρ:Nat→Nat) (vt ko:List Nat) (β β':Nat→Option BI):Prop where
 o : ∀ i,i∈ko→β' i=β (ρ i)
 v : ∀ i,i∈vt → ∃ z,β' i=some ⟨none,z,0⟩
theorem qJj {ρ:Nat→Nat}{vt ko:List Nat}{β β':Nat→Option BI}(N:jGk ρ vt ko β β'){v':V}{x:Value}(hx:qY β F w (v'.ren ρ) x)(h:(v'.ids.all fun i=>ko.contains i)=true):qY β' F w v' x:=by
 have h1:=hx.unren (ρ:=ρ) rfl;refine h1.sub (fun i hi bi hb=>?_);have:=List.all_eq_true.1 h i hi;rw[N.o i (by simpa using this)];exact hb
theorem qRg {ρ:Nat→Nat}{vt ko:List Nat}{β β':Nat→Option BI}(N:jGk ρ vt ko β β'){v:V}{x:Value}(hx:qY β F w v x) : ∀ {v':V},vEq ρ vt ko v v'→qY β' F w v' x:=by
 have aggc : ∀ {cs cs':List V} {vs:Array Value},vs.size=cs.length→(∀ u∈vs,u.oneCell'=true)→(∀ (i:Nat) (c:V) (u:Value),cs[i]?=some c→vs[i]?=some u → ∀ {v':V},vEq ρ vt ko c v'→qY β' F w v' u)→
   zBx ρ vt ko cs cs'→vs.size=cs'.length ∧ ∀ (i:Nat) (c:V) (u:Value),cs'[i]?=some c→vs[i]?=some u→qY β' F w c u:=by
  intro cs cs' vs hl _ ih h;obtain⟨g1,g2⟩:=qJi h;refine⟨by rw[hl,g1],fun i c u hc hu=>?_⟩;have hi:i<cs.length:=by rw[←g1];exact (List.getElem?_eq_some_iff.1 hc).1
  exact ih i cs[i] u (by simp[hi]) hu (g2 i cs[i] c (by simp[hi]) hc)
 induction hx with
 | @t y z hy=>
  intro v' h;have h':V.t y=v'.ren ρ∧(v'.ids.all fun i=>ko.contains i)=true:=by cases v'<;>(try exact h)<;>(rename_i q;cases q<;>exact h)
  exact qJj N (by rw[←h'.1];exact .t hy) h'.2
 | nil=>
  intro v' h;cases v' with
  | nil=>exact .nil
  | t y=>simp only[vEq] at h;subst h;exact .t .nil
  | sl id off len=>
   simp only[vEq] at h;obtain⟨⟨h1,rfl⟩,rfl⟩:=h;obtain⟨z,hz⟩:=N.v id (by simpa using h1);exact .slv id z 0 hz
  | _=>simp[vEq,V.ren] at h
 | ref id i f b sz room hb=>
  intro v' h;have h':V.ref id i f=v'.ren ρ∧(v'.ids.all fun i=>ko.contains i)=true:=by cases v'<;>(try exact h)<;>(rename_i q;cases q<;>exact h)
  exact qJj N (by rw[←h'.1];exact .ref id i f b sz room hb) h'.2
 | bd g id i f b sz room hb=>
  intro v' h;have h':V.bd g id i f=v'.ren ρ∧(v'.ids.all fun i=>ko.contains i)=true:=by cases v'<;>(try exact h)<;>(rename_i q;cases q<;>exact h)
  exact qJj N (by rw[←h'.1];exact .bd g id i f b sz room hb) h'.2
 | bq b=>
  intro v' h;have h':V.bq=v'.ren ρ∧(v'.ids.all fun i=>ko.contains i)=true:=by cases v'<;>(try exact h)<;>(rename_i q;cases q<;>exact h)
  exact qJj N (by rw[←h'.1];exact .bq b) h'.2
 | ro cs a news ha hn h1 hF hw hh=>
  intro v' h;have h':V.ro cs=v'.ren ρ∧(v'.ids.all fun i=>ko.contains i)=true:=by cases v'<;>(try exact h)<;>(rename_i q;cases q<;>exact h)
  exact qJj N (by rw[←h'.1];exact .ro cs a news ha hn h1 hF hw hh) h'.2
 | sl id off len cap b sz room a hb hlc hr ha hs=>
  intro v' h;have h':V.sl id off len=v'.ren ρ∧(v'.ids.all fun i=>ko.contains i)=true:=by cases v'<;>(try exact h)<;>(rename_i q;cases q<;>exact h)
  exact qJj N (by rw[←h'.1];exact .sl id off len cap b sz room a hb hlc hr ha hs) h'.2
 | slv id sz room hb=>
  intro v' h;have h':V.sl id 0 0=v'.ren ρ∧(v'.ids.all fun i=>ko.contains i)=true:=by cases v'<;>(try exact h)<;>(rename_i q;cases q<;>exact h)
  exact qJj N (by rw[←h'.1];exact .slv id sz room hb) h'.2
 | agg cs vs hl h1 hh ih=>
  intro v' h;cases v' with
  | agg cs'=>
   simp only[vEq] at h;obtain⟨g1,g2⟩:=aggc hl h1 ih h;exact .agg cs' vs g1 h1 g2
  | t y=>
   cases y with
   | agg ts=>
    simp only[vEq] at h;obtain⟨g1,g2⟩:=aggc hl h1 ih h;refine .t (.agg ts vs (by simpa using g1) h1 (fun i c u hc hu=>?_));have:=g2 i (.t c) u (by rw[List.getElem?_map,hc];rfl) hu;cases this with
    | t h=>exact h
   | _=>simp[vEq,V.ren] at h
  | _=>simp[vEq,V.ren] at h
 | tup cs vs hl hh ih=>
  intro v' h;have h':V.tup cs=v'.ren ρ∧(v'.ids.all fun i=>ko.contains i)=true:=by cases v'<;>(try exact h)<;>(rename_i q;cases q<;>exact h)
  exact qJj N (by rw[←h'.1];exact .tup cs vs hl hh) h'.2
 | fn f cs vs hl hh ih=>
  intro v' h;cases v' with
  | fn f' cs'=>
   simp only[vEq] at h;obtain⟨rfl,h⟩:=h;obtain⟨g1,g2⟩:=qJi h;refine .fn f cs' vs (by rw[hl,g1]) (fun i c u hc hu=>?_);have hi:i<cs.length:=by rw[←g1];exact (List.getElem?_eq_some_iff.1 hc).1
   exact ih i cs[i] u (by simp[hi]) hu (g2 i cs[i] c (by simp[hi]) hc)
  | t y=>cases y<;>simp[vEq,V.ren] at h
  | _=>simp[vEq,V.ren] at h
theorem qV3 {v y:V}{j:Nat}(hy:v.cells[j]?=some y) : ∀ r∈y.ids,r∈v.ids:=by
 intro r hr;cases v with
 | agg cs=>simp only[V.ids];exact qAc (List.mem_of_getElem? hy) hr
 | t t=>
  obtain⟨c,_,rfl⟩:=qA6 hy;simp[V.ids] at hr
 | _=>
  simp only[V.cells] at hy;cases j with
  | zero=>simp at hy;subst hy;exact hr
  | succ j=>simp at hy
theorem zTi {ρ:Nat→Nat}{vt ko:List Nat}{β β':Nat→Option BI}(N:jGk ρ vt ko β β'){v v':V}(h:vEq ρ vt ko v v') :
  v'.cells.length=v.cells.length ∧ ∀ (j:Nat) (y y':V),v.cells[j]?=some y→v'.cells[j]?=some y' → ∀ x,qY β F w y x→qY β' F w y' x:=by
 have ren:v=v'.ren ρ∧(v'.ids.all fun i=>ko.contains i)=true→v'.cells.length=v.cells.length ∧ ∀ (j:Nat) (y y':V),v.cells[j]?=some y→v'.cells[j]?=some y' → ∀ x,qY β F w y x→qY β' F w y' x:=by
  rintro⟨rfl,hall⟩;rw[qKl,zT];refine⟨sM,fun j y y' hy hy' x hx=>?_⟩;rw[List.getElem?_map,hy'] at hy;cases hy;refine qJj N hx (List.all_eq_true.2 (fun r hr=>?_));exact List.all_eq_true.1 hall r (qV3 hy' r hr)
 have one:v.cells=[v]→v'.cells=[v']→v'.cells.length=v.cells.length ∧ ∀ (j:Nat) (y y':V),v.cells[j]?=some y→v'.cells[j]?=some y' → ∀ x,qY β F w y x→qY β' F w y' x:=by
  intro e1 e2;rw[e1,e2];refine⟨rfl,fun j y y' hy hy' x hx=>?_⟩;cases j with
  | zero=>simp at hy hy';subst hy hy';exact qRg N hx h
  | succ j=>simp at hy
 cases v with
 | nil=>
  cases v' with
  | t y=>simp only[vEq] at h;subst h;exact one rfl rfl
  | agg cs=>simp[vEq,V.ren] at h
  | _=>exact one rfl rfl
 | agg cs=>
  cases v' with
  | agg cs'=>
   simp only[vEq] at h;obtain⟨g1,g2⟩:=qJi h;exact⟨g1,fun j y y' hy hy' x hx=>qRg N hx (g2 j y y' hy hy')⟩
  | t y=>
   cases y with
   | agg ts=>
    simp only[vEq] at h;obtain⟨g1,g2⟩:=qJi h;exact⟨g1,fun j y y' hy hy' x hx=>qRg N hx (g2 j y y' hy hy')⟩
   | _=>simp[vEq,V.ren] at h
  | _=>simp[vEq,V.ren] at h
 | fn f cs=>
  cases v' with
  | fn f' cs'=>exact one rfl rfl
  | t y=>cases y<;>simp[vEq,V.ren] at h
  | _=>simp[vEq,V.ren] at h
 | t y=>exact ren (by cases v'<;>(try exact h)<;>(rename_i q;cases q<;>exact h))
 | ref i j k=>exact ren (by cases v'<;>(try exact h)<;>(rename_i q;cases q<;>exact h))
 | bd g i j k=>exact ren (by cases v'<;>(try exact h)<;>(rename_i q;cases q<;>exact h))
 | bq=>exact ren (by cases v'<;>(try exact h)<;>(rename_i q;cases q<;>exact h))
 | sl i j k=>exact ren (by cases v'<;>(try exact h)<;>(rename_i q;cases q<;>exact h))
 | ro cs=>exact ren (by cases v'<;>(try exact h)<;>(rename_i q;cases q<;>exact h))
 | tup cs=>exact ren (by cases v'<;>(try exact h)<;>(rename_i q;cases q<;>exact h))
def jB9 (ρ:Nat→Nat)(vt ko:List Nat)(u es':List V):Prop:=
 match qG5 u with
 | some _=>u=qHr ρ es'∧((qQo es').all fun i=>ko.contains i)=true
 | none=>zBx ρ vt ko u es'
theorem zMg {ρ:Nat→Nat}{vt ko:List Nat}{β β':Nat→Option BI}(N:jGk ρ vt ko β β'){u es':List V}(h:jB9 ρ vt ko u es'){sz:Nat}{c:Array Value}(hh:vG β F w u sz c):vG β' F w es' sz c:=by
 unfold jB9 at h;split at h
 ·obtain⟨rfl,h⟩:=h;have h1:=hh.unren;intro i x hx;obtain⟨k1,k2⟩:=h1 i x hx;refine⟨k1,fun j y hy=>?_⟩;obtain⟨u,g1,g2,g3⟩:=k2 j y hy;refine⟨u,g1,g2.sub (fun r hr bi hb=>?_),g3⟩;have:=List.all_eq_true.1 h r (qAc (List.mem_of_getElem? hx) (qV3 hy r hr));rw[N.o r (by simpa using this)];exact hb
 ·obtain⟨g1,g2⟩:=qJi h;intro i x hx;have hi:i<u.length:=by rw[←g1];exact (List.getElem?_eq_some_iff.1 hx).1
  obtain⟨k1,k2⟩:=hh i u[i] (by simp[hi]);obtain⟨q1,q2⟩:=zTi (F:=F) (w:=w) N (g2 i u[i] x (by simp[hi]) hx);refine⟨q1.trans k1,fun j y' hy'=>?_⟩;have hj:j<u[i].cells.length:=by rw[←q1];exact (List.getElem?_eq_some_iff.1 hy').1
  obtain⟨q,hu,hr,ho⟩:=k2 j (u[i].cells[j]'hj) (by simp[hj]);exact⟨q,hu,q2 j (u[i].cells[j]'hj) y' (by simp[hj]) hy' q hr,ho⟩
theorem zHo {ρ:Nat→Nat}{vt ko:List Nat}{u es':List V}(h:jB9 ρ vt ko u es'):es'.length=u.length:=by
 unfold jB9 at h;split at h
 ·rw[h.1,zT];simp
 ·exact (qJi h).1
def zNl (hs:Hs)(ρ:Nat→Nat)(vt ko:List Nat)(v:Option V)(v':V):Prop:=
 match v with
 | some v=>(rdV 4 v).wp hs (fun u _=>vEq ρ vt ko u v')
 | none=>False
def qMk (fs:Fs)(hs:Hs)(ρ:Nat→Nat)(vt ko:List Nat):Fs→Prop
 | []=>True
 | (t,v')::r=>zNl hs ρ vt ko (yF fs t) v'∧qMk fs hs ρ vt ko r
def obC (hs:Hs)(ρ:Nat→Nat)(vt ko:List Nat):Option Ob→Ob→Prop
 | some (.live z es wr full),.live z' es' wr' full'=>z=z'∧wr=wr'∧(full'=true→full=true)∧(zT0 es).wp hs (fun u _=>jB9 ρ vt ko u es')
 | some _,.dead=>True
 | _,_=>False
def zTw (hs:Hs)(ρ:Nat→Nat)(vt ko:List Nat):Hs→Prop
 | []=>True
 | (i,o')::r=>obC hs ρ vt ko (yF hs (ρ i)) o'∧zTw hs ρ vt ko r
def zTl:Hs→Bool
 | []=>true
 | (i,.live _ [] true _)::r=>decide (100≤i)&&zTl r
 | _=>false
def zV2 (ρ:Nat→Nat)(old vt new:List Nat):Bool:=zK5 ρ old new&&vt.all fun i => !new.contains i
theorem qMk.get {fs:Fs}{hs:Hs}{ρ:Nat→Nat}{vt ko:List Nat} : ∀ {fs':Fs},qMk fs hs ρ vt ko fs' → ∀ t v',yF fs' t=some v'→zNl hs ρ vt ko (yF fs t) v'
 | [],_,t,v',h=>by cases h
 | (k,u)::r,hw,t,v',h=>by
  simp only[yF] at h;split at h
  ·cases h;subst_vars;exact hw.1
  ·exact qMk.get hw.2 t v' h
theorem zTw.get {hs:Hs}{ρ:Nat→Nat}{vt ko:List Nat} : ∀ {hs':Hs},zTw hs ρ vt ko hs' → ∀ i o',yF hs' i=some o'→obC hs ρ vt ko (yF hs (ρ i)) o'
 | [],_,t,v',h=>by cases h
 | (k,u)::r,hw,t,v',h=>by
  simp only[yF] at h;split at h
  ·cases h;subst_vars;exact hw.1
  ·exact zTw.get hw.2 t v' h
theorem zTl.get : ∀ {hs':Hs},zTl hs'=true → ∀ i o',yF hs' i=some o'→(∃ z full,o' = .live z [] true full)∧100≤i
 | [],_,t,v',h=>by cases h
 | (k,u)::r,hw,t,v',h=>by
  cases u with
  | dead=>simp[zTl] at hw
  | live z es wr full=>
   cases es with
   | cons _ _=>simp[zTl] at hw
   | nil=>
    cases wr with
    | false=>simp[zTl] at hw
    | true=>
     simp only[zTl,Bool.and_eq_true,decide_eq_true_eq] at hw;simp only[yF] at h;split at h
     ·cases h;subst_vars;exact⟨⟨z,full,rfl⟩,hw.1⟩
     ·exact zTl.get hw.2 t v' h
theorem qI.cv0 {fs fs':Fs}{hs hv ho:Hs}(ρ:Nat→Nat)(h1:qMk fs hs ρ (hv.map (·.1)) (ho.map (·.1)) fs')(h2:zTw hs ρ (hv.map (·.1)) (ho.map (·.1)) ho)(h3:zTl hv=true)(h4:zV2 ρ (hs.map (·.1)) (hv.map (·.1)) (ho.map (·.1))=true):qI fs hs fs' (hv++ho):=by
 simp only[zV2,zK5,Bool.and_eq_true] at h4;obtain⟨⟨⟨hnum,hinj⟩,hkeep⟩,hdis⟩:=h4;intro cx β F a w R
 let β':Nat→Option BI:=fun i=>match yF hv i with
  | some o=>some ⟨none,o.z,0⟩
  | none=>match yF ho i with
   | some _=>β (ρ i)
   | none=>none
 have bv : ∀ i o,yF hv i=some o→β' i=some ⟨none,o.z,0⟩:=fun i o h=>by simp[β',h]
 have hvo : ∀ i,i∈ho.map (·.1)→yF hv i=none:=by
  intro i hi;cases h:yF hv i with
  | none=>rfl
  | some o=>
   have:=List.all_eq_true.1 hdis i (qB7 h);exact absurd hi (by simpa using this)
 have bo : ∀ i,i∈ho.map (·.1)→β' i=β (ρ i):=by
  intro i hi;obtain⟨o,h⟩:=qHi hi;simp[β',hvo i hi,h]
 have N:jGk ρ (hv.map (·.1)) (ho.map (·.1)) β β':=⟨bo,fun i hi=>by
  obtain⟨o,h⟩:=qHi hi;exact⟨o.z,bv i o h⟩⟩
 have inj : ∀ i j,i∈ho.map (·.1)→j∈ho.map (·.1)→ρ i=ρ j→i=j:=by
  intro i j hi hj e;obtain⟨m,hm⟩:=List.getElem?_of_mem hi;obtain⟨n,hn⟩:=List.getElem?_of_mem hj;have hml:m<(ho.map (·.1)).length:=(List.getElem?_eq_some_iff.1 hm).1;have hnl:n<(ho.map (·.1)).length:=(List.getElem?_eq_some_iff.1 hn).1;have:=qFl (of_decide_eq_true hinj) (i:=m) (j:=n) (by simpa using hml) (by simpa using hnl) (by
   have a1:(ho.map (·.1))[m]=i:=by rw[List.getElem?_eq_getElem hml] at hm;exact Option.some.inj hm
   have a2:(ho.map (·.1))[n]=j:=by rw[List.getElem?_eq_getElem hnl] at hn;exact Option.some.inj hn
   simp only[List.getElem_map] at a1 a2 ⊢;rw[a1,a2];exact e)
  subst this;rw[hm] at hn;exact Option.some.inj hn
 have ob : ∀ {bi:BI} {o o':Ob},qG8 β F w bi o→obC hs ρ (hv.map (·.1)) (ho.map (·.1)) (some o) o'→qG8 β' F w bi o':=by
  intro bi o o' hok hc;cases o' with
  | dead=>trivial
  | live z' es' wr' full'=>
   cases o with
   | dead=>exact hc.elim
   | live z es wr full=>
    obtain⟨rfl,rfl,hfull,u,l,hrd,hes⟩:=hc;have l1:=qWi hrd;have l2:=zHo hes;unfold qG8 at hok ⊢;obtain⟨g1,g2,g3⟩:=hok;refine⟨g1,fun h=>by rw[l2,l1];exact g2 (hfull h),?_⟩;cases hb:bi.blk with
    | none=>
     simp only[hb] at g3 ⊢;refine⟨?_,g3.2⟩;rw[g3.1] at l1;exact List.eq_nil_of_length_eq_zero (by rw[l2,l1];rfl)
    | some b=>
     simp only[hb] at g3 ⊢;obtain⟨c,e,fz,k1,k2,k3,k4,k5,k6,k7⟩:=g3;exact⟨c,e,fz,k1,k2,k3,by rw[l2,l1];exact k4,k5,zMg N hes (qZz R hrd k6).2,k7⟩
 have cases_ : ∀ id o',yF (hv++ho) id=some o'→(∃ z full,o' = .live z [] true full∧β' id=some ⟨none,z,0⟩∧100≤id)∨(id∈ho.map (·.1) ∧ ∃ o,yF hs (ρ id)=some o∧obC hs ρ (hv.map (·.1)) (ho.map (·.1)) (some o) o'∧(id<100→ρ id=id)∧(100≤id→100≤ρ id)):=by
  intro id o' h;rw[qQq] at h;split at h
  ·rename_i o hvl;cases h;obtain⟨⟨z,full,rfl⟩,h100⟩:=zTl.get h3 id o' hvl;exact .inl ⟨z,full,rfl,bv id _ hvl,h100⟩
  ·have hob:=h2.get id o' h;have hm:=qB7 h;have hi:=List.all_eq_true.1 hnum id hm;have hi':(id<100∧ρ id=id)∨(100≤id∧100≤ρ id):=by simpa using hi
   cases hl:yF hs (ρ id) with
   | none=>rw[hl] at hob;cases o'<;>exact hob.elim
   | some o=>
    rw[hl] at hob;exact .inr ⟨hm,o,rfl,hob,fun h=>by rcases hi' with h' | h';exact h'.2;omega,fun h=>by rcases hi' with h' | h';omega;exact h'.2⟩
 have notdead : ∀ {o o':Ob},obC hs ρ (hv.map (·.1)) (ho.map (·.1)) (some o) o'→o'≠ .dead→o≠ .dead:=by
  intro o o' hc hd hd';subst hd';cases o' with
  | dead=>exact hd rfl
  | live _ _ _ _=>exact hc
 refine⟨β',F,R.tsz,R.dfr,fun t v' hv'=>?_,fun id o' ho'=>?_,fun id hn=>?_,fun i j bi bj b oi oj e1 e2 e3 e4 e5 e6 e7 e8=>?_,R.os,R.tape,R.output,R.size,R.ext,fun id z es full bi b e1 e2 e3=>?_,R.inF,R.inw,R.Fw,R.F0,fun id bi b e1 e2=>?_,fun g cs hg=>?_,fun k bi hk=>?_,R.gs⟩
 ·have hsl:=h1.get t v' hv';unfold zNl at hsl;split at hsl
  ·rename_i v hl;obtain⟨u,l,hrd,heq⟩:=hsl;obtain⟨x,g3,g4⟩:=R.fr t v hl;exact⟨x,g3,qRg N (qJc R hrd g4) heq⟩
  ·exact hsl.elim
 ·rcases cases_ id o' ho' with⟨z,full,rfl,hb,_⟩ | ⟨hm,o,g1,g2,_⟩
  ·exact⟨_,hb,rfl,fun _=>rfl,rfl,rfl⟩
  ·obtain⟨bi,g3,g4⟩:=R.hp _ o g1;exact⟨bi,by rw[bo id hm];exact g3,ob g4 g2⟩
 ·rw[qQq] at hn;split at hn
  ·cases hn
  ·rename_i hv0;simp[β',hv0,hn]
 ·rcases cases_ i oi e5 with⟨z,full,rfl,hb,_⟩ | ⟨hm,o,g1,g2,_⟩
  ·rw[hb] at e1;cases e1;cases e3
  ·rcases cases_ j oj e6 with⟨z,full,rfl,hb,_⟩ | ⟨hm',o',g1',g2',_⟩
   ·rw[hb] at e2;cases e2;cases e4
   ·rw[bo i hm] at e1;rw[bo j hm'] at e2;exact inj i j hm hm' (R.inj _ _ bi bj b o o' e1 e2 e3 e4 g1 g1' (notdead g2 e7) (notdead g2' e8))
 ·rcases cases_ id _ e1 with⟨z',full',_,hb,_⟩ | ⟨hm,o,g1,g2,g3,g4⟩
  ·rw[hb] at e2;cases e2;cases e3
  ·rw[bo id hm] at e2;cases o with
   | dead=>exact g2.elim
   | live z0 es0 wr0 full0=>
    obtain⟨_,rfl,_⟩:=g2;rcases R.old _ z0 es0 full0 bi b g1 e2 e3 with h | ⟨h,h'⟩
    ·exact .inl h
    ·refine .inr ⟨?_,h'⟩;rcases Nat.lt_or_ge id 100 with h7 | h7
     ·exact h7
     ·have:=g4 h7;omega
 ·cases hl:yF hv id with
  | some o=>rw[bv id o hl] at e1;cases e1;cases e2
  | none=>
   cases hl2:yF ho id with
   | none=>simp[β',hl,hl2] at e1
   | some o=>
    rw[bo id (qB7 hl2)] at e1;exact R.blt _ bi b e1 e2
 ·have:=R.gl g cs hg;cases this with
  | ro _ ad news ha hn h1' hF hw h=>exact .ro cs _ news ha hn h1' hF hw h
 ·have hβ:=R.ext0 k bi hk;cases hl:yF hs k with
  | none=>rw[R.dom k hl] at hβ;cases hβ
  | some o=>
   have hk100:=cx.d0 k bi hk;have hm:k∈ho.map (·.1):=by
    have:=List.all_eq_true.1 hkeep k (qB7 hl);simpa [hk100] using this
   rw[bo k hm];have hi:=List.all_eq_true.1 hnum k hm;have hi':(k<100∧ρ k=k)∨(100≤k∧100≤ρ k):=by simpa using hi
   rw[show ρ k=k by rcases hi' with h | h;exact h.2;omega];exact hβ
theorem qI.cv {fs fs':Fs}{hs hv ho:Hs}(fz:List Nat)(ρ:Nat→Nat)
  (h:(zA1 fz).wp hs (fun fw _=>qMk fs (zDj hs fw) ρ (hv.map (·.1)) (ho.map (·.1)) fs'∧zTw (zDj hs fw) ρ (hv.map (·.1)) (ho.map (·.1)) ho∧zV2 ρ ((zDj hs fw).map (·.1)) (hv.map (·.1)) (ho.map (·.1))=true)) (h3:zTl hv=true):qI fs hs fs' (hv++ho):=by
 obtain⟨fw,l,hf,h1,h2,h4⟩:=h;exact (qI.freeze hf).trans (qI.cv0 ρ h1 h2 h3 h4)
theorem qI.rd {fs fs':Fs}{hs ho:Hs}(ρ:Nat→Nat)(h1:qMk fs hs ρ [] (ho.map (·.1)) fs')(h2:zTw hs ρ [] (ho.map (·.1)) ho)(h4:zV2 ρ (hs.map (·.1)) [] (ho.map (·.1))=true):qI fs hs fs' ho:=
 qI.cv0 (hv:=[]) ρ h1 h2 rfl h4
end Go.Eng
end
section
namespace Go.Eng
def jCm (es:List V):List Nat:=
 match qG5 es with
 | some _=>[]
 | none=>qQo es
def qQl:Nat→List Nat→List Nat→List Ob→Q (List Nat×List Ob)
 | _,[],ids,obs=> .ret (ids,obs)
 | 0,_::_,_,_=> .fail
 | n+1,id::todo,ids,obs=>if ids.contains id then qQl n todo ids obs else
  .get id fun
   | .live z es true full=>(zT0 es).bind fun es'=>qQl n (todo++jCm es') (ids++[id]) (obs++[.live z es' true full])
   | _=> .fail
def jGb (n:Nat)(vs:List V):Q (V×List Ob):=
 (rdL (rdV 4) vs).bind fun us=>(qQl (40+n) (List.range n++qQo us) [] []).bind fun q=>
  Q.assert ((qQo us).all (fun i=>q.1.contains i)=true) (.ret (jAl (qHr (fun r=>q.1.idxOf r) us),q.2.map (Ob.ren fun r=>q.1.idxOf r)))
def xU (fz:List Nat)(rs:List (Nat×Option (Nat×Bool)))(n:Nat)(R:V→List Ob→Prop):qHq:=fun e fs hs=>
 match e with
 | .exit _=>False
 | _=>(zA1 fz).wp hs (fun fw _=>((rsQ fs rs).bind fun vs=>jGb n vs).wp (zDj hs fw) (fun p _=>R p.1 p.2))
def jGj (hm:Nat→Option Ob)(id:Nat)(o:Ob):Prop:=
 ∃ z es es' full l,hm id=some (.live z es true full)∧o = .live z es' true full∧(zT0 es).run hm=some (es',l)
theorem qVz {hm:Nat→Option Ob} : ∀ {n:Nat} {todo ids:List Nat} {obs:List Ob} {ids':List Nat} {obs':List Ob} {l:List Nat},(qQl n todo ids obs).run hm=some ((ids',obs'),l)→
  ids.Nodup→ids.length=obs.length→(∀ (k id:Nat) (o:Ob),ids[k]?=some id→obs[k]?=some o→jGj hm id o)→(∀ o∈obs,∀ z es wr full,o = .live z es wr full → ∀ r∈jCm es,r∈ids∨r∈todo)→
   ids'.Nodup∧ids'.length=obs'.length∧(∀ (k id:Nat) (o:Ob),ids'[k]?=some id→obs'[k]?=some o→jGj hm id o)∧(∀ o∈obs',∀ z es wr full,o = .live z es wr full → ∀ r∈jCm es,r∈ids')∧
    (∀ r∈todo,r∈ids') ∧ ∃ s,ids'=ids++s
 | n,[],ids,obs,ids',obs',l,h,h1,h2,h3,h4=>by
  have h':(Q.ret (ids,obs):Q _).run hm=some ((ids',obs'),l):=by cases n<;>exact h
  obtain⟨e,_⟩:=qF h';cases e;refine⟨h1,h2,h3,fun o ho z es wr full e r hr=>?_,sM,[],sM⟩;rcases h4 o ho z es wr full e r hr with h | h
  ·exact h
  ·simp at h
 | 0,_::_,ids,obs,ids',obs',l,h,_,_,_,_=>by cases h
 | n+1,id::todo,ids,obs,ids',obs',l,h,h1,h2,h3,h4=>by
  simp only[qQl] at h;split at h
  ·rename_i hc;have hc':id∈ids:=by simpa using hc
   obtain⟨g1,g2,g3,g4,g5,s,g6⟩:=qVz h h1 h2 h3 (fun o ho z es wr full e r hr=>by
    rcases h4 o ho z es wr full e r hr with h | h
    ·exact .inl h
    ·rcases List.mem_cons.1 h with rfl | h
     ·exact .inl hc'
     ·exact .inr h)
   refine⟨g1,g2,g3,g4,fun r hr=>?_,s,g6⟩;rcases List.mem_cons.1 hr with rfl | hr
   ·rw[g6];simp[hc']
   ·exact g5 r hr
  ·rename_i hc;have hc':id ∉ ids:=by simpa using hc
   obtain⟨o,l',ho,hs2,_⟩:=vQ h;cases o with
   | dead=>cases hs2
   | live z es wr full=>
    cases wr with
    | false=>cases hs2
    | true=>
     obtain⟨es',l1,l2,hp,hs3,_⟩:=zF hs2;obtain⟨g1,g2,g3,g4,g5,s,g6⟩:=qVz hs3 (by
       rw[List.nodup_append];refine⟨h1,sM,?_⟩;intro x hx y hy e;simp at hy;subst e hy;exact hc' hx) (by simp[h2]) (fun k i o hk hok=>by
       rcases Nat.lt_or_ge k ids.length with hlt | hge
       ·rw[List.getElem?_append_left hlt] at hk;rw[List.getElem?_append_left oM] at hok;exact h3 k i o hk hok
       ·rw[List.getElem?_append_right hge] at hk;rw[List.getElem?_append_right oM] at hok;have e1:k-ids.length=0:=by
         have:=(List.getElem?_eq_some_iff.1 hk).1;simp at this;omega
        have e2:k-obs.length=0:=oM;rw[e1] at hk;rw[e2] at hok;simp at hk hok;subst hk hok;exact⟨z,es,es',full,l1,ho,rfl,hp⟩) (fun o ho' z' es2 wr' full' e r hr=>by
       rcases List.mem_append.1 ho' with ho' | ho'
       ·rcases h4 o ho' z' es2 wr' full' e r hr with h | h
        ·exact .inl (by simp[h])
        ·rcases List.mem_cons.1 h with rfl | h
         ·exact .inl sM
         ·exact .inr (by simp[h])
       ·simp at ho';rw[ho'] at e;cases e;exact .inr (by simp[hr]))
     refine⟨g1,g2,g3,g4,fun r hr=>?_,id::s,by rw[g6];simp⟩;rcases List.mem_cons.1 hr with rfl | hr
     ·rw[g6];simp
     ·exact g5 r (by simp[hr])
theorem qV0 {hm:Nat→Option Ob} : ∀ {m n s:Nat} {rest:List Nat} {obs:List Ob} {ids':List Nat} {obs':List Ob} {l:List Nat},(qQl n (List.range' s m++rest) (List.range s) obs).run hm=some ((ids',obs'),l) → ∃ t,ids'=List.range (s+m)++t
 | 0,n,s,rest,obs,ids',obs',l,h=>by
  have key : ∀ {n:Nat} {todo ids:List Nat} {obs:List Ob} {ids':List Nat} {obs':List Ob} {l:List Nat},(qQl n todo ids obs).run hm=some ((ids',obs'),l) → ∃ s,ids'=ids++s:=by
   intro n
   induction n with
   | zero=>
    intro todo ids obs ids' obs' l h;cases todo with
    | nil=>obtain⟨e,_⟩:=qF (x:=(ids,obs)) h;cases e;exact⟨[],sM⟩
    | cons _ _=>cases h
   | succ n ih=>
    intro todo ids obs ids' obs' l h;cases todo with
    | nil=>obtain⟨e,_⟩:=qF (x:=(ids,obs)) h;cases e;exact⟨[],sM⟩
    | cons id todo=>
     simp only[qQl] at h;split at h
     ·exact ih h
     ·obtain⟨o,l',ho,hs2,_⟩:=vQ h;cases o with
      | dead=>cases hs2
      | live z es wr full=>
       cases wr with
       | false=>cases hs2
       | true=>
        obtain⟨es',l1,l2,hp,hs3,_⟩:=zF hs2;obtain⟨s,hs⟩:=ih hs3;exact⟨id::s,by rw[hs];simp⟩
  obtain⟨t,ht⟩:=key h;exact⟨t,ht⟩
 | m+1,n,s,rest,obs,ids',obs',l,h=>by
  cases n with
  | zero=>rw[List.range'_succ] at h;cases h
  | succ n=>
   rw[List.range'_succ,List.cons_append] at h;simp only[qQl] at h;split at h
   ·rename_i hc;simp at hc
   ·obtain⟨o,l',ho,hs2,_⟩:=vQ h;cases o with
    | dead=>cases hs2
    | live z es wr full=>
     cases wr with
     | false=>cases hs2
     | true=>
      obtain⟨es',l1,l2,hp,hs3,_⟩:=zF hs2;rw[←List.range_succ,List.append_assoc] at hs3;obtain⟨t,ht⟩:=qV0 hs3;exact⟨t,by rw[ht];congr 2;omega⟩
variable {cx:Cx} {β:Nat→Option BI} {F:Nat→Prop} {a:Act} {w:World} {fm:Nat→Option V} {hm:Nat→Option Ob}
theorem zEa {ids:List Nat}{v:V}{x:Value}(h:qY β F w v x):(∀ r∈v.ids,r∈ids)→qY (qMn ids β) F w (v.ren (fun r=>ids.idxOf r)) x:=by
 induction h with
 | t h=>intro _;exact .t h
 | nil=>intro _;exact .nil
 | ref id i f b sz room hb=>intro hr;exact .ref _ i f b sz room (by rw[qL9 (hr id (by simp[V.ids]))];exact hb)
 | bd g id i f b sz room hb=>intro hr;exact .bd g _ i f b sz room (by rw[qL9 (hr id (by simp[V.ids]))];exact hb)
 | bq b=>intro _;exact .bq b
 | ro cs a news ha hn h1 hF hw h=>intro _;exact .ro cs a news ha hn h1 hF hw h
 | sl id off len cap b sz room a hb hlc hr ha hs=>intro hi;exact .sl _ off len cap b sz room a (by rw[qL9 (hi id (by simp[V.ids]))];exact hb) hlc hr ha hs
 | slv id sz room hb=>intro hi;exact .slv _ sz room (by rw[qL9 (hi id (by simp[V.ids]))];exact hb)
 | agg cs vs hl h1 _ ih=>
  intro hr;simp only[V.ren,zT];refine .agg _ vs (by simpa using hl) h1 (fun i c u hc hu=>?_);rw[List.getElem?_map,Option.map_eq_some_iff] at hc;obtain⟨c',hc',rfl⟩:=hc;exact ih i c' u hc' hu (fun r h=>hr r (by simp only[V.ids];exact qAc (List.mem_of_getElem? hc') h))
 | tup cs vs hl _ ih=>
  intro hr;simp only[V.ren,zT];refine .tup _ vs (by simpa using hl) (fun i c u hc hu=>?_);rw[List.getElem?_map,Option.map_eq_some_iff] at hc;obtain⟨c',hc',rfl⟩:=hc;exact ih i c' u hc' hu (fun r h=>hr r (by simp only[V.ids];exact qAc (List.mem_of_getElem? hc') h))
 | fn f cs vs hl _ ih=>
  intro hr;simp only[V.ren,zT];refine .fn f _ vs (by simpa using hl) (fun i c u hc hu=>?_);rw[List.getElem?_map,Option.map_eq_some_iff] at hc;obtain⟨c',hc',rfl⟩:=hc;exact ih i c' u hc' hu (fun r h=>hr r (by simp only[V.ids];exact qAc (List.mem_of_getElem? hc') h))
theorem zVf {es:List V} : ∀ r∈qQo es,r∈jCm es:=by
 intro r hr;unfold jCm;split
 ·rename_i ts h;rw[qE3 h,zZq] at hr;simp at hr
 ·exact hr
theorem zQo {ids:List Nat}{es:List V}{sz:Nat}{c:Array Value}(h:vG β F w es sz c)(hi : ∀ r∈qQo es,r∈ids):vG (qMn ids β) F w (qHr (fun r=>ids.idxOf r) es) sz c:=by
 intro i x hx;rw[zT,List.getElem?_map,Option.map_eq_some_iff] at hx;obtain⟨x0,hx0,rfl⟩:=hx;obtain⟨h1,h2⟩:=h i x0 hx0;rw[qKl,zT];refine⟨by simpa using h1,fun j y hy=>?_⟩;rw[List.getElem?_map,Option.map_eq_some_iff] at hy;obtain⟨y0,hy0,rfl⟩:=hy;obtain⟨u,g1,g2,g3⟩:=h2 j y0 hy0;exact⟨u,g1,zEa g2 (fun r hr=>hi r (qAc (List.mem_of_getElem? hx0) (qV3 hy0 r hr))),g3⟩
theorem zFc {P:Program}{G:Gl}{tab:Tab}{f:FuncId}{fn:Func}{c:Code}{ac:AC}{hints:List (Nat×List Nat)}{rs:List (Nat×Option (Nat×Bool))}(fz:List Nat)(hf:P.funcs[f]?=some fn)(hb:fn.body=some c)(hann:ann P fn.ntmps hints c=some ac)(hmx:P.follows .mixedOrders=true)
  (ht:qG9 P G tab) (hrs:qQx P fn.results.toList=some rs) {aS:List V} {ins:List Ob} {r:V} {outs:List Ob} (hn:aS.length≤fn.ntmps) (hi:ins.length≤100)
  (h:ac.wp tab G (qE 0 aS) (qE 0 ins) (xU fz rs ins.length (fun r' outs'=>r'=r∧outs'=outs))):zG1 P G f aS ins r outs:=by
 intro w β F vals env fits hargs;have hd0 : ∀ k bi,β k=some bi→k<100:=by
  intro k bi h;rcases Nat.lt_or_ge k ins.length with h1 | h1
  ·omega
  ·rw[fits.dom k h1] at h;cases h
 let cx:Cx := { P,w0:=w,F0:=F,inb:=fun b => ∃ k bi,β k=some bi∧bi.blk=some b,nt:=fn.ntmps,gl:=G,β0:=β,d0:=hd0 }
 have hlen:aS.length=vals.size:=by simpa using hargs.length
 have lookAs : ∀ t v,yF (qE 0 aS) t=some v→aS[t]?=some v:=by
  intro t v h;simpa [qFk] using h
 have lookIns : ∀ t v,yF (qE 0 ins) t=some v→ins[t]?=some v:=by
  intro t v h;simpa [qFk] using h
 have R0:Rel cx β F (yF (qE 0 aS)) (yF (qE 0 ins)) { tmps:=vals++Array.replicate (fn.ntmps-vals.size) undef,defers:=[] } w:=by
  refine⟨by simp[cx];omega,rfl,fun t v hv=>?_,fun id o ho=>?_,fun id hn=>?_,fun i j bi bj b oi oj h1 h2 h3 h4 _ _ _ _=>fits.inj i j bi bj b h1 h2 h3 h4,rfl,rfl,rfl,Nat.le_refl _,fun _ _ _=>rfl,fun id z es full bi b h1 h2 h3=> .inr ⟨?_,id,bi,h2,h3⟩,fun b hb=>?_,fun b hb=>?_,env.Fw,fun _ _=>Iff.rfl,fun id bi b h1 h2=>(fits.blt id bi b h1 h2).1,fun g cs hg=>?_,fun _ _ h=>h,env.gs⟩
  ·obtain⟨x,h1,h2⟩:=hargs.get' t v (lookAs t v hv);refine⟨x,?_,h2⟩;have hlt:t<vals.size:=by
    have:=(List.getElem?_eq_some_iff.1 (lookAs t v hv)).1;omega
   rw[Array.getElem?_append_left hlt];simpa using h1
  ·obtain⟨bi,h1,h2,_⟩:=fits.ok id o (lookIns id o ho);exact⟨bi,h1,h2⟩
  ·refine fits.dom id ?_;rcases Nat.lt_or_ge id ins.length with h1 | h1
   ·rw[qFk] at hn;simp[h1] at hn
   ·exact h1
  ·have:=(List.getElem?_eq_some_iff.1 (lookIns id _ h1)).1;omega
  ·obtain⟨k,bi,h1,h2⟩:=hb;exact (fits.blt k bi b h1 h2).2
  ·obtain⟨k,bi,h1,h2⟩:=hb;exact (fits.blt k bi b h1 h2).1
  ·exact (env.gl g cs hg).mono (fun _ _ h=>by cases h) (fun _ h=>h) (fun _ _=>rfl)
 refine calls_of_wp hf hb (AC.sound (cx:=cx) ht hmx hann h R0 (fun e fs hs βR FR0 a w' hq R0'=>?_));have fin:((zA1 fz).wp hs (fun fw _=>((rsQ fs rs).bind fun vs=>jGb ins.length vs).wp (zDj hs fw) (fun p _=>p.1=r∧p.2=outs)))→a.defers=[] ∧ ∃ v,(results fn a.tmps).run P w' = .ok v w' ∧ ∃ x β' F',Ending.returned v = .returned x∧qUm w β F ins r outs x β' F' w':=by
  rintro⟨fw,lf,hfz,hq⟩;obtain⟨FR,R,_⟩:=Rel.freezeAll hfz R0' (fun id _=> .inl rfl);rw[←qQr] at R;rw[Q.wp_bind] at hq;obtain⟨vs,l0,hvs,⟨r',outs'⟩,l,hrun,e1,e2⟩:=hq;obtain⟨xs,hxs,hall⟩:=qUz (cx:=cx) R hrs hvs;refine⟨R.dfr,_,qWs hxs,?_⟩;simp only at e1 e2;subst e1 e2;unfold jGb at hrun;obtain⟨us,l1,l2,hp,hrun,_⟩:=zF hrun;obtain⟨q,l3,l4,hqq,hrun,_⟩:=zF hrun;obtain⟨hsub,hrun⟩:=qP hrun;obtain⟨e,_⟩:=qF hrun;simp only[Prod.mk.injEq] at e;obtain⟨rfl,rfl⟩:=e;obtain⟨ids,obs⟩:=q;simp only at hsub ⊢;obtain⟨t,htt⟩:=qV0 (s:=0) (m:=ins.length) (n:=40+ins.length) (rest:=qQo us) (by simpa [List.range_eq_range'] using hqq);obtain⟨hnd,hlo,hG,hin,_,_⟩:=qVz hqq sM rfl (by intro k id o h;simp at h) sM;have hidk : ∀ k,k<ins.length→ids[k]?=some k:=by
   intro k hk;rw[htt,List.getElem?_append_left (by simpa using hk)];simp[hk]
  have hlive : ∀ (k id:Nat),ids[k]?=some id → ∃ z es full,yF (zDj hs fw) id=some (.live z es true full):=by
   intro k id hk;have hkl:k<obs.length:=by rw[←hlo];exact (List.getElem?_eq_some_iff.1 hk).1
   obtain⟨z,es,es',full,_,g1,_⟩:=hG k id obs[k] hk (by simp[hkl]);exact⟨z,es,full,g1⟩
  have hβk : ∀ k bi,β k=some bi→βR k=some bi:=R.ext0;have hklt : ∀ k bi,β k=some bi→k<ins.length:=by
   intro k bi h;rcases Nat.lt_or_ge k ins.length with h1 | h1
   ·exact h1
   ·rw[fits.dom k h1] at h;cases h
  have hus:qBn (qY βR FR w') us xs:=by
   obtain⟨g1,g2⟩:=qPn hp;refine zG4 (by rw[g1];exact hall.length.symm) (fun i c u hc hu=>?_);have hi:i<vs.length:=by rw[←g1];exact (List.getElem?_eq_some_iff.1 hc).1
   obtain⟨li,m1⟩:=g2 i vs[i] c (by simp[hi]) hc;obtain⟨y,h1,h2⟩:=hall.get' i vs[i] (by simp[hi]);rw[hu] at h1;cases h1;exact qJc R m1 h2
  have hren:qBn (qY (qMn ids βR) FR w') (qHr (fun r=>ids.idxOf r) us) xs:=by
   refine zG4 (by rw[zT];simpa using hus.length.symm) (fun i c u hc hu=>?_);rw[zT,List.getElem?_map,Option.map_eq_some_iff] at hc;obtain⟨c0,hc0,rfl⟩:=hc;obtain⟨y,h1,h2⟩:=hus.get' i c0 hc0;rw[hu] at h1;cases h1;refine zEa h2 (fun r hr=>?_);have:=List.all_eq_true.1 hsub r (qAc (List.mem_of_getElem? hc0) hr);simpa using this
  have hfits:zYq (qMn ids βR) FR w' (obs.map (Ob.ren fun r=>ids.idxOf r)):=by
   refine⟨fun k o ho=>?_,fun k hk=>?_,fun i j bi bj b h1 h2 h3 h4=>?_,fun k bi b h1 h2=>?_⟩
   ·rw[List.getElem?_map,Option.map_eq_some_iff] at ho;obtain⟨o',ho',rfl⟩:=ho;have hkl:k<ids.length:=by rw[hlo];exact (List.getElem?_eq_some_iff.1 ho').1
    obtain⟨z,es,es',full,lr,g1,g2,g3⟩:=hG k ids[k] o' (by simp[hkl]) ho';obtain⟨bi,hb,hok⟩:=R.hp _ _ g1;refine⟨bi,by simp[qMn,hkl,hb],?_,?_⟩
    ·rw[g2];have l1:=qWi g3;have l2:(qHr (fun r=>ids.idxOf r) es').length=es'.length:=by rw[zT];simp
     have hii : ∀ r∈qQo es',r∈ids:=fun r hr=>hin o' (List.mem_of_getElem? ho') z es' true full g2 r (zVf r hr)
     unfold qG8 at hok ⊢;obtain⟨k1,k2,k3⟩:=hok;refine⟨k1,fun h=>by rw[l2,l1];exact k2 h,?_⟩;cases hb:bi.blk with
     | none=>
      simp only[hb] at k3 ⊢;refine⟨?_,k3.2⟩;rw[k3.1] at l1;exact List.eq_nil_of_length_eq_zero (by rw[l2,l1];rfl)
     | some b=>
      simp only[hb] at k3 ⊢;obtain⟨c,e,fz,m1,m2,m3,m4,m5,m6,m7⟩:=k3;exact⟨c,e,fz,m1,m2,m3,by rw[l2,l1];exact m4,m5,zQo (qZz R g3 m6).2 hii,m7⟩
    ·rw[g2];exact⟨z,_,full,rfl⟩
   ·rw[List.length_map,←hlo] at hk;simp[qMn,List.getElem?_eq_none hk]
   ·unfold qMn at h1 h2;rw[Option.bind_eq_some_iff] at h1 h2;obtain⟨x,hx,h1⟩:=h1;obtain⟨y,hy,h2⟩:=h2;obtain⟨z1,e1,f1,m1⟩:=hlive i x hx;obtain⟨z2,e2,f2,m2⟩:=hlive j y hy;have:=R.inj x y bi bj b _ _ h1 h2 h3 h4 m1 m2 sM sM;subst this;have hi:i<ids.length:=(List.getElem?_eq_some_iff.1 hx).1;have hj:j<ids.length:=(List.getElem?_eq_some_iff.1 hy).1;exact qFl hnd hi hj (by rw[List.getElem?_eq_getElem hi] at hx;rw[List.getElem?_eq_getElem hj] at hy;rw[Option.some.inj hx,Option.some.inj hy])
   ·unfold qMn at h1;rw[Option.bind_eq_some_iff] at h1;obtain⟨x,hx,h1⟩:=h1;obtain⟨z1,e1,f1,m1⟩:=hlive k x hx;exact⟨R.blt x bi b h1 h2,R.notF m1 h1 h2⟩
  refine⟨_,qMn ids βR,FR,rfl,hfits,zE0 hren,fun k hk=>?_,fun k bi b hk h1 h2=>?_,fun b hb=>R.F0 b hb,R.Fw,R.os,R.tape,R.output,R.size,fun b hb hk=>R.ext b hb (fun ⟨k,bi,h1,h2⟩=>hk k bi h1 h2)⟩
  ·obtain⟨bi,h1,_⟩:=fits.ok k ins[k] (by simp[hk]);simp[qMn,hidk k hk,hβk k bi h1,h1]
  ·unfold qMn at h1;rw[Option.bind_eq_some_iff] at h1;obtain⟨id,hid,h1⟩:=h1;obtain⟨z,es,full,hl⟩:=hlive k id hid;rcases R.old id z es full bi b hl h1 h2 with h | ⟨_,k0,bi0,g1,g2⟩
   ·exact h
   ·exfalso;have hk0:=hklt k0 bi0 g1;obtain⟨z0,es0,full0,hl0⟩:=hlive k0 k0 (hidk k0 hk0);have e:=R.inj id k0 bi bi0 b _ _ h1 (hβk k0 bi0 g1) h2 g2 hl hl0 sM sM;subst e;have hi1:k<ids.length:=(List.getElem?_eq_some_iff.1 hid).1;have hi2:id<ids.length:=(List.getElem?_eq_some_iff.1 (hidk id hk0)).1;have:=qFl hnd hi1 hi2 (by
     have a1:=hid;have a2:=hidk id hk0;rw[List.getElem?_eq_getElem hi1] at a1;rw[List.getElem?_eq_getElem hi2] at a2;rw[Option.some.inj a1,Option.some.inj a2])
    omega
 cases e with
 | normal=>exact fin hq
 | ret=>exact fin hq
 | exit id=>exact hq.elim
def zEg (tab:Tab)(gl:Gl)(a:AC):Nat→Fs→Hs→qHq→Prop
 | 0,_,_,_=>False
 | n+1,fs,hs,Qx=>a.wp tab gl fs hs (fun e fs' hs'=>match e with | .normal=>zEg tab gl a n fs' hs' Qx | e=>Qx e fs' hs')
theorem qM {tab:Tab}{gl:Gl}{a:AC}(n:Nat){fs:Fs}{hs:Hs}{Qx:qHq}(h:zEg tab gl a n fs hs Qx):qQs tab gl a fs hs Qx:=by
 refine qLu (ι := { p:Nat×Fs×Hs // zEg tab gl a p.1 p.2.1 p.2.2 Qx }) (fun i=>i.1.2) (fun i=>i.1.1) ⟨(n,fs,hs),h⟩ qI.refl (fun i=>?_);obtain⟨⟨m,f,g⟩,hi⟩:=i;cases m with
 | zero=>exact hi.elim
 | succ m=>
  refine jF (fun e f' g' hq=>?_) hi;cases e with
  | normal=>exact⟨⟨(m,f',g'),hq⟩,Nat.lt_succ_self m,qI.refl⟩
  | exit id=>exact hq
  | ret=>exact hq
end Go.Eng
end
