/- My own text: an abstract machine, its walks over the functions reached, and their tie to the program. -/
import Derived.Test.YtpeekafhlgkjdaaDoorM2
set_option linter.unusedSimpArgs false
set_option linter.unusedVariables false
section
namespace Go.Eng
structure Ct where
  α : Type
  as : α → List V
  ins : α → List Ob
  pre : α → Prop
  r : α → V
  outs : α → List Ob
  inj : ∀ x y, as x = as y → ins x = ins y → r x = r y ∧ outs x = outs y
open Classical in
noncomputable def Ct.fs (c : Ct) : FnS := fun as ins => if h : ∃ x, (c.as x = as ∧ c.ins x = ins) ∧ c.pre x then some (c.r h.choose, c.outs h.choose) else none
theorem Ct.eq (c : Ct) (x : c.α) (h : c.pre x) : c.fs (c.as x) (c.ins x) = some (c.r x, c.outs x) := by
  have hx : ∃ y, (c.as y = c.as x ∧ c.ins y = c.ins x) ∧ c.pre y := ⟨x, ⟨rfl, rfl⟩, h⟩
  unfold Ct.fs
  rw [dif_pos hx]
  obtain ⟨h1, h2⟩ := c.inj _ _ hx.choose_spec.1.1 hx.choose_spec.1.2
  rw [h1, h2]
theorem Ct.ok {P : Program} {G : Nat → Option (List T)} {f : FuncId} (c : Ct) (hc : ∀ args w, (callFunc f args).run P w = .ok (.enter f args) w) (h : ∀ x, c.pre x → Spec P G f (c.as x) (c.ins x) (c.r x) (c.outs x)) : FOk P G f c.fs := by
  refine FOk.of hc (fun as ins r outs hs => ?_)
  unfold Ct.fs at hs
  split at hs
  · rename_i hx
    cases hs
    have h1 := hx.choose_spec
    generalize hx.choose = y at h1 ⊢
    obtain ⟨⟨rfl, rfl⟩, h3⟩ := h1
    exact h y h3
  · cases hs
theorem byteT_inj {a b : UInt8} (h : byteT a = byteT b) : a = b := by
  have := congrArg d8 h
  rw [d8_byte, d8_byte] at this
  exact Option.some.inj this
theorem u32T_inj {a b : UInt32} (h : u32T a = u32T b) : a = b := by
  have := congrArg d32 h
  rw [d32_u32, d32_u32] at this
  exact Option.some.inj this
theorem map_inj' {α γ : Type} {f : α → γ} (hf : ∀ a b, f a = f b → a = b) : ∀ {l m : List α}, l.map f = m.map f → l = m
  | [], [], _ => rfl
  | [], _ :: _, h => by simp at h
  | _ :: _, [], h => by simp at h
  | a :: l, b :: m, h => by
    simp only [List.map_cons, List.cons.injEq] at h
    rw [hf _ _ h.1, map_inj' hf h.2]
theorem mapB_inj {l m : List UInt8} : (l.map byteT = m.map byteT) = (l = m) := propext ⟨map_inj' (fun _ _ => byteT_inj), fun h => by rw [h]⟩
theorem mapW_inj {l m : List UInt32} : (l.map u32T = m.map u32T) = (l = m) := propext ⟨map_inj' (fun _ _ => u32T_inj), fun h => by rw [h]⟩
theorem mapV_inj {l m : List T} : (l.map V.t = m.map V.t) = (l = m) := propext ⟨map_inj' (fun _ _ h => V.t.inj h), fun h => by rw [h]⟩
theorem byteT_eq {a b : UInt8} : (byteT a = byteT b) = (a = b) := propext ⟨byteT_inj, fun h => by rw [h]⟩
theorem u32T_eq {a b : UInt32} : (u32T a = u32T b) = (a = b) := propext ⟨u32T_inj, fun h => by rw [h]⟩
theorem shl32 {x : UInt32} {k : IntKind} {n : Nat} : binT .shl (u32T x) (.int k (no_index (@OfNat.ofNat Int n _))) = if n < 32 then some (u32T (x <<< UInt32.ofNat n)) else binT .shl (u32T x) (.int k (n : Int)) := by
  split
  · exact bin_u32_shl (by assumption)
  · rfl
theorem shr32 {x : UInt32} {k : IntKind} {n : Nat} : binT .shr (u32T x) (.int k (no_index (@OfNat.ofNat Int n _))) = if n < 32 then some (u32T (x >>> UInt32.ofNat n)) else binT .shr (u32T x) (.int k (n : Int)) := by
  split
  · exact bin_u32_shr (by assumption)
  · rfl
theorem shl32n {x : UInt32} {k : IntKind} {n : Nat} (h : n < 32) : binT .shl (u32T x) (.int k (n : Int)) = some (u32T (x <<< UInt32.ofNat n)) := bin_u32_shl h
theorem shr32n {x : UInt32} {k : IntKind} {n : Nat} (h : n < 32) : binT .shr (u32T x) (.int k (n : Int)) = some (u32T (x >>> UInt32.ofNat n)) := bin_u32_shr h
theorem take_s {α : Type} {l : List α} {k : Nat} {d : α} (h : k < l.length) : l.take (k + 1) = l.take k ++ [l.getD k d] := by
  rw [List.take_add_one]; simp [List.getD, h]
theorem mask64 {x : Int} {m : Nat} (h : m ≤ 64) : (BitVec.ofInt 64 x &&& BitVec.ofInt 64 ((2 ^ m - 1 : Nat) : Int)).toNat = (x % ((2 ^ m : Nat) : Int)).toNat := by
  have h0 : 1 ≤ 2 ^ m := Nat.one_le_two_pow
  have h2 : 2 ^ m ≤ 2 ^ 64 := Nat.pow_le_pow_right (n := 2) (by omega) h
  rw [BitVec.toNat_and, BitVec.toNat_ofInt, BitVec.toNat_ofInt]
  have h1 : (((2 ^ m - 1 : Nat) : Int) % ((2 ^ 64 : Nat) : Int)).toNat = 2 ^ m - 1 := by
    rw [Int.emod_eq_of_lt (by omega) (by omega)]; simp
  rw [h1, Nat.and_two_pow_sub_one_eq_mod]
  have hd : ((2 ^ m : Nat) : Int) ∣ ((2 ^ 64 : Nat) : Int) := Int.natCast_dvd_natCast.2 (Nat.pow_dvd_pow 2 h)
  have e : x % ((2 ^ 64 : Nat) : Int) % ((2 ^ m : Nat) : Int) = x % ((2 ^ m : Nat) : Int) := Int.emod_emod_of_dvd x hd
  rw [← e]
  have hx0 : 0 ≤ x % ((2 ^ 64 : Nat) : Int) := Int.emod_nonneg _ (by omega)
  generalize x % ((2 ^ 64 : Nat) : Int) = y at hx0
  obtain ⟨z, rfl⟩ := Int.eq_ofNat_of_zero_le hx0
  rw [← Int.natCast_emod, Int.toNat_natCast, Int.toNat_natCast]
theorem andMask {x : Int} {m : Nat} (h : m ≤ 63) : IntKind.i64.wrap ((BitVec.ofInt 64 x &&& BitVec.ofInt 64 ((2 ^ m - 1 : Nat) : Int)).toNat : Int) = x % ((2 ^ m : Nat) : Int) := by
  rw [mask64 (by omega)]
  have h0 : 1 ≤ 2 ^ m := Nat.one_le_two_pow
  have h2 : 2 ^ m ≤ 2 ^ 63 := Nat.pow_le_pow_right (n := 2) (by omega) h
  have h3 := Int.emod_nonneg x (b := ((2 ^ m : Nat) : Int)) (by omega)
  have h4 := Int.emod_lt_of_pos x (b := ((2 ^ m : Nat) : Int)) (by omega)
  rw [wrap_i64_id (by omega)]
  omega
theorem and1 {x : Int} : binI .and .i64 x .i64 1 = some (.int .i64 (x % 2)) := by
  have h := @andMask x 1 (by omega)
  rw [show ((2 ^ 1 - 1 : Nat) : Int) = 1 from rfl, show ((2 ^ 1 : Nat) : Int) = 2 from rfl] at h
  have h2 := congrArg (fun z => some (T.int IntKind.i64 z)) h
  exact h2
theorem and3 {x : Int} : binI .and .i64 x .i64 3 = some (.int .i64 (x % 4)) := by
  have h := @andMask x 2 (by omega)
  rw [show ((2 ^ 2 - 1 : Nat) : Int) = 3 from rfl, show ((2 ^ 2 : Nat) : Int) = 4 from rfl] at h
  have h2 := congrArg (fun z => some (T.int IntKind.i64 z)) h
  exact h2
theorem and15 {x : Int} : binI .and .i64 x .i64 15 = some (.int .i64 (x % 16)) := by
  have h := @andMask x 4 (by omega)
  rw [show ((2 ^ 4 - 1 : Nat) : Int) = 15 from rfl, show ((2 ^ 4 : Nat) : Int) = 16 from rfl] at h
  have h2 := congrArg (fun z => some (T.int IntKind.i64 z)) h
  exact h2
theorem and65535 {x : Int} : binI .and .i64 x .i64 65535 = some (.int .i64 (x % 65536)) := by
  have h := @andMask x 16 (by omega)
  rw [show ((2 ^ 16 - 1 : Nat) : Int) = 65535 from rfl, show ((2 ^ 16 : Nat) : Int) = 65536 from rfl] at h
  have h2 := congrArg (fun z => some (T.int IntKind.i64 z)) h
  exact h2
theorem and31u {x : Int} : binI .and .u64 x .u64 31 = some (.int .u64 (x % 32)) := by
  have h := @mask64 x 5 (by omega)
  rw [show ((2 ^ 5 - 1 : Nat) : Int) = 31 from rfl, show ((2 ^ 5 : Nat) : Int) = 32 from rfl] at h
  have h2 : IntKind.u64.wrap ((BitVec.ofInt 64 x &&& BitVec.ofInt 64 31).toNat : Int) = x % 32 := by
    rw [h, wrap_u64]; omega
  have h3 := congrArg (fun z => some (T.int IntKind.u64 z)) h2
  exact h3
theorem flat_live {z : Nat} {es : List V} {wr full : Bool} : (Ob.live z es wr full).flat = flatV es := Eq.trans (Eq.refl _) rfl
theorem flatV_nil : flatV [] = true := Eq.trans (Eq.refl _) rfl
theorem flatV_cons {c : V} {r : List V} : flatV (c :: r) = (c.flat && flatV r) := Eq.trans (Eq.refl _) rfl
theorem flatT_nil : flatT [] = true := Eq.trans (Eq.refl _) rfl
theorem flatT_cons {c : T} {r : List T} : flatT (c :: r) = (c.flat && flatT r) := Eq.trans (Eq.refl _) rfl
theorem flatV_t {ts : List T} : flatV (ts.map .t) = flatT ts := by
  induction ts with
  | nil => rfl
  | cons x r ih => rw [List.map_cons, flatV_cons, ih, flatT_cons]; rfl
theorem flatT_b {l : List UInt8} : flatT (l.map byteT) = true := by
  induction l with
  | nil => rfl
  | cons x r ih => rw [List.map_cons, flatT_cons, ih]; rfl
theorem flatT_w {l : List UInt32} : flatT (l.map u32T) = true := by
  induction l with
  | nil => rfl
  | cons x r ih => rw [List.map_cons, flatT_cons, ih]; rfl
theorem flat_vsl {i j k : Nat} : (V.sl i j k).flat = true := Eq.trans (Eq.refl _) rfl
theorem flat_vref {i j k : Nat} : (V.ref i j k).flat = true := Eq.trans (Eq.refl _) rfl
theorem flat_vbd {g i j k : Nat} : (V.bd g i j k).flat = true := Eq.trans (Eq.refl _) rfl
theorem flat_vbq : V.bq.flat = true := Eq.trans (Eq.refl _) rfl
attribute [go_sem] flat_vbq
attribute [go_sem] flat_vbd
theorem flat_vnil : V.nil.flat = true := Eq.trans (Eq.refl _) rfl
theorem flat_vagg {cs : List V} : (V.agg cs).flat = flatV cs := Eq.trans (Eq.refl _) rfl
theorem flat_vtup {cs : List V} : (V.tup cs).flat = flatV cs := Eq.trans (Eq.refl _) rfl
theorem flat_tsl {cs : List T} : (T.sl cs).flat = cs.isEmpty := Eq.trans (Eq.refl _) rfl
theorem flat_tagg {cs : List T} : (T.agg cs).flat = flatT cs := Eq.trans (Eq.refl _) rfl
attribute [go_sem] flat_live flatV_nil flatV_cons flatT_nil flatT_cons flatV_t flatT_b flatT_w flat_vsl flat_vref flat_vnil flat_vagg flat_vtup flat_tsl flat_tagg List.isEmpty_nil List.isEmpty_cons
attribute [go_sem ↓] and31u
attribute [go_sem ↓] and1 and3 and15 and65535
attribute [go_sem] shl32 shr32 shl32n shr32n byteT_eq u32T_eq
end Go.Eng
end
section
namespace Go.Eng
variable {tab : Tab} {gl : Gl} {fs : Fs} {hs : Hs} {Qx : Post}
def upP (n : Nat) (P : Nat → Prop) (fI : Nat → Fs) (hI : Nat → Hs) (i : Nat) (Qx : Post) : Post := fun e fs' hs' => match e with | .normal => i < n ∧ P (i + 1) ∧ Weak fs' hs' (fI (i + 1)) (hI (i + 1)) | e => Qx e fs' hs'
theorem upP_normal {n : Nat} {P : Nat → Prop} {fI : Nat → Fs} {hI : Nat → Hs} {i : Nat} : upP n P fI hI i Qx .normal fs hs = (i < n ∧ P (i + 1) ∧ Weak fs hs (fI (i + 1)) (hI (i + 1))) := Eq.trans (Eq.refl _) rfl
theorem upP_exit {n : Nat} {P : Nat → Prop} {fI : Nat → Fs} {hI : Nat → Hs} {i id : Nat} : upP n P fI hI i Qx (.exit id) fs hs = Qx (.exit id) fs hs := Eq.trans (Eq.refl _) rfl
theorem upP_ret {n : Nat} {P : Nat → Prop} {fI : Nat → Fs} {hI : Nat → Hs} {i : Nat} : upP n P fI hI i Qx .ret fs hs = Qx .ret fs hs := Eq.trans (Eq.refl _) rfl
attribute [go_sem] upP_normal upP_exit upP_ret
theorem loop_uptoP {a : AC} (n : Nat) (P : Nat → Prop) (fI : Nat → Fs) (hI : Nat → Hs) (hP : P 0) (h0 : Weak fs hs (fI 0) (hI 0)) (h : ∀ i, i ≤ n → P i → a.wp tab gl (fI i) (hI i) (upP n P fI hI i Qx)) : loopW tab gl a fs hs Qx := by
  refine loop_rule (ι := { i : Nat // i ≤ n ∧ P i }) (fun i => (fI i.1, hI i.1)) (fun i => n - i.1) ⟨0, Nat.zero_le _, hP⟩ h0 (fun i => ?_)
  refine wp_post_mono (fun e f g hq => ?_) (h i.1 i.2.1 i.2.2)
  cases e with
  | normal => exact ⟨⟨i.1 + 1, hq.1, hq.2.1⟩, by simp only; have := hq.1; omega, hq.2.2⟩
  | exit id => exact hq
  | ret => exact hq
theorem shr_u32n {a : Nat} {k' : IntKind} {b : Int} (h : 0 ≤ b ∧ b ≤ 32) : binI .shr .u32 (a : Int) k' b = some (.int .u32 ((a / 2 ^ b.toNat : Nat) : Int)) := by
  change (if b < 0 then none else some (T.int .u32 ((a : Int).fdiv (2 ^ min b.toNat 32)))) = _
  rw [if_neg (by omega), show min b.toNat 32 = b.toNat by omega, Int.fdiv_eq_ediv_of_nonneg _ (Int.pow_nonneg (by omega))]
  norm_cast
attribute [go_sem ↓] shr_u32n
theorem byte_ieq {a b : UInt8} : ((a.toNat : Int) == (b.toNat : Int)) = decide (a = b) := by
  by_cases h : a = b
  · subst h; simp
  · have : ¬ ((a.toNat : Int) = b.toNat) := fun e => h (UInt8.toNat_inj.1 (by omega))
    simp [h, this]
theorem bin_b_eq {a b : UInt8} : binT .eql (byteT a) (byteT b) = some (.bool (decide (a = b))) := by
  change some (T.bool ((a.toNat : Int) == (b.toNat : Int))) = _
  rw [byte_ieq]
theorem bin_b_ne {a b : UInt8} : binT .neq (byteT a) (byteT b) = some (.bool (!decide (a = b))) := by
  change some (T.bool (!((a.toNat : Int) == (b.toNat : Int)))) = _
  rw [byte_ieq]
theorem bin_b_lt {a b : UInt8} : binT .lss (byteT a) (byteT b) = some (.bool (decide (a.toNat < b.toNat))) := by
  change some (T.bool (decide ((a.toNat : Int) < (b.toNat : Int)))) = _
  congr 2; simp
theorem bin_b_gt {a b : UInt8} : binT .gtr (byteT a) (byteT b) = some (.bool (decide (a.toNat > b.toNat))) := by
  change some (T.bool (decide ((a.toNat : Int) > (b.toNat : Int)))) = _
  congr 2; simp
theorem bin_b_le {a b : UInt8} : binT .leq (byteT a) (byteT b) = some (.bool (decide (a.toNat ≤ b.toNat))) := by
  change some (T.bool (decide ((a.toNat : Int) ≤ (b.toNat : Int)))) = _
  congr 2; simp
theorem bin_b_ge {a b : UInt8} : binT .geq (byteT a) (byteT b) = some (.bool (decide (a.toNat ≥ b.toNat))) := by
  change some (T.bool (decide ((a.toNat : Int) ≥ (b.toNat : Int)))) = _
  congr 2; simp
theorem bin_b_xor {a b : UInt8} : binT .xor (byteT a) (byteT b) = some (byteT (a ^^^ b)) := by
  change some (T.int .u8 (IntKind.u8.wrap ((BitVec.ofInt 8 (a.toNat : Int) ^^^ BitVec.ofInt 8 (b.toNat : Int)).toNat : Int))) = _
  have e : ∀ x : UInt8, BitVec.ofInt 8 (x.toNat : Int) = x.toBitVec := fun x => BitVec.eq_of_toNat_eq (by simp)
  rw [e, e, ← UInt8.toBitVec_xor, wrap_u8]
  have := (a ^^^ b).toNat_lt
  unfold byteT
  rw [UInt8.toNat_toBitVec]
  congr 2; omega
attribute [go_sem ↓] bin_b_eq bin_b_ne bin_b_lt bin_b_gt bin_b_le bin_b_ge bin_b_xor
attribute [go_sem] UInt8.reduceToNat
theorem conv_u64_byte {b : UInt8} : semConv .u64 [.t (byteT b)] = .ret (.t (.int .u64 (b.toNat : Int)), []) := by
  change Q.ret (V.t (.int .u64 (IntKind.u64.wrap (b.toNat : Int))), ([] : Wr)) = _
  have := b.toNat_lt
  rw [wrap_u64_id (by omega)]
theorem conv_i64_byte {b : UInt8} : semConv .i64 [.t (byteT b)] = .ret (.t (.int .i64 (b.toNat : Int)), []) := by
  change Q.ret (V.t (.int .i64 (IntKind.i64.wrap (b.toNat : Int))), ([] : Wr)) = _
  have := b.toNat_lt
  rw [wrap_i64_id (by omega)]
theorem shl8_u64 {a : Nat} {k' : IntKind} (h : a < 72057594037927936) : binI .shl .u64 (a : Int) k' 8 = some (.int .u64 ((256 * a : Nat) : Int)) := by
  change (if (8 : Int) < 0 then none else some (T.int .u64 (IntKind.u64.wrap ((a : Int) * 2 ^ min (8 : Int).toNat 64)))) = _
  rw [if_neg (by omega), show (a : Int) * 2 ^ min (8 : Int).toNat 64 = ((256 * a : Nat) : Int) by
    rw [show min (8 : Int).toNat 64 = 8 from rfl]; omega, wrap_u64_id (by omega)]
theorem or8 {a x : Nat} (hx : x < 256) : (256 * a) ||| x = 256 * a + x := by
  have := Nat.shiftLeft_add_eq_or_of_lt (i := 8) (b := x) (by omega) a
  rw [Nat.shiftLeft_eq] at this
  rw [Nat.mul_comm]; exact this.symm
theorem or8_u64 {a : Nat} {x : UInt8} (h : a < 72057594037927936) : binI .or .u64 ((256 * a : Nat) : Int) .u64 (x.toNat : Int) = some (.int .u64 ((256 * a + x.toNat : Nat) : Int)) := by
  have hx := x.toNat_lt
  change some (T.int .u64 (IntKind.u64.wrap ((BitVec.ofInt 64 ((256 * a : Nat) : Int) ||| BitVec.ofInt 64 (x.toNat : Int)).toNat : Int))) = _
  have e : (BitVec.ofInt 64 ((256 * a : Nat) : Int) ||| BitVec.ofInt 64 (x.toNat : Int)).toNat = 256 * a + x.toNat := by
    rw [BitVec.toNat_or, BitVec.toNat_ofInt, BitVec.toNat_ofInt, Int.emod_eq_of_lt (by omega) (by omega), Int.emod_eq_of_lt (by omega) (by omega), Int.toNat_natCast, Int.toNat_natCast, or8 (by omega)]
  rw [e, wrap_u64_id (by omega)]
attribute [go_sem ↓] conv_u64_byte conv_i64_byte shl8_u64 or8_u64
theorem bsT_def {bs : List UInt8} : bsT bs = .sl (bs.map byteT) := Eq.trans (Eq.refl _) rfl
theorem getL {l : List (List UInt8)} {i : Nat} (h : i < l.length) : l[i]? = some (l.getD i []) := by simp [List.getD, h]
theorem getB {l : List (List (List UInt8))} {i : Nat} (h : i < l.length) : l[i]? = some (l.getD i []) := by simp [List.getD, h]
theorem bs_app_cons {l : List (List UInt8)} {x : List UInt8} {r : List T} : List.map bsT l ++ T.sl (List.map byteT x) :: r = List.map bsT (l ++ [x]) ++ r := by simp [bsT]
theorem zOkT_bs {l : List (List UInt8)} : zOkT 1 (l.map bsT) = true := zOkT_map (f := bsT) (fun _ => rfl)
theorem ones_bs {l : List (List UInt8)} : ones ((l.map bsT).map V.t) = true := ones_map (f := bsT) (fun _ => rfl)
theorem bsT_inj {a b : List UInt8} (h : bsT a = bsT b) : a = b := by
  have := congrArg dBs h
  rw [bsT, bsT, dBs_bytes, dBs_bytes] at this
  exact Option.some.inj this
theorem mapBs_inj {l m : List (List UInt8)} : (l.map bsT = m.map bsT) = (l = m) := propext ⟨map_inj' (fun _ _ => bsT_inj), fun h => by rw [h]⟩
theorem allT_app {ts : List T} {r : List V} : allT (ts.map .t ++ r) = (allT r).map (ts ++ ·) := by
  induction ts with
  | nil => simp [Option.map_id']
  | cons x l ih =>
    rw [List.map_cons, List.cons_append, allT_cons, ih, Option.map_map]
    rfl
attribute [go_sem] allT_app
attribute [go_sem] bsT_def bs_app_cons zOkT_bs ones_bs
end Go.Eng
end
section
namespace Go.Eng
theorem allT_set {ts : List T} {i : Nat} {v : V} (h : i < ts.length) (hv : ∀ x, v ≠ .t x) : allT ((ts.map .t).set i v) = none := by
  induction ts generalizing i with
  | nil => simp at h
  | cons x r ih =>
    cases i with
    | zero =>
      rw [List.map_cons, List.set_cons_zero]
      cases v with
      | t y => exact absurd rfl (hv y)
      | _ => rfl
    | succ i =>
      rw [List.map_cons, List.set_cons_succ, allT_cons, ih (by simpa using h)]
      rfl
theorem allT_set_sl {ts : List T} {i id off len : Nat} (h : i < ts.length) : allT ((ts.map .t).set i (.sl id off len)) = none := allT_set h (by simp)
theorem allT_set_agg {ts : List T} {i : Nat} {cs : List V} (h : i < ts.length) : allT ((ts.map .t).set i (.agg cs)) = none := allT_set h (by simp)
theorem rdL_set {n : Nat} {ts : List T} {i : Nat} {v : V} (h : i < ts.length) : rdL (rdV n) ((ts.map .t).set i v) = (rdV n v).bind fun x => .ret ((ts.map .t).set i x) := by
  induction ts generalizing i with
  | nil => simp at h
  | cons x r ih =>
    cases i with
    | zero => rw [List.map_cons, List.set_cons_zero, rdL_cons, rdL_t]; rfl
    | succ i =>
      rw [List.map_cons, List.set_cons_succ, rdL_cons, rdV_t, ih (by simpa using h), bind_ret, q_bind_assoc]
      rfl
theorem convL_t {n : Nat} {ts : List T} : convL (convArg n) (ts.map .t) = .ret (ts.map .t, []) := by
  induction ts with
  | nil => rfl
  | cons x r ih => rw [List.map_cons, convL_cons, conv_t, bind_ret, ih, bind_ret]; rfl
theorem convL_set {n : Nat} {ts : List T} {i : Nat} {v : V} (h : i < ts.length) : convL (convArg n) ((ts.map .t).set i v) = (convArg n v).bind fun p => .ret ((ts.map .t).set i p.1, p.2) := by
  induction ts generalizing i with
  | nil => simp at h
  | cons x r ih =>
    cases i with
    | zero =>
      rw [List.map_cons, List.set_cons_zero, convL_cons, convL_t]
      simp [Q.bind]
    | succ i =>
      rw [List.map_cons, List.set_cons_succ, convL_cons, conv_t, bind_ret, ih (by simpa using h), q_bind_assoc]
      rfl
theorem ones_set {es : List V} {i : Nat} {v : V} (h : ones es = true) (hv : v.single = true) : ones (es.set i v) = true := by
  simp only [ones, List.all_eq_true] at *
  intro x hx
  rcases List.mem_or_eq_of_mem_set hx with h1 | rfl
  · exact h x h1
  · exact hv
theorem ones_set_bs {l : List (List UInt8)} {i id off len : Nat} : ones (((l.map bsT).map V.t).set i (.sl id off len)) = true := ones_set ones_bs rfl
theorem bs_set {l : List (List UInt8)} {i : Nat} {x : List UInt8} : List.set (List.map bsT l) i (T.sl (List.map byteT x)) = List.map bsT (l.set i x) := by
  rw [List.map_set]; rfl
attribute [go_sem] allT_set_sl allT_set_agg rdL_set convL_t convL_set ones_set_bs bs_set
theorem loopW_weak {tab : Tab} {gl : Gl} {a : AC} {fs fs' : Fs} {hs hs' : Hs} {Qx : Post} (h : Weak fs hs fs' hs') (hl : loopW tab gl a fs' hs' Qx) : loopW tab gl a fs hs Qx := by
  obtain ⟨ι, I, μ, i0, h0, hr⟩ := hl
  exact ⟨ι, I, μ, i0, h.trans h0, hr⟩
end Go.Eng
end
section
namespace Go.Eng
theorem lens {α : Type} : (∀ (n : Nat) (l : List α), (l.take n).length = min n l.length) ∧ (∀ (n : Nat) (l : List α), (l.drop n).length = l.length - n) ∧ (∀ (l m : List α), (l ++ m).length = l.length + m.length) ∧ (∀ (a : α) (l : List α), (a :: l).length = l.length + 1) ∧ (([] : List α).length = 0) ∧ (∀ (n : Nat) (a : α), (List.replicate n a).length = n) ∧ (∀ (l : List α) (n : Nat) (a : α), (l.set n a).length = l.length) := by simp
theorem lenm {α γ : Type} (f : α → γ) (l : List α) : (l.map f).length = l.length := List.length_map f
attribute [go_sem] Bool.false_eq_true Int.toNat_natCast Bool.and_self false_and and_false or_true true_or or_false false_or Bool.or_self Bool.or_true Bool.true_or Bool.or_false Bool.false_or Bool.and_false Bool.false_and not_true_eq_false not_false_eq_true and_self List.length_append List.length_set List.take_length Option.getD_some Option.getD_none false_implies implies_true Option.some.injEq forall_eq_apply_imp_iff forall_eq forall_eq' List.length_drop List.length_take List.getElem?_drop Nat.mul_one Nat.one_mul Nat.zero_add Nat.add_zero Nat.sub_zero Nat.add_sub_cancel_left Nat.add_sub_cancel wi64 wu64 wu32 map_app_cons map_app_map drop_map' take_map' set_map' get_map' get8 get32 getL getB nc_add nc_addl nc_laddr nc_mul nc_lmul nc_mull nc_tmod nc_tdiv nc_fdiv u8_nat Nat.min_eq_left Nat.min_eq_right nc_sub nc_subl nc_lsub nc_lit Int.cast_ofNat_Int Int.natCast_zero Int.natCast_one
variable {tab : Tab} {gl : Gl} {fs : Fs} {hs : Hs} {Qx : Post} {fm : Nat → Option V} {nb : Nat} {K : V × Wr → List Nat → Prop}
def mv (d s : Nat) : AOper := ⟨some d, .op .mov, [.tmp s], none⟩
theorem mv_q {d s : Nat} : ((mv d s).q tab gl fm nb).wp hs K = ((⟨some d, .op .mov, [.tmp s], none⟩ : AOper).q tab gl fm nb).wp hs K := Eq.trans (Eq.refl _) rfl
theorem mv_d {d s : Nat} : (mv d s).dst = some d := Eq.trans (Eq.refl _) rfl
def mG (d s t : Nat) : AOper := ⟨some d, .op .mov, [.tmp s], some (t, true)⟩
theorem mG_q {d s t : Nat} : ((mG d s t).q tab gl fm nb).wp hs K = ((⟨some d, .op .mov, [.tmp s], some (t, true)⟩ : AOper).q tab gl fm nb).wp hs K := Eq.trans (Eq.refl _) rfl
theorem mG_d {d s t : Nat} : (mG d s t).dst = some d := Eq.trans (Eq.refl _) rfl
def mC (d : Nat) (v : V) : AOper := ⟨some d, .op .mov, [.cst v], none⟩
theorem mC_q {d : Nat} {v : V} : ((mC d v).q tab gl fm nb).wp hs K = ((⟨some d, .op .mov, [.cst v], none⟩ : AOper).q tab gl fm nb).wp hs K := Eq.trans (Eq.refl _) rfl
theorem mC_d {d : Nat} {v : V} : (mC d v).dst = some d := Eq.trans (Eq.refl _) rfl
def oO (d : Nat) (a : AO) (xs : List AOpd) : AOper := ⟨some d, .op a, xs, none⟩
theorem oO_q {d : Nat} {a : AO} {xs : List AOpd} : ((oO d a xs).q tab gl fm nb).wp hs K = ((⟨some d, .op a, xs, none⟩ : AOper).q tab gl fm nb).wp hs K := Eq.trans (Eq.refl _) rfl
theorem oO_d {d : Nat} {a : AO} {xs : List AOpd} : (oO d a xs).dst = some d := Eq.trans (Eq.refl _) rfl
def oG (d t : Nat) (a : AO) (xs : List AOpd) : AOper := ⟨some d, .op a, xs, some (t, true)⟩
theorem oG_q {d t : Nat} {a : AO} {xs : List AOpd} : ((oG d t a xs).q tab gl fm nb).wp hs K = ((⟨some d, .op a, xs, some (t, true)⟩ : AOper).q tab gl fm nb).wp hs K := Eq.trans (Eq.refl _) rfl
theorem oG_d {d t : Nat} {a : AO} {xs : List AOpd} : (oG d t a xs).dst = some d := Eq.trans (Eq.refl _) rfl
def bT (d : Nat) (o : BinOp) (x y : Nat) : AOper := ⟨some d, .op (.bin o), [.tmp x, .tmp y], none⟩
theorem bT_q {d : Nat} {o : BinOp} {x y : Nat} : ((bT d o x y).q tab gl fm nb).wp hs K = ((⟨some d, .op (.bin o), [.tmp x, .tmp y], none⟩ : AOper).q tab gl fm nb).wp hs K := Eq.trans (Eq.refl _) rfl
theorem bT_d {d : Nat} {o : BinOp} {x y : Nat} : (bT d o x y).dst = some d := Eq.trans (Eq.refl _) rfl
def bN (d : Nat) (o : BinOp) (x : Nat) (n : Int) : AOper := ⟨some d, .op (.bin o), [.tmp x, .cst (.t (.int .i64 n))], none⟩
theorem bN_q {d : Nat} {o : BinOp} {x : Nat} {n : Int} : ((bN d o x n).q tab gl fm nb).wp hs K = ((⟨some d, .op (.bin o), [.tmp x, .cst (.t (.int .i64 n))], none⟩ : AOper).q tab gl fm nb).wp hs K := Eq.trans (Eq.refl _) rfl
theorem bN_d {d : Nat} {o : BinOp} {x : Nat} {n : Int} : (bN d o x n).dst = some d := Eq.trans (Eq.refl _) rfl
def cL (d f : Nat) (k : Bool) (xs : List AOpd) : AOper := ⟨some d, .call f k, xs, none⟩
theorem cL_q {d f : Nat} {k : Bool} {xs : List AOpd} : ((cL d f k xs).q tab gl fm nb).wp hs K = ((⟨some d, .call f k, xs, none⟩ : AOper).q tab gl fm nb).wp hs K := Eq.trans (Eq.refl _) rfl
theorem cL_d {d f : Nat} {k : Bool} {xs : List AOpd} : (cL d f k xs).dst = some d := Eq.trans (Eq.refl _) rfl
def mF (d s t : Nat) : AOper := ⟨some d, .op .mov, [.tmp s], some (t, false)⟩
theorem mF_q {d s t : Nat} : ((mF d s t).q tab gl fm nb).wp hs K = ((⟨some d, .op .mov, [.tmp s], some (t, false)⟩ : AOper).q tab gl fm nb).wp hs K := Eq.trans (Eq.refl _) rfl
theorem mF_d {d s t : Nat} : (mF d s t).dst = some d := Eq.trans (Eq.refl _) rfl
def oF (d t : Nat) (a : AO) (xs : List AOpd) : AOper := ⟨some d, .op a, xs, some (t, false)⟩
theorem oF_q {d t : Nat} {a : AO} {xs : List AOpd} : ((oF d t a xs).q tab gl fm nb).wp hs K = ((⟨some d, .op a, xs, some (t, false)⟩ : AOper).q tab gl fm nb).wp hs K := Eq.trans (Eq.refl _) rfl
theorem oF_d {d t : Nat} {a : AO} {xs : List AOpd} : (oF d t a xs).dst = some d := Eq.trans (Eq.refl _) rfl
def cG (d t f : Nat) (k : Bool) (xs : List AOpd) : AOper := ⟨some d, .call f k, xs, some (t, true)⟩
theorem cG_q {d t f : Nat} {k : Bool} {xs : List AOpd} : ((cG d t f k xs).q tab gl fm nb).wp hs K = ((⟨some d, .call f k, xs, some (t, true)⟩ : AOper).q tab gl fm nb).wp hs K := Eq.trans (Eq.refl _) rfl
theorem cG_d {d t f : Nat} {k : Bool} {xs : List AOpd} : (cG d t f k xs).dst = some d := Eq.trans (Eq.refl _) rfl
def cF (d t f : Nat) (k : Bool) (xs : List AOpd) : AOper := ⟨some d, .call f k, xs, some (t, false)⟩
theorem cF_q {d t f : Nat} {k : Bool} {xs : List AOpd} : ((cF d t f k xs).q tab gl fm nb).wp hs K = ((⟨some d, .call f k, xs, some (t, false)⟩ : AOper).q tab gl fm nb).wp hs K := Eq.trans (Eq.refl _) rfl
theorem cF_d {d t f : Nat} {k : Bool} {xs : List AOpd} : (cF d t f k xs).dst = some d := Eq.trans (Eq.refl _) rfl
attribute [go_sem ↓] mF_q oF_q cG_q cF_q
attribute [go_sem] mF_d oF_d cG_d cF_d
def oS (n x y : Nat) : AOper := ⟨none, .op (.store n), [.tmp x, .tmp y], none⟩
theorem oS_q {n x y : Nat} : ((oS n x y).q tab gl fm nb).wp hs K = ((⟨none, .op (.store n), [.tmp x, .tmp y], none⟩ : AOper).q tab gl fm nb).wp hs K := Eq.trans (Eq.refl _) rfl
theorem oS_d {n x y : Nat} : (oS n x y).dst = none := Eq.trans (Eq.refl _) rfl
def rG (nb : Nat) (os : List AOper) : AC := .reg nb none os
theorem rG_w {os : List AOper} : (rG nb os).wp tab gl fs hs Qx = (AC.reg nb none os).wp tab gl fs hs Qx := Eq.trans (Eq.refl _) rfl
attribute [go_sem ↓] rG_w mv_q mG_q mC_q oO_q oG_q bT_q bN_q cL_q oS_q
attribute [go_sem] mv_d mG_d mC_d oO_d oG_d bT_d bN_d cL_d oS_d
end Go.Eng
end
section
namespace Go.Eng
def ac_digest_Size : AC :=
 (.seq
 (rG 4096 [
 mC 2 (.t (.int .i64 0))])
 (.seq
 (.seq
 (rG 8192 [
 mv 3 0])
 (.block 0
 (.seq
 (rG 12288 [
 bN 5 .eql 3 0,
 mv 4 5])
 (.cond (.tmp 4)
 (.seq
 (rG 16384 [
 mC 2 (.t (.int .i64 20))])
 .ret)
 (.seq
 (rG 20480 [
 bN 7 .eql 3 1,
 mv 6 7])
 (.cond (.tmp 6)
 (.seq
 (rG 24576 [
 mC 2 (.t (.int .i64 32))])
 .ret)
 .skip))))))
 (.seq
 (rG 28672 [
 mC 2 (.t (.int .i64 0))])
 .ret)))
def hints_digest_Size : List (Nat × List Nat) := []
def ac_digest_pad_L0 : AC :=
 (.seq
 (.seq
 (rG 12288 [
 mv 14 3,
 oO 15 .len [.tmp 14],
 bN 16 .rem 15 64,
 bN 17 .neq 16 56])
 (.cond (.tmp 17)
 .skip
 (.exit 0)))
 (.block 1
 (rG 16384 [
 mv 18 3,
 oO 19 (.bslice 1 1 (.t (byteT 0)) [0]) [.cst (.t (byteT 0))],
 oO 20 (.append 1 1) [.tmp 18, .tmp 19],
 mv 3 20])))
def ac_digest_pad_L1 : AC :=
 (.seq
 (.seq
 (rG 28672 [
 mv 25 5,
 bN 26 .geq 25 0])
 (.cond (.tmp 26)
 .skip
 (.exit 2)))
 (.seq
 (.block 3
 (rG 36864 [
 mv 29 3,
 mv 30 4,
 mv 31 5,
 oO 32 (.conv .u64) [.tmp 31],
 bT 33 .shr 30 32,
 oO 34 (.conv .u8) [.tmp 33],
 oO 35 (.bslice 1 1 (.t (byteT 0)) [0]) [.tmp 34],
 oO 36 (.append 1 1) [.tmp 29, .tmp 35],
 mv 3 36]))
 (rG 32768 [
 mv 27 5,
 bN 28 .sub 27 8,
 mv 5 28])))
def ac_digest_pad : AC :=
 (.seq
 (rG 4096 [
 mC 2 .nil])
 (.seq
 (rG 8192 [
 mv 6 0,
 oO 7 .len [.tmp 6],
 bN 8 .add 7 72,
 oO 9 (.mkslice 1 1 (.t (byteT 0))) [.cst (.t (.int .i64 0)), .tmp 8],
 mv 10 0,
 oO 11 (.append 1 1) [.tmp 9, .tmp 10],
 oO 12 (.bslice 1 1 (.t (byteT 0)) [0]) [.cst (.t (byteT 128))],
 oO 13 (.append 1 1) [.tmp 11, .tmp 12],
 mv 3 13])
 (.seq
 (.block 0
 (.loop ac_digest_pad_L0))
 (.seq
 (rG 20480 [
 mv 21 0,
 oO 22 .len [.tmp 21],
 oO 23 (.conv .u64) [.tmp 22],
 oO 24 (.bin .mul) [.tmp 23, .cst (.t (.int .u64 8))],
 mv 4 24])
 (.seq
 (.seq
 (rG 24576 [
 mC 5 (.t (.int .i64 56))])
 (.block 2
 (.loop ac_digest_pad_L1)))
 (.seq
 (rG 40960 [
 mv 37 3,
 mv 2 37])
 .ret))))))
def hints_digest_pad : List (Nat × List Nat) := []
def ac_digest_word : AC :=
 (.seq
 (rG 4096 [
 mC 4 (.t (u32T 0))])
 (.seq
 (.reg 8192 (some [0, 0, 2, 7, 15, 31, 63, 0, 0, 256, 768, 1920, 3968, 8064, 16256, 32767, 0, 0, 131072, 393216, 983040, 2031616, 4128768, 8323072, 16777215, 0, 0, 67108864, 201326592, 503316480, 1040187392, 2113929216, 4294967295, 8589934591]) [
 mv 5 0,
 mv 6 1,
 oO 7 (.bin .mul) [.cst (.t (.int .i64 4)), .tmp 6],
 oO 8 (.iaddr 1) [.tmp 5, .tmp 7],
 oO 9 (.load 1 false) [.tmp 8],
 oO 10 (.conv .u32) [.tmp 9],
 oO 11 (.bin .shl) [.tmp 10, .cst (.t (.int .u64 24))],
 mv 12 0,
 mv 13 1,
 oO 14 (.bin .mul) [.cst (.t (.int .i64 4)), .tmp 13],
 bN 15 .add 14 1,
 oO 16 (.iaddr 1) [.tmp 12, .tmp 15],
 oO 17 (.load 1 false) [.tmp 16],
 oO 18 (.conv .u32) [.tmp 17],
 oO 19 (.bin .shl) [.tmp 18, .cst (.t (.int .u64 16))],
 bT 20 .or 11 19,
 mv 21 0,
 mv 22 1,
 oO 23 (.bin .mul) [.cst (.t (.int .i64 4)), .tmp 22],
 bN 24 .add 23 2,
 oO 25 (.iaddr 1) [.tmp 21, .tmp 24],
 oO 26 (.load 1 false) [.tmp 25],
 oO 27 (.conv .u32) [.tmp 26],
 oO 28 (.bin .shl) [.tmp 27, .cst (.t (.int .u64 8))],
 bT 29 .or 20 28,
 mv 30 0,
 mv 31 1,
 oO 32 (.bin .mul) [.cst (.t (.int .i64 4)), .tmp 31],
 bN 33 .add 32 3,
 oO 34 (.iaddr 1) [.tmp 30, .tmp 33],
 oO 35 (.load 1 false) [.tmp 34],
 oO 36 (.conv .u32) [.tmp 35],
 bT 37 .or 29 36,
 mv 4 37])
 .ret))
def hints_digest_word : List (Nat × List Nat) := []
def ac_digest_spread_L0 : AC :=
 (.seq
 (rG 16384 [
 bT 13 .lss 12 11])
 (.seq
 (.cond (.tmp 13)
 .skip
 (.exit 0))
 (.seq
 (.block 1
 (.seq
 (rG 20480 [
 oO 14 (.iaddr 1) [.tmp 10, .tmp 12],
 oO 15 (.load 1 false) [.tmp 14],
 mv 5 15])
 (rG 24576 [
 mv 16 3,
 mv 17 5,
 oO 18 (.bin .shr) [.tmp 17, .cst (.t (.int .u64 24))],
 oO 19 (.conv .u8) [.tmp 18],
 mv 20 5,
 oO 21 (.bin .shr) [.tmp 20, .cst (.t (.int .u64 16))],
 oO 22 (.conv .u8) [.tmp 21],
 mv 23 5,
 oO 24 (.bin .shr) [.tmp 23, .cst (.t (.int .u64 8))],
 oO 25 (.conv .u8) [.tmp 24],
 mv 26 5,
 oO 27 (.conv .u8) [.tmp 26],
 oO 28 (.bslice 1 4 (.t (byteT 0)) [0, 1, 2, 3]) [.tmp 19, .tmp 22, .tmp 25, .tmp 27],
 oO 29 (.append 1 1) [.tmp 16, .tmp 28],
 mv 3 29])))
 (rG 28672 [
 bN 30 .add 12 1,
 mv 12 30]))))
def ac_digest_spread : AC :=
 (.seq
 (rG 4096 [
 mC 2 .nil])
 (.seq
 (rG 8192 [
 mv 6 0,
 oO 7 .len [.tmp 6],
 oO 8 (.bin .mul) [.cst (.t (.int .i64 4)), .tmp 7],
 oO 9 (.mkslice 1 1 (.t (byteT 0))) [.cst (.t (.int .i64 0)), .tmp 8],
 mv 3 9])
 (.seq
 (.seq
 (rG 12288 [
 mv 10 0,
 oO 11 .len [.tmp 10],
 mC 12 (.t (.int .i64 0))])
 (.block 0
 (.loop ac_digest_spread_L0)))
 (.seq
 (rG 32768 [
 mv 31 3,
 mv 2 31])
 .ret))))
def hints_digest_spread : List (Nat × List Nat) := []
def ac_digest_compress256_L0 (n_digest_word n_bits_RotateLeft32 : Nat) : AC :=
 (.seq
 (rG 12288 [
 bN 18 .lss 17 64])
 (.seq
 (.cond (.tmp 18)
 .skip
 (.exit 0))
 (.seq
 (.block 1
 (.seq
 (rG 16384 [
 mv 19 17,
 mv 5 19])
 (.seq
 (.seq
 (rG 20480 [
 mv 20 5,
 bN 21 .lss 20 16])
 (.cond (.tmp 21)
 (.seq
 (rG 24576 [
 mv 22 5,
 mv 23 1,
 mv 24 5,
 cL 25 n_digest_word false [.tmp 23, .tmp 24],
 oO 26 (.aaddr 64 1) [.tmp 4, .tmp 22],
 oS 1 26 25])
 (.exit 1))
 .skip))
 (.seq
 (.reg 28672 (some [0, 1, 3, 7, 0, 16, 48, 112, 15, 511]) [
 mv 27 5,
 bN 28 .sub 27 15,
 oO 29 (.aaddr 64 1) [.tmp 4, .tmp 28],
 oO 30 (.load 1 false) [.tmp 29],
 mv 31 5,
 bN 32 .sub 31 2,
 oO 33 (.aaddr 64 1) [.tmp 4, .tmp 32],
 oO 34 (.load 1 false) [.tmp 33],
 mv 6 30,
 mv 7 34])
 (.seq
 (rG 32768 [
 mv 35 6,
 cL 36 n_bits_RotateLeft32 false [.tmp 35, .cst (.t (.int .i64 (-7)))],
 mv 37 6,
 cL 38 n_bits_RotateLeft32 false [.tmp 37, .cst (.t (.int .i64 (-18)))],
 bT 39 .xor 36 38,
 mv 40 6,
 oO 41 (.bin .shr) [.tmp 40, .cst (.t (.int .u64 3))],
 bT 42 .xor 39 41,
 mv 8 42])
 (.seq
 (rG 36864 [
 mv 43 7,
 cL 44 n_bits_RotateLeft32 false [.tmp 43, .cst (.t (.int .i64 (-17)))],
 mv 45 7,
 cL 46 n_bits_RotateLeft32 false [.tmp 45, .cst (.t (.int .i64 (-19)))],
 bT 47 .xor 44 46,
 mv 48 7,
 oO 49 (.bin .shr) [.tmp 48, .cst (.t (.int .u64 10))],
 bT 50 .xor 47 49,
 mv 9 50])
 (.reg 40960 (some [0, 0, 0, 4, 12, 28, 62, 0, 254, 0, 512, 1536, 3584, 8190, 16383, 32767]) [
 mv 51 5,
 mv 52 9,
 mv 53 5,
 bN 54 .sub 53 7,
 oO 55 (.aaddr 64 1) [.tmp 4, .tmp 54],
 oO 56 (.load 1 false) [.tmp 55],
 bT 57 .add 52 56,
 mv 58 8,
 bT 59 .add 57 58,
 mv 60 5,
 bN 61 .sub 60 16,
 oO 62 (.aaddr 64 1) [.tmp 4, .tmp 61],
 oO 63 (.load 1 false) [.tmp 62],
 bT 64 .add 59 63,
 oO 65 (.aaddr 64 1) [.tmp 4, .tmp 51],
 oS 1 65 64])))))))
 (rG 45056 [
 bN 66 .add 17 1,
 mv 17 66]))))
def ac_digest_compress256_L1 (n_bits_RotateLeft32 g_digest_round256 : Nat) : AC :=
 (.seq
 (rG 57344 [
 bN 71 .lss 70 64])
 (.seq
 (.cond (.tmp 71)
 .skip
 (.exit 2))
 (.seq
 (.block 3
 (.seq
 (rG 61440 [
 mv 72 70,
 mv 11 72])
 (.seq
 (.reg 65536 (some [0, 1, 0, 4, 3, 31]) [
 oO 73 (.aaddr 8 1) [.tmp 10, .cst (.t (.int .i64 0))],
 oO 74 (.load 1 false) [.tmp 73],
 oO 75 (.aaddr 8 1) [.tmp 10, .cst (.t (.int .i64 4))],
 oO 76 (.load 1 false) [.tmp 75],
 mv 12 74,
 mv 13 76])
 (.seq
 (.reg 69632 (some [0, 1, 0, 4, 0, 28, 60, 0, 188, 508, 1023, 0, 0, 4096, 14336, 0, 32768, 0, 131072, 491520, 1046528, 2097151, 0, 4194304, 12582912, 33554431, 0, 67108864, 201326592, 536870911, 1073741823]) [
 oO 77 (.aaddr 8 1) [.tmp 10, .cst (.t (.int .i64 7))],
 oO 78 (.load 1 false) [.tmp 77],
 mv 79 13,
 cL 80 n_bits_RotateLeft32 false [.tmp 79, .cst (.t (.int .i64 (-6)))],
 mv 81 13,
 cL 82 n_bits_RotateLeft32 false [.tmp 81, .cst (.t (.int .i64 (-11)))],
 bT 83 .xor 80 82,
 mv 84 13,
 cL 85 n_bits_RotateLeft32 false [.tmp 84, .cst (.t (.int .i64 (-25)))],
 bT 86 .xor 83 85,
 bT 87 .add 78 86,
 mv 88 13,
 oO 89 (.aaddr 8 1) [.tmp 10, .cst (.t (.int .i64 5))],
 oO 90 (.load 1 false) [.tmp 89],
 bT 91 .and 88 90,
 mv 92 13,
 oO 93 (.un .xor) [.tmp 92],
 oO 94 (.aaddr 8 1) [.tmp 10, .cst (.t (.int .i64 6))],
 oO 95 (.load 1 false) [.tmp 94],
 bT 96 .and 93 95,
 bT 97 .xor 91 96,
 bT 98 .add 87 97,
 mv 99 11,
 oO 100 (.aaddr 64 1) [.glob g_digest_round256, .tmp 99],
 oO 101 (.load 1 false) [.tmp 100],
 bT 102 .add 98 101,
 mv 103 11,
 oO 104 (.aaddr 64 1) [.tmp 4, .tmp 103],
 oO 105 (.load 1 false) [.tmp 104],
 bT 106 .add 102 105,
 mv 14 106])
 (.seq
 (.reg 73728 (some [0, 1, 0, 7, 15, 0, 47, 127, 0, 0, 512, 1792, 0, 0, 8192, 28672, 65280, 0, 131072, 0, 524288, 1966080, 4194048, 8388607, 16777215]) [
 mv 107 12,
 cL 108 n_bits_RotateLeft32 false [.tmp 107, .cst (.t (.int .i64 (-2)))],
 mv 109 12,
 cL 110 n_bits_RotateLeft32 false [.tmp 109, .cst (.t (.int .i64 (-13)))],
 bT 111 .xor 108 110,
 mv 112 12,
 cL 113 n_bits_RotateLeft32 false [.tmp 112, .cst (.t (.int .i64 (-22)))],
 bT 114 .xor 111 113,
 mv 115 12,
 oO 116 (.aaddr 8 1) [.tmp 10, .cst (.t (.int .i64 1))],
 oO 117 (.load 1 false) [.tmp 116],
 bT 118 .and 115 117,
 mv 119 12,
 oO 120 (.aaddr 8 1) [.tmp 10, .cst (.t (.int .i64 2))],
 oO 121 (.load 1 false) [.tmp 120],
 bT 122 .and 119 121,
 bT 123 .xor 118 122,
 oO 124 (.aaddr 8 1) [.tmp 10, .cst (.t (.int .i64 1))],
 oO 125 (.load 1 false) [.tmp 124],
 oO 126 (.aaddr 8 1) [.tmp 10, .cst (.t (.int .i64 2))],
 oO 127 (.load 1 false) [.tmp 126],
 bT 128 .and 125 127,
 bT 129 .xor 123 128,
 bT 130 .add 114 129,
 mv 15 130])
 (rG 77824 [
 mv 131 14,
 mv 132 15,
 bT 133 .add 131 132,
 oO 134 (.aaddr 8 1) [.tmp 10, .cst (.t (.int .i64 0))],
 oO 135 (.load 1 false) [.tmp 134],
 oO 136 (.aaddr 8 1) [.tmp 10, .cst (.t (.int .i64 1))],
 oO 137 (.load 1 false) [.tmp 136],
 oO 138 (.aaddr 8 1) [.tmp 10, .cst (.t (.int .i64 2))],
 oO 139 (.load 1 false) [.tmp 138],
 oO 140 (.aaddr 8 1) [.tmp 10, .cst (.t (.int .i64 3))],
 oO 141 (.load 1 false) [.tmp 140],
 mv 142 14,
 bT 143 .add 141 142,
 oO 144 (.aaddr 8 1) [.tmp 10, .cst (.t (.int .i64 4))],
 oO 145 (.load 1 false) [.tmp 144],
 oO 146 (.aaddr 8 1) [.tmp 10, .cst (.t (.int .i64 5))],
 oO 147 (.load 1 false) [.tmp 146],
 oO 148 (.aaddr 8 1) [.tmp 10, .cst (.t (.int .i64 6))],
 oO 149 (.load 1 false) [.tmp 148],
 oO 150 (.build [(.t (u32T 0)), (.t (u32T 0)), (.t (u32T 0)), (.t (u32T 0)), (.t (u32T 0)), (.t (u32T 0)), (.t (u32T 0)), (.t (u32T 0))] [(0, 1), (1, 1), (2, 1), (3, 1), (4, 1), (5, 1), (6, 1), (7, 1)]) [.tmp 133, .tmp 135, .tmp 137, .tmp 139, .tmp 143, .tmp 145, .tmp 147, .tmp 149],
 oS 8 10 150]))))))
 (rG 81920 [
 bN 151 .add 70 1,
 mv 70 151]))))
def ac_digest_compress256_L2 : AC :=
 (.seq
 (rG 90112 [
 bN 153 .lss 152 8])
 (.seq
 (.cond (.tmp 153)
 .skip
 (.exit 4))
 (.seq
 (.block 5
 (.seq
 (rG 94208 [
 mv 154 152,
 mv 16 154])
 (.reg 98304 (some [0, 0, 1, 7, 15, 0, 32, 96, 255, 1, 1023, 2047]) [
 mv 155 0,
 mv 156 16,
 oO 157 .nilchk [.tmp 155],
 oO 158 (.aaddr 8 1) [.tmp 157, .tmp 156],
 oO 159 (.load 1 false) [.tmp 158],
 mv 160 16,
 oO 161 (.aaddr 8 1) [.tmp 10, .tmp 160],
 oO 162 (.load 1 false) [.tmp 161],
 bT 163 .add 159 162,
 oO 164 .nilchk [.tmp 155],
 oO 165 (.aaddr 8 1) [.tmp 164, .tmp 156],
 oS 1 165 163])))
 (rG 102400 [
 bN 166 .add 152 1,
 mv 152 166]))))
def ac_digest_compress256 (n_digest_word n_bits_RotateLeft32 g_digest_round256 : Nat) : AC :=
 (.seq
 (rG 4096 [
 oO 4 (.new 1 (List.replicate 64 (.t (u32T 0)))) []])
 (.seq
 (.seq
 (rG 8192 [
 mC 17 (.t (.int .i64 0))])
 (.block 0
 (.loop (ac_digest_compress256_L0 n_digest_word n_bits_RotateLeft32))))
 (.seq
 (rG 49152 [
 mv 67 0,
 oO 68 .nilchk [.tmp 67],
 oO 69 (.load 8 true) [.tmp 68],
 oO 10 (.new 1 [(.t (u32T 0)), (.t (u32T 0)), (.t (u32T 0)), (.t (u32T 0)), (.t (u32T 0)), (.t (u32T 0)), (.t (u32T 0)), (.t (u32T 0))]) [],
 oS 8 10 69])
 (.seq
 (.seq
 (rG 53248 [
 mC 70 (.t (.int .i64 0))])
 (.block 2
 (.loop (ac_digest_compress256_L1 n_bits_RotateLeft32 g_digest_round256))))
 (.seq
 (rG 86016 [
 mC 152 (.t (.int .i64 0))])
 (.block 4
 (.loop ac_digest_compress256_L2)))))))
def hints_digest_compress256 : List (Nat × List Nat) := []
def ac_digest_compress1_L0 (n_digest_word n_bits_RotateLeft32 : Nat) : AC :=
 (.seq
 (rG 12288 [
 bN 15 .lss 14 80])
 (.seq
 (.cond (.tmp 15)
 .skip
 (.exit 0))
 (.seq
 (.block 1
 (.seq
 (rG 16384 [
 mv 16 14,
 mv 5 16])
 (.seq
 (rG 20480 [
 mv 17 5,
 bN 18 .lss 17 16])
 (.cond (.tmp 18)
 (rG 24576 [
 mv 19 5,
 mv 20 1,
 mv 21 5,
 cL 22 n_digest_word false [.tmp 20, .tmp 21],
 oO 23 (.aaddr 80 1) [.tmp 4, .tmp 19],
 oS 1 23 22])
 (.reg 28672 (some [0, 0, 2, 6, 14, 0, 32, 96, 224, 510, 0, 1024, 3072, 7168, 16382, 0, 32768, 98304, 229376, 524286, 1048574, 2097151, 4194303]) [
 mv 24 5,
 mv 25 5,
 bN 26 .sub 25 3,
 oO 27 (.aaddr 80 1) [.tmp 4, .tmp 26],
 oO 28 (.load 1 false) [.tmp 27],
 mv 29 5,
 bN 30 .sub 29 8,
 oO 31 (.aaddr 80 1) [.tmp 4, .tmp 30],
 oO 32 (.load 1 false) [.tmp 31],
 bT 33 .xor 28 32,
 mv 34 5,
 bN 35 .sub 34 14,
 oO 36 (.aaddr 80 1) [.tmp 4, .tmp 35],
 oO 37 (.load 1 false) [.tmp 36],
 bT 38 .xor 33 37,
 mv 39 5,
 bN 40 .sub 39 16,
 oO 41 (.aaddr 80 1) [.tmp 4, .tmp 40],
 oO 42 (.load 1 false) [.tmp 41],
 bT 43 .xor 38 42,
 cL 44 n_bits_RotateLeft32 false [.tmp 43, .cst (.t (.int .i64 1))],
 oO 45 (.aaddr 80 1) [.tmp 4, .tmp 24],
 oS 1 45 44])))))
 (rG 32768 [
 bN 46 .add 14 1,
 mv 14 46]))))
def ac_digest_compress1_L1 (n_bits_RotateLeft32 : Nat) : AC :=
 (.seq
 (rG 45056 [
 bN 68 .lss 67 80])
 (.seq
 (.cond (.tmp 68)
 .skip
 (.exit 2))
 (.seq
 (.block 3
 (.seq
 (rG 49152 [
 mv 69 67,
 mv 11 69])
 (.seq
 (rG 53248 [
 mC 12 (.t (u32T 0)),
 mC 13 (.t (u32T 0))])
 (.seq
 (.seq
 (rG 57344 [
 mv 70 11,
 bN 71 .quo 70 20])
 (.block 4
 (.seq
 (rG 65536 [
 bN 78 .eql 71 0,
 mv 77 78])
 (.cond (.tmp 77)
 (rG 69632 [
 mv 79 7,
 mv 80 8,
 bT 81 .and 79 80,
 mv 82 7,
 oO 83 (.un .xor) [.tmp 82],
 mv 84 9,
 bT 85 .and 83 84,
 bT 86 .xor 81 85,
 mv 12 86,
 mC 13 (.t (u32T 1518500249))])
 (.seq
 (rG 73728 [
 bN 88 .eql 71 1,
 mv 87 88])
 (.cond (.tmp 87)
 (rG 77824 [
 mv 89 7,
 mv 90 8,
 bT 91 .xor 89 90,
 mv 92 9,
 bT 93 .xor 91 92,
 mv 12 93,
 mC 13 (.t (u32T 1859775393))])
 (.seq
 (rG 81920 [
 bN 95 .eql 71 2,
 mv 94 95])
 (.cond (.tmp 94)
 (rG 86016 [
 mv 96 7,
 mv 97 8,
 bT 98 .and 96 97,
 mv 99 7,
 mv 100 9,
 bT 101 .and 99 100,
 bT 102 .xor 98 101,
 mv 103 8,
 mv 104 9,
 bT 105 .and 103 104,
 bT 106 .xor 102 105,
 mv 12 106,
 mC 13 (.t (u32T 2400959708))])
 (rG 61440 [
 mv 72 7,
 mv 73 8,
 bT 74 .xor 72 73,
 mv 75 9,
 bT 76 .xor 74 75,
 mv 12 76,
 mC 13 (.t (u32T 3395469782))])))))))))
 (.reg 90112 (some [0, 1, 0, 7, 0, 31, 0, 127, 0, 256, 768, 2047, 0, 0, 8195, 0, 0, 131071, 262143, 524287, 1048575, 2097151]) [
 mv 107 6,
 cL 108 n_bits_RotateLeft32 false [.tmp 107, .cst (.t (.int .i64 5))],
 mv 109 12,
 bT 110 .add 108 109,
 mv 111 10,
 bT 112 .add 110 111,
 mv 113 13,
 bT 114 .add 112 113,
 mv 115 11,
 oO 116 (.aaddr 80 1) [.tmp 4, .tmp 115],
 oO 117 (.load 1 false) [.tmp 116],
 bT 118 .add 114 117,
 mv 119 6,
 mv 120 7,
 cL 121 n_bits_RotateLeft32 false [.tmp 120, .cst (.t (.int .i64 30))],
 mv 122 8,
 mv 123 9,
 mv 6 118,
 mv 7 119,
 mv 8 121,
 mv 9 122,
 mv 10 123])))))
 (rG 94208 [
 bN 124 .add 67 1,
 mv 67 124]))))
def ac_digest_compress1 (n_digest_word n_bits_RotateLeft32 : Nat) : AC :=
 (.seq
 (rG 4096 [
 oO 4 (.new 1 (List.replicate 80 (.t (u32T 0)))) []])
 (.seq
 (.seq
 (rG 8192 [
 mC 14 (.t (.int .i64 0))])
 (.block 0
 (.loop (ac_digest_compress1_L0 n_digest_word n_bits_RotateLeft32))))
 (.seq
 (.reg 36864 (some [0, 1, 3, 7, 0, 16, 48, 112, 0, 256, 768, 1792, 0, 4096, 12288, 28672, 0, 65536, 196608, 458752, 15, 1048831, 3149823, 7405567, 16777215]) [
 mv 47 0,
 oO 48 .nilchk [.tmp 47],
 oO 49 (.aaddr 5 1) [.tmp 48, .cst (.t (.int .i64 0))],
 oO 50 (.load 1 false) [.tmp 49],
 mv 51 0,
 oO 52 .nilchk [.tmp 51],
 oO 53 (.aaddr 5 1) [.tmp 52, .cst (.t (.int .i64 1))],
 oO 54 (.load 1 false) [.tmp 53],
 mv 55 0,
 oO 56 .nilchk [.tmp 55],
 oO 57 (.aaddr 5 1) [.tmp 56, .cst (.t (.int .i64 2))],
 oO 58 (.load 1 false) [.tmp 57],
 mv 59 0,
 oO 60 .nilchk [.tmp 59],
 oO 61 (.aaddr 5 1) [.tmp 60, .cst (.t (.int .i64 3))],
 oO 62 (.load 1 false) [.tmp 61],
 mv 63 0,
 oO 64 .nilchk [.tmp 63],
 oO 65 (.aaddr 5 1) [.tmp 64, .cst (.t (.int .i64 4))],
 oO 66 (.load 1 false) [.tmp 65],
 mv 6 50,
 mv 7 54,
 mv 8 58,
 mv 9 62,
 mv 10 66])
 (.seq
 (.seq
 (rG 40960 [
 mC 67 (.t (.int .i64 0))])
 (.block 2
 (.loop (ac_digest_compress1_L1 n_bits_RotateLeft32))))
 (.seq
 (.reg 98304 (some [0, 1, 3, 7, 0, 31, 1, 127, 255]) [
 mv 125 0,
 oO 126 .nilchk [.tmp 125],
 oO 127 (.aaddr 5 1) [.tmp 126, .cst (.t (.int .i64 0))],
 oO 128 (.load 1 false) [.tmp 127],
 mv 129 6,
 bT 130 .add 128 129,
 oO 131 .nilchk [.tmp 125],
 oO 132 (.aaddr 5 1) [.tmp 131, .cst (.t (.int .i64 0))],
 oS 1 132 130])
 (.seq
 (.reg 102400 (some [0, 1, 3, 7, 0, 31, 1, 127, 255]) [
 mv 133 0,
 oO 134 .nilchk [.tmp 133],
 oO 135 (.aaddr 5 1) [.tmp 134, .cst (.t (.int .i64 1))],
 oO 136 (.load 1 false) [.tmp 135],
 mv 137 7,
 bT 138 .add 136 137,
 oO 139 .nilchk [.tmp 133],
 oO 140 (.aaddr 5 1) [.tmp 139, .cst (.t (.int .i64 1))],
 oS 1 140 138])
 (.seq
 (.reg 106496 (some [0, 1, 3, 7, 0, 31, 1, 127, 255]) [
 mv 141 0,
 oO 142 .nilchk [.tmp 141],
 oO 143 (.aaddr 5 1) [.tmp 142, .cst (.t (.int .i64 2))],
 oO 144 (.load 1 false) [.tmp 143],
 mv 145 8,
 bT 146 .add 144 145,
 oO 147 .nilchk [.tmp 141],
 oO 148 (.aaddr 5 1) [.tmp 147, .cst (.t (.int .i64 2))],
 oS 1 148 146])
 (.seq
 (.reg 110592 (some [0, 1, 3, 7, 0, 31, 1, 127, 255]) [
 mv 149 0,
 oO 150 .nilchk [.tmp 149],
 oO 151 (.aaddr 5 1) [.tmp 150, .cst (.t (.int .i64 3))],
 oO 152 (.load 1 false) [.tmp 151],
 mv 153 9,
 bT 154 .add 152 153,
 oO 155 .nilchk [.tmp 149],
 oO 156 (.aaddr 5 1) [.tmp 155, .cst (.t (.int .i64 3))],
 oS 1 156 154])
 (.reg 114688 (some [0, 1, 3, 7, 0, 31, 1, 127, 255]) [
 mv 157 0,
 oO 158 .nilchk [.tmp 157],
 oO 159 (.aaddr 5 1) [.tmp 158, .cst (.t (.int .i64 4))],
 oO 160 (.load 1 false) [.tmp 159],
 mv 161 10,
 bT 162 .add 160 161,
 oO 163 .nilchk [.tmp 157],
 oO 164 (.aaddr 5 1) [.tmp 163, .cst (.t (.int .i64 4))],
 oS 1 164 162])))))))))
def hints_digest_compress1 : List (Nat × List Nat) := []
def ac_digest_Sum_L0 (n_digest_compress1 : Nat) : AC :=
 (.seq
 (.seq
 (rG 24576 [
 mv 15 6,
 oO 16 .len [.tmp 15],
 bN 17 .gtr 16 0])
 (.cond (.tmp 17)
 .skip
 (.exit 1)))
 (.seq
 (.block 2
 (rG 32768 [
 mv 20 6,
 oO 21 (.slice 1 false true false) [.tmp 20, .cst (.t (.int .i64 64))],
 cL 22 n_digest_compress1 false [.tmp 5, .tmp 21]]))
 (rG 28672 [
 mv 18 6,
 oO 19 (.slice 1 true false false) [.tmp 18, .cst (.t (.int .i64 64))],
 mv 6 19])))
def ac_digest_Sum_L1 (n_digest_compress256 : Nat) : AC :=
 (.seq
 (.seq
 (rG 53248 [
 mv 30 8,
 oO 31 .len [.tmp 30],
 bN 32 .gtr 31 0])
 (.cond (.tmp 32)
 .skip
 (.exit 3)))
 (.seq
 (.block 4
 (rG 61440 [
 mv 35 8,
 oO 36 (.slice 1 false true false) [.tmp 35, .cst (.t (.int .i64 64))],
 cL 37 n_digest_compress256 false [.tmp 7, .tmp 36]]))
 (rG 57344 [
 mv 33 8,
 oO 34 (.slice 1 true false false) [.tmp 33, .cst (.t (.int .i64 64))],
 mv 8 34])))
def ac_digest_Sum (n_digest_pad n_digest_compress1 n_digest_spread n_digest_compress256 : Nat) : AC :=
 (.seq
 (rG 4096 [
 mC 4 .nil])
 (.seq
 (.seq
 (rG 8192 [
 mv 9 0])
 (.block 0
 (.seq
 (rG 12288 [
 bN 11 .eql 9 0,
 mv 10 11])
 (.cond (.tmp 10)
 (.seq
 (rG 16384 [
 oO 12 (.build [(.t (u32T 0)), (.t (u32T 0)), (.t (u32T 0)), (.t (u32T 0)), (.t (u32T 0))] [(0, 1), (1, 1), (2, 1), (3, 1), (4, 1)]) [.cst (.t (u32T 1732584193)), .cst (.t (u32T 4023233417)), .cst (.t (u32T 2562383102)), .cst (.t (u32T 271733878)), .cst (.t (u32T 3285377520))],
 oO 5 (.new 1 [(.t (u32T 0)), (.t (u32T 0)), (.t (u32T 0)), (.t (u32T 0)), (.t (u32T 0))]) [],
 oS 5 5 12])
 (.seq
 (.seq
 (rG 20480 [
 mv 13 1,
 cL 14 n_digest_pad false [.tmp 13],
 mv 6 14])
 (.block 1
 (.loop (ac_digest_Sum_L0 n_digest_compress1))))
 (.seq
 (rG 36864 [
 oO 23 (.aslice 5 1 false false false) [.tmp 5],
 cL 24 n_digest_spread false [.tmp 23],
 mv 4 24])
 .ret)))
 (.seq
 (rG 40960 [
 bN 26 .eql 9 1,
 mv 25 26])
 (.cond (.tmp 25)
 (.seq
 (rG 45056 [
 oO 27 (.build [(.t (u32T 0)), (.t (u32T 0)), (.t (u32T 0)), (.t (u32T 0)), (.t (u32T 0)), (.t (u32T 0)), (.t (u32T 0)), (.t (u32T 0))] [(0, 1), (1, 1), (2, 1), (3, 1), (4, 1), (5, 1), (6, 1), (7, 1)]) [.cst (.t (u32T 1779033703)), .cst (.t (u32T 3144134277)), .cst (.t (u32T 1013904242)), .cst (.t (u32T 2773480762)), .cst (.t (u32T 1359893119)), .cst (.t (u32T 2600822924)), .cst (.t (u32T 528734635)), .cst (.t (u32T 1541459225))],
 oO 7 (.new 1 [(.t (u32T 0)), (.t (u32T 0)), (.t (u32T 0)), (.t (u32T 0)), (.t (u32T 0)), (.t (u32T 0)), (.t (u32T 0)), (.t (u32T 0))]) [],
 oS 8 7 27])
 (.seq
 (.seq
 (rG 49152 [
 mv 28 1,
 cL 29 n_digest_pad false [.tmp 28],
 mv 8 29])
 (.block 3
 (.loop (ac_digest_Sum_L1 n_digest_compress256))))
 (.seq
 (rG 65536 [
 oO 38 (.aslice 8 1 false false false) [.tmp 7],
 cL 39 n_digest_spread false [.tmp 38],
 mv 4 39])
 .ret)))
 .skip))))))
 (.seq
 (rG 69632 [
 mC 4 .nil])
 .ret)))
def hints_digest_Sum : List (Nat × List Nat) := []
def ac_bits_RotateLeft32 : AC :=
 (.seq
 (rG 4096 [
 mC 4 (.t (u32T 0))])
 (.seq
 (rG 8192 [
 mv 6 1,
 oO 7 (.conv .u64) [.tmp 6],
 oO 8 (.bin .and) [.tmp 7, .cst (.t (.int .u64 31))],
 mv 5 8])
 (.seq
 (rG 12288 [
 mv 9 0,
 mv 10 5,
 bT 11 .shl 9 10,
 mv 12 0,
 mv 13 5,
 oO 14 (.bin .sub) [.cst (.t (.int .u64 32)), .tmp 13],
 bT 15 .shr 12 14,
 bT 16 .or 11 15,
 mv 4 16])
 .ret)))
def hints_bits_RotateLeft32 : List (Nat × List Nat) := []
def ac_ref1_rotr : AC :=
 (.seq
 (rG 4096 [
 mC 4 (.t (u32T 0))])
 (.seq
 (rG 8192 [
 mv 5 0,
 mv 6 1,
 bT 7 .shr 5 6,
 mv 8 0,
 mv 9 1,
 oO 10 (.bin .sub) [.cst (.t (.int .u64 32)), .tmp 9],
 bT 11 .shl 8 10,
 bT 12 .or 7 11,
 mv 4 12])
 .ret))
def hints_ref1_rotr : List (Nat × List Nat) := []
def ac_ref1_rotl : AC :=
 (.seq
 (rG 4096 [
 mC 4 (.t (u32T 0))])
 (.seq
 (rG 8192 [
 mv 5 0,
 mv 6 1,
 bT 7 .shl 5 6,
 mv 8 0,
 mv 9 1,
 oO 10 (.bin .sub) [.cst (.t (.int .u64 32)), .tmp 9],
 bT 11 .shr 8 10,
 bT 12 .or 7 11,
 mv 4 12])
 .ret))
def hints_ref1_rotl : List (Nat × List Nat) := []
def ac_ref1_constants : AC :=
 (.seq
 (rG 4096 [
 oO 0 (.new 1 (List.replicate 64 (.t (u32T 0)))) []])
 (.seq
 (rG 8192 [
 oO 1 (.build (List.replicate 64 (.t (u32T 0))) [(0, 1), (1, 1), (2, 1), (3, 1), (4, 1), (5, 1), (6, 1), (7, 1), (8, 1), (9, 1), (10, 1), (11, 1), (12, 1), (13, 1), (14, 1), (15, 1), (16, 1), (17, 1), (18, 1), (19, 1), (20, 1), (21, 1), (22, 1), (23, 1), (24, 1), (25, 1), (26, 1), (27, 1), (28, 1), (29, 1), (30, 1), (31, 1), (32, 1), (33, 1), (34, 1), (35, 1), (36, 1), (37, 1), (38, 1), (39, 1), (40, 1), (41, 1), (42, 1), (43, 1), (44, 1), (45, 1), (46, 1), (47, 1), (48, 1), (49, 1), (50, 1), (51, 1), (52, 1), (53, 1), (54, 1), (55, 1), (56, 1), (57, 1), (58, 1), (59, 1), (60, 1), (61, 1), (62, 1), (63, 1)]) [.cst (.t (u32T 1116352408)), .cst (.t (u32T 1899447441)), .cst (.t (u32T 3049323471)), .cst (.t (u32T 3921009573)), .cst (.t (u32T 961987163)), .cst (.t (u32T 1508970993)), .cst (.t (u32T 2453635748)), .cst (.t (u32T 2870763221)), .cst (.t (u32T 3624381080)), .cst (.t (u32T 310598401)), .cst (.t (u32T 607225278)), .cst (.t (u32T 1426881987)), .cst (.t (u32T 1925078388)), .cst (.t (u32T 2162078206)), .cst (.t (u32T 2614888103)), .cst (.t (u32T 3248222580)), .cst (.t (u32T 3835390401)), .cst (.t (u32T 4022224774)), .cst (.t (u32T 264347078)), .cst (.t (u32T 604807628)), .cst (.t (u32T 770255983)), .cst (.t (u32T 1249150122)), .cst (.t (u32T 1555081692)), .cst (.t (u32T 1996064986)), .cst (.t (u32T 2554220882)), .cst (.t (u32T 2821834349)), .cst (.t (u32T 2952996808)), .cst (.t (u32T 3210313671)), .cst (.t (u32T 3336571891)), .cst (.t (u32T 3584528711)), .cst (.t (u32T 113926993)), .cst (.t (u32T 338241895)), .cst (.t (u32T 666307205)), .cst (.t (u32T 773529912)), .cst (.t (u32T 1294757372)), .cst (.t (u32T 1396182291)), .cst (.t (u32T 1695183700)), .cst (.t (u32T 1986661051)), .cst (.t (u32T 2177026350)), .cst (.t (u32T 2456956037)), .cst (.t (u32T 2730485921)), .cst (.t (u32T 2820302411)), .cst (.t (u32T 3259730800)), .cst (.t (u32T 3345764771)), .cst (.t (u32T 3516065817)), .cst (.t (u32T 3600352804)), .cst (.t (u32T 4094571909)), .cst (.t (u32T 275423344)), .cst (.t (u32T 430227734)), .cst (.t (u32T 506948616)), .cst (.t (u32T 659060556)), .cst (.t (u32T 883997877)), .cst (.t (u32T 958139571)), .cst (.t (u32T 1322822218)), .cst (.t (u32T 1537002063)), .cst (.t (u32T 1747873779)), .cst (.t (u32T 1955562222)), .cst (.t (u32T 2024104815)), .cst (.t (u32T 2227730452)), .cst (.t (u32T 2361852424)), .cst (.t (u32T 2428436474)), .cst (.t (u32T 2756734187)), .cst (.t (u32T 3204031479)), .cst (.t (u32T 3329325298))],
 oS 64 0 1])
 .ret))
def hints_ref1_constants : List (Nat × List Nat) := []
def ac_ref1_pad_L0 : AC :=
 (.seq
 (.seq
 (rG 12288 [
 mv 11 3,
 oO 12 .len [.tmp 11],
 bN 13 .rem 12 64,
 bN 14 .neq 13 56])
 (.cond (.tmp 14)
 .skip
 (.exit 0)))
 (.block 1
 (rG 16384 [
 mv 15 3,
 oO 16 (.bslice 1 1 (.t (byteT 0)) [0]) [.cst (.t (byteT 0))],
 oO 17 (.append 1 1) [.tmp 15, .tmp 16],
 mv 3 17])))
def ac_ref1_pad_L1 : AC :=
 (.seq
 (.seq
 (rG 28672 [
 mv 22 5,
 bN 23 .geq 22 0])
 (.cond (.tmp 23)
 .skip
 (.exit 2)))
 (.seq
 (.block 3
 (rG 36864 [
 mv 26 3,
 mv 27 4,
 mv 28 5,
 oO 29 (.conv .u64) [.tmp 28],
 oO 30 (.bin .mul) [.cst (.t (.int .u64 8)), .tmp 29],
 bT 31 .shr 27 30,
 oO 32 (.conv .u8) [.tmp 31],
 oO 33 (.bslice 1 1 (.t (byteT 0)) [0]) [.tmp 32],
 oO 34 (.append 1 1) [.tmp 26, .tmp 33],
 mv 3 34]))
 (rG 32768 [
 mv 24 5,
 bN 25 .sub 24 1,
 mv 5 25])))
def ac_ref1_pad : AC :=
 (.seq
 (rG 4096 [
 mC 2 .nil])
 (.seq
 (rG 8192 [
 oO 6 (.bslice 1 0 (.t (byteT 0)) []) [],
 mv 7 0,
 oO 8 (.append 1 1) [.tmp 6, .tmp 7],
 oO 9 (.bslice 1 1 (.t (byteT 0)) [0]) [.cst (.t (byteT 128))],
 oO 10 (.append 1 1) [.tmp 8, .tmp 9],
 mv 3 10])
 (.seq
 (.block 0
 (.loop ac_ref1_pad_L0))
 (.seq
 (rG 20480 [
 mv 18 0,
 oO 19 .len [.tmp 18],
 oO 20 (.conv .u64) [.tmp 19],
 oO 21 (.bin .mul) [.tmp 20, .cst (.t (.int .u64 8))],
 mv 4 21])
 (.seq
 (.seq
 (rG 24576 [
 mC 5 (.t (.int .i64 7))])
 (.block 2
 (.loop ac_ref1_pad_L1)))
 (.seq
 (rG 40960 [
 mv 35 3,
 mv 2 35])
 .ret))))))
def hints_ref1_pad : List (Nat × List Nat) := []
def ac_ref1_word : AC :=
 (.seq
 (rG 4096 [
 mC 4 (.t (u32T 0))])
 (.seq
 (.reg 8192 (some [0, 0, 2, 7, 15, 31, 63, 0, 0, 256, 768, 1920, 3968, 8064, 16256, 32767, 0, 0, 131072, 393216, 983040, 2031616, 4128768, 8323072, 16777215, 0, 0, 67108864, 201326592, 503316480, 1040187392, 2113929216, 4294967295, 8589934591]) [
 mv 5 0,
 mv 6 1,
 oO 7 (.bin .mul) [.cst (.t (.int .i64 4)), .tmp 6],
 oO 8 (.iaddr 1) [.tmp 5, .tmp 7],
 oO 9 (.load 1 false) [.tmp 8],
 oO 10 (.conv .u32) [.tmp 9],
 oO 11 (.bin .shl) [.tmp 10, .cst (.t (.int .u64 24))],
 mv 12 0,
 mv 13 1,
 oO 14 (.bin .mul) [.cst (.t (.int .i64 4)), .tmp 13],
 bN 15 .add 14 1,
 oO 16 (.iaddr 1) [.tmp 12, .tmp 15],
 oO 17 (.load 1 false) [.tmp 16],
 oO 18 (.conv .u32) [.tmp 17],
 oO 19 (.bin .shl) [.tmp 18, .cst (.t (.int .u64 16))],
 bT 20 .or 11 19,
 mv 21 0,
 mv 22 1,
 oO 23 (.bin .mul) [.cst (.t (.int .i64 4)), .tmp 22],
 bN 24 .add 23 2,
 oO 25 (.iaddr 1) [.tmp 21, .tmp 24],
 oO 26 (.load 1 false) [.tmp 25],
 oO 27 (.conv .u32) [.tmp 26],
 oO 28 (.bin .shl) [.tmp 27, .cst (.t (.int .u64 8))],
 bT 29 .or 20 28,
 mv 30 0,
 mv 31 1,
 oO 32 (.bin .mul) [.cst (.t (.int .i64 4)), .tmp 31],
 bN 33 .add 32 3,
 oO 34 (.iaddr 1) [.tmp 30, .tmp 33],
 oO 35 (.load 1 false) [.tmp 34],
 oO 36 (.conv .u32) [.tmp 35],
 bT 37 .or 29 36,
 mv 4 37])
 .ret))
def hints_ref1_word : List (Nat × List Nat) := []
def ac_ref1_bytes_L0 : AC :=
 (.seq
 (.seq
 (rG 16384 [
 mv 5 4,
 mv 6 0,
 oO 7 .len [.tmp 6],
 bT 8 .lss 5 7])
 (.cond (.tmp 8)
 .skip
 (.exit 0)))
 (.seq
 (.block 1
 (.reg 24576 (some [0, 0, 0, 6, 14, 30, 62, 0, 0, 384, 896, 1920, 3968, 0, 0, 24576, 57344, 122880, 253952, 0, 0, 1572864, 3670016, 7864320, 16777214, 33554431, 67108863]) [
 mv 11 3,
 mv 12 0,
 mv 13 4,
 oO 14 (.iaddr 1) [.tmp 12, .tmp 13],
 oO 15 (.load 1 false) [.tmp 14],
 oO 16 (.bin .shr) [.tmp 15, .cst (.t (.int .u64 24))],
 oO 17 (.conv .u8) [.tmp 16],
 mv 18 0,
 mv 19 4,
 oO 20 (.iaddr 1) [.tmp 18, .tmp 19],
 oO 21 (.load 1 false) [.tmp 20],
 oO 22 (.bin .shr) [.tmp 21, .cst (.t (.int .u64 16))],
 oO 23 (.conv .u8) [.tmp 22],
 mv 24 0,
 mv 25 4,
 oO 26 (.iaddr 1) [.tmp 24, .tmp 25],
 oO 27 (.load 1 false) [.tmp 26],
 oO 28 (.bin .shr) [.tmp 27, .cst (.t (.int .u64 8))],
 oO 29 (.conv .u8) [.tmp 28],
 mv 30 0,
 mv 31 4,
 oO 32 (.iaddr 1) [.tmp 30, .tmp 31],
 oO 33 (.load 1 false) [.tmp 32],
 oO 34 (.conv .u8) [.tmp 33],
 oO 35 (.bslice 1 4 (.t (byteT 0)) [0, 1, 2, 3]) [.tmp 17, .tmp 23, .tmp 29, .tmp 34],
 oO 36 (.append 1 1) [.tmp 11, .tmp 35],
 mv 3 36]))
 (rG 20480 [
 mv 9 4,
 bN 10 .add 9 1,
 mv 4 10])))
def ac_ref1_bytes : AC :=
 (.seq
 (rG 4096 [
 mC 2 .nil])
 (.seq
 (rG 8192 [
 mC 3 .nil])
 (.seq
 (.seq
 (rG 12288 [
 mC 4 (.t (.int .i64 0))])
 (.block 0
 (.loop ac_ref1_bytes_L0)))
 (.seq
 (rG 28672 [
 mv 37 3,
 mv 2 37])
 .ret))))
def hints_ref1_bytes : List (Nat × List Nat) := []
def ac_ref1_Sum256_L1 (n_ref1_word n_ref1_rotr : Nat) : AC :=
 (.seq
 (.seq
 (rG 40960 [
 mv 28 8,
 bN 29 .lss 28 64])
 (.cond (.tmp 29)
 .skip
 (.exit 2)))
 (.seq
 (.block 3
 (.seq
 (.seq
 (rG 49152 [
 mv 32 8,
 bN 33 .lss 32 16])
 (.cond (.tmp 33)
 (.seq
 (rG 53248 [
 mv 34 8,
 mv 35 5,
 mv 36 6,
 mv 37 6,
 bN 38 .add 37 64,
 oO 39 (.slice 1 true true false) [.tmp 35, .tmp 36, .tmp 38],
 mv 40 8,
 cL 41 n_ref1_word false [.tmp 39, .tmp 40],
 oO 42 (.aaddr 64 1) [.tmp 7, .tmp 34],
 oS 1 42 41])
 (.exit 3))
 .skip))
 (.seq
 (.reg 57344 (some [0, 1, 3, 7, 15, 0, 32, 96, 224, 511, 1023, 0, 2048, 6144, 14336, 30720, 65535, 131071]) [
 mv 43 8,
 bN 44 .sub 43 15,
 oO 45 (.aaddr 64 1) [.tmp 7, .tmp 44],
 oO 46 (.load 1 false) [.tmp 45],
 cL 47 n_ref1_rotr false [.tmp 46, .cst (.t (.int .u64 7))],
 mv 48 8,
 bN 49 .sub 48 15,
 oO 50 (.aaddr 64 1) [.tmp 7, .tmp 49],
 oO 51 (.load 1 false) [.tmp 50],
 cL 52 n_ref1_rotr false [.tmp 51, .cst (.t (.int .u64 18))],
 bT 53 .xor 47 52,
 mv 54 8,
 bN 55 .sub 54 15,
 oO 56 (.aaddr 64 1) [.tmp 7, .tmp 55],
 oO 57 (.load 1 false) [.tmp 56],
 oO 58 (.bin .shr) [.tmp 57, .cst (.t (.int .u64 3))],
 bT 59 .xor 53 58,
 mv 9 59])
 (.seq
 (.reg 61440 (some [0, 1, 3, 7, 15, 0, 32, 96, 224, 511, 1023, 0, 2048, 6144, 14336, 30720, 65535, 131071]) [
 mv 60 8,
 bN 61 .sub 60 2,
 oO 62 (.aaddr 64 1) [.tmp 7, .tmp 61],
 oO 63 (.load 1 false) [.tmp 62],
 cL 64 n_ref1_rotr false [.tmp 63, .cst (.t (.int .u64 17))],
 mv 65 8,
 bN 66 .sub 65 2,
 oO 67 (.aaddr 64 1) [.tmp 7, .tmp 66],
 oO 68 (.load 1 false) [.tmp 67],
 cL 69 n_ref1_rotr false [.tmp 68, .cst (.t (.int .u64 19))],
 bT 70 .xor 64 69,
 mv 71 8,
 bN 72 .sub 71 2,
 oO 73 (.aaddr 64 1) [.tmp 7, .tmp 72],
 oO 74 (.load 1 false) [.tmp 73],
 oO 75 (.bin .shr) [.tmp 74, .cst (.t (.int .u64 10))],
 bT 76 .xor 70 75,
 mv 10 76])
 (.reg 65536 (some [0, 0, 0, 4, 12, 28, 62, 0, 254, 0, 512, 1536, 3584, 8190, 16383, 32767]) [
 mv 77 8,
 mv 78 10,
 mv 79 8,
 bN 80 .sub 79 7,
 oO 81 (.aaddr 64 1) [.tmp 7, .tmp 80],
 oO 82 (.load 1 false) [.tmp 81],
 bT 83 .add 78 82,
 mv 84 9,
 bT 85 .add 83 84,
 mv 86 8,
 bN 87 .sub 86 16,
 oO 88 (.aaddr 64 1) [.tmp 7, .tmp 87],
 oO 89 (.load 1 false) [.tmp 88],
 bT 90 .add 85 89,
 oO 91 (.aaddr 64 1) [.tmp 7, .tmp 77],
 oS 1 91 90])))))
 (rG 45056 [
 mv 30 8,
 bN 31 .add 30 1,
 mv 8 31])))
def ac_ref1_Sum256_L2 (n_ref1_rotr : Nat) : AC :=
 (.seq
 (.seq
 (rG 77824 [
 mv 95 12,
 bN 96 .lss 95 64])
 (.cond (.tmp 96)
 .skip
 (.exit 4)))
 (.seq
 (.block 5
 (.seq
 (.reg 86016 (some [0, 1, 3, 0, 8, 24, 7, 127]) [
 mv 99 11,
 oO 100 (.iaddr 1) [.tmp 99, .cst (.t (.int .i64 0))],
 oO 101 (.load 1 false) [.tmp 100],
 mv 102 11,
 oO 103 (.iaddr 1) [.tmp 102, .cst (.t (.int .i64 4))],
 oO 104 (.load 1 false) [.tmp 103],
 mv 13 101,
 mv 14 104])
 (.seq
 (.reg 90112 (some [0, 1, 3, 0, 8, 0, 56, 120, 0, 376, 1016, 2047, 0, 0, 8192, 24576, 61440, 0, 131072, 0, 524288, 1572864, 4063232, 8384512, 16777215, 0, 33554432, 100663296, 268435455, 0, 536870912, 1610612736, 4294967295, 8589934591]) [
 mv 105 11,
 oO 106 (.iaddr 1) [.tmp 105, .cst (.t (.int .i64 7))],
 oO 107 (.load 1 false) [.tmp 106],
 mv 108 14,
 cL 109 n_ref1_rotr false [.tmp 108, .cst (.t (.int .u64 6))],
 mv 110 14,
 cL 111 n_ref1_rotr false [.tmp 110, .cst (.t (.int .u64 11))],
 bT 112 .xor 109 111,
 mv 113 14,
 cL 114 n_ref1_rotr false [.tmp 113, .cst (.t (.int .u64 25))],
 bT 115 .xor 112 114,
 bT 116 .add 107 115,
 mv 117 14,
 mv 118 11,
 oO 119 (.iaddr 1) [.tmp 118, .cst (.t (.int .i64 5))],
 oO 120 (.load 1 false) [.tmp 119],
 bT 121 .and 117 120,
 mv 122 14,
 oO 123 (.un .xor) [.tmp 122],
 mv 124 11,
 oO 125 (.iaddr 1) [.tmp 124, .cst (.t (.int .i64 6))],
 oO 126 (.load 1 false) [.tmp 125],
 bT 127 .and 123 126,
 bT 128 .xor 121 127,
 bT 129 .add 116 128,
 mv 130 12,
 oO 131 (.aaddr 64 1) [.tmp 3, .tmp 130],
 oO 132 (.load 1 false) [.tmp 131],
 bT 133 .add 129 132,
 mv 134 12,
 oO 135 (.aaddr 64 1) [.tmp 7, .tmp 134],
 oO 136 (.load 1 false) [.tmp 135],
 bT 137 .add 133 136,
 mv 15 137])
 (.seq
 (.reg 94208 (some [0, 1, 0, 7, 15, 0, 47, 127, 0, 0, 512, 1536, 3840, 0, 0, 16384, 49152, 122880, 261888, 0, 524288, 1572864, 0, 4194304, 12582912, 33030144, 67108608, 134217727, 268435455]) [
 mv 138 13,
 cL 139 n_ref1_rotr false [.tmp 138, .cst (.t (.int .u64 2))],
 mv 140 13,
 cL 141 n_ref1_rotr false [.tmp 140, .cst (.t (.int .u64 13))],
 bT 142 .xor 139 141,
 mv 143 13,
 cL 144 n_ref1_rotr false [.tmp 143, .cst (.t (.int .u64 22))],
 bT 145 .xor 142 144,
 mv 146 13,
 mv 147 11,
 oO 148 (.iaddr 1) [.tmp 147, .cst (.t (.int .i64 1))],
 oO 149 (.load 1 false) [.tmp 148],
 bT 150 .and 146 149,
 mv 151 13,
 mv 152 11,
 oO 153 (.iaddr 1) [.tmp 152, .cst (.t (.int .i64 2))],
 oO 154 (.load 1 false) [.tmp 153],
 bT 155 .and 151 154,
 bT 156 .xor 150 155,
 mv 157 11,
 oO 158 (.iaddr 1) [.tmp 157, .cst (.t (.int .i64 1))],
 oO 159 (.load 1 false) [.tmp 158],
 mv 160 11,
 oO 161 (.iaddr 1) [.tmp 160, .cst (.t (.int .i64 2))],
 oO 162 (.load 1 false) [.tmp 161],
 bT 163 .and 159 162,
 bT 164 .xor 156 163,
 bT 165 .add 145 164,
 mv 16 165])
 (.reg 98304 (some [0, 0, 3, 0, 0, 16, 48, 0, 128, 384, 0, 1024, 3072, 0, 15360, 0, 0, 65536, 196608, 0, 524288, 1572864, 4194303, 8388607]) [
 mv 166 15,
 mv 167 16,
 bT 168 .add 166 167,
 mv 169 13,
 mv 170 11,
 oO 171 (.iaddr 1) [.tmp 170, .cst (.t (.int .i64 1))],
 oO 172 (.load 1 false) [.tmp 171],
 mv 173 11,
 oO 174 (.iaddr 1) [.tmp 173, .cst (.t (.int .i64 2))],
 oO 175 (.load 1 false) [.tmp 174],
 mv 176 11,
 oO 177 (.iaddr 1) [.tmp 176, .cst (.t (.int .i64 3))],
 oO 178 (.load 1 false) [.tmp 177],
 mv 179 15,
 bT 180 .add 178 179,
 mv 181 14,
 mv 182 11,
 oO 183 (.iaddr 1) [.tmp 182, .cst (.t (.int .i64 5))],
 oO 184 (.load 1 false) [.tmp 183],
 mv 185 11,
 oO 186 (.iaddr 1) [.tmp 185, .cst (.t (.int .i64 6))],
 oO 187 (.load 1 false) [.tmp 186],
 oO 188 (.bslice 1 8 (.t (u32T 0)) [0, 1, 2, 3, 4, 5, 6, 7]) [.tmp 168, .tmp 169, .tmp 172, .tmp 175, .tmp 180, .tmp 181, .tmp 184, .tmp 187],
 mv 11 188])))))
 (rG 81920 [
 mv 97 12,
 bN 98 .add 97 1,
 mv 12 98])))
def ac_ref1_Sum256_L3 : AC :=
 (.seq
 (.seq
 (rG 106496 [
 mv 189 17,
 bN 190 .lss 189 8])
 (.cond (.tmp 190)
 .skip
 (.exit 6)))
 (.seq
 (.block 7
 (.reg 114688 (some [0, 0, 3, 7, 0, 0, 48, 112, 255, 511, 1023]) [
 mv 193 4,
 mv 194 17,
 oO 195 (.iaddr 1) [.tmp 193, .tmp 194],
 oO 196 (.load 1 false) [.tmp 195],
 mv 197 11,
 mv 198 17,
 oO 199 (.iaddr 1) [.tmp 197, .tmp 198],
 oO 200 (.load 1 false) [.tmp 199],
 bT 201 .add 196 200,
 oO 202 (.iaddr 1) [.tmp 193, .tmp 194],
 oS 1 202 201]))
 (rG 110592 [
 mv 191 17,
 bN 192 .add 191 1,
 mv 17 192])))
def ac_ref1_Sum256_L0 (n_ref1_word n_ref1_rotr : Nat) : AC :=
 (.seq
 (.seq
 (rG 24576 [
 mv 22 6,
 mv 23 5,
 oO 24 .len [.tmp 23],
 bT 25 .lss 22 24])
 (.cond (.tmp 25)
 .skip
 (.exit 0)))
 (.seq
 (.block 1
 (.seq
 (rG 32768 [
 oO 7 (.new 1 (List.replicate 64 (.t (u32T 0)))) []])
 (.seq
 (.seq
 (rG 36864 [
 mC 8 (.t (.int .i64 0))])
 (.block 2
 (.loop (ac_ref1_Sum256_L1 n_ref1_word n_ref1_rotr))))
 (.seq
 (rG 69632 [
 oO 92 (.bslice 1 0 (.t (u32T 0)) []) [],
 mv 93 4,
 oO 94 (.append 1 4) [.tmp 92, .tmp 93],
 mv 11 94])
 (.seq
 (.seq
 (rG 73728 [
 mC 12 (.t (.int .i64 0))])
 (.block 4
 (.loop (ac_ref1_Sum256_L2 n_ref1_rotr))))
 (.seq
 (rG 102400 [
 mC 17 (.t (.int .i64 0))])
 (.block 6
 (.loop ac_ref1_Sum256_L3))))))))
 (rG 28672 [
 mv 26 6,
 bN 27 .add 26 64,
 mv 6 27])))
def ac_ref1_Sum256 (n_ref1_constants n_ref1_pad n_ref1_word n_ref1_rotr n_ref1_bytes : Nat) : AC :=
 (.seq
 (rG 4096 [
 mC 2 .nil])
 (.seq
 (rG 8192 [
 cL 18 n_ref1_constants false [],
 oO 3 (.new 1 (List.replicate 64 (.t (u32T 0)))) [],
 oS 64 3 18])
 (.seq
 (rG 12288 [
 oO 19 (.bslice 1 8 (.t (u32T 0)) [0, 1, 2, 3, 4, 5, 6, 7]) [.cst (.t (u32T 1779033703)), .cst (.t (u32T 3144134277)), .cst (.t (u32T 1013904242)), .cst (.t (u32T 2773480762)), .cst (.t (u32T 1359893119)), .cst (.t (u32T 2600822924)), .cst (.t (u32T 528734635)), .cst (.t (u32T 1541459225))],
 mv 4 19])
 (.seq
 (rG 16384 [
 mv 20 0,
 cL 21 n_ref1_pad false [.tmp 20],
 mv 5 21])
 (.seq
 (.seq
 (rG 20480 [
 mC 6 (.t (.int .i64 0))])
 (.block 0
 (.loop (ac_ref1_Sum256_L0 n_ref1_word n_ref1_rotr))))
 (.seq
 (rG 118784 [
 mv 203 4,
 cL 204 n_ref1_bytes false [.tmp 203],
 mv 2 204])
 .ret))))))
def hints_ref1_Sum256 : List (Nat × List Nat) := []
def ac_ref1_Sum1_L1 (n_ref1_word n_ref1_rotl : Nat) : AC :=
 (.seq
 (.seq
 (rG 36864 [
 mv 26 7,
 bN 27 .lss 26 80])
 (.cond (.tmp 27)
 .skip
 (.exit 2)))
 (.seq
 (.block 3
 (.seq
 (.seq
 (rG 45056 [
 mv 30 7,
 bN 31 .lss 30 16])
 (.cond (.tmp 31)
 (.seq
 (rG 49152 [
 mv 32 7,
 mv 33 4,
 mv 34 5,
 mv 35 5,
 bN 36 .add 35 64,
 oO 37 (.slice 1 true true false) [.tmp 33, .tmp 34, .tmp 36],
 mv 38 7,
 cL 39 n_ref1_word false [.tmp 37, .tmp 38],
 oO 40 (.aaddr 80 1) [.tmp 6, .tmp 32],
 oS 1 40 39])
 (.exit 3))
 .skip))
 (.reg 53248 (some [0, 0, 2, 6, 14, 0, 32, 96, 224, 510, 0, 1024, 3072, 7168, 16382, 0, 32768, 98304, 229376, 524286, 1048574, 2097151, 4194303]) [
 mv 41 7,
 mv 42 7,
 bN 43 .sub 42 3,
 oO 44 (.aaddr 80 1) [.tmp 6, .tmp 43],
 oO 45 (.load 1 false) [.tmp 44],
 mv 46 7,
 bN 47 .sub 46 8,
 oO 48 (.aaddr 80 1) [.tmp 6, .tmp 47],
 oO 49 (.load 1 false) [.tmp 48],
 bT 50 .xor 45 49,
 mv 51 7,
 bN 52 .sub 51 14,
 oO 53 (.aaddr 80 1) [.tmp 6, .tmp 52],
 oO 54 (.load 1 false) [.tmp 53],
 bT 55 .xor 50 54,
 mv 56 7,
 bN 57 .sub 56 16,
 oO 58 (.aaddr 80 1) [.tmp 6, .tmp 57],
 oO 59 (.load 1 false) [.tmp 58],
 bT 60 .xor 55 59,
 cL 61 n_ref1_rotl false [.tmp 60, .cst (.t (.int .u64 1))],
 oO 62 (.aaddr 80 1) [.tmp 6, .tmp 41],
 oS 1 62 61])))
 (rG 40960 [
 mv 28 7,
 bN 29 .add 28 1,
 mv 7 29])))
def ac_ref1_Sum1_L2 (n_ref1_rotl : Nat) : AC :=
 (.seq
 (.seq
 (rG 65536 [
 mv 78 13,
 bN 79 .lss 78 80])
 (.cond (.tmp 79)
 .skip
 (.exit 4)))
 (.seq
 (.block 5
 (.seq
 (rG 73728 [
 mv 82 9,
 mv 83 10,
 bT 84 .xor 82 83,
 mv 85 11,
 bT 86 .xor 84 85,
 mv 14 86,
 mC 15 (.t (u32T 3395469782))])
 (.seq
 (.block 6
 (.seq
 (rG 77824 [
 mv 88 13,
 bN 89 .lss 88 20,
 mv 87 89])
 (.cond (.tmp 87)
 (rG 81920 [
 mv 90 9,
 mv 91 10,
 bT 92 .and 90 91,
 mv 93 9,
 oO 94 (.un .xor) [.tmp 93],
 mv 95 11,
 bT 96 .and 94 95,
 bT 97 .xor 92 96,
 mv 14 97,
 mC 15 (.t (u32T 1518500249))])
 (.seq
 (rG 86016 [
 mv 99 13,
 bN 100 .lss 99 40,
 mv 98 100])
 (.cond (.tmp 98)
 (rG 90112 [
 mC 15 (.t (u32T 1859775393))])
 (.seq
 (rG 94208 [
 mv 102 13,
 bN 103 .lss 102 60,
 mv 101 103])
 (.cond (.tmp 101)
 (rG 98304 [
 mv 104 9,
 mv 105 10,
 bT 106 .and 104 105,
 mv 107 9,
 mv 108 11,
 bT 109 .and 107 108,
 bT 110 .xor 106 109,
 mv 111 10,
 mv 112 11,
 bT 113 .and 111 112,
 bT 114 .xor 110 113,
 mv 14 114,
 mC 15 (.t (u32T 2400959708))])
 .skip)))))))
 (.seq
 (.reg 102400 (some [0, 1, 0, 7, 0, 31, 0, 127, 0, 256, 768, 2047, 4095]) [
 mv 115 8,
 cL 116 n_ref1_rotl false [.tmp 115, .cst (.t (.int .u64 5))],
 mv 117 14,
 bT 118 .add 116 117,
 mv 119 12,
 bT 120 .add 118 119,
 mv 121 15,
 bT 122 .add 120 121,
 mv 123 13,
 oO 124 (.aaddr 80 1) [.tmp 6, .tmp 123],
 oO 125 (.load 1 false) [.tmp 124],
 bT 126 .add 122 125,
 mv 16 126])
 (rG 106496 [
 mv 127 16,
 mv 128 8,
 mv 129 9,
 cL 130 n_ref1_rotl false [.tmp 129, .cst (.t (.int .u64 30))],
 mv 131 10,
 mv 132 11,
 mv 8 127,
 mv 9 128,
 mv 10 130,
 mv 11 131,
 mv 12 132])))))
 (rG 69632 [
 mv 80 13,
 bN 81 .add 80 1,
 mv 13 81])))
def ac_ref1_Sum1_L0 (n_ref1_word n_ref1_rotl : Nat) : AC :=
 (.seq
 (.seq
 (rG 20480 [
 mv 20 5,
 mv 21 4,
 oO 22 .len [.tmp 21],
 bT 23 .lss 20 22])
 (.cond (.tmp 23)
 .skip
 (.exit 0)))
 (.seq
 (.block 1
 (.seq
 (rG 28672 [
 oO 6 (.new 1 (List.replicate 80 (.t (u32T 0)))) []])
 (.seq
 (.seq
 (rG 32768 [
 mC 7 (.t (.int .i64 0))])
 (.block 2
 (.loop (ac_ref1_Sum1_L1 n_ref1_word n_ref1_rotl))))
 (.seq
 (.reg 57344 (some [0, 1, 3, 0, 8, 24, 0, 64, 192, 0, 512, 1536, 0, 4096, 12288, 7, 32831, 98815, 233471, 524287]) [
 mv 63 3,
 oO 64 (.iaddr 1) [.tmp 63, .cst (.t (.int .i64 0))],
 oO 65 (.load 1 false) [.tmp 64],
 mv 66 3,
 oO 67 (.iaddr 1) [.tmp 66, .cst (.t (.int .i64 1))],
 oO 68 (.load 1 false) [.tmp 67],
 mv 69 3,
 oO 70 (.iaddr 1) [.tmp 69, .cst (.t (.int .i64 2))],
 oO 71 (.load 1 false) [.tmp 70],
 mv 72 3,
 oO 73 (.iaddr 1) [.tmp 72, .cst (.t (.int .i64 3))],
 oO 74 (.load 1 false) [.tmp 73],
 mv 75 3,
 oO 76 (.iaddr 1) [.tmp 75, .cst (.t (.int .i64 4))],
 oO 77 (.load 1 false) [.tmp 76],
 mv 8 65,
 mv 9 68,
 mv 10 71,
 mv 11 74,
 mv 12 77])
 (.seq
 (.seq
 (rG 61440 [
 mC 13 (.t (.int .i64 0))])
 (.block 4
 (.loop (ac_ref1_Sum1_L2 n_ref1_rotl))))
 (.reg 110592 (some [0, 1, 3, 0, 15, 0, 32, 96, 0, 480, 0, 1024, 3072, 0, 15360, 0, 32768, 98304, 0, 491520, 0, 1048576, 3145728, 0, 15728640, 33554431, 67108863]) [
 mv 133 3,
 oO 134 (.iaddr 1) [.tmp 133, .cst (.t (.int .i64 0))],
 oO 135 (.load 1 false) [.tmp 134],
 mv 136 8,
 bT 137 .add 135 136,
 mv 138 3,
 oO 139 (.iaddr 1) [.tmp 138, .cst (.t (.int .i64 1))],
 oO 140 (.load 1 false) [.tmp 139],
 mv 141 9,
 bT 142 .add 140 141,
 mv 143 3,
 oO 144 (.iaddr 1) [.tmp 143, .cst (.t (.int .i64 2))],
 oO 145 (.load 1 false) [.tmp 144],
 mv 146 10,
 bT 147 .add 145 146,
 mv 148 3,
 oO 149 (.iaddr 1) [.tmp 148, .cst (.t (.int .i64 3))],
 oO 150 (.load 1 false) [.tmp 149],
 mv 151 11,
 bT 152 .add 150 151,
 mv 153 3,
 oO 154 (.iaddr 1) [.tmp 153, .cst (.t (.int .i64 4))],
 oO 155 (.load 1 false) [.tmp 154],
 mv 156 12,
 bT 157 .add 155 156,
 oO 158 (.bslice 1 5 (.t (u32T 0)) [0, 1, 2, 3, 4]) [.tmp 137, .tmp 142, .tmp 147, .tmp 152, .tmp 157],
 mv 3 158]))))))
 (rG 24576 [
 mv 24 5,
 bN 25 .add 24 64,
 mv 5 25])))
def ac_ref1_Sum1 (n_ref1_pad n_ref1_word n_ref1_rotl n_ref1_bytes : Nat) : AC :=
 (.seq
 (rG 4096 [
 mC 2 .nil])
 (.seq
 (rG 8192 [
 oO 17 (.bslice 1 5 (.t (u32T 0)) [0, 1, 2, 3, 4]) [.cst (.t (u32T 1732584193)), .cst (.t (u32T 4023233417)), .cst (.t (u32T 2562383102)), .cst (.t (u32T 271733878)), .cst (.t (u32T 3285377520))],
 mv 3 17])
 (.seq
 (rG 12288 [
 mv 18 0,
 cL 19 n_ref1_pad false [.tmp 18],
 mv 4 19])
 (.seq
 (.seq
 (rG 16384 [
 mC 5 (.t (.int .i64 0))])
 (.block 0
 (.loop (ac_ref1_Sum1_L0 n_ref1_word n_ref1_rotl))))
 (.seq
 (rG 114688 [
 mv 159 3,
 cL 160 n_ref1_bytes false [.tmp 159],
 mv 2 160])
 .ret)))))
def hints_ref1_Sum1 : List (Nat × List Nat) := []
def ac_ref1_Sum (n_ref1_Sum1 n_ref1_Sum256 : Nat) : AC :=
 (.seq
 (rG 4096 [
 mC 4 .nil])
 (.seq
 (.seq
 (rG 8192 [
 mv 5 0])
 (.block 0
 (.seq
 (rG 12288 [
 bN 7 .eql 5 0,
 mv 6 7])
 (.cond (.tmp 6)
 (.seq
 (rG 16384 [
 mv 8 1,
 cL 9 n_ref1_Sum1 false [.tmp 8],
 mv 4 9])
 .ret)
 (.seq
 (rG 20480 [
 bN 11 .eql 5 1,
 mv 10 11])
 (.cond (.tmp 10)
 (.seq
 (rG 24576 [
 mv 12 1,
 cL 13 n_ref1_Sum256 false [.tmp 12],
 mv 4 13])
 .ret)
 .skip))))))
 (.seq
 (rG 28672 [
 mC 4 .nil])
 .ret)))
def hints_ref1_Sum : List (Nat × List Nat) := []
def ac_ref1_Same_L0 : AC :=
 (.seq
 (.seq
 (rG 20480 [
 mv 11 5,
 mv 12 0,
 oO 13 .len [.tmp 12],
 bT 14 .lss 11 13])
 (.cond (.tmp 14)
 .skip
 (.exit 0)))
 (.seq
 (.block 1
 (.seq
 (.reg 28672 (some [0, 0, 3, 7, 0, 0, 48, 112, 255]) [
 mv 17 0,
 mv 18 5,
 oO 19 (.iaddr 1) [.tmp 17, .tmp 18],
 oO 20 (.load 1 false) [.tmp 19],
 mv 21 1,
 mv 22 5,
 oO 23 (.iaddr 1) [.tmp 21, .tmp 22],
 oO 24 (.load 1 false) [.tmp 23],
 bT 25 .neq 20 24])
 (.cond (.tmp 25)
 (.seq
 (rG 32768 [
 mC 4 (.t (.bool false))])
 .ret)
 .skip)))
 (rG 24576 [
 mv 15 5,
 bN 16 .add 15 1,
 mv 5 16])))
def ac_ref1_Same : AC :=
 (.seq
 (rG 4096 [
 mC 4 (.t (.bool false))])
 (.seq
 (.seq
 (rG 8192 [
 mv 6 0,
 oO 7 .len [.tmp 6],
 mv 8 1,
 oO 9 .len [.tmp 8],
 bT 10 .neq 7 9])
 (.cond (.tmp 10)
 (.seq
 (rG 12288 [
 mC 4 (.t (.bool false))])
 .ret)
 .skip))
 (.seq
 (.seq
 (rG 16384 [
 mC 5 (.t (.int .i64 0))])
 (.block 0
 (.loop ac_ref1_Same_L0)))
 (.seq
 (rG 36864 [
 mC 4 (.t (.bool true))])
 .ret))))
def hints_ref1_Same : List (Nat × List Nat) := []
def ac_ref1_Lists_L0 (n_ref1_Same : Nat) : AC :=
 (.seq
 (.seq
 (rG 20480 [
 mv 11 5,
 mv 12 0,
 oO 13 .len [.tmp 12],
 bT 14 .lss 11 13])
 (.cond (.tmp 14)
 .skip
 (.exit 0)))
 (.seq
 (.block 1
 (.seq
 (.reg 28672 (some [0, 0, 3, 7, 0, 0, 48, 112, 255, 511]) [
 mv 17 0,
 mv 18 5,
 oO 19 (.iaddr 1) [.tmp 17, .tmp 18],
 oO 20 (.load 1 false) [.tmp 19],
 mv 21 1,
 mv 22 5,
 oO 23 (.iaddr 1) [.tmp 21, .tmp 22],
 oO 24 (.load 1 false) [.tmp 23],
 cL 25 n_ref1_Same false [.tmp 20, .tmp 24],
 oO 26 (.un .not) [.tmp 25]])
 (.cond (.tmp 26)
 (.seq
 (rG 32768 [
 mC 4 (.t (.bool false))])
 .ret)
 .skip)))
 (rG 24576 [
 mv 15 5,
 bN 16 .add 15 1,
 mv 5 16])))
def ac_ref1_Lists (n_ref1_Same : Nat) : AC :=
 (.seq
 (rG 4096 [
 mC 4 (.t (.bool false))])
 (.seq
 (.seq
 (rG 8192 [
 mv 6 0,
 oO 7 .len [.tmp 6],
 mv 8 1,
 oO 9 .len [.tmp 8],
 bT 10 .neq 7 9])
 (.cond (.tmp 10)
 (.seq
 (rG 12288 [
 mC 4 (.t (.bool false))])
 .ret)
 .skip))
 (.seq
 (.seq
 (rG 16384 [
 mC 5 (.t (.int .i64 0))])
 (.block 0
 (.loop (ac_ref1_Lists_L0 n_ref1_Same))))
 (.seq
 (rG 36864 [
 mC 4 (.t (.bool true))])
 .ret))))
def hints_ref1_Lists : List (Nat × List Nat) := []
end Go.Eng
end
section
set_option maxRecDepth 20000
namespace Go.Eng
def padZ (n : Nat) : Nat := (119 - n % 64) % 64
def beL (n : Nat) (k : Nat) : List UInt8 := (List.range k).map fun i => UInt8.ofNat (n / 2 ^ (56 - 8 * i))
def padL (bs : List UInt8) : List UInt8 := bs ++ [128] ++ List.replicate (padZ bs.length) 0 ++ beL (bs.length * 8) 8
theorem beL_zero {n : Nat} : beL n 0 = [] := rfl
theorem beL_length {n k : Nat} : (beL n k).length = k := by simp [beL]
theorem beL_succ {n k : Nat} : beL n (k + 1) = beL n k ++ [UInt8.ofNat (n / 2 ^ (56 - 8 * k))] := by simp [beL, List.range_succ]
theorem w_digest_pad (tab : Tab) (gl : Gl) (bs : List UInt8) (hb : bs.length < 1000000000) : ac_digest_pad.wp tab gl (zipF 0 [.t (.sl (bs.map byteT))]) (zipF 0 []) (resF [] [(2, none)] 0 (fun r o => r = .sl 0 0 (padL bs).length ∧ o = [.live 1 (((padL bs).map byteT).map V.t) true false])) := by
  have hz : padZ bs.length = (119 - bs.length % 64) % 64 := rfl
  simp (disch := omega) only [go_sem, ↓reduceIte, Nat.reduceAdd, Nat.reduceEqDiff, Nat.reduceLT, Nat.reduceLeDiff, Int.reduceLE, reduceCtorEq, ac_digest_pad]
  refine loop_upto (padZ bs.length) (fun k => [(0, .t (.sl (bs.map byteT))), (3, .sl 8304 0 (bs.length + 1 + k))]) (fun k => [(8304, .live 1 (((bs ++ [128] ++ List.replicate k 0).map byteT).map V.t) true false)]) ?_ (fun k hk => ?_)
  · refine Weak.rd id ?_ ?_ rfl
    all_goals simp (disch := omega) only [go_sem, ↓reduceIte, Nat.reduceAdd, reduceCtorEq, id]
  · by_cases hlt : k < padZ bs.length
    · simp (disch := omega) only [go_sem, ↓reduceIte, Nat.reduceAdd, Nat.reduceEqDiff, Nat.reduceLT, Nat.reduceLeDiff, reduceCtorEq, ac_digest_pad_L0]
      refine ⟨hlt, Weak.rd (fun _ => 16416) ?_ ?_ rfl⟩
      all_goals simp (disch := omega) only [go_sem, ↓reduceIte, Nat.reduceAdd, reduceCtorEq, List.replicate_succ', List.append_assoc, Nat.add_assoc]
    · have e : k = padZ bs.length := by omega
      subst e
      simp (disch := omega) only [go_sem, ↓reduceIte, Nat.reduceAdd, reduceCtorEq, ac_digest_pad_L0]
      refine loop_upto 8 (fun k => [(3, .sl 8304 0 (bs.length + 1 + padZ bs.length + k)), (4, V.t (T.int IntKind.u64 (bs.length * 8 : Nat))), (5, .t (.int .i64 (56 - ((8 * k : Nat) : Int))))]) (fun k => [(8304, .live 1 (((bs ++ [128] ++ List.replicate (padZ bs.length) 0 ++ beL (bs.length * 8) k).map byteT).map V.t) true false)]) ?_ (fun k hk => ?_)
      · refine Weak.rd id ?_ ?_ rfl
        all_goals simp (disch := omega) only [go_sem, ↓reduceIte, Nat.reduceAdd, Nat.reduceEqDiff, Nat.reduceMul, Int.reduceSub, reduceCtorEq, id, beL_zero, List.append_nil]
      · by_cases hlt : k < 8
        · simp (disch := omega) only [go_sem, ↓reduceIte, Nat.reduceAdd, Nat.reduceEqDiff, Nat.reduceLT, Nat.reduceLeDiff, ac_digest_pad_L1, beL_length]
          refine ⟨hlt, Weak.rd (fun _ => 36976) ?_ ?_ rfl⟩
          all_goals simp (disch := omega) only [go_sem, ↓reduceIte, Nat.reduceAdd, Nat.reduceEqDiff, beL_succ, List.append_assoc, Nat.add_assoc]
          omega
        · have e : k = 8 := by omega
          subst e
          simp (disch := omega) only [go_sem, ↓reduceIte, Nat.reduceAdd, Nat.reduceEqDiff, Int.reduceNeg, Int.reduceSub, ac_digest_pad_L1, beL_length, padL]
theorem w_digest_Size (tab : Tab) (gl : Gl) (a : Int) : ac_digest_Size.wp tab gl (zipF 0 [.t (.int .i64 a)]) (zipF 0 []) (resW [(2, none)] 0 (fun r o => r = .t (.int .i64 (if a = 0 then 20 else if a = 1 then 32 else 0)) ∧ o = [])) := by
  by_cases h0 : a = 0
  · subst h0; simp (disch := omega) only [go_sem, ↓reduceIte, Nat.reduceAdd, reduceCtorEq, ac_digest_Size]
  · by_cases h1 : a = 1
    · subst h1; simp (disch := omega) only [go_sem, ↓reduceIte, Nat.reduceAdd, Nat.reduceEqDiff, Int.reduceEq, reduceCtorEq, ac_digest_Size]
    · simp (disch := omega) only [go_sem, ↓reduceIte, Nat.reduceAdd, Nat.reduceEqDiff, reduceCtorEq, ac_digest_Size, h0, h1]
def wordOf (bs : List UInt8) (i : Nat) : UInt32 := (bs.getD (4 * i) 0).toUInt32 <<< 24 ||| (bs.getD (4 * i + 1) 0).toUInt32 <<< 16 ||| (bs.getD (4 * i + 2) 0).toUInt32 <<< 8 ||| (bs.getD (4 * i + 3) 0).toUInt32
theorem w_digest_word (tab : Tab) (gl : Gl) (bs : List UInt8) (i : Nat) (hi : 4 * i + 3 < bs.length) (hb : bs.length < 1000000000) : ac_digest_word.wp tab gl (zipF 0 [.t (.sl (bs.map byteT)), .t (.int .i64 i)]) (zipF 0 []) (resW [(4, none)] 0 (fun r o => r = .t (u32T (wordOf bs i)) ∧ o = [])) := by
  simp (disch := omega) only [go_sem, ↓reduceIte, Nat.reduceAdd, Nat.reduceEqDiff, Nat.reduceLT, Nat.reduceLeDiff, reduceCtorEq, ac_digest_word]
  exact ⟨rfl, rfl⟩
theorem w_ref1_word (tab : Tab) (gl : Gl) (bs : List UInt8) (i : Nat) (hi : 4 * i + 3 < bs.length) (hb : bs.length < 1000000000) : ac_ref1_word.wp tab gl (zipF 0 [.t (.sl (bs.map byteT)), .t (.int .i64 i)]) (zipF 0 []) (resW [(4, none)] 0 (fun r o => r = .t (u32T (wordOf bs i)) ∧ o = [])) := by
  simp (disch := omega) only [go_sem, ↓reduceIte, Nat.reduceAdd, Nat.reduceEqDiff, Nat.reduceLT, Nat.reduceLeDiff, reduceCtorEq, ac_ref1_word]
  exact ⟨rfl, rfl⟩
def rotr (x : UInt32) (n : Nat) : UInt32 := x >>> UInt32.ofNat n ||| x <<< UInt32.ofNat (32 - n)
theorem w_ref1_rotr (tab : Tab) (gl : Gl) (x : UInt32) (n : Nat) (h : 0 < n ∧ n < 32) : ac_ref1_rotr.wp tab gl (zipF 0 [.t (u32T x), .t (.int .u64 n)]) (zipF 0 []) (resW [(4, none)] 0 (fun r o => r = .t (u32T (rotr x n)) ∧ o = [])) := by
  simp (disch := omega) only [go_sem, ↓reduceIte, Nat.reduceAdd, Nat.reduceEqDiff, reduceCtorEq, ac_ref1_rotr]
  rfl
theorem w_ref1_rotl (tab : Tab) (gl : Gl) (x : UInt32) (n : Nat) (h : 0 < n ∧ n < 32) : ac_ref1_rotl.wp tab gl (zipF 0 [.t (u32T x), .t (.int .u64 n)]) (zipF 0 []) (resW [(4, none)] 0 (fun r o => r = .t (u32T (rotr x (32 - n))) ∧ o = [])) := by
  simp (disch := omega) only [go_sem, ↓reduceIte, Nat.reduceAdd, Nat.reduceEqDiff, reduceCtorEq, ac_ref1_rotl]
  rw [rotr, UInt32.or_comm, show 32 - (32 - n) = n by omega]
theorem w_bits_RotateLeft32 (tab : Tab) (gl : Gl) (x : UInt32) (n : Int) (h : -32 < n ∧ n < 32 ∧ n ≠ 0) : ac_bits_RotateLeft32.wp tab gl (zipF 0 [.t (u32T x), .t (.int .i64 n)]) (zipF 0 []) (resW [(4, none)] 0 (fun r o => r = .t (u32T (rotr x ((32 - n) % 32).toNat)) ∧ o = [])) := by
  have e : IntKind.u64.wrap n % 32 = ((32 - (32 - n).toNat % 32 : Nat) : Int) := by rw [wrap_u64]; omega
  have e2 : ((32 - n) % 32).toNat = (32 - n).toNat % 32 := by omega
  have e3 : 32 - (32 - (32 - n).toNat % 32) = (32 - n).toNat % 32 := by omega
  simp (disch := omega) only [go_sem, ↓reduceIte, Nat.reduceAdd, Nat.reduceEqDiff, reduceCtorEq, ac_bits_RotateLeft32, e, e2, e3]
  rw [rotr, UInt32.or_comm]
def spread1 (w : UInt32) : List UInt8 := [(w >>> 24).toUInt8, (w >>> 16).toUInt8, (w >>> 8).toUInt8, w.toUInt8]
def spreadL (ws : List UInt32) : List UInt8 := ws.flatMap spread1
theorem spreadL_length (ws : List UInt32) : (spreadL ws).length = 4 * ws.length := by
  induction ws with
  | nil => rfl
  | cons w r ih => simp only [spreadL, List.flatMap_cons, List.length_append] at *; rw [ih]; simp [spread1]; omega
theorem spreadL_take {ws : List UInt32} {k : Nat} (h : k < ws.length) : spreadL (ws.take (k + 1)) = spreadL (ws.take k) ++ spread1 (ws.getD k 0) := by
  rw [take_s (d := 0) h]; simp [spreadL]
theorem w_digest_spread (tab : Tab) (gl : Gl) (ws : List UInt32) (hb : ws.length < 1000000000) : ac_digest_spread.wp tab gl (zipF 0 [.t (.sl (ws.map u32T))]) (zipF 0 []) (resF [] [(2, none)] 0 (fun r o => r = .sl 0 0 (4 * ws.length) ∧ o = [.live 1 (((spreadL ws).map byteT).map V.t) true false])) := by
  simp (disch := omega) only [go_sem, ↓reduceIte, Nat.reduceAdd, Int.reduceLE, reduceCtorEq, ac_digest_spread]
  refine loop_upto ws.length (fun k => [(3, .sl 8240 0 (4 * k)), (10, .t (.sl (ws.map u32T))), (11, .t (.int .i64 ws.length)), (12, .t (.int .i64 k))]) (fun k => [(8240, .live 1 (((spreadL (ws.take k)).map byteT).map V.t) true false)]) ?_ (fun k hk => ?_)
  · refine Weak.rd id ?_ ?_ rfl
    all_goals simp (disch := omega) only [go_sem, ↓reduceIte, Nat.reduceAdd, Nat.reduceEqDiff, Nat.reduceMul, id, spreadL, List.flatMap_nil, List.map_nil]
  · have hl : (spreadL (ws.take k)).length = 4 * k := by rw [spreadL_length, List.length_take]; omega
    by_cases hlt : k < ws.length
    · simp (disch := omega) only [go_sem, ↓reduceIte, Nat.reduceAdd, Nat.reduceEqDiff, Nat.reduceLT, Nat.reduceLeDiff, ac_digest_spread_L0, hl]
      refine ⟨hlt, Weak.rd (fun _ => 24784) ?_ ?_ rfl⟩
      all_goals simp (disch := omega) only [go_sem, ↓reduceIte, Nat.reduceAdd, Nat.reduceEqDiff, spreadL_take, spread1]
      · omega
      · simp only [List.append_assoc, List.cons_append, List.nil_append]; rfl
    · have e : k = ws.length := by omega
      subst e
      rw [List.take_length] at hl
      simp (disch := omega) only [go_sem, ↓reduceIte, Nat.reduceAdd, Nat.reduceEqDiff, ac_digest_spread_L0, hl, List.take_length]
end Go.Eng
end
section
set_option maxRecDepth 20000
set_option maxHeartbeats 4000000
namespace Go.Eng
def sig0 (x : UInt32) : UInt32 := rotr x 7 ^^^ rotr x 18 ^^^ x >>> 3
def sig1 (x : UInt32) : UInt32 := rotr x 17 ^^^ rotr x 19 ^^^ x >>> 10
def sched (bs : List UInt8) : Nat → List UInt32
  | 0 => List.replicate 64 0
  | t + 1 => let w := sched bs t
    w.set t (if t < 16 then wordOf bs t else sig1 (w.getD (t - 2) 0) + w.getD (t - 7) 0 + sig0 (w.getD (t - 15) 0) + w.getD (t - 16) 0)
theorem sched_length {bs : List UInt8} {t : Nat} : (sched bs t).length = 64 := by
  induction t with
  | zero => rfl
  | succ t ih => simp only [sched, List.length_set, ih]
def ct_word : Ct where
  α := List UInt8 × Nat
  as x := [.t (.sl (x.1.map byteT)), .t (.int .i64 x.2)]
  ins _ := []
  pre x := 4 * x.2 + 3 < x.1.length ∧ x.1.length < 1000000000
  r x := .t (u32T (wordOf x.1 x.2))
  outs _ := []
  inj := by
    rintro ⟨a, b⟩ ⟨c, d⟩ h _
    simp [mapB_inj, Int.natCast_inj] at h
    obtain ⟨rfl, rfl⟩ := h
    exact ⟨rfl, rfl⟩
theorem word_eq {bs : List UInt8} {i : Nat} (h : 4 * i + 3 < bs.length ∧ bs.length < 1000000000) : ct_word.fs [.t (.sl (bs.map byteT)), .t (.int .i64 i)] [] = some (.t (u32T (wordOf bs i)), []) := ct_word.eq (bs, i) h
def ct_rotl : Ct where
  α := UInt32 × Int
  as x := [.t (u32T x.1), .t (.int .i64 x.2)]
  ins _ := []
  pre x := -32 < x.2 ∧ x.2 < 32 ∧ x.2 ≠ 0
  r x := .t (u32T (rotr x.1 ((32 - x.2) % 32).toNat))
  outs _ := []
  inj := by
    rintro ⟨a, b⟩ ⟨c, d⟩ h _
    simp [u32T_eq] at h
    obtain ⟨rfl, rfl⟩ := h
    exact ⟨rfl, rfl⟩
theorem rotl_eq {x : UInt32} {i : Int} (h : -32 < i ∧ i < 32 ∧ i ≠ 0) : ct_rotl.fs [.t (u32T x), .t (.int .i64 i)] [] = some (.t (u32T (rotr x ((32 - i) % 32).toNat)), []) := ct_rotl.eq (x, i) h
def k256 : List UInt32 := [0x428a2f98, 0x71374491, 0xb5c0fbcf, 0xe9b5dba5, 0x3956c25b, 0x59f111f1, 0x923f82a4, 0xab1c5ed5, 0xd807aa98, 0x12835b01, 0x243185be, 0x550c7dc3, 0x72be5d74, 0x80deb1fe, 0x9bdc06a7, 0xc19bf174, 0xe49b69c1, 0xefbe4786, 0x0fc19dc6, 0x240ca1cc, 0x2de92c6f, 0x4a7484aa, 0x5cb0a9dc, 0x76f988da, 0x983e5152, 0xa831c66d, 0xb00327c8, 0xbf597fc7, 0xc6e00bf3, 0xd5a79147, 0x06ca6351, 0x14292967, 0x27b70a85, 0x2e1b2138, 0x4d2c6dfc, 0x53380d13, 0x650a7354, 0x766a0abb, 0x81c2c92e, 0x92722c85, 0xa2bfe8a1, 0xa81a664b, 0xc24b8b70, 0xc76c51a3, 0xd192e819, 0xd6990624, 0xf40e3585, 0x106aa070, 0x19a4c116, 0x1e376c08, 0x2748774c, 0x34b0bcb5, 0x391c0cb3, 0x4ed8aa4a, 0x5b9cca4f, 0x682e6ff3, 0x748f82ee, 0x78a5636f, 0x84c87814, 0x8cc70208, 0x90befffa, 0xa4506ceb, 0xbef9a3f7, 0xc67178f2]
def rnd (k w : UInt32) (s : List UInt32) : List UInt32 :=
  let a := s.getD 0 0
  let e := s.getD 4 0
  let t1 := s.getD 7 0 + (rotr e 6 ^^^ rotr e 11 ^^^ rotr e 25) + ((e &&& s.getD 5 0) ^^^ (~~~e &&& s.getD 6 0)) + k + w
  let t2 := (rotr a 2 ^^^ rotr a 13 ^^^ rotr a 22) + ((a &&& s.getD 1 0) ^^^ (a &&& s.getD 2 0) ^^^ (s.getD 1 0 &&& s.getD 2 0))
  [t1 + t2, s.getD 0 0, s.getD 1 0, s.getD 2 0, s.getD 3 0 + t1, s.getD 4 0, s.getD 5 0, s.getD 6 0]
def rounds (ws hs : List UInt32) : Nat → List UInt32
  | 0 => hs
  | t + 1 => rnd (k256.getD t 0) (ws.getD t 0) (rounds ws hs t)
theorem rounds_length {ws hs : List UInt32} {t : Nat} (h : hs.length = 8) : (rounds ws hs t).length = 8 := by
  cases t with
  | zero => exact h
  | succ t => rfl
def addW (hs s : List UInt32) : Nat → List UInt32
  | 0 => hs
  | i + 1 => (addW hs s i).set i ((addW hs s i).getD i 0 + s.getD i 0)
theorem addW_length {hs s : List UInt32} {i : Nat} : (addW hs s i).length = hs.length := by
  induction i with
  | zero => rfl
  | succ i ih => simp only [addW, List.length_set, ih]
def comp256 (hs : List UInt32) (bs : List UInt8) : List UInt32 := addW hs (rounds (sched bs 64) hs 64) 8
theorem w_digest_compress256 (tab : Tab) (gl : Gl) (n1 n2 g : Nat) (h1 : tab.look n1 = some ct_word.fs) (h2 : tab.look n2 = some ct_rotl.fs) (hg : gl g = some (k256.map u32T)) (bs : List UInt8) (hs : List UInt32) (hb : bs.length = 64) (hh : hs.length = 8) :
    (ac_digest_compress256 n1 n2 g).wp tab gl (zipF 0 [.ref 0 0 0, .t (.sl (bs.map byteT))]) (zipF 0 [.live 1 ((hs.map u32T).map V.t) true true]) (resW [] 1 (fun r o => r = .tup [] ∧ o = [.live 1 (((comp256 hs bs).map u32T).map V.t) true true])) := by
  have ht : hs.take 8 = hs := List.take_of_length_le (by omega)
  simp (disch := omega) only [go_sem, ↓reduceIte, Nat.reduceAdd, reduceCtorEq, ac_digest_compress256]
  refine loop_upto 64 (fun k => [(17, .t (.int .i64 k)), (4, .ref 4096 0 0), (0, .ref 0 0 0), (1, V.t (T.sl (List.map byteT bs)))]) (fun k => [(4096, .live 1 (((sched bs k).map u32T).map V.t) true true), (0, .live 1 ((hs.map u32T).map V.t) true true)]) ?_ (fun k hk => ?_)
  · refine Weak.rd id ?_ ?_ rfl
    all_goals simp (disch := omega) only [go_sem, ↓reduceIte, Nat.reduceEqDiff, Nat.reduceBEq, reduceCtorEq, id, sched]
  · have hl : (sched bs k).length = 64 := sched_length
    by_cases hlt : k < 64
    · by_cases h16 : k < 16
      · simp (disch := omega) only [go_sem, ↓reduceIte, Nat.reduceAdd, Nat.reduceEqDiff, Nat.reduceLeDiff, Int.reduceNeg, reduceCtorEq, ac_digest_compress256_L0, h1, h2, word_eq, hl]
        refine ⟨hlt, Weak.rd id ?_ ?_ rfl⟩
        all_goals simp (disch := omega) only [go_sem, ↓reduceIte, Nat.reduceEqDiff, Nat.reduceBEq, reduceCtorEq, id, sched, if_pos h16]
      · simp (disch := omega) only [go_sem, ↓reduceIte, Nat.reduceAdd, Nat.reduceEqDiff, Nat.reduceLT, Nat.reduceLeDiff, Int.reduceNeg, Int.reduceSub, Int.reduceMod, ac_digest_compress256_L0, h1, h2, rotl_eq, hl]
        refine ⟨rfl, rfl, hlt, Weak.rd id ?_ ?_ rfl⟩
        all_goals simp (disch := omega) only [go_sem, ↓reduceIte, Nat.reduceEqDiff, Nat.reduceBEq, reduceCtorEq, id, sched, if_neg h16]
        rfl
    · have e : k = 64 := by omega
      subst e
      simp (disch := omega) only [go_sem, ↓reduceIte, Nat.reduceAdd, Nat.reduceEqDiff, Nat.reduceLeDiff, Int.reduceLT, Int.reduceNeg, reduceCtorEq, ac_digest_compress256_L0, ht, hh]
      refine loop_upto 64 (fun k => [(70, .t (.int .i64 k)), (4, .ref 4096 0 0), (0, .ref 0 0 0), (10, .ref 49200 0 0)]) (fun k => [(49200, .live 1 (((rounds (sched bs 64) hs k).map u32T).map V.t) true true), (4096, .live 1 (((sched bs 64).map u32T).map V.t) true true), (0, .live 1 ((hs.map u32T).map V.t) true true)]) ?_ (fun k hk => ?_)
      · refine Weak.rd id ?_ ?_ rfl
        all_goals simp (disch := omega) only [go_sem, ↓reduceIte, Nat.reduceEqDiff, Nat.reduceBEq, reduceCtorEq, id, rounds]
      · have hl2 : (rounds (sched bs 64) hs k).length = 8 := rounds_length hh
        by_cases hlt : k < 64
        · have hk2 : k256.length = 64 := rfl
          simp (config := { maxSteps := 2000000 }) (disch := (first | omega | (simp only [lens, lenm]; omega))) only [go_sem, ↓reduceIte, Nat.reduceAdd, Nat.reduceEqDiff, Nat.reduceLeDiff, Int.reduceLT, Int.reduceLE, Int.reduceNeg, Int.reduceSub, Int.reduceMod, reduceCtorEq, ac_digest_compress256_L1, h1, h2, rotl_eq, hl, hl2, hg, hk2]
          repeat refine And.intro rfl ?_
          refine ⟨hlt, Weak.rd id ?_ ?_ rfl⟩
          all_goals simp (disch := omega) only [go_sem, ↓reduceIte, Nat.reduceEqDiff, Nat.reduceBEq, reduceCtorEq, id, rounds, rnd, List.drop_eq_nil_of_le (show (rounds (sched bs 64) hs k).length ≤ 8 by omega)]
        · have e : k = 64 := by omega
          subst e
          simp (disch := omega) only [go_sem, ↓reduceIte, Nat.reduceAdd, Int.reduceLT, Int.reduceNeg, ac_digest_compress256_L1]
          refine loop_upto 8 (fun k => [(152, .t (.int .i64 k)), (0, .ref 0 0 0), (10, .ref 49200 0 0)]) (fun k => [(49200, .live 1 (((rounds (sched bs 64) hs 64).map u32T).map V.t) true true), (0, .live 1 (((addW hs (rounds (sched bs 64) hs 64) k).map u32T).map V.t) true true)]) ?_ (fun k hk => ?_)
          · refine Weak.rd id ?_ ?_ rfl
            all_goals simp (disch := omega) only [go_sem, ↓reduceIte, Nat.reduceEqDiff, Nat.reduceBEq, reduceCtorEq, id, addW]
          · have hl3 : (addW hs (rounds (sched bs 64) hs 64) k).length = 8 := by rw [addW_length, hh]
            by_cases hlt : k < 8
            · simp (disch := omega) only [go_sem, ↓reduceIte, Nat.reduceAdd, Nat.reduceEqDiff, Nat.reduceLeDiff, reduceCtorEq, ac_digest_compress256_L2, hl2, hl3]
              refine ⟨rfl, hlt, Weak.rd id ?_ ?_ rfl⟩
              all_goals simp (disch := omega) only [go_sem, ↓reduceIte, Nat.reduceEqDiff, Nat.reduceBEq, reduceCtorEq, id, addW]
            · have e : k = 8 := by omega
              subst e
              simp (disch := omega) only [go_sem, ↓reduceIte, Nat.reduceAdd, Int.reduceLT, reduceCtorEq, ac_digest_compress256_L2, comp256]
end Go.Eng
end
section
set_option maxRecDepth 20000
set_option maxHeartbeats 4000000
namespace Go.Eng
theorem padL_length (bs : List UInt8) : (padL bs).length = bs.length + 1 + padZ bs.length + 8 := by
  simp only [padL, List.length_append, List.length_replicate, beL_length, List.length_cons, List.length_nil]
theorem padL_mod (bs : List UInt8) : (padL bs).length % 64 = 0 := by
  rw [padL_length, padZ]; omega
def hN (comp : List UInt32 → List UInt8 → List UInt32) (iv : List UInt32) (p : List UInt8) : Nat → List UInt32
  | 0 => iv
  | k + 1 => comp (hN comp iv p k) ((p.drop (64 * k)).take 64)
def sumL (comp : List UInt32 → List UInt8 → List UInt32) (iv : List UInt32) (bs : List UInt8) : List UInt8 := spreadL (hN comp iv (padL bs) ((padL bs).length / 64))
def iv256 : List UInt32 := [0x6a09e667, 0xbb67ae85, 0x3c6ef372, 0xa54ff53a, 0x510e527f, 0x9b05688c, 0x1f83d9ab, 0x5be0cd19]
def sum256 (bs : List UInt8) : List UInt8 := sumL comp256 iv256 bs
theorem hN_length {comp : List UInt32 → List UInt8 → List UInt32} {iv : List UInt32} {p : List UInt8} {n : Nat} (hc : ∀ h b, (comp h b).length = h.length) (hi : iv.length = n) {k : Nat} : (hN comp iv p k).length = n := by
  induction k with
  | zero => exact hi
  | succ k ih => rw [hN, hc, ih]
theorem comp256_length (h : List UInt32) (b : List UInt8) : (comp256 h b).length = h.length := addW_length
theorem h256_length {p : List UInt8} {k : Nat} : (hN comp256 iv256 p k).length = 8 := hN_length comp256_length rfl
def ct_pad : Ct where
  α := List UInt8
  as x := [.t (.sl (x.map byteT))]
  ins _ := []
  pre x := x.length < 1000000000
  r x := .sl 0 0 (padL x).length
  outs x := [.live 1 (((padL x).map byteT).map V.t) true false]
  inj := by
    intro a b h _
    simp [mapB_inj] at h
    subst h; exact ⟨rfl, rfl⟩
theorem pad_eq {bs : List UInt8} (h : bs.length < 1000000000) : ct_pad.fs [.t (.sl (bs.map byteT))] [] = some (.sl 0 0 (padL bs).length, [.live 1 (((padL bs).map byteT).map V.t) true false]) := ct_pad.eq bs h
def ct_spread : Ct where
  α := List UInt32
  as x := [.t (.sl (x.map u32T))]
  ins _ := []
  pre x := x.length < 1000000000
  r x := .sl 0 0 (4 * x.length)
  outs x := [.live 1 (((spreadL x).map byteT).map V.t) true false]
  inj := by
    intro a b h _
    simp [mapW_inj] at h
    subst h; exact ⟨rfl, rfl⟩
theorem spread_eq {ws : List UInt32} (h : ws.length < 1000000000) : ct_spread.fs [.t (.sl (ws.map u32T))] [] = some (.sl 0 0 (4 * ws.length), [.live 1 (((spreadL ws).map byteT).map V.t) true false]) := ct_spread.eq ws h
def ct_comp (n : Nat) (comp : List UInt32 → List UInt8 → List UInt32) : Ct where
  α := List UInt32 × List UInt8
  as x := [.ref 0 0 0, .t (.sl (x.2.map byteT))]
  ins x := [.live 1 ((x.1.map u32T).map V.t) true true]
  pre x := x.2.length = 64 ∧ x.1.length = n
  r _ := .tup []
  outs x := [.live 1 (((comp x.1 x.2).map u32T).map V.t) true true]
  inj := by
    rintro ⟨a, b⟩ ⟨c, d⟩ h1 h2
    simp [mapB_inj] at h1
    simp only [Ob.live.injEq, mapV_inj, mapW_inj, List.cons.injEq] at h2
    obtain ⟨⟨_, rfl, _, _⟩, _⟩ := h2
    subst h1; exact ⟨rfl, rfl⟩
theorem comp_eq {n : Nat} {comp : List UInt32 → List UInt8 → List UInt32} {hs : List UInt32} {bs : List UInt8} (h : bs.length = 64 ∧ hs.length = n) : (ct_comp n comp).fs [.ref 0 0 0, .t (.sl (bs.map byteT))] [.live 1 ((hs.map u32T).map V.t) true true] =
    some (.tup [], [.live 1 (((comp hs bs).map u32T).map V.t) true true]) := (ct_comp n comp).eq (hs, bs) h
theorem w_digest_Sum_256 (tab : Tab) (gl : Gl) (n1 n2 n3 n4 : Nat) (h1 : tab.look n1 = some ct_pad.fs) (h3 : tab.look n3 = some ct_spread.fs) (h4 : tab.look n4 = some (ct_comp 8 comp256).fs) (bs : List UInt8) (hb : bs.length < 1000000000) :
    (ac_digest_Sum n1 n2 n3 n4).wp tab gl (zipF 0 [.t (.int .i64 1), .t (.sl (bs.map byteT))]) (zipF 0 []) (resF [] [(4, none)] 0 (fun r o => r = .sl 0 0 32 ∧ o = [.live 1 (((sum256 bs).map byteT).map V.t) true false])) := by
  have hp := padL_length bs
  have hm := padL_mod bs
  simp (disch := omega) only [go_sem, ↓reduceIte, Nat.reduceAdd, Nat.reduceEqDiff, Nat.reduceLeDiff, reduceCtorEq, ac_digest_Sum, h1, pad_eq]
  refine loop_upto ((padL bs).length / 64) (fun k => [(8, V.sl 49168 (64 * k) ((padL bs).length - 64 * k)), (7, V.ref 45072 0 0)]) (fun k => [(49168, .live 1 (((padL bs).map byteT).map V.t) true false), (45072, .live 1 (((hN comp256 iv256 (padL bs) k).map u32T).map V.t) true true)]) ?_ (fun k hk => ?_)
  · refine Weak.rd id ?_ ?_ rfl
    all_goals simp (disch := omega) only [go_sem, ↓reduceIte, Nat.reduceAdd, Nat.reduceEqDiff, Nat.reduceBEq, id, hN, iv256, Nat.mul_zero, List.map_cons, List.map_nil]
  · have hl : (hN comp256 iv256 (padL bs) k).length = 8 := h256_length
    by_cases hlt : k < (padL bs).length / 64
    · simp (config := { maxSteps := 2000000 }) (disch := (first | omega | (simp only [lens, lenm]; omega))) only [go_sem, ↓reduceIte, Nat.reduceAdd, Nat.reduceEqDiff, Nat.reduceSub, Nat.reduceLeDiff, Nat.reduceBEq, Int.reduceLE, reduceCtorEq, ac_digest_Sum_L1, h4, comp_eq, hl]
      refine ⟨hlt, Weak.rd id ?_ ?_ rfl⟩
      all_goals simp (config := { maxSteps := 2000000 }) (disch := (first | omega | (simp only [lens, lenm]; omega))) only [go_sem, ↓reduceIte, Nat.reduceAdd, Nat.reduceEqDiff, Nat.reduceBEq, id, hN]
      omega
    · have e : k = (padL bs).length / 64 := by omega
      subst e
      have ht : List.take 8 (hN comp256 iv256 (padL bs) ((padL bs).length / 64)) = hN comp256 iv256 (padL bs) ((padL bs).length / 64) := List.take_of_length_le (by omega)
      simp (disch := omega) only [go_sem, ↓reduceIte, Nat.reduceAdd, Nat.reduceEqDiff, Nat.reduceMul, Nat.reduceLeDiff, Int.reduceLE, reduceCtorEq, ac_digest_Sum_L1, h3, spread_eq, hl, ht, sum256, sumL]
end Go.Eng
end
section
set_option maxRecDepth 20000
set_option maxHeartbeats 4000000
namespace Go.Eng
def sched1 (bs : List UInt8) : Nat → List UInt32
  | 0 => List.replicate 80 0
  | t + 1 => let w := sched1 bs t
    w.set t (if t < 16 then wordOf bs t else rotr (w.getD (t - 3) 0 ^^^ w.getD (t - 8) 0 ^^^ w.getD (t - 14) 0 ^^^ w.getD (t - 16) 0) 31)
theorem sched1_length {bs : List UInt8} {t : Nat} : (sched1 bs t).length = 80 := by
  induction t with
  | zero => rfl
  | succ t ih => simp only [sched1, List.length_set, ih]
def f1 (t : Nat) (b c d : UInt32) : UInt32 := if t < 20 then (b &&& c) ^^^ (~~~b &&& d) else if t < 40 then b ^^^ c ^^^ d else if t < 60 then (b &&& c) ^^^ (b &&& d) ^^^ (c &&& d) else b ^^^ c ^^^ d
def k1 (t : Nat) : UInt32 := if t < 20 then 0x5a827999 else if t < 40 then 0x6ed9eba1 else if t < 60 then 0x8f1bbcdc else 0xca62c1d6
def rnd1 (t : Nat) (w : UInt32) (s : List UInt32) : List UInt32 :=
  [rotr (s.getD 0 0) 27 + f1 t (s.getD 1 0) (s.getD 2 0) (s.getD 3 0) + s.getD 4 0 + k1 t + w, s.getD 0 0, rotr (s.getD 1 0) 2, s.getD 2 0, s.getD 3 0]
def rounds1 (ws hs : List UInt32) : Nat → List UInt32
  | 0 => hs
  | t + 1 => rnd1 t (ws.getD t 0) (rounds1 ws hs t)
def comp1 (hs : List UInt32) (bs : List UInt8) : List UInt32 :=
  let s := rounds1 (sched1 bs 80) hs 80
  [hs.getD 0 0 + s.getD 0 0, hs.getD 1 0 + s.getD 1 0, hs.getD 2 0 + s.getD 2 0, hs.getD 3 0 + s.getD 3 0, hs.getD 4 0 + s.getD 4 0]
theorem w_digest_compress1 (tab : Tab) (gl : Gl) (n1 n2 : Nat) (h1 : tab.look n1 = some ct_word.fs) (h2 : tab.look n2 = some ct_rotl.fs) (bs : List UInt8) (x0 x1 x2 x3 x4 : UInt32) (hb : bs.length = 64) :
    (ac_digest_compress1 n1 n2).wp tab gl (zipF 0 [.ref 0 0 0, .t (.sl (bs.map byteT))]) (zipF 0 [.live 1 (([x0, x1, x2, x3, x4].map u32T).map V.t) true true]) (resW [] 1 (fun r o => r = .tup [] ∧ o = [.live 1 (((comp1 [x0, x1, x2, x3, x4] bs).map u32T).map V.t) true true])) := by
  simp (disch := omega) only [go_sem, ↓reduceIte, Nat.reduceAdd, reduceCtorEq, ac_digest_compress1]
  refine loop_upto 80 (fun k => [(14, .t (.int .i64 k)), (4, .ref 4096 0 0), (0, .ref 0 0 0), (1, V.t (T.sl (List.map byteT bs)))]) (fun k => [(4096, .live 1 (((sched1 bs k).map u32T).map V.t) true true), (0, .live 1 [.t (u32T x0), .t (u32T x1), .t (u32T x2), .t (u32T x3), .t (u32T x4)] true true)]) ?_ (fun k hk => ?_)
  · refine Weak.rd id ?_ ?_ rfl
    all_goals simp (disch := omega) only [go_sem, ↓reduceIte, Nat.reduceEqDiff, Nat.reduceBEq, reduceCtorEq, id, sched1]
  · have hl : (sched1 bs k).length = 80 := sched1_length
    by_cases hlt : k < 80
    · by_cases h16 : k < 16
      · simp (disch := omega) only [go_sem, ↓reduceIte, Nat.reduceAdd, Nat.reduceEqDiff, Nat.reduceLeDiff, reduceCtorEq, ac_digest_compress1_L0, h1, h2, word_eq, hl]
        refine ⟨hlt, Weak.rd id ?_ ?_ rfl⟩
        all_goals simp (disch := omega) only [go_sem, ↓reduceIte, Nat.reduceEqDiff, Nat.reduceBEq, reduceCtorEq, id, sched1, if_pos h16]
      · simp (disch := omega) only [go_sem, ↓reduceIte, Nat.reduceAdd, Nat.reduceEqDiff, Nat.reduceLeDiff, Int.reduceSub, Int.reduceMod, ac_digest_compress1_L0, h1, h2, rotl_eq, hl]
        repeat refine And.intro rfl ?_
        refine ⟨hlt, Weak.rd id ?_ ?_ rfl⟩
        all_goals simp (disch := omega) only [go_sem, ↓reduceIte, Nat.reduceEqDiff, Nat.reduceBEq, reduceCtorEq, id, sched1, if_neg h16]
    · have e : k = 80 := by omega
      subst e
      simp (disch := omega) only [go_sem, ↓reduceIte, Nat.reduceAdd, Nat.reduceEqDiff, Nat.reduceLeDiff, Int.reduceLT, Int.reduceLE, reduceCtorEq, ac_digest_compress1_L0]
      repeat refine And.intro rfl ?_
      refine loop_upto 80 (fun k => [(67, .t (.int .i64 k)), (4, .ref 4096 0 0), (0, .ref 0 0 0), (6, .t (u32T ((rounds1 (sched1 bs 80) [x0, x1, x2, x3, x4] k).getD 0 0))), (7, .t (u32T ((rounds1 (sched1 bs 80) [x0, x1, x2, x3, x4] k).getD 1 0))), (8, .t (u32T ((rounds1 (sched1 bs 80) [x0, x1, x2, x3, x4] k).getD 2 0))), (9, .t (u32T ((rounds1 (sched1 bs 80) [x0, x1, x2, x3, x4] k).getD 3 0))), (10, .t (u32T ((rounds1 (sched1 bs 80) [x0, x1, x2, x3, x4] k).getD 4 0)))])
        (fun k => [(4096, .live 1 (((sched1 bs 80).map u32T).map V.t) true true), (0, .live 1 [.t (u32T x0), .t (u32T x1), .t (u32T x2), .t (u32T x3), .t (u32T x4)] true true)]) ?_ (fun k hk => ?_)
      · refine Weak.rd id ?_ ?_ rfl
        all_goals simp (disch := omega) only [go_sem, ↓reduceIte, Nat.reduceEqDiff, Nat.reduceBEq, reduceCtorEq, id, rounds1, List.getD_cons_zero, List.getD_cons_succ]
      · by_cases hlt : k < 80
        · by_cases h20 : k < 20
          · have e0 : k / 20 = 0 := by omega
            simp (disch := omega) only [go_sem, ↓reduceIte, Nat.reduceAdd, Nat.reduceEqDiff, Nat.reduceLeDiff, Int.reduceSub, Int.reduceMod, reduceCtorEq, ac_digest_compress1_L1, h1, h2, rotl_eq, hl, e0]
            repeat refine And.intro rfl ?_
            refine ⟨hlt, Weak.rd id ?_ ?_ rfl⟩
            all_goals simp (disch := omega) only [go_sem, ↓reduceIte, Nat.reduceEqDiff, Nat.reduceBEq, reduceCtorEq, id, rounds1, rnd1, f1, k1, if_pos h20, List.getD_cons_zero, List.getD_cons_succ]
          · by_cases h40 : k < 40
            · have e0 : k / 20 = 1 := by omega
              simp (disch := omega) only [go_sem, ↓reduceIte, Nat.reduceAdd, Nat.reduceEqDiff, Nat.reduceLeDiff, Int.reduceSub, Int.reduceMod, reduceCtorEq, ac_digest_compress1_L1, h1, h2, rotl_eq, hl, e0]
              repeat refine And.intro rfl ?_
              refine ⟨hlt, Weak.rd id ?_ ?_ rfl⟩
              all_goals simp (disch := omega) only [go_sem, ↓reduceIte, Nat.reduceEqDiff, Nat.reduceBEq, reduceCtorEq, id, rounds1, rnd1, f1, k1, if_neg h20, if_pos h40, List.getD_cons_zero, List.getD_cons_succ]
            · by_cases h60 : k < 60
              · have e0 : k / 20 = 2 := by omega
                simp (disch := omega) only [go_sem, ↓reduceIte, Nat.reduceAdd, Nat.reduceEqDiff, Nat.reduceLeDiff, Int.reduceSub, Int.reduceMod, reduceCtorEq, ac_digest_compress1_L1, h1, h2, rotl_eq, hl, e0]
                repeat refine And.intro rfl ?_
                refine ⟨hlt, Weak.rd id ?_ ?_ rfl⟩
                all_goals simp (disch := omega) only [go_sem, ↓reduceIte, Nat.reduceEqDiff, Nat.reduceBEq, reduceCtorEq, id, rounds1, rnd1, f1, k1, if_neg h20, if_neg h40, if_pos h60, List.getD_cons_zero, List.getD_cons_succ]
              · have e0 : k / 20 = 3 := by omega
                simp (disch := omega) only [go_sem, ↓reduceIte, Nat.reduceAdd, Nat.reduceEqDiff, Nat.reduceLeDiff, Int.reduceSub, Int.reduceMod, reduceCtorEq, ac_digest_compress1_L1, h1, h2, rotl_eq, hl, e0]
                repeat refine And.intro rfl ?_
                refine ⟨hlt, Weak.rd id ?_ ?_ rfl⟩
                all_goals simp (disch := omega) only [go_sem, ↓reduceIte, Nat.reduceEqDiff, Nat.reduceBEq, reduceCtorEq, id, rounds1, rnd1, f1, k1, if_neg h20, if_neg h40, if_neg h60, List.getD_cons_zero, List.getD_cons_succ]
        · have e : k = 80 := by omega
          subst e
          simp (disch := omega) only [go_sem, ↓reduceIte, Nat.reduceAdd, Nat.reduceEqDiff, Nat.reduceLeDiff, Int.reduceLT, Int.reduceLE, reduceCtorEq, ac_digest_compress1_L1, comp1, List.getD_cons_zero, List.getD_cons_succ]
          repeat refine And.intro rfl ?_
          rfl
end Go.Eng
end
section
set_option maxRecDepth 20000
set_option maxHeartbeats 4000000
namespace Go.Eng
def iv1 : List UInt32 := [0x67452301, 0xefcdab89, 0x98badcfe, 0x10325476, 0xc3d2e1f0]
theorem h1_length {p : List UInt8} {k : Nat} : (hN comp1 iv1 p k).length = 5 := by
  cases k <;> rfl
def sum1 (bs : List UInt8) : List UInt8 := sumL comp1 iv1 bs
theorem w_digest_Sum_1 (tab : Tab) (gl : Gl) (n1 n2 n3 n4 : Nat) (h1 : tab.look n1 = some ct_pad.fs) (h3 : tab.look n3 = some ct_spread.fs) (h4 : tab.look n2 = some (ct_comp 5 comp1).fs) (bs : List UInt8) (hb : bs.length < 1000000000) :
    (ac_digest_Sum n1 n2 n3 n4).wp tab gl (zipF 0 [.t (.int .i64 0), .t (.sl (bs.map byteT))]) (zipF 0 []) (resF [] [(4, none)] 0 (fun r o => r = .sl 0 0 20 ∧ o = [.live 1 (((sum1 bs).map byteT).map V.t) true false])) := by
  have hp := padL_length bs
  have hm := padL_mod bs
  simp (disch := omega) only [go_sem, ↓reduceIte, Nat.reduceAdd, Nat.reduceEqDiff, Nat.reduceLeDiff, reduceCtorEq, ac_digest_Sum, h1, pad_eq]
  refine loop_upto ((padL bs).length / 64) (fun k => [(6, V.sl 20496 (64 * k) ((padL bs).length - 64 * k)), (5, V.ref 16400 0 0)]) (fun k => [(20496, .live 1 (((padL bs).map byteT).map V.t) true false), (16400, .live 1 (((hN comp1 iv1 (padL bs) k).map u32T).map V.t) true true)]) ?_ (fun k hk => ?_)
  · refine Weak.rd id ?_ ?_ rfl
    all_goals simp (disch := omega) only [go_sem, ↓reduceIte, Nat.reduceAdd, Nat.reduceEqDiff, Nat.reduceBEq, id, hN, iv1, Nat.mul_zero, List.map_cons, List.map_nil]
  · have hl : (hN comp1 iv1 (padL bs) k).length = 5 := h1_length
    by_cases hlt : k < (padL bs).length / 64
    · simp (config := { maxSteps := 2000000 }) (disch := (first | omega | (simp only [lens, lenm]; omega))) only [go_sem, ↓reduceIte, Nat.reduceAdd, Nat.reduceEqDiff, Nat.reduceSub, Nat.reduceLeDiff, Nat.reduceBEq, Int.reduceLE, reduceCtorEq, ac_digest_Sum_L0, h4, comp_eq, hl]
      refine ⟨hlt, Weak.rd id ?_ ?_ rfl⟩
      all_goals simp (config := { maxSteps := 2000000 }) (disch := (first | omega | (simp only [lens, lenm]; omega))) only [go_sem, ↓reduceIte, Nat.reduceAdd, Nat.reduceEqDiff, Nat.reduceBEq, id, hN]
      omega
    · have e : k = (padL bs).length / 64 := by omega
      subst e
      have ht : List.take 5 (hN comp1 iv1 (padL bs) ((padL bs).length / 64)) = hN comp1 iv1 (padL bs) ((padL bs).length / 64) := List.take_of_length_le (by omega)
      simp (disch := omega) only [go_sem, ↓reduceIte, Nat.reduceAdd, Nat.reduceEqDiff, Nat.reduceMul, Nat.reduceLeDiff, Int.reduceLE, reduceCtorEq, ac_digest_Sum_L0, h3, spread_eq, hl, ht, sum1, sumL]
theorem w_ref1_pad (tab : Tab) (gl : Gl) (bs : List UInt8) (hb : bs.length < 1000000000) : ac_ref1_pad.wp tab gl (zipF 0 [.t (.sl (bs.map byteT))]) (zipF 0 []) (resF [] [(2, none)] 0 (fun r o => r = .sl 0 0 (padL bs).length ∧ o = [.live 1 (((padL bs).map byteT).map V.t) true false])) := by
  have hz : padZ bs.length = (119 - bs.length % 64) % 64 := rfl
  simp (disch := omega) only [go_sem, ↓reduceIte, Nat.reduceAdd, Nat.reduceEqDiff, Nat.reduceLT, Nat.reduceLeDiff, reduceCtorEq, ac_ref1_pad]
  refine loop_upto (padZ bs.length) (fun k => [(0, .t (.sl (bs.map byteT))), (3, .sl 8256 0 (bs.length + 1 + k))]) (fun k => [(8256, .live 1 (((bs ++ [128] ++ List.replicate k 0).map byteT).map V.t) true false)]) ?_ (fun k hk => ?_)
  · refine Weak.rd id ?_ ?_ rfl
    all_goals simp (disch := omega) only [go_sem, ↓reduceIte, Nat.reduceAdd, reduceCtorEq, id]
  · by_cases hlt : k < padZ bs.length
    · simp (disch := omega) only [go_sem, ↓reduceIte, Nat.reduceAdd, Nat.reduceEqDiff, Nat.reduceLT, Nat.reduceLeDiff, reduceCtorEq, ac_ref1_pad_L0]
      refine ⟨hlt, Weak.rd (fun _ => 16416) ?_ ?_ rfl⟩
      all_goals simp (disch := omega) only [go_sem, ↓reduceIte, Nat.reduceAdd, reduceCtorEq, List.replicate_succ', List.append_assoc, Nat.add_assoc]
    · have e : k = padZ bs.length := by omega
      subst e
      simp (disch := omega) only [go_sem, ↓reduceIte, Nat.reduceAdd, reduceCtorEq, ac_ref1_pad_L0]
      refine loop_upto 8 (fun k => [(3, .sl 8256 0 (bs.length + 1 + padZ bs.length + k)), (4, V.t (T.int IntKind.u64 (bs.length * 8 : Nat))), (5, .t (.int .i64 (7 - (k : Int))))]) (fun k => [(8256, .live 1 (((bs ++ [128] ++ List.replicate (padZ bs.length) 0 ++ beL (bs.length * 8) k).map byteT).map V.t) true false)]) ?_ (fun k hk => ?_)
      · refine Weak.rd id ?_ ?_ rfl
        all_goals simp (disch := omega) only [go_sem, ↓reduceIte, Nat.reduceAdd, Nat.reduceEqDiff, Int.reduceSub, reduceCtorEq, id, beL_zero, List.append_nil]
      · by_cases hlt : k < 8
        · have e : 8 * (7 - k) = 56 - 8 * k := by omega
          simp (disch := omega) only [go_sem, ↓reduceIte, Nat.reduceAdd, Nat.reduceEqDiff, Nat.reduceLT, Nat.reduceLeDiff, ac_ref1_pad_L1, beL_length, e]
          refine ⟨hlt, Weak.rd (fun _ => 36992) ?_ ?_ rfl⟩
          all_goals simp (disch := omega) only [go_sem, ↓reduceIte, Nat.reduceAdd, Nat.reduceEqDiff, beL_succ, List.append_assoc, Nat.add_assoc]
          omega
        · have e : k = 8 := by omega
          subst e
          simp (disch := omega) only [go_sem, ↓reduceIte, Nat.reduceAdd, Nat.reduceEqDiff, Int.reduceNeg, Int.reduceSub, ac_ref1_pad_L1, beL_length, padL]
theorem w_ref1_bytes (tab : Tab) (gl : Gl) (ws : List UInt32) (hb : ws.length < 1000000000) : ac_ref1_bytes.wp tab gl (zipF 0 [.t (.sl (ws.map u32T))]) (zipF 0 []) (resF [] [(2, none)] 0 (fun r o => r = .sl 0 0 (4 * ws.length) ∧ o = [.live 1 (((spreadL ws).map byteT).map V.t) true false])) := by
  simp (disch := omega) only [go_sem, Nat.reduceAdd, ac_ref1_bytes]
  refine loop_upto ws.length (fun k => [(3, .sl 9000 0 (4 * k)), (0, .t (.sl (ws.map u32T))), (4, .t (.int .i64 k))]) (fun k => [(9000, .live 1 (((spreadL (ws.take k)).map byteT).map V.t) true false)]) ?_ (fun k hk => ?_)
  · show Weak _ _ _ ([(9000, .live 1 [] true false)] ++ [])
    refine Weak.cv0 id ?_ ?_ rfl rfl
    all_goals simp (disch := omega) only [go_sem, ↓reduceIte, Nat.reduceEqDiff, reduceCtorEq, id, List.map_cons, List.map_nil, Nat.mul_zero]
  · have hl : (spreadL (ws.take k)).length = 4 * k := by rw [spreadL_length, List.length_take]; omega
    by_cases hlt : k < ws.length
    · simp (disch := omega) only [go_sem, ↓reduceIte, Nat.reduceAdd, Nat.reduceEqDiff, Nat.reduceLT, Nat.reduceLeDiff, reduceCtorEq, ac_ref1_bytes_L0, hl]
      refine ⟨rfl, hlt, Weak.rd (fun _ => 24976) ?_ ?_ rfl⟩
      all_goals simp (disch := omega) only [go_sem, ↓reduceIte, Nat.reduceAdd, Nat.reduceEqDiff, reduceCtorEq, spreadL_take, spread1]
      · omega
      · simp only [List.append_assoc, List.cons_append, List.nil_append]; rfl
    · have e : k = ws.length := by omega
      subst e
      rw [List.take_length] at hl
      simp (disch := omega) only [go_sem, ↓reduceIte, Nat.reduceAdd, Nat.reduceEqDiff, reduceCtorEq, ac_ref1_bytes_L0, hl, List.take_length]
theorem w_ref1_constants (tab : Tab) (gl : Gl) : ac_ref1_constants.wp tab gl (zipF 0 []) (zipF 0 []) (resW [(0, some (64, true))] 0 (fun r o => r = .t (.agg (k256.map u32T)) ∧ o = [])) := by
  simp (config := { maxSteps := 2000000 }) (disch := (first | omega | (simp only [lens, lenm]; omega))) only [go_sem, ↓reduceIte, Nat.reduceAdd, Nat.reduceEqDiff, Nat.reduceSub, Nat.reduceLeDiff, reduceCtorEq, ac_ref1_constants, List.drop_replicate]
  rfl
end Go.Eng
end
section
set_option maxRecDepth 20000
set_option maxHeartbeats 8000000
namespace Go.Eng
def ct_const : Ct where
  α := Unit
  as _ := []
  ins _ := []
  pre _ := True
  r _ := .t (.agg (k256.map u32T))
  outs _ := []
  inj := fun _ _ _ _ => ⟨rfl, rfl⟩
theorem const_eq : ct_const.fs [] [] = some (.t (.agg (k256.map u32T)), []) := ct_const.eq () trivial
def ct_rotr : Ct where
  α := UInt32 × Nat
  as x := [.t (u32T x.1), .t (.int .u64 x.2)]
  ins _ := []
  pre x := 0 < x.2 ∧ x.2 < 32
  r x := .t (u32T (rotr x.1 x.2))
  outs _ := []
  inj := by
    rintro ⟨a, b⟩ ⟨c, d⟩ h _
    simp [u32T_eq, Int.natCast_inj] at h
    obtain ⟨rfl, rfl⟩ := h
    exact ⟨rfl, rfl⟩
theorem rotr_eq {x : UInt32} {n : Nat} (h : 0 < n ∧ n < 32) : ct_rotr.fs [.t (u32T x), .t (.int .u64 (no_index (@OfNat.ofNat Int n _)))] [] = some (.t (u32T (rotr x n)), []) := ct_rotr.eq (x, n) h
theorem w_ref1_Sum256 (tab : Tab) (gl : Gl) (n1 n2 n3 n4 n5 : Nat) (h1 : tab.look n1 = some ct_const.fs) (h2 : tab.look n2 = some ct_pad.fs) (h3 : tab.look n3 = some ct_word.fs) (h4 : tab.look n4 = some ct_rotr.fs) (h5 : tab.look n5 = some ct_spread.fs)
    (bs : List UInt8) (hb : bs.length < 1000000000) :
    (ac_ref1_Sum256 n1 n2 n3 n4 n5).wp tab gl (zipF 0 [.t (.sl (bs.map byteT))]) (zipF 0 []) (resF [] [(2, none)] 0 (fun r o => r = .sl 0 0 32 ∧ o = [.live 1 (((sum256 bs).map byteT).map V.t) true false])) := by
  have hp := padL_length bs
  have hm := padL_mod bs
  have hz : padZ bs.length < 64 := by unfold padZ; omega
  have hk2 : k256.length = 64 := rfl
  simp (config := { maxSteps := 2000000 }) (disch := (first | omega | (simp only [lens, lenm]; omega))) only [go_sem, ↓reduceIte, Nat.reduceAdd, Nat.reduceEqDiff, Nat.reduceSub, Nat.reduceLT, Nat.reduceLeDiff, reduceCtorEq, ac_ref1_Sum256, h1, const_eq, h2, pad_eq, hk2]
  refine loop_upto ((padL bs).length / 64) (fun k => [(3, .ref 8208 0 0), (4, .sl 12288 0 8), (5, .sl 16400 0 (padL bs).length), (6, .t (.int .i64 ((64 * k : Nat) : Int)))])
    (fun k => [(8208, .live 1 ((k256.map u32T).map V.t) true true), (12288, .live 1 (((hN comp256 iv256 (padL bs) k).map u32T).map V.t) true false), (16400, .live 1 (((padL bs).map byteT).map V.t) true false)]) ?_ (fun k hk => ?_)
  · refine Weak.rd id ?_ ?_ rfl
    all_goals simp (disch := omega) only [go_sem, ↓reduceIte, Nat.reduceAdd, Nat.reduceEqDiff, Nat.reduceBEq, id, hN, iv256, Nat.mul_zero, List.map_cons, List.map_nil]
  · have hl : (hN comp256 iv256 (padL bs) k).length = 8 := h256_length
    by_cases hlt : k < (padL bs).length / 64
    · generalize hH : hN comp256 iv256 (padL bs) k = H at hl ⊢
      generalize hB : List.take 64 (List.drop (64 * k) (padL bs)) = B
      have hBl : B.length = 64 := by rw [← hB]; simp only [List.length_take, List.length_drop]; omega
      simp (disch := omega) only [go_sem, ↓reduceIte, Nat.reduceAdd, Nat.reduceEqDiff, ac_ref1_Sum256_L0]
      refine loop_upto 64 (fun t => [(8, .t (.int .i64 t)), (7, .ref 32768 0 0), (3, .ref 8208 0 0), (4, .sl 12288 0 8), (5, .sl 16400 0 (padL bs).length), (6, .t (.int .i64 ((64 * k : Nat) : Int)))])
        (fun t => [(32768, .live 1 (((sched B t).map u32T).map V.t) true true), (8208, .live 1 ((k256.map u32T).map V.t) true true), (12288, .live 1 ((H.map u32T).map V.t) true false), (16400, .live 1 (((padL bs).map byteT).map V.t) true false)]) ?_ (fun t ht => ?_)
      · refine Weak.rd id ?_ ?_ rfl
        all_goals simp (disch := omega) only [go_sem, ↓reduceIte, Nat.reduceAdd, Nat.reduceEqDiff, Nat.reduceBEq, id, sched]
      · have hs : (sched B t).length = 64 := sched_length
        by_cases hlt2 : t < 64
        · by_cases h16 : t < 16
          · simp (disch := omega) only [go_sem, ↓reduceIte, Nat.reduceAdd, Nat.reduceEqDiff, Nat.reduceLeDiff, reduceCtorEq, ac_ref1_Sum256_L1, h3, word_eq, hs, hB]
            refine ⟨hlt2, Weak.rd id ?_ ?_ rfl⟩
            all_goals simp (disch := omega) only [go_sem, ↓reduceIte, Nat.reduceAdd, Nat.reduceEqDiff, Nat.reduceBEq, id, sched, if_pos h16]
          · simp (config := { maxSteps := 2000000 }) (disch := (first | omega | (simp only [lens, lenm]; omega))) only [go_sem, ↓reduceIte, Nat.reduceAdd, Nat.reduceEqDiff, Nat.reduceLT, Nat.reduceLeDiff, ac_ref1_Sum256_L1, h4, rotr_eq, hs]
            repeat refine And.intro rfl ?_
            refine ⟨hlt2, Weak.rd id ?_ ?_ rfl⟩
            all_goals simp (config := { maxSteps := 2000000 }) (disch := (first | omega | (simp only [lens, lenm]; omega))) only [go_sem, ↓reduceIte, Nat.reduceAdd, Nat.reduceEqDiff, Nat.reduceBEq, id, sched, if_neg h16]
            rfl
        · have e : t = 64 := by omega
          subst e
          have hT : List.take 8 H = H := List.take_of_length_le (by omega)
          simp (disch := omega) only [go_sem, ↓reduceIte, Nat.reduceAdd, Nat.reduceEqDiff, Nat.reduceMul, Nat.reduceLeDiff, Int.reduceLT, ac_ref1_Sum256_L1, hl, hT]
          refine loop_upto 64 (fun t => [(12, .t (.int .i64 t)), (11, .sl 69664 0 8), (7, .ref 32768 0 0), (3, .ref 8208 0 0), (4, .sl 12288 0 8), (5, .sl 16400 0 (padL bs).length), (6, .t (.int .i64 ((64 * k : Nat) : Int)))])
            (fun t => [(69664, .live 1 (((rounds (sched B 64) H t).map u32T).map V.t) true false), (32768, .live 1 (((sched B 64).map u32T).map V.t) true true), (8208, .live 1 ((k256.map u32T).map V.t) true true), (12288, .live 1 ((H.map u32T).map V.t) true false), (16400, .live 1 (((padL bs).map byteT).map V.t) true false)]) ?_ (fun t ht => ?_)
          · refine Weak.rd id ?_ ?_ rfl
            all_goals simp (disch := omega) only [go_sem, ↓reduceIte, Nat.reduceAdd, Nat.reduceEqDiff, Nat.reduceBEq, id, rounds]
          · have hr : (rounds (sched B 64) H t).length = 8 := rounds_length hl
            by_cases hlt3 : t < 64
            · simp (config := { maxSteps := 2000000 }) (disch := (first | omega | (simp only [lens, lenm]; omega))) only [go_sem, ↓reduceIte, Nat.reduceAdd, Nat.reduceEqDiff, Nat.reduceLT, Nat.reduceLeDiff, Int.reduceLT, Int.reduceLE, ac_ref1_Sum256_L2, h4, rotr_eq, hs, hr, hk2]
              repeat refine And.intro rfl ?_
              refine ⟨hlt3, Weak.rd (fun i => if i = 69664 then 98656 else i) ?_ ?_ rfl⟩
              all_goals simp (disch := omega) only [go_sem, ↓reduceIte, Nat.reduceAdd, Nat.reduceEqDiff, Nat.reduceBEq, rounds, rnd]
              trace_state
            · have e : t = 64 := by omega
              subst e
              simp (disch := omega) only [go_sem, ↓reduceIte, Nat.reduceAdd, Int.reduceLT, ac_ref1_Sum256_L2]
              refine loop_upto 8 (fun t => [(17, .t (.int .i64 t)), (11, .sl 69664 0 8), (3, .ref 8208 0 0), (4, .sl 12288 0 8), (5, .sl 16400 0 (padL bs).length), (6, .t (.int .i64 ((64 * k : Nat) : Int)))])
                (fun t => [(69664, .live 1 (((rounds (sched B 64) H 64).map u32T).map V.t) true false), (8208, .live 1 ((k256.map u32T).map V.t) true true), (12288, .live 1 (((addW H (rounds (sched B 64) H 64) t).map u32T).map V.t) true false), (16400, .live 1 (((padL bs).map byteT).map V.t) true false)]) ?_ (fun t ht => ?_)
              · refine Weak.rd id ?_ ?_ rfl
                all_goals simp (disch := omega) only [go_sem, ↓reduceIte, Nat.reduceAdd, Nat.reduceEqDiff, Nat.reduceBEq, id, addW]
              · have ha : (addW H (rounds (sched B 64) H 64) t).length = 8 := by rw [addW_length, hl]
                by_cases hlt4 : t < 8
                · simp (disch := omega) only [go_sem, ↓reduceIte, Nat.reduceAdd, Nat.reduceEqDiff, Nat.reduceLeDiff, ac_ref1_Sum256_L3, hr, ha]
                  repeat refine And.intro rfl ?_
                  refine ⟨hlt4, Weak.rd id ?_ ?_ rfl⟩
                  all_goals simp (disch := omega) only [go_sem, ↓reduceIte, Nat.reduceAdd, Nat.reduceEqDiff, Nat.reduceBEq, id, addW]
                · have e : t = 8 := by omega
                  subst e
                  simp (disch := omega) only [go_sem, ↓reduceIte, Nat.reduceAdd, Nat.reduceEqDiff, Int.reduceLT, ac_ref1_Sum256_L3]
                  refine ⟨hlt, Weak.rd id ?_ ?_ rfl⟩
                  all_goals simp (disch := omega) only [go_sem, ↓reduceIte, Nat.reduceAdd, Nat.reduceEqDiff, Nat.reduceBEq, id, hN, hH, hB, comp256]
                  omega
    · have e : k = (padL bs).length / 64 := by omega
      subst e
      have e2 : 64 * ((padL bs).length / 64) = (padL bs).length := by omega
      have ht : List.take 8 (hN comp256 iv256 (padL bs) ((padL bs).length / 64)) = hN comp256 iv256 (padL bs) ((padL bs).length / 64) := List.take_of_length_le (by omega)
      simp (disch := omega) only [go_sem, ↓reduceIte, Nat.reduceAdd, Nat.reduceEqDiff, Nat.reduceMul, Nat.reduceLeDiff, ac_ref1_Sum256_L0, e2, h5, spread_eq, hl, ht, sum256, sumL]
end Go.Eng
end
section
set_option maxRecDepth 20000
set_option maxHeartbeats 8000000
namespace Go.Eng
def ct_rotl1 : Ct where
  α := UInt32 × Nat
  as x := [.t (u32T x.1), .t (.int .u64 x.2)]
  ins _ := []
  pre x := 0 < x.2 ∧ x.2 < 32
  r x := .t (u32T (rotr x.1 (32 - x.2)))
  outs _ := []
  inj := by
    rintro ⟨a, b⟩ ⟨c, d⟩ h _
    simp [u32T_eq, Int.natCast_inj] at h
    obtain ⟨rfl, rfl⟩ := h
    exact ⟨rfl, rfl⟩
theorem rotl1_eq {x : UInt32} {n : Nat} (h : 0 < n ∧ n < 32) : ct_rotl1.fs [.t (u32T x), .t (.int .u64 (no_index (@OfNat.ofNat Int n _)))] [] = some (.t (u32T (rotr x (32 - n))), []) := ct_rotl1.eq (x, n) h
theorem w_ref1_Sum1 (tab : Tab) (gl : Gl) (n2 n3 n4 n5 : Nat) (h2 : tab.look n2 = some ct_pad.fs) (h3 : tab.look n3 = some ct_word.fs) (h4 : tab.look n4 = some ct_rotl1.fs) (h5 : tab.look n5 = some ct_spread.fs)
    (bs : List UInt8) (hb : bs.length < 1000000000) :
    (ac_ref1_Sum1 n2 n3 n4 n5).wp tab gl (zipF 0 [.t (.sl (bs.map byteT))]) (zipF 0 []) (resF [] [(2, none)] 0 (fun r o => r = .sl 0 0 20 ∧ o = [.live 1 (((sum1 bs).map byteT).map V.t) true false])) := by
  have hp := padL_length bs
  have hm := padL_mod bs
  have hz : padZ bs.length < 64 := by unfold padZ; omega
  simp (disch := omega) only [go_sem, ↓reduceIte, Nat.reduceAdd, Nat.reduceEqDiff, Nat.reduceLT, Nat.reduceLeDiff, reduceCtorEq, ac_ref1_Sum1, h2, pad_eq]
  refine loop_upto ((padL bs).length / 64) (fun k => [(3, .sl 8192 0 5), (4, .sl 12304 0 (padL bs).length), (5, .t (.int .i64 ((64 * k : Nat) : Int)))])
    (fun k => [(8192, .live 1 (((hN comp1 iv1 (padL bs) k).map u32T).map V.t) true false), (12304, .live 1 (((padL bs).map byteT).map V.t) true false)]) ?_ (fun k hk => ?_)
  · refine Weak.rd id ?_ ?_ rfl
    all_goals simp (disch := omega) only [go_sem, ↓reduceIte, Nat.reduceAdd, Nat.reduceEqDiff, Nat.reduceBEq, id, hN, iv1, Nat.mul_zero, List.map_cons, List.map_nil]
  · have hl : (hN comp1 iv1 (padL bs) k).length = 5 := h1_length
    by_cases hlt : k < (padL bs).length / 64
    · generalize hH : hN comp1 iv1 (padL bs) k = H at hl ⊢
      generalize hB : List.take 64 (List.drop (64 * k) (padL bs)) = B
      have hBl : B.length = 64 := by rw [← hB]; simp only [List.length_take, List.length_drop]; omega
      simp (disch := omega) only [go_sem, ↓reduceIte, Nat.reduceAdd, Nat.reduceEqDiff, ac_ref1_Sum1_L0]
      refine loop_upto 80 (fun t => [(7, .t (.int .i64 t)), (6, .ref 28672 0 0), (3, .sl 8192 0 5), (4, .sl 12304 0 (padL bs).length), (5, .t (.int .i64 ((64 * k : Nat) : Int)))])
        (fun t => [(28672, .live 1 (((sched1 B t).map u32T).map V.t) true true), (8192, .live 1 ((H.map u32T).map V.t) true false), (12304, .live 1 (((padL bs).map byteT).map V.t) true false)]) ?_ (fun t ht => ?_)
      · refine Weak.rd id ?_ ?_ rfl
        all_goals simp (disch := omega) only [go_sem, ↓reduceIte, Nat.reduceAdd, Nat.reduceEqDiff, Nat.reduceBEq, id, sched1]
      · have hs : (sched1 B t).length = 80 := sched1_length
        by_cases hlt2 : t < 80
        · by_cases h16 : t < 16
          · simp (disch := omega) only [go_sem, ↓reduceIte, Nat.reduceAdd, Nat.reduceEqDiff, Nat.reduceLeDiff, reduceCtorEq, ac_ref1_Sum1_L1, h3, word_eq, hs, hB]
            repeat refine And.intro rfl ?_
            refine ⟨hlt2, Weak.rd id ?_ ?_ rfl⟩
            all_goals simp (disch := omega) only [go_sem, ↓reduceIte, Nat.reduceAdd, Nat.reduceEqDiff, Nat.reduceBEq, id, sched1, if_pos h16]
          · simp (config := { maxSteps := 2000000 }) (disch := (first | omega | (simp only [lens, lenm]; omega))) only [go_sem, ↓reduceIte, Nat.reduceAdd, Nat.reduceEqDiff, Nat.reduceSub, Nat.reduceLeDiff, ac_ref1_Sum1_L1, h4, rotl1_eq, hs]
            repeat refine And.intro rfl ?_
            refine ⟨hlt2, Weak.rd id ?_ ?_ rfl⟩
            all_goals simp (disch := omega) only [go_sem, ↓reduceIte, Nat.reduceAdd, Nat.reduceEqDiff, Nat.reduceBEq, id, sched1, if_neg h16]
        · have e : t = 80 := by omega
          subst e
          simp (disch := omega) only [go_sem, ↓reduceIte, Nat.reduceAdd, Nat.reduceEqDiff, Nat.reduceLeDiff, Int.reduceLT, Int.reduceLE, ac_ref1_Sum1_L1, hl]
          repeat refine And.intro rfl ?_
          refine loop_upto 80 (fun t => [(13, .t (.int .i64 t)), (6, .ref 28672 0 0), (3, .sl 8192 0 5), (4, .sl 12304 0 (padL bs).length), (5, .t (.int .i64 ((64 * k : Nat) : Int))),
              (8, .t (u32T ((rounds1 (sched1 B 80) H t).getD 0 0))), (9, .t (u32T ((rounds1 (sched1 B 80) H t).getD 1 0))), (10, .t (u32T ((rounds1 (sched1 B 80) H t).getD 2 0))), (11, .t (u32T ((rounds1 (sched1 B 80) H t).getD 3 0))), (12, .t (u32T ((rounds1 (sched1 B 80) H t).getD 4 0)))])
            (fun _ => [(28672, .live 1 (((sched1 B 80).map u32T).map V.t) true true), (8192, .live 1 ((H.map u32T).map V.t) true false), (12304, .live 1 (((padL bs).map byteT).map V.t) true false)]) ?_ (fun t ht => ?_)
          · refine Weak.rd id ?_ ?_ rfl
            all_goals simp (disch := omega) only [go_sem, ↓reduceIte, Nat.reduceAdd, Nat.reduceEqDiff, Nat.reduceBEq, id, rounds1]
          · by_cases hlt3 : t < 80
            · by_cases h20 : t < 20
              · simp (config := { maxSteps := 2000000 }) (disch := (first | omega | (simp only [lens, lenm]; omega))) only [go_sem, ↓reduceIte, Nat.reduceAdd, Nat.reduceEqDiff, Nat.reduceSub, Nat.reduceLeDiff, ac_ref1_Sum1_L2, h4, rotl1_eq, hs]
                repeat refine And.intro rfl ?_
                refine ⟨hlt3, Weak.rd id ?_ ?_ rfl⟩
                all_goals simp (disch := omega) only [go_sem, ↓reduceIte, Nat.reduceAdd, Nat.reduceEqDiff, Nat.reduceBEq, id, rounds1, rnd1, f1, k1, if_pos h20, List.getD_cons_zero, List.getD_cons_succ]
              · by_cases h40 : t < 40
                · simp (config := { maxSteps := 2000000 }) (disch := (first | omega | (simp only [lens, lenm]; omega))) only [go_sem, ↓reduceIte, Nat.reduceAdd, Nat.reduceEqDiff, Nat.reduceSub, Nat.reduceLeDiff, ac_ref1_Sum1_L2, h4, rotl1_eq, hs]
                  repeat refine And.intro rfl ?_
                  refine ⟨hlt3, Weak.rd id ?_ ?_ rfl⟩
                  all_goals simp (disch := omega) only [go_sem, ↓reduceIte, Nat.reduceAdd, Nat.reduceEqDiff, Nat.reduceBEq, id, rounds1, rnd1, f1, k1, if_neg h20, if_pos h40, List.getD_cons_zero, List.getD_cons_succ]
                · by_cases h60 : t < 60
                  · simp (config := { maxSteps := 2000000 }) (disch := (first | omega | (simp only [lens, lenm]; omega))) only [go_sem, ↓reduceIte, Nat.reduceAdd, Nat.reduceEqDiff, Nat.reduceSub, Nat.reduceLeDiff, ac_ref1_Sum1_L2, h4, rotl1_eq, hs]
                    repeat refine And.intro rfl ?_
                    refine ⟨hlt3, Weak.rd id ?_ ?_ rfl⟩
                    all_goals simp (disch := omega) only [go_sem, ↓reduceIte, Nat.reduceAdd, Nat.reduceEqDiff, Nat.reduceBEq, id, rounds1, rnd1, f1, k1, if_neg h20, if_neg h40, if_pos h60, List.getD_cons_zero, List.getD_cons_succ]
                  · simp (config := { maxSteps := 2000000 }) (disch := (first | omega | (simp only [lens, lenm]; omega))) only [go_sem, ↓reduceIte, Nat.reduceAdd, Nat.reduceEqDiff, Nat.reduceSub, Nat.reduceLeDiff, ac_ref1_Sum1_L2, h4, rotl1_eq, hs]
                    repeat refine And.intro rfl ?_
                    refine ⟨hlt3, Weak.rd id ?_ ?_ rfl⟩
                    all_goals simp (disch := omega) only [go_sem, ↓reduceIte, Nat.reduceAdd, Nat.reduceEqDiff, Nat.reduceBEq, id, rounds1, rnd1, f1, k1, if_neg h20, if_neg h40, if_neg h60, List.getD_cons_zero, List.getD_cons_succ]
            · have e : t = 80 := by omega
              subst e
              simp (disch := omega) only [go_sem, ↓reduceIte, Nat.reduceAdd, Nat.reduceEqDiff, Nat.reduceLT, Nat.reduceLeDiff, Int.reduceLT, Int.reduceLE, ac_ref1_Sum1_L2, hl]
              repeat refine And.intro rfl ?_
              refine ⟨hlt, Weak.rd (fun i => if i = 8192 then 110992 else i) ?_ ?_ rfl⟩
              all_goals simp (disch := omega) only [go_sem, ↓reduceIte, Nat.reduceAdd, Nat.reduceEqDiff, Nat.reduceBEq, hN, hH, hB, comp1]
              omega
    · have e : k = (padL bs).length / 64 := by omega
      subst e
      have e2 : 64 * ((padL bs).length / 64) = (padL bs).length := by omega
      have ht : List.take 5 (hN comp1 iv1 (padL bs) ((padL bs).length / 64)) = hN comp1 iv1 (padL bs) ((padL bs).length / 64) := List.take_of_length_le (by omega)
      simp (disch := omega) only [go_sem, ↓reduceIte, Nat.reduceAdd, Nat.reduceEqDiff, Nat.reduceMul, Nat.reduceLeDiff, ac_ref1_Sum1_L0, e2, h5, spread_eq, hl, ht, sum1, sumL]
end Go.Eng
end
section
set_option maxRecDepth 20000
set_option maxHeartbeats 8000000
namespace Go.Eng
def szA (a : Nat) : Nat := if a = 0 then 20 else if a = 1 then 32 else 0
def sumA (a : Nat) (bs : List UInt8) : List UInt8 := if a = 0 then sum1 bs else if a = 1 then sum256 bs else []
theorem sumL_length {comp : List UInt32 → List UInt8 → List UInt32} {iv : List UInt32} {bs : List UInt8} {n : Nat} (hc : ∀ h b, h.length = n → (comp h b).length = n) (hi : iv.length = n) : (sumL comp iv bs).length = 4 * n := by
  have : ∀ k p, (hN comp iv p k).length = n := by
    intro k p
    induction k with
    | zero => exact hi
    | succ k ih => exact hc _ _ ih
  rw [sumL, spreadL_length, this]
theorem sum256_length {bs : List UInt8} : (sum256 bs).length = 32 := sumL_length (n := 8) (fun h b e => by rw [comp256_length, e]) rfl
theorem sum1_length {bs : List UInt8} : (sum1 bs).length = 20 := sumL_length (n := 5) (fun h b _ => rfl) rfl
theorem sumA_length {a : Nat} {bs : List UInt8} : (sumA a bs).length = szA a := by
  unfold sumA szA
  split
  · exact sum1_length
  · split
    · exact sum256_length
    · rfl
def ct_sum (n : Nat) (f : List UInt8 → List UInt8) : Ct where
  α := List UInt8
  as x := [.t (.sl (x.map byteT))]
  ins _ := []
  pre x := x.length < 1000000000
  r _ := .sl 0 0 n
  outs x := [.live 1 (((f x).map byteT).map V.t) true false]
  inj := by
    intro a b h _
    simp [mapB_inj] at h
    subst h; exact ⟨rfl, rfl⟩
theorem sum_eq {n : Nat} {f : List UInt8 → List UInt8} {bs : List UInt8} (h : bs.length < 1000000000) : (ct_sum n f).fs [.t (.sl (bs.map byteT))] [] = some (.sl 0 0 n, [.live 1 (((f bs).map byteT).map V.t) true false]) := (ct_sum n f).eq bs h
theorem w_ref1_Sum (tab : Tab) (gl : Gl) (n1 n2 : Nat) (h1 : tab.look n1 = some (ct_sum 20 sum1).fs) (h2 : tab.look n2 = some (ct_sum 32 sum256).fs) (a : Nat) (ha : a < 2) (bs : List UInt8) (hb : bs.length < 1000000000) :
    (ac_ref1_Sum n1 n2).wp tab gl (zipF 0 [.t (.int .i64 a), .t (.sl (bs.map byteT))]) (zipF 0 []) (resF [] [(4, none)] 0 (fun r o => r = .sl 0 0 (szA a) ∧ o = [.live 1 (((sumA a bs).map byteT).map V.t) true false])) := by
  rcases (show a = 0 ∨ a = 1 by omega) with rfl | rfl
  · simp (disch := omega) only [go_sem, ↓reduceIte, Nat.reduceAdd, Nat.reduceEqDiff, Nat.reduceLeDiff, reduceCtorEq, ac_ref1_Sum, h1, sum_eq, szA, sumA]
  · simp (disch := omega) only [go_sem, ↓reduceIte, Nat.reduceAdd, Nat.reduceEqDiff, Nat.reduceLeDiff, reduceCtorEq, ac_ref1_Sum, h2, sum_eq, szA, sumA]
theorem w_ref1_Same (tab : Tab) (gl : Gl) (a b : List UInt8) (ha : a.length < 1000000000) (hb : b.length < 1000000000) : ac_ref1_Same.wp tab gl (zipF 0 [.t (.sl (a.map byteT)), .t (.sl (b.map byteT))]) (zipF 0 []) (resW [(4, none)] 0 (fun r o => r = .t (.bool (decide (a = b))) ∧ o = [])) := by
  by_cases hl : a.length = b.length
  · simp (disch := omega) only [go_sem, ↓reduceIte, Nat.reduceAdd, Nat.reduceEqDiff, reduceCtorEq, ac_ref1_Same]
    refine loop_uptoP a.length (fun i => a.take i = b.take i) (fun k => [(5, .t (.int .i64 k)), (0, .t (.sl (a.map byteT))), (1, .t (.sl (b.map byteT)))]) (fun _ => []) rfl ?_ (fun k hk hP => ?_)
    · refine Weak.rd id ?_ ?_ rfl
      all_goals simp (disch := omega) only [go_sem, ↓reduceIte, Nat.reduceEqDiff, reduceCtorEq, id]
    · by_cases hlt : k < a.length
      · by_cases he : a.getD k 0 = b.getD k 0
        · simp (disch := omega) only [go_sem, ↓reduceIte, Nat.reduceAdd, Nat.reduceEqDiff, Nat.reduceLeDiff, reduceCtorEq, ac_ref1_Same_L0, he]
          refine ⟨rfl, hlt, ?_, Weak.rd id ?_ ?_ rfl⟩
          · rw [take_s (d := 0) hlt, take_s (d := 0) (by omega), hP, he]
          all_goals simp (disch := omega) only [go_sem, ↓reduceIte, Nat.reduceEqDiff, reduceCtorEq, id]
        · have hne : ¬ a = b := fun h => he (by rw [h])
          simp (disch := omega) only [go_sem, ↓reduceIte, Nat.reduceAdd, Nat.reduceEqDiff, Nat.reduceLeDiff, reduceCtorEq, ac_ref1_Same_L0, he, hne]
          rfl
      · have e : k = a.length := by omega
        subst e
        rw [List.take_length, hl, List.take_length] at hP
        simp (disch := omega) only [go_sem, ↓reduceIte, Nat.reduceAdd, Nat.reduceEqDiff, reduceCtorEq, ac_ref1_Same_L0, hP]
  · have hne : ¬ a = b := fun h => hl (by rw [h])
    simp (disch := omega) only [go_sem, ↓reduceIte, Nat.reduceAdd, Nat.reduceEqDiff, reduceCtorEq, ac_ref1_Same, hne]
end Go.Eng
end
section
set_option maxRecDepth 20000
set_option maxHeartbeats 8000000
namespace Go.Eng
def ct_same : Ct where
  α := List UInt8 × List UInt8
  as x := [.t (.sl (x.1.map byteT)), .t (.sl (x.2.map byteT))]
  ins _ := []
  pre x := x.1.length < 1000000000 ∧ x.2.length < 1000000000
  r x := .t (.bool (decide (x.1 = x.2)))
  outs _ := []
  inj := by
    rintro ⟨a, b⟩ ⟨c, d⟩ h _
    simp [mapB_inj] at h
    obtain ⟨rfl, rfl⟩ := h
    exact ⟨rfl, rfl⟩
theorem same_eq {a b : List UInt8} (h : a.length < 1000000000 ∧ b.length < 1000000000) : ct_same.fs [.t (.sl (a.map byteT)), .t (.sl (b.map byteT))] [] = some (.t (.bool (decide (a = b))), []) := ct_same.eq (a, b) h
def modL (l : List (List UInt8)) : Prop := l.length < 1000000000 ∧ ∀ x ∈ l, x.length < 1000000000
theorem modL_get {l : List (List UInt8)} (h : modL l) (i : Nat) : (l.getD i []).length < 1000000000 := by
  by_cases hi : i < l.length
  · have : l.getD i [] = l[i] := by simp [List.getD, hi]
    rw [this]; exact h.2 _ (List.getElem_mem hi)
  · simp [List.getD, List.getElem?_eq_none (Nat.le_of_not_lt hi)]
theorem w_ref1_Lists (tab : Tab) (gl : Gl) (n1 : Nat) (h1 : tab.look n1 = some ct_same.fs) (a b : List (List UInt8)) (ha : modL a) (hb : modL b) : (ac_ref1_Lists n1).wp tab gl (zipF 0 [.t (.sl (a.map bsT)), .t (.sl (b.map bsT))]) (zipF 0 []) (resW [(4, none)] 0 (fun r o => r = .t (.bool (decide (a = b))) ∧ o = [])) := by
  have hal := ha.1
  have hbl := hb.1
  by_cases hl : a.length = b.length
  · simp (disch := omega) only [go_sem, ↓reduceIte, Nat.reduceAdd, Nat.reduceEqDiff, reduceCtorEq, ac_ref1_Lists]
    refine loop_uptoP a.length (fun i => a.take i = b.take i) (fun k => [(5, .t (.int .i64 k)), (0, .t (.sl (a.map bsT))), (1, .t (.sl (b.map bsT)))]) (fun _ => []) rfl ?_ (fun k hk hP => ?_)
    · refine Weak.rd id ?_ ?_ rfl
      all_goals simp (disch := omega) only [go_sem, ↓reduceIte, Nat.reduceEqDiff, reduceCtorEq, id]
    · have m1 := modL_get ha k
      have m2 := modL_get hb k
      by_cases hlt : k < a.length
      · by_cases he : a.getD k [] = b.getD k []
        · simp (disch := omega) only [go_sem, ↓reduceIte, Nat.reduceAdd, Nat.reduceEqDiff, Nat.reduceLeDiff, reduceCtorEq, ac_ref1_Lists_L0, h1, same_eq, he]
          refine ⟨rfl, hlt, ?_, Weak.rd id ?_ ?_ rfl⟩
          · rw [take_s (d := []) hlt, take_s (d := []) (by omega), hP, he]
          all_goals simp (disch := omega) only [go_sem, ↓reduceIte, Nat.reduceEqDiff, reduceCtorEq, id]
        · have hne : ¬ a = b := fun h => he (by rw [h])
          simp (disch := omega) only [go_sem, ↓reduceIte, Nat.reduceAdd, Nat.reduceEqDiff, Nat.reduceLeDiff, reduceCtorEq, ac_ref1_Lists_L0, h1, same_eq, he, hne]
          rfl
      · have e : k = a.length := by omega
        subst e
        rw [List.take_length, hl, List.take_length] at hP
        simp (disch := omega) only [go_sem, ↓reduceIte, Nat.reduceAdd, Nat.reduceEqDiff, reduceCtorEq, ac_ref1_Lists_L0, hP]
  · have hne : ¬ a = b := fun h => hl (by rw [h])
    simp (disch := omega) only [go_sem, ↓reduceIte, Nat.reduceAdd, Nat.reduceEqDiff, reduceCtorEq, ac_ref1_Lists, hne]
def ct_sumA : Ct where
  α := Nat × List UInt8
  as x := [.t (.int .i64 x.1), .t (.sl (x.2.map byteT))]
  ins _ := []
  pre x := x.1 < 2 ∧ x.2.length < 1000000000
  r x := .sl 0 0 (szA x.1)
  outs x := [.live 1 (((sumA x.1 x.2).map byteT).map V.t) true false]
  inj := by
    rintro ⟨a, b⟩ ⟨c, d⟩ h _
    simp [mapB_inj, Int.natCast_inj] at h
    obtain ⟨rfl, rfl⟩ := h
    exact ⟨rfl, rfl⟩
theorem sumA_eq0 {bs : List UInt8} (h : bs.length < 1000000000) : ct_sumA.fs [.t (.int .i64 0), .t (.sl (bs.map byteT))] [] = some (.sl 0 0 20, [.live 1 (((sum1 bs).map byteT).map V.t) true false]) := ct_sumA.eq (0, bs) ⟨by simp, h⟩
theorem sumA_eq1 {bs : List UInt8} (h : bs.length < 1000000000) : ct_sumA.fs [.t (.int .i64 1), .t (.sl (bs.map byteT))] [] = some (.sl 0 0 32, [.live 1 (((sum256 bs).map byteT).map V.t) true false]) := ct_sumA.eq (1, bs) ⟨by simp, h⟩
theorem w_digest_Sum (tab : Tab) (gl : Gl) (n1 n2 n3 n4 : Nat) (h1 : tab.look n1 = some ct_pad.fs) (h2 : tab.look n2 = some (ct_comp 5 comp1).fs) (h3 : tab.look n3 = some ct_spread.fs) (h4 : tab.look n4 = some (ct_comp 8 comp256).fs) (a : Nat) (ha : a < 2) (bs : List UInt8) (hb : bs.length < 1000000000) :
    (ac_digest_Sum n1 n2 n3 n4).wp tab gl (zipF 0 [.t (.int .i64 a), .t (.sl (bs.map byteT))]) (zipF 0 []) (resF [] [(4, none)] 0 (fun r o => r = .sl 0 0 (szA a) ∧ o = [.live 1 (((sumA a bs).map byteT).map V.t) true false])) := by
  rcases (show a = 0 ∨ a = 1 by omega) with rfl | rfl
  · exact w_digest_Sum_1 tab gl n1 n2 n3 n4 h1 h3 h2 bs hb
  · exact w_digest_Sum_256 tab gl n1 n2 n3 n4 h1 h3 h4 bs hb
end Go.Eng
end
section
namespace Go.Eng
def ac_wire_Uint_L0 : AC :=
 (.seq
 (.seq
 (rG 24576 [
 mv 20 8,
 bN 21 .geq 20 0])
 (.cond (.tmp 21)
 .skip
 (.exit 0)))
 (.seq
 (.block 1
 (rG 32768 [
 mv 24 7,
 mv 25 2,
 oO 26 (.conv .u64) [.tmp 25],
 mv 27 8,
 oO 28 (.bin .mul) [.cst (.t (.int .i64 8)), .tmp 27],
 oO 29 (.conv .u64) [.tmp 28],
 bT 30 .shr 26 29,
 oO 31 (.conv .u8) [.tmp 30],
 oO 32 (.bslice 1 1 (.t (byteT 0)) [0]) [.tmp 31],
 oO 33 (.append 1 1) [.tmp 24, .tmp 32],
 mv 7 33]))
 (rG 28672 [
 mv 22 8,
 bN 23 .sub 22 1,
 mv 8 23])))
def ac_wire_Uint : AC :=
 (.seq
 (rG 4096 [
 mC 6 .nil])
 (.seq
 (rG 8192 [
 mv 9 0,
 oO 10 (.append 1 1) [.cst .nil, .tmp 9],
 mv 7 10])
 (.seq
 (.seq
 (rG 12288 [
 mv 11 1,
 bN 12 .lss 11 1,
 mv 13 12,
 mF 14 1 13,
 oF 15 13 (.bin .gtr) [.tmp 14, .cst (.t (.int .i64 8))],
 oO 16 .pick [.tmp 13, .cst (.t (.bool true)), .tmp 15]])
 (.cond (.tmp 16)
 (.seq
 (rG 16384 [
 mv 17 7,
 mv 6 17])
 .ret)
 .skip))
 (.seq
 (.seq
 (rG 20480 [
 mv 18 1,
 bN 19 .sub 18 1,
 mv 8 19])
 (.block 0
 (.loop ac_wire_Uint_L0)))
 (.seq
 (rG 36864 [
 mv 34 7,
 mv 6 34])
 .ret)))))
def hints_wire_Uint : List (Nat × List Nat) := []
def ac_wire_New : AC :=
 (.seq
 (rG 4096 [
 mC 2 (.t .pnil)])
 (.seq
 (rG 8192 [
 mv 3 0,
 oO 4 (.append 1 1) [.cst .nil, .tmp 3],
 oO 5 (.build [.nil, (.t (.int .i64 0)), (.t (.int .i64 0))] [(0, 1)]) [.tmp 4],
 oO 6 .box [.tmp 5],
 mv 2 6])
 .ret))
def hints_wire_New : List (Nat × List Nat) := []
def ac_wire_Reader_take : AC :=
 (.seq
 (rG 4096 [
 mC 6 .nil,
 mC 7 (.t (.int .i64 0))])
 (.seq
 (.seq
 (rG 8192 [
 mv 8 2,
 mv 9 0,
 oO 10 .nilchk [.tmp 9],
 oO 11 (.faddr 0) [.tmp 10],
 oO 12 (.load 1 false) [.tmp 11],
 oO 13 .len [.tmp 12],
 mv 14 1,
 bT 15 .sub 13 14,
 bT 16 .gtr 8 15])
 (.cond (.tmp 16)
 (.seq
 (rG 12288 [
 mC 6 .nil,
 mC 7 (.t (.int .i64 2))])
 .ret)
 .skip))
 (.seq
 (rG 16384 [
 mv 17 0,
 oO 18 .nilchk [.tmp 17],
 oO 19 (.faddr 0) [.tmp 18],
 oO 20 (.load 1 false) [.tmp 19],
 mv 21 1,
 mv 22 1,
 mv 23 2,
 bT 24 .add 22 23,
 oO 25 (.slice 1 true true false) [.tmp 20, .tmp 21, .tmp 24],
 mv 6 25,
 mC 7 (.t (.int .i64 0))])
 .ret)))
def hints_wire_Reader_take : List (Nat × List Nat) := []
def ac_wire_Reader_fail : AC :=
 (rG 4096 [
 mv 4 0,
 mv 5 1,
 oO 6 .nilchk [.tmp 4],
 oO 7 (.faddr 2) [.tmp 6],
 oS 1 7 5])
def hints_wire_Reader_fail : List (Nat × List Nat) := []
def ac_wire_Reader_Uint_L0 : AC :=
 (.seq
 (rG 53248 [
 bT 41 .lss 40 39])
 (.seq
 (.cond (.tmp 41)
 .skip
 (.exit 0))
 (.seq
 (.block 1
 (.seq
 (rG 57344 [
 oO 42 (.iaddr 1) [.tmp 38, .tmp 40],
 oO 43 (.load 1 false) [.tmp 42],
 mv 9 43])
 (rG 61440 [
 mv 44 7,
 oO 45 (.bin .shl) [.tmp 44, .cst (.t (.int .u64 8))],
 mv 46 9,
 oO 47 (.conv .u64) [.tmp 46],
 bT 48 .or 45 47,
 mv 7 48])))
 (rG 65536 [
 bN 49 .add 40 1,
 mv 40 49]))))
def ac_wire_Reader_Uint (n_wire_Reader_fail n_wire_Reader_take : Nat) : AC :=
 (.seq
 (rG 4096 [
 mC 4 (.t (.int .i64 0))])
 (.seq
 (.seq
 (rG 8192 [
 mv 10 0,
 oO 11 .nilchk [.tmp 10],
 oO 12 (.faddr 2) [.tmp 11],
 oO 13 (.load 1 false) [.tmp 12],
 bN 14 .neq 13 0])
 (.cond (.tmp 14)
 (.seq
 (rG 12288 [
 mC 4 (.t (.int .i64 0))])
 .ret)
 .skip))
 (.seq
 (.seq
 (rG 16384 [
 mv 15 1,
 bN 16 .lss 15 1,
 mv 17 16,
 mF 18 1 17,
 oF 19 17 (.bin .gtr) [.tmp 18, .cst (.t (.int .i64 8))],
 oO 20 .pick [.tmp 17, .cst (.t (.bool true)), .tmp 19]])
 (.cond (.tmp 20)
 (.seq
 (rG 20480 [
 mv 21 0,
 cL 22 n_wire_Reader_fail true [.tmp 21, .cst (.t (.int .i64 1))]])
 (.seq
 (rG 24576 [
 mC 4 (.t (.int .i64 0))])
 .ret))
 .skip))
 (.seq
 (rG 28672 [
 mv 24 0,
 mv 25 0,
 oO 26 .nilchk [.tmp 25],
 oO 27 (.faddr 1) [.tmp 26],
 oO 28 (.load 1 false) [.tmp 27],
 mv 29 1,
 cL 30 n_wire_Reader_take true [.tmp 24, .tmp 28, .tmp 29],
 mv 23 30,
 oO 31 (.extract 0) [.tmp 23],
 oO 32 (.extract 1) [.tmp 23],
 mv 5 31,
 mv 6 32])
 (.seq
 (.seq
 (rG 32768 [
 mv 33 6,
 bN 34 .neq 33 0])
 (.cond (.tmp 34)
 (.seq
 (rG 36864 [
 mv 35 0,
 mv 36 6,
 cL 37 n_wire_Reader_fail true [.tmp 35, .tmp 36]])
 (.seq
 (rG 40960 [
 mC 4 (.t (.int .i64 0))])
 .ret))
 .skip))
 (.seq
 (rG 45056 [
 mC 7 (.t (.int .u64 0))])
 (.seq
 (.seq
 (rG 49152 [
 mv 38 5,
 oO 39 .len [.tmp 38],
 mC 40 (.t (.int .i64 0))])
 (.block 0
 (.loop ac_wire_Reader_Uint_L0)))
 (.seq
 (.seq
 (rG 69632 [
 mv 50 7,
 oO 51 (.bin .gtr) [.tmp 50, .cst (.t (.int .u64 9223372036854775807))]])
 (.cond (.tmp 51)
 (.seq
 (rG 73728 [
 mv 52 0,
 cL 53 n_wire_Reader_fail true [.tmp 52, .cst (.t (.int .i64 4))]])
 (.seq
 (rG 77824 [
 mC 4 (.t (.int .i64 0))])
 .ret))
 .skip))
 (.seq
 (rG 81920 [
 mv 54 0,
 oO 55 .nilchk [.tmp 54],
 oO 56 (.faddr 1) [.tmp 55],
 oO 57 (.load 1 false) [.tmp 56],
 mv 58 1,
 bT 59 .add 57 58,
 oO 60 .nilchk [.tmp 54],
 oO 61 (.faddr 1) [.tmp 60],
 oS 1 61 59])
 (.seq
 (rG 86016 [
 mv 62 7,
 oO 63 (.conv .i64) [.tmp 62],
 mv 4 63])
 .ret))))))))))
def hints_wire_Reader_Uint : List (Nat × List Nat) := [(4, [1]), (6, [6]), (8, [2]), (17, [1])]
def ac_wire_Reader_Left : AC :=
 (.seq
 (rG 4096 [
 mC 2 (.t (.int .i64 0))])
 (.seq
 (.reg 8192 (some [0, 1, 3, 7, 15, 0, 32, 96, 224, 511, 1023]) [
 mv 3 0,
 oO 4 .nilchk [.tmp 3],
 oO 5 (.faddr 0) [.tmp 4],
 oO 6 (.load 1 false) [.tmp 5],
 oO 7 .len [.tmp 6],
 mv 8 0,
 oO 9 .nilchk [.tmp 8],
 oO 10 (.faddr 1) [.tmp 9],
 oO 11 (.load 1 false) [.tmp 10],
 bT 12 .sub 7 11,
 mv 2 12])
 .ret))
def hints_wire_Reader_Left : List (Nat × List Nat) := []
def ac_wire_Reader_End (n_wire_Reader_Left : Nat) : AC :=
 (.seq
 (rG 4096 [
 mC 2 (.t (.int .i64 0))])
 (.seq
 (.seq
 (rG 8192 [
 mv 3 0,
 oO 4 .nilchk [.tmp 3],
 oO 5 (.faddr 2) [.tmp 4],
 oO 6 (.load 1 false) [.tmp 5],
 bN 7 .eql 6 0,
 mv 8 7,
 mG 9 0 8,
 cG 10 8 n_wire_Reader_Left true [.tmp 9],
 oG 11 8 (.bin .gtr) [.tmp 10, .cst (.t (.int .i64 0))],
 oO 12 .pick [.tmp 8, .tmp 11, .cst (.t (.bool false))]])
 (.cond (.tmp 12)
 (.seq
 (rG 12288 [
 mC 2 (.t (.int .i64 3))])
 .ret)
 .skip))
 (.seq
 (rG 16384 [
 mv 13 0,
 oO 14 .nilchk [.tmp 13],
 oO 15 (.faddr 2) [.tmp 14],
 oO 16 (.load 1 false) [.tmp 15],
 mv 2 16])
 .ret)))
def hints_wire_Reader_End : List (Nat × List Nat) := [(1, [7])]
def ac_draw_Mod : AC :=
 (.seq
 (rG 4096 [
 mC 4 (.t (.int .i64 0))])
 (.seq
 (.seq
 (rG 8192 [
 mv 6 1,
 bN 7 .lss 6 1])
 (.cond (.tmp 7)
 (.seq
 (rG 12288 [
 mC 4 (.t (.int .i64 0))])
 .ret)
 .skip))
 (.seq
 (rG 16384 [
 mv 8 0,
 mv 9 1,
 bT 10 .rem 8 9,
 mv 5 10])
 (.seq
 (.seq
 (rG 20480 [
 mv 11 5,
 bN 12 .lss 11 0])
 (.cond (.tmp 12)
 (rG 24576 [
 mv 13 5,
 mv 14 1,
 bT 15 .add 13 14,
 mv 5 15])
 .skip))
 (.seq
 (rG 28672 [
 mv 16 5,
 mv 4 16])
 .ret)))))
def hints_draw_Mod : List (Nat × List Nat) := []
end Go.Eng
end
section
set_option maxRecDepth 20000
set_option maxHeartbeats 8000000
namespace Go.Eng
def m64 (n : Int) : Nat := (n % 18446744073709551616).toNat
def beI (size : Nat) (n : Int) (k : Nat) : List UInt8 := (List.range k).map fun i => UInt8.ofNat (m64 n / 2 ^ (8 * (size - 1 - i)))
theorem beI_zero {size : Nat} {n : Int} : beI size n 0 = [] := rfl
theorem beI_length {size : Nat} {n : Int} {k : Nat} : (beI size n k).length = k := by simp [beI]
theorem beI_succ {size : Nat} {n : Int} {k : Nat} : beI size n (k + 1) = beI size n k ++ [UInt8.ofNat (m64 n / 2 ^ (8 * (size - 1 - k)))] := by simp [beI, List.range_succ]
theorem m64_wrap {n : Int} : IntKind.u64.wrap n = (m64 n : Int) := by rw [wrap_u64, m64]; omega
theorem w_wire_Uint (tab : Tab) (gl : Gl) (b : List UInt8) (size : Nat) (n : Int) (hb : b.length < 1000000000) (hs : 1 ≤ size ∧ size ≤ 8) : ac_wire_Uint.wp tab gl (zipF 0 [.t (.sl (b.map byteT)), .t (.int .i64 size), .t (.int .i64 n)]) (zipF 0 []) (resF [] [(6, none)] 0 (fun r o => r = .sl 0 0 (b.length + size) ∧ o = [.live 1 (((b ++ beI size n size).map byteT).map V.t) true false])) := by
  have hw := m64_wrap (n := n)
  simp (disch := omega) only [go_sem, ↓reduceIte, Nat.reduceAdd, Nat.reduceEqDiff, reduceCtorEq, ac_wire_Uint]
  refine loop_upto size (fun k => [(2, .t (.int .i64 n)), (7, .sl 8208 0 (b.length + k)), (8, .t (.int .i64 ((size : Int) - 1 - k)))]) (fun k => [(8208, .live 1 (((b ++ beI size n k).map byteT).map V.t) true false)]) ?_ (fun k hk => ?_)
  · refine Weak.rd id ?_ ?_ rfl
    all_goals simp (disch := omega) only [go_sem, ↓reduceIte, Nat.reduceAdd, Nat.reduceEqDiff, reduceCtorEq, id, beI_zero, List.append_nil]
    all_goals omega
  · have hl : (beI size n k).length = k := beI_length
    by_cases hlt : k < size
    · simp (disch := omega) only [go_sem, ↓reduceIte, Nat.reduceAdd, Nat.reduceEqDiff, Nat.reduceLT, Nat.reduceLeDiff, ac_wire_Uint_L0, hl, hw]
      refine ⟨hlt, Weak.rd (fun _ => 32912) ?_ ?_ rfl⟩
      all_goals simp (disch := omega) only [go_sem, ↓reduceIte, Nat.reduceAdd, Nat.reduceEqDiff, beI_succ, List.append_assoc, Nat.add_assoc]
      all_goals first | omega | rfl
    · have e : k = size := by omega
      subst e
      simp (disch := omega) only [go_sem, ↓reduceIte, Nat.reduceAdd, Nat.reduceEqDiff, ac_wire_Uint_L0, hl]
abbrev Rd := List UInt8 × Nat × Int
def rdT (s : Rd) : T := .agg [bsT s.1, .int .i64 (s.2.1 : Int), .int .i64 s.2.2]
def rdOb (s : Rd) : Ob := .live 3 [.t (rdT s)] true true
def rdOk (s : Rd) : Prop := s.2.1 ≤ s.1.length ∧ s.1.length < 1000000000
theorem w_wire_New (tab : Tab) (gl : Gl) (b : List UInt8) (hb : b.length < 1000000000) : ac_wire_New.wp tab gl (zipF 0 [.t (.sl (b.map byteT))]) (zipF 0 []) (resF [8208] [(2, none)] 0 (fun r o => r = .ref 0 0 0 ∧ o = [rdOb (b, 0, 0)])) := by
  simp (disch := omega) only [go_sem, ↓reduceIte, Nat.reduceAdd, Nat.reduceEqDiff, Nat.reduceLeDiff, reduceCtorEq, ac_wire_New]
  rfl
theorem w_wire_take (tab : Tab) (gl : Gl) (s : Rd) (hs : rdOk s) (p n : Nat) (h : p + n ≤ s.1.length) : ac_wire_Reader_take.wp tab gl (zipF 0 [.ref 0 0 0, .t (.int .i64 p), .t (.int .i64 n)]) (zipF 0 [rdOb s]) (resW [(6, none), (7, none)] 1 (fun r o => r = .tup [.t (.sl (((s.1.drop p).take n).map byteT)), .t (.int .i64 0)] ∧ o = [rdOb s])) := by
  obtain ⟨b, at_, e⟩ := s
  simp only [rdOk] at hs h ⊢
  simp (disch := omega) only [go_sem, ↓reduceIte, Nat.reduceAdd, Nat.reduceEqDiff, Nat.reduceLeDiff, reduceCtorEq, ac_wire_Reader_take, rdOb, rdT]
theorem w_wire_fail (tab : Tab) (gl : Gl) (s : Rd) (hs : rdOk s) (n : Int) : ac_wire_Reader_fail.wp tab gl (zipF 0 [.ref 0 0 0, .t (.int .i64 n)]) (zipF 0 [rdOb s]) (resW [] 1 (fun r o => r = .tup [] ∧ o = [rdOb (s.1, s.2.1, n)])) := by
  obtain ⟨b, at_, e⟩ := s
  simp (disch := omega) only [go_sem, ↓reduceIte, Nat.reduceAdd, Nat.reduceEqDiff, Nat.reduceLeDiff, reduceCtorEq, ac_wire_Reader_fail, rdOb, rdT]
end Go.Eng
end
section
set_option maxRecDepth 20000
set_option maxHeartbeats 8000000
namespace Go.Eng
theorem rdOb_eq {b : List UInt8} {a : Nat} {e : Int} : rdOb (b, a, e) = .live 3 [.t (.agg [.sl (b.map byteT), .int .i64 (a : Int), .int .i64 e])] true true := rfl
theorem rdOb_inj {s t : Rd} (h : rdOb s = rdOb t) : s = t := by
  obtain ⟨b, a, e⟩ := s
  obtain ⟨b', a', e'⟩ := t
  simp only [rdOb_eq, Ob.live.injEq, List.cons.injEq, V.t.injEq, T.agg.injEq, T.sl.injEq, T.int.injEq, mapB_inj, Int.natCast_inj] at h
  simp only [Prod.mk.injEq]
  exact ⟨h.2.1.1.1, h.2.1.1.2.1.2, h.2.1.1.2.2.1.2⟩
def ct_take : Ct where
  α := Rd × Nat × Nat
  as x := [.ref 0 0 0, .t (.int .i64 x.2.1), .t (.int .i64 x.2.2)]
  ins x := [rdOb x.1]
  pre x := rdOk x.1 ∧ x.2.1 ≤ x.1.1.length ∧ x.2.2 ≤ 1000000000
  r x := if x.2.1 + x.2.2 ≤ x.1.1.length then .tup [.t (.sl (((x.1.1.drop x.2.1).take x.2.2).map byteT)), .t (.int .i64 0)] else .tup [.t (.sl []), .t (.int .i64 2)]
  outs x := [rdOb x.1]
  inj := by
    rintro ⟨s, a, b⟩ ⟨t, c, d⟩ h1 h2
    simp [Int.natCast_inj] at h1
    simp only [List.cons.injEq, and_true] at h2
    obtain ⟨rfl, rfl⟩ := h1
    cases rdOb_inj h2
    exact ⟨rfl, rfl⟩
theorem take_ok {b : List UInt8} {a p n : Nat} {e : Int} (h : a ≤ b.length ∧ b.length < 1000000000 ∧ p + n ≤ b.length) : ct_take.fs [.ref 0 0 0, .t (.int .i64 p), .t (.int .i64 n)] [.live 3 [.t (.agg [.sl (b.map byteT), .int .i64 (a : Int), .int .i64 e])] true true] =
    some (.tup [.t (.sl (((b.drop p).take n).map byteT)), .t (.int .i64 0)], [.live 3 [.t (.agg [.sl (b.map byteT), .int .i64 (a : Int), .int .i64 e])] true true]) := by
  refine (ct_take.eq ((b, a, e), p, n) ⟨⟨h.1, h.2.1⟩, ?_, ?_⟩).trans ?_
  · simp only; omega
  · simp only; omega
  · simp only [ct_take, if_pos h.2.2, rdOb_eq]
theorem take_no {b : List UInt8} {a p n : Nat} {e : Int} (h : a ≤ b.length ∧ b.length < 1000000000 ∧ p ≤ b.length ∧ n ≤ 1000000000 ∧ b.length < p + n) : ct_take.fs [.ref 0 0 0, .t (.int .i64 p), .t (.int .i64 n)] [.live 3 [.t (.agg [.sl (b.map byteT), .int .i64 (a : Int), .int .i64 e])] true true] =
    some (.tup [.t (.sl []), .t (.int .i64 2)], [.live 3 [.t (.agg [.sl (b.map byteT), .int .i64 (a : Int), .int .i64 e])] true true]) := by
  refine (ct_take.eq ((b, a, e), p, n) ⟨⟨h.1, h.2.1⟩, h.2.2.1, h.2.2.2.1⟩).trans ?_
  simp only [ct_take, rdOb_eq]
  rw [if_neg (by omega)]
def ct_fail : Ct where
  α := Rd × Int
  as x := [.ref 0 0 0, .t (.int .i64 x.2)]
  ins x := [rdOb x.1]
  pre x := rdOk x.1
  r x := .tup []
  outs x := [rdOb (x.1.1, x.1.2.1, x.2)]
  inj := by
    rintro ⟨s, a⟩ ⟨t, c⟩ h1 h2
    simp at h1
    simp only [List.cons.injEq, and_true] at h2
    subst h1
    cases rdOb_inj h2
    exact ⟨rfl, rfl⟩
theorem fail_eq {b : List UInt8} {a : Nat} {e n : Int} (h : a ≤ b.length ∧ b.length < 1000000000) : ct_fail.fs [.ref 0 0 0, .t (.int .i64 n)] [.live 3 [.t (.agg [.sl (b.map byteT), .int .i64 (a : Int), .int .i64 e])] true true] =
    some (.tup [], [.live 3 [.t (.agg [.sl (b.map byteT), .int .i64 (a : Int), .int .i64 n])] true true]) := ct_fail.eq ((b, a, e), n) h
def beV (bs : List UInt8) : Nat := bs.foldl (fun n x => 256 * n + x.toNat) 0
theorem beV_take {bs : List UInt8} {k : Nat} (h : k < bs.length) : beV (bs.take (k + 1)) = 256 * beV (bs.take k) + (bs.getD k 0).toNat := by
  rw [take_s (d := 0) h]; simp [beV]
theorem beV_lt {bs : List UInt8} : beV bs < 256 ^ bs.length := by
  have : ∀ (bs : List UInt8) (n : Nat), bs.foldl (fun n x => 256 * n + x.toNat) n < 256 ^ bs.length * (n + 1) := by
    intro bs
    induction bs with
    | nil => intro n; simp
    | cons x r ih =>
      intro n
      simp only [List.foldl_cons, List.length_cons]
      have h1 := ih (256 * n + x.toNat)
      have h2 := x.toNat_lt
      have h3 : 256 ^ r.length * (256 * n + x.toNat + 1) ≤ 256 ^ r.length * (256 * (n + 1)) := Nat.mul_le_mul_left _ (by omega)
      rw [Nat.pow_succ, Nat.mul_assoc]
      omega
  have := this bs 0
  simpa [beV] using this
theorem beV_lt7 {bs : List UInt8} (h : bs.length ≤ 7) : beV bs < 72057594037927936 := by
  have h1 := beV_lt (bs := bs)
  have h2 : 256 ^ bs.length ≤ 256 ^ 7 := Nat.pow_le_pow_right (by omega) h
  omega
theorem beV_lt8 {bs : List UInt8} (h : bs.length ≤ 8) : beV bs < 18446744073709551616 := by
  have h1 := beV_lt (bs := bs)
  have h2 : 256 ^ bs.length ≤ 256 ^ 8 := Nat.pow_le_pow_right (by omega) h
  omega
def rdUint (s : Rd) (k : Nat) : Int × Rd :=
  if s.2.2 ≠ 0 then (0, s) else if s.1.length < s.2.1 + k then (0, (s.1, s.2.1, 2))
  else if 9223372036854775808 ≤ beV ((s.1.drop s.2.1).take k) then (0, (s.1, s.2.1, 4)) else (beV ((s.1.drop s.2.1).take k), (s.1, s.2.1 + k, 0))
def rdEnd (s : Rd) : Int := if s.2.2 = 0 ∧ s.2.1 < s.1.length then 3 else s.2.2
theorem w_wire_Reader_Uint (tab : Tab) (gl : Gl) (n1 n2 : Nat) (h1 : tab.look n1 = some ct_fail.fs) (h2 : tab.look n2 = some ct_take.fs) (s : Rd) (hs : rdOk s) (k : Nat) (hk : 1 ≤ k ∧ k ≤ 8) :
    (ac_wire_Reader_Uint n1 n2).wp tab gl (zipF 0 [.ref 0 0 0, .t (.int .i64 k)]) (zipF 0 [rdOb s]) (resW [(4, none)] 1 (fun r o => r = .t (.int .i64 (rdUint s k).1) ∧ o = [rdOb (rdUint s k).2])) := by
  obtain ⟨b, a, e⟩ := s
  have ha : a ≤ b.length ∧ b.length < 1000000000 := hs
  by_cases he : e = 0
  · subst he
    by_cases hl : b.length < a + k
    · simp (disch := omega) only [go_sem, ↓reduceIte, Nat.reduceAdd, Nat.reduceEqDiff, Nat.reduceSub, Nat.reduceLeDiff, reduceCtorEq, ac_wire_Reader_Uint, rdOb_eq, h1, h2, take_no, fail_eq, rdUint, ne_eq, hl]
    · have hc : (List.take k (List.drop a b)).length = k := by simp only [List.length_take, List.length_drop]; omega
      simp (disch := omega) only [go_sem, ↓reduceIte, Nat.reduceAdd, Nat.reduceEqDiff, Nat.reduceSub, Nat.reduceLeDiff, reduceCtorEq, ac_wire_Reader_Uint, rdOb_eq, h1, h2, take_ok]
      generalize hC : List.take k (List.drop a b) = c at hc ⊢
      refine loop_upto k (fun i => [(40, .t (.int .i64 i)), (39, .t (.int .i64 k)), (38, .t (.sl (c.map byteT))), (7, .t (.int .u64 (beV (c.take i)))), (0, .ref 0 0 0), (1, .t (.int .i64 k))])
        (fun _ => [(0, .live 3 [.t (.agg [.sl (b.map byteT), .int .i64 (a : Int), .int .i64 0])] true true)]) ?_ (fun i hi => ?_)
      · refine Weak.rd id ?_ ?_ rfl
        all_goals simp (disch := omega) only [go_sem, ↓reduceIte, Nat.reduceEqDiff, reduceCtorEq, id, beV, List.foldl_nil]
      · by_cases hlt : i < k
        · have hb : beV (c.take i) < 72057594037927936 := beV_lt7 (by rw [List.length_take]; omega)
          have ht := beV_take (bs := c) (k := i) (by omega)
          simp (disch := omega) only [go_sem, ↓reduceIte, Nat.reduceAdd, Nat.reduceEqDiff, Nat.reduceLeDiff, ac_wire_Reader_Uint_L0, hc]
          refine ⟨hlt, Weak.rd id ?_ ?_ rfl⟩
          all_goals simp (disch := omega) only [go_sem, ↓reduceIte, Nat.reduceEqDiff, reduceCtorEq, id, ht]
        · have e : i = k := by omega
          subst e
          have ht : List.take i c = c := List.take_of_length_le (by omega)
          have hb8 : beV c < 18446744073709551616 := beV_lt8 (by omega)
          by_cases hbig : 9223372036854775808 ≤ beV c
          · simp (disch := omega) only [go_sem, ↓reduceIte, Nat.reduceAdd, Nat.reduceEqDiff, Nat.reduceSub, Nat.reduceLeDiff, reduceCtorEq, ac_wire_Reader_Uint_L0, hc, ht, h1, fail_eq, rdUint, rdOb_eq, hl, hbig, ne_eq, hC]
          · simp (disch := omega) only [go_sem, ↓reduceIte, Nat.reduceAdd, Nat.reduceEqDiff, Nat.reduceLeDiff, reduceCtorEq, ac_wire_Reader_Uint_L0, hc, ht, rdUint, rdOb_eq, hl, hbig, ne_eq, hC]
  · simp (disch := omega) only [go_sem, ↓reduceIte, Nat.reduceAdd, Nat.reduceLeDiff, reduceCtorEq, ac_wire_Reader_Uint, rdOb_eq, rdUint, ne_eq, he]
end Go.Eng
end
section
set_option maxRecDepth 20000
set_option maxHeartbeats 8000000
namespace Go.Eng
theorem w_wire_Reader_Left (tab : Tab) (gl : Gl) (s : Rd) (hs : rdOk s) : ac_wire_Reader_Left.wp tab gl (zipF 0 [.ref 0 0 0]) (zipF 0 [rdOb s]) (resW [(2, none)] 1 (fun r o => r = .t (.int .i64 (s.1.length - s.2.1 : Nat)) ∧ o = [rdOb s])) := by
  obtain ⟨b, a, e⟩ := s
  have ha : a ≤ b.length ∧ b.length < 1000000000 := hs
  simp (disch := omega) only [go_sem, ↓reduceIte, Nat.reduceAdd, Nat.reduceEqDiff, Nat.reduceLeDiff, reduceCtorEq, ac_wire_Reader_Left, rdOb_eq]
  repeat refine And.intro rfl ?_
  all_goals trivial
def ct_left : Ct where
  α := Rd
  as _ := [.ref 0 0 0]
  ins x := [rdOb x]
  pre x := rdOk x
  r x := .t (.int .i64 (x.1.length - x.2.1 : Nat))
  outs x := [rdOb x]
  inj := by
    intro s t _ h2
    simp only [List.cons.injEq, and_true] at h2
    cases rdOb_inj h2
    exact ⟨rfl, rfl⟩
theorem left_eq {b : List UInt8} {a : Nat} {e : Int} (h : a ≤ b.length ∧ b.length < 1000000000) : ct_left.fs [.ref 0 0 0] [.live 3 [.t (.agg [.sl (b.map byteT), .int .i64 (a : Int), .int .i64 e])] true true] =
    some (.t (.int .i64 (b.length - a : Nat)), [.live 3 [.t (.agg [.sl (b.map byteT), .int .i64 (a : Int), .int .i64 e])] true true]) := ct_left.eq (b, a, e) h
theorem w_wire_Reader_End (tab : Tab) (gl : Gl) (n1 : Nat) (h1 : tab.look n1 = some ct_left.fs) (s : Rd) (hs : rdOk s) : (ac_wire_Reader_End n1).wp tab gl (zipF 0 [.ref 0 0 0]) (zipF 0 [rdOb s]) (resW [(2, none)] 1 (fun r o => r = .t (.int .i64 (rdEnd s)) ∧ o = [rdOb s])) := by
  obtain ⟨b, a, e⟩ := s
  have ha : a ≤ b.length ∧ b.length < 1000000000 := hs
  by_cases he : e = 0
  · subst he
    by_cases hl : a < b.length
    · simp (disch := omega) only [go_sem, ↓reduceIte, Nat.reduceAdd, Nat.reduceEqDiff, Nat.reduceSub, Nat.reduceLeDiff, reduceCtorEq, ac_wire_Reader_End, rdOb_eq, h1, left_eq, rdEnd, hl]
      repeat refine And.intro rfl ?_
      all_goals trivial
    · simp (disch := omega) only [go_sem, ↓reduceIte, Nat.reduceAdd, Nat.reduceEqDiff, Nat.reduceSub, Nat.reduceLeDiff, reduceCtorEq, ac_wire_Reader_End, rdOb_eq, h1, left_eq, rdEnd, hl]
      repeat refine And.intro rfl ?_
      all_goals trivial
  · simp (disch := omega) only [go_sem, ↓reduceIte, Nat.reduceAdd, Nat.reduceEqDiff, Nat.reduceLeDiff, reduceCtorEq, ac_wire_Reader_End, rdOb_eq, rdEnd, he]
    repeat refine And.intro rfl ?_
    all_goals trivial
def modI (n m : Int) : Int := if m < 1 then 0 else n % m
theorem w_draw_Mod (tab : Tab) (gl : Gl) (n m : Int) (hn : -9223372036854775808 ≤ n ∧ n < 9223372036854775808) (hm : -9223372036854775808 ≤ m ∧ m < 9223372036854775808) : ac_draw_Mod.wp tab gl (zipF 0 [.t (.int .i64 n), .t (.int .i64 m)]) (zipF 0 []) (resW [(4, none)] 0 (fun r o => r = .t (.int .i64 (modI n m)) ∧ o = [])) := by
  by_cases h1 : m < 1
  · simp (disch := omega) only [go_sem, ↓reduceIte, Nat.reduceAdd, Nat.reduceEqDiff, reduceCtorEq, ac_draw_Mod, modI, h1]
  · have ht : n.tmod m = n % m ∨ n.tmod m = n % m - m := by
      rcases Int.lt_or_le n 0 with h | h
      · by_cases hz : n % m = 0
        · left
          rw [Int.tmod_eq_emod]; simp [hz, Int.dvd_of_emod_eq_zero hz]
        · right
          rw [Int.tmod_eq_emod]
          have : ¬ m ∣ n := fun hd => hz (Int.emod_eq_zero_of_dvd hd)
          rw [if_neg (by omega)]; omega
      · left; exact Int.tmod_eq_emod_of_nonneg h
    have p1 := Int.emod_nonneg n (b := m) (by omega)
    have p2 := Int.emod_lt_of_pos n (b := m) (by omega)
    rcases ht with ht | ht
    · simp (disch := omega) only [go_sem, ↓reduceIte, Nat.reduceAdd, Nat.reduceEqDiff, reduceCtorEq, ac_draw_Mod, modI, h1, ht]
    · simp (disch := omega) only [go_sem, ↓reduceIte, Nat.reduceAdd, Nat.reduceEqDiff, reduceCtorEq, ac_draw_Mod, modI, h1, ht]
      omega
end Go.Eng
end
section
set_option maxRecDepth 20000
set_option maxHeartbeats 8000000
namespace Go.Eng
abbrev Bank := List (List UInt8)
def bankT (b : Bank) : T := .sl (b.map bsT)
def regT (bk : List Bank) (u : Int) : T := .agg [.sl (bk.map bankT), .int .i64 u]
theorem bankT_def {b : Bank} : bankT b = .sl (b.map bsT) := Eq.trans (Eq.refl _) rfl
theorem regT_def {bk : List Bank} {u : Int} : regT bk u = .agg [.sl (bk.map bankT), .int .i64 u] := Eq.trans (Eq.refl _) rfl
attribute [go_sem] bankT_def regT_def
def bkOk (b : Bank) : Prop := b.length = 0 ∨ b.length = 16
inductive RK : List Bank → Prop
  | nil : RK []
  | two (b0 b1 : Bank) (h0 : bkOk b0) (h1 : bkOk b1) : RK [b0, b1]
def onB (bk : List Bank) (a : Nat) : Bool := decide ((bk.getD a []).length = 16)
def leastI (i : Int) (reset : Bool) : Int := if reset = true ∧ i < 12 then 5 else if i = 14 then (if reset then 3 else 2) else if i = 15 then (if reset then 4 else 3) else 0
def actB (bk : List Bank) (a : Nat) : Bool := decide (a < bk.length) && decide (0 < (bk.getD a []).length)
end Go.Eng
end
section
set_option maxRecDepth 20000
set_option maxHeartbeats 8000000
namespace Go.Eng
def RM (bk : List Bank) : Prop := RK bk ∧ ∀ b ∈ bk, modL b
end Go.Eng
end
section
set_option maxRecDepth 20000
set_option maxHeartbeats 16000000
namespace Go.Eng
def newV (i : Nat) : UInt8 := if 12 ≤ i then 255 else 0
def newB (a : Nat) : Bank := (List.range 16).map fun i => List.replicate (szA a) (newV i)
def newBk (s : Int) : List Bank := if s % 4 = 0 then [] else [if s % 2 = 1 then newB 0 else [], if s / 2 % 2 = 1 then newB 1 else []]
def ct_size : Ct where
  α := Int
  as x := [.t (.int .i64 x)]
  ins _ := []
  pre _ := True
  r x := .t (.int .i64 (if x = 0 then 20 else if x = 1 then 32 else 0))
  outs _ := []
  inj := by
    intro a b h _
    simp at h
    subst h; exact ⟨rfl, rfl⟩
theorem size_eq0 : ct_size.fs [.t (.int .i64 0)] [] = some (.t (.int .i64 20), []) := ct_size.eq (0 : Int) trivial
theorem size_eq1 : ct_size.fs [.t (.int .i64 1)] [] = some (.t (.int .i64 32), []) := ct_size.eq (1 : Int) trivial
end Go.Eng
end
section
set_option maxRecDepth 20000
set_option maxHeartbeats 16000000
namespace Go.Eng
theorem RK.on {bk : List Bank} (h : RK bk) (a : Nat) : actB bk a = onB bk a := by
  cases h with
  | nil => simp [actB, onB]
  | two b0 b1 h0 h1 =>
    have key : ∀ b : Bank, bkOk b → decide (0 < List.length b) = decide (List.length b = 16) := by
      intro b hb
      rcases hb with h | h <;> simp [h]
    match a with
    | 0 => simpa [actB, onB] using key b0 h0
    | 1 => simpa [actB, onB] using key b1 h1
    | a + 2 => simp [actB, onB]
def valL (bk : List Bank) (a i : Nat) : List UInt8 := (bk.getD a []).getD i []
def badR (bank i : Int) : Prop := bank < 0 ∨ 2 ≤ bank ∨ i < 0 ∨ 16 ≤ i
instance (bank i : Int) : Decidable (badR bank i) := by unfold badR; infer_instance
theorem RM.val {bk : List Bank} (h : RM bk) (a i : Nat) : (valL bk a i).length < 1000000000 := by
  by_cases ha : a < bk.length
  · have e : bk.getD a [] = bk[a] := by simp [List.getD, ha]
    unfold valL
    rw [e]
    exact modL_get (h.2 _ (List.getElem_mem ha)) i
  · have e : bk.getD a [] = [] := by simp [List.getD, List.getElem?_eq_none (Nat.le_of_not_lt ha)]
    unfold valL
    rw [e]; simp
theorem RK.len {bk : List Bank} (h : RK bk) {a : Nat} (ho : onB bk a = true) : a < bk.length := by
  simp only [onB, decide_eq_true_eq] at ho
  rcases Nat.lt_or_ge a bk.length with h1 | h1
  · exact h1
  · rw [List.getD, List.getElem?_eq_none h1] at ho; simp at ho
end Go.Eng
end
section
set_option maxRecDepth 20000
set_option maxHeartbeats 64000000
namespace Go.Eng
def extE (l0 l1 : Nat) (loc i : Int) (nd k0 k1 : Nat) : Int :=
  if loc < 0 ∨ 4 < loc ∨ i < 0 ∨ 16 ≤ i ∨ nd ≠ 2 then 1 else if loc < leastI i false then 13
  else if (l0 ≠ 16 ∧ 0 < k0) ∨ (l1 ≠ 16 ∧ 0 < k1) then 27 else if (l0 = 16 ∧ k0 ≠ 20) ∨ (l1 = 16 ∧ k1 ≠ 32) then 24 else 0
def ext1 (a : Nat) (b : Bank) (i : Nat) (d : List UInt8) : Bank := if List.length b = 16 then b.set i (sumA a (b.getD i [] ++ d)) else b
theorem ext1_length {a : Nat} {b : Bank} {i : Nat} {d : List UInt8} : List.length (ext1 a b i d) = List.length b := by
  unfold ext1; split <;> simp
def extBk (bk : List Bank) (i : Nat) (ds : List (List UInt8)) : List Bank := match bk with
  | [b0, b1] => [ext1 0 b0 i (ds.getD 0 []), ext1 1 b1 i (ds.getD 1 [])]
  | bk => bk
def extEr (bk : List Bank) (loc i : Int) (ds : List (List UInt8)) : Int := extE (bk.getD 0 []).length (bk.getD 1 []).length loc i ds.length (ds.getD 0 []).length (ds.getD 1 []).length
theorem sumA0 {x : List UInt8} : sumA 0 x = sum1 x := rfl
theorem sumA1 {x : List UInt8} : sumA 1 x = sum256 x := rfl
theorem take_sum1 {x : List UInt8} : List.take 20 (sum1 x) = sum1 x := List.take_of_length_le (by rw [sum1_length]; exact Nat.le_refl _)
theorem take_sum256 {x : List UInt8} : List.take 32 (sum256 x) = sum256 x := List.take_of_length_le (by rw [sum256_length]; exact Nat.le_refl _)
end Go.Eng
end
section
set_option maxRecDepth 20000
set_option maxHeartbeats 64000000
namespace Go.Eng
def RV (bk : List Bank) : Prop := RK bk ∧ ∀ b ∈ bk, ∀ x ∈ b, x.length ≤ 64
theorem RV.rm {bk : List Bank} (h : RV bk) : RM bk := by
  refine ⟨h.1, fun b hb => ⟨?_, fun x hx => Nat.lt_of_le_of_lt (h.2 b hb x hx) (by omega)⟩⟩
  have : bkOk b := by
    obtain ⟨hk, _⟩ := h
    cases hk with
    | nil => simp at hb
    | two b0 b1 h0 h1 =>
      simp only [List.mem_cons, List.not_mem_nil, or_false] at hb
      rcases hb with rfl | rfl
      · exact h0
      · exact h1
  rcases this with h | h <;> omega
end Go.Eng
end
section
set_option maxRecDepth 20000
set_option maxHeartbeats 64000000
namespace Go.Eng
def ct_lists : Ct where
  α := List (List UInt8) × List (List UInt8)
  as x := [.t (.sl (x.1.map bsT)), .t (.sl (x.2.map bsT))]
  ins _ := []
  pre x := modL x.1 ∧ modL x.2
  r x := .t (.bool (decide (x.1 = x.2)))
  outs _ := []
  inj := by
    rintro ⟨a, b⟩ ⟨c, d⟩ h _
    simp [mapBs_inj] at h
    obtain ⟨rfl, rfl⟩ := h
    exact ⟨rfl, rfl⟩
theorem RM.bank {bk : List Bank} (h : RM bk) (a : Nat) : modL (bk.getD a []) := by
  by_cases ha : a < bk.length
  · have e : bk.getD a [] = bk[a] := by simp [List.getD, ha]
    rw [e]; exact h.2 _ (List.getElem_mem ha)
  · have e : bk.getD a [] = [] := by simp [List.getD, List.getElem?_eq_none (Nat.le_of_not_lt ha)]
    rw [e]; exact ⟨by simp, by simp⟩
end Go.Eng
end
section
set_option maxRecDepth 20000
set_option maxHeartbeats 64000000
namespace Go.Eng
def ct_awake : Ct where
  α := Unit
  as _ := []
  ins _ := []
  pre _ := True
  r _ := .t (.bool true)
  outs _ := []
  inj := by rintro a b h _; exact ⟨rfl, rfl⟩
theorem awake_eq : ct_awake.fs [] [] = some (.t (.bool true), []) := ct_awake.eq () trivial
end Go.Eng
end
section
set_option maxRecDepth 20000
namespace Go.Eng
theorem wc_digest_compress1 (tab : Tab) (gl : Gl) (n1 n2 : Nat) (h1 : tab.look n1 = some ct_word.fs) (h2 : tab.look n2 = some ct_rotl.fs) (x : (ct_comp 5 comp1).α) (hx : (ct_comp 5 comp1).pre x) :
    (ac_digest_compress1 n1 n2).wp tab gl (zipF 0 ((ct_comp 5 comp1).as x)) (zipF 0 ((ct_comp 5 comp1).ins x)) (resW [] ((ct_comp 5 comp1).ins x).length (fun r o => r = (ct_comp 5 comp1).r x ∧ o = (ct_comp 5 comp1).outs x)) := by
  obtain ⟨hs, bs⟩ := x
  obtain ⟨hb, hh⟩ := hx
  match hs, hh with
  | [x0, x1, x2, x3, x4], _ => exact w_digest_compress1 tab gl n1 n2 h1 h2 bs x0 x1 x2 x3 x4 hb
end Go.Eng
end
section
set_option maxRecDepth 20000
set_option maxHeartbeats 16000000
namespace Go.Eng
def stN (x : List UInt8) (b : Bank) : Nat → Bank
  | 0 => b
  | k + 1 => (stN x b k).set (12 + k) x
theorem stN_length {x : List UInt8} {b : Bank} {k : Nat} : List.length (stN x b k) = List.length b := by
  induction k with
  | zero => rfl
  | succ k ih => simp only [stN, List.length_set, ih]
def resBk (bk : List Bank) : List Bank := match bk with
  | [b0, b1] => [stN (List.replicate 20 255) b0 4, stN (List.replicate 32 255) b1 4]
  | bk => bk
end Go.Eng
end
section
set_option maxRecDepth 20000
set_option maxHeartbeats 16000000
namespace Go.Eng
theorem RV.of2 {b0 b1 : Bank} (h0 : bkOk b0) (h1 : bkOk b1) (m0 : ∀ x ∈ b0, x.length ≤ 64) (m1 : ∀ x ∈ b1, x.length ≤ 64) : RV [b0, b1] := by
  refine ⟨.two _ _ h0 h1, fun b hb => ?_⟩
  simp only [List.mem_cons, List.not_mem_nil, or_false] at hb
  rcases hb with rfl | rfl
  · exact m0
  · exact m1
theorem bkOk_len {b c : Bank} (h : bkOk b) (hl : List.length c = List.length b) : bkOk c := by
  rcases h with h | h
  · exact .inl (by rw [hl, h])
  · exact .inr (by rw [hl, h])
theorem set_le {b : Bank} {i : Nat} {y : List UInt8} (h : ∀ x ∈ b, x.length ≤ 64) (hy : y.length ≤ 64) : ∀ x ∈ b.set i y, x.length ≤ 64 := by
  intro x hx
  rcases List.mem_or_eq_of_mem_set hx with h1 | rfl
  · exact h x h1
  · exact hy
theorem RV.cases {bk : List Bank} (h : RV bk) : bk = [] ∨ ∃ b0 b1, bk = [b0, b1] ∧ bkOk b0 ∧ bkOk b1 ∧ (∀ x ∈ b0, x.length ≤ 64) ∧ (∀ x ∈ b1, x.length ≤ 64) := by
  obtain ⟨hk, hm⟩ := h
  cases hk with
  | nil => exact .inl rfl
  | two b0 b1 h0 h1 => exact .inr ⟨b0, b1, rfl, h0, h1, hm b0 (.head _), hm b1 (.tail _ (.head _))⟩
theorem ext1_le {a : Nat} (ha : a < 2) {b : Bank} {i : Nat} {d : List UInt8} (h : ∀ x ∈ b, x.length ≤ 64) : ∀ x ∈ ext1 a b i d, x.length ≤ 64 := by
  unfold ext1
  split
  · refine set_le h ?_
    have : a = 0 ∨ a = 1 := by omega
    rcases this with rfl | rfl
    · rw [sumA0, sum1_length]; omega
    · rw [sumA1, sum256_length]; omega
  · exact h
theorem stN_le {y : List UInt8} {b : Bank} (hy : y.length ≤ 64) (h : ∀ x ∈ b, x.length ≤ 64) : ∀ k, ∀ x ∈ stN y b k, x.length ≤ 64
  | 0 => h
  | k + 1 => set_le (stN_le hy h k) hy
theorem RV.ext {bk : List Bank} (h : RV bk) (i : Nat) (ds : List (List UInt8)) : RV (extBk bk i ds) := by
  rcases h.cases with rfl | ⟨b0, b1, rfl, h0, h1, m0, m1⟩
  · exact h
  · exact .of2 (bkOk_len h0 ext1_length) (bkOk_len h1 ext1_length) (ext1_le (by omega) m0) (ext1_le (by omega) m1)
theorem RV.res {bk : List Bank} (h : RV bk) : RV (resBk bk) := by
  rcases h.cases with rfl | ⟨b0, b1, rfl, h0, h1, m0, m1⟩
  · exact h
  · exact .of2 (bkOk_len h0 stN_length) (bkOk_len h1 stN_length) (stN_le (by rw [List.length_replicate]; omega) m0 4) (stN_le (by rw [List.length_replicate]; omega) m1 4)
end Go.Eng
end
section
set_option maxRecDepth 20000
set_option maxHeartbeats 64000000
namespace Go.Eng
def extP (x : List Bank × Int) (l i : Int) (ds : List (List UInt8)) : List Bank × Int := if extEr x.1 l i ds = 0 then (extBk x.1 i.toNat ds, x.2 + 1) else x
def Ans (x : List Bank × Int) (v : V) (y : List Bank × Int) : Prop := ∃ (bk : List Bank) (u e : Int), v = .tup [.t (.agg [.sl (bk.map bankT), .int .i64 u]), .t (.int .i64 e)] ∧ ((e = 0 ∧ y = (bk, u)) ∨ (e ≠ 0 ∧ y = x))
def RS (n : Nat) (x : List Bank × Int) : Prop := RV x.1 ∧ 0 ≤ x.2 ∧ x.2 ≤ n
theorem RS.up {n m : Nat} {x : List Bank × Int} (h : RS n x) (hm : n ≤ m) : RS m x := ⟨h.1, h.2.1, by have := h.2.2; omega⟩
theorem RS.ext {n : Nat} {x : List Bank × Int} (h : RS n x) (l i : Int) (ds : List (List UInt8)) : RS (n + 1) (extP x l i ds) := by
  unfold extP
  split
  · exact ⟨h.1.ext _ _, by have := h.2.1; simp only; omega, by have := h.2.2; simp only; omega⟩
  · exact h.up (by omega)
end Go.Eng
end
section
set_option maxRecDepth 20000
set_option maxHeartbeats 64000000
namespace Go.Eng
theorem Ans.rv {x : List Bank × Int} {v : V} {y : List Bank × Int} (h : Ans x v y) (hv : ∃ bk' u' e, v = .tup [.t (regT bk' u'), .t (.int .i64 e)] ∧ RV bk' ∧ (e = 0 → u' = x.2 + 1)) : ∃ bk' u' e, v = .tup [.t (.agg [.sl (bk'.map bankT), .int .i64 u']), .t (.int .i64 e)] ∧ RM bk' := by
  obtain ⟨bk', u', e, h1, h2, _⟩ := hv
  exact ⟨bk', u', e, h1, h2.rm⟩
end Go.Eng
end
section
set_option maxRecDepth 20000
set_option maxHeartbeats 64000000
namespace Go.Eng
theorem RK.cases {bk : List Bank} (h : RK bk) : bk = [] ∨ ∃ b0 b1, bk = [b0, b1] ∧ bkOk b0 ∧ bkOk b1 := by
  cases h with
  | nil => exact .inl rfl
  | two b0 b1 h0 h1 => exact .inr ⟨b0, b1, rfl, h0, h1⟩
theorem extBk_two {b0 b1 : Bank} {i : Nat} {ds : List (List UInt8)} : extBk [b0, b1] i ds = [ext1 0 b0 i (ds.getD 0 []), ext1 1 b1 i (ds.getD 1 [])] := rfl
end Go.Eng
end
section
set_option maxRecDepth 20000
set_option maxHeartbeats 64000000
namespace Go.Eng
def ct_uint : Ct where
  α := List UInt8 × Nat × Int
  as x := [.t (.sl (x.1.map byteT)), .t (.int .i64 x.2.1), .t (.int .i64 x.2.2)]
  ins _ := []
  pre x := x.1.length < 1000000000 ∧ 1 ≤ x.2.1 ∧ x.2.1 ≤ 8
  r x := .sl 0 0 (x.1.length + x.2.1)
  outs x := [.live 1 (((x.1 ++ beI x.2.1 x.2.2 x.2.1).map byteT).map V.t) true false]
  inj := by
    rintro ⟨a, s, n⟩ ⟨c, t, m⟩ h _
    simp only [List.cons.injEq, V.t.injEq, T.sl.injEq, T.int.injEq, true_and, and_true, mapB_inj, Int.natCast_inj] at h
    obtain ⟨rfl, rfl, rfl⟩ := h
    exact ⟨rfl, rfl⟩
theorem uint2 {b : List UInt8} {n : Int} (hb : b.length < 1000000000) : ct_uint.fs [.t (.sl (b.map byteT)), .t (.int .i64 2), .t (.int .i64 n)] [] = some (.sl 0 0 (b.length + 2), [.live 1 (((b ++ beI 2 n 2).map byteT).map V.t) true false]) := ct_uint.eq (b, 2, n) ⟨hb, by show 1 ≤ 2; omega, by show 2 ≤ 8; omega⟩
theorem beI_len {s k : Nat} {n : Int} : (beI s n k).length = k := by simp [beI]
def badS (s : Int) : Prop := s < 0 ∨ 65535 < s
instance {s : Int} : Decidable (badS s) := inferInstanceAs (Decidable (_ ∨ _))
end Go.Eng
end
section
set_option maxRecDepth 20000
set_option maxHeartbeats 16000000
namespace Go.Eng
abbrev rdO (s : Rd) : Ob := .live 3 [.t (.agg [.sl (s.1.map byteT), .int .i64 (s.2.1 : Int), .int .i64 s.2.2])] true true
def ct_rnew : Ct where
  α := List UInt8
  as x := [.t (.sl (x.map byteT))]
  ins _ := []
  pre x := x.length < 1000000000
  r _ := .ref 0 0 0
  outs x := [rdOb (x, 0, 0)]
  inj := by
    intro a b h _
    simp only [List.cons.injEq, V.t.injEq, T.sl.injEq, and_true, mapB_inj] at h
    subst h; exact ⟨rfl, rfl⟩
theorem rnew_eq {b : List UInt8} (h : b.length < 1000000000) : ct_rnew.fs [.t (.sl (b.map byteT))] [] = some (.ref 0 0 0, [rdO (b, 0, 0)]) := ct_rnew.eq b h
def ct_rint : Ct where
  α := Rd × Nat
  as x := [.ref 0 0 0, .t (.int .i64 x.2)]
  ins x := [rdOb x.1]
  pre x := rdOk x.1 ∧ 1 ≤ x.2 ∧ x.2 ≤ 8
  r x := .t (.int .i64 (rdUint x.1 x.2).1)
  outs x := [rdOb (rdUint x.1 x.2).2]
  inj := by
    rintro ⟨s, a⟩ ⟨t, c⟩ h1 h2
    simp only [List.cons.injEq, V.t.injEq, T.int.injEq, true_and, and_true, Int.natCast_inj] at h1
    simp only [List.cons.injEq, and_true] at h2
    subst h1
    cases rdOb_inj h2
    exact ⟨rfl, rfl⟩
theorem rint_eq {s : Rd} {k : Nat} (h : rdOk s ∧ 1 ≤ k ∧ k ≤ 8) : ct_rint.fs [.ref 0 0 0, .t (.int .i64 k)] [rdO s] = some (.t (.int .i64 (rdUint s k).1), [rdO (rdUint s k).2]) := ct_rint.eq (s, k) h
def ct_rend : Ct where
  α := Rd
  as _ := [.ref 0 0 0]
  ins x := [rdOb x]
  pre x := rdOk x
  r x := .t (.int .i64 (rdEnd x))
  outs x := [rdOb x]
  inj := by
    intro s t _ h2
    simp only [List.cons.injEq, and_true] at h2
    cases rdOb_inj h2
    exact ⟨rfl, rfl⟩
theorem rend_eq {s : Rd} (h : rdOk s) : ct_rend.fs [.ref 0 0 0] [rdO s] = some (.t (.int .i64 (rdEnd s)), [rdO s]) := ct_rend.eq s h
theorem rdUint_ok {s : Rd} {k : Nat} (h : rdOk s) : rdOk (rdUint s k).2 := by
  unfold rdUint rdOk at *
  split
  · exact h
  · split
    · exact h
    · split
      · exact h
      · exact ⟨by simp only; omega, h.2⟩
end Go.Eng
end
section
set_option maxRecDepth 20000
set_option maxHeartbeats 64000000
namespace Go.Eng
def dcSet (s : Rd) : Int := (rdUint s 1).1
end Go.Eng
end
section
set_option maxRecDepth 20000
set_option maxHeartbeats 64000000
namespace Go.Eng
def rgBad (s : Rd) : Prop := (rdUint s 1).2.2.2 = 0 ∧ 4 ≤ dcSet s
instance {s : Rd} : Decidable (rgBad s) := inferInstanceAs (Decidable (_ ∧ _))
end Go.Eng
end
section
set_option maxRecDepth 20000
set_option maxHeartbeats 64000000
namespace Go.Eng
def RZ (bk : List Bank) : Prop := ∀ a, a < 2 → ∀ x ∈ bk.getD a [], x.length = szA a
theorem set_z {b : Bank} {i z : Nat} {y : List UInt8} (h : ∀ x ∈ b, x.length = z) (hy : y.length = z) : ∀ x ∈ b.set i y, x.length = z := by
  intro x hx
  rcases List.mem_or_eq_of_mem_set hx with h1 | rfl
  · exact h x h1
  · exact hy
theorem stN_z {y : List UInt8} {b : Bank} {z : Nat} (hy : y.length = z) (h : ∀ x ∈ b, x.length = z) : ∀ k, ∀ x ∈ stN y b k, x.length = z
  | 0 => h
  | k + 1 => set_z (stN_z hy h k) hy
theorem RZ.two {b0 b1 : Bank} (h0 : ∀ x ∈ b0, x.length = 20) (h1 : ∀ x ∈ b1, x.length = 32) : RZ [b0, b1] := by
  intro a ha
  match a, ha with
  | 0, _ => exact h0
  | 1, _ => exact h1
theorem RZ.nil : RZ [] := by
  intro a ha x hx
  simp at hx
theorem RZ.ext {bk : List Bank} {i : Nat} {ds : List (List UInt8)} (hv : RV bk) (h : RZ bk) : RZ (extBk bk i ds) := by
  rcases hv.1.cases with rfl | ⟨b0, b1, rfl, g0, g1⟩
  · exact RZ.nil
  · rw [extBk_two]
    refine RZ.two ?_ ?_
    · unfold ext1; split
      · exact set_z (h 0 (by omega)) (sumA_length (a := 0))
      · exact h 0 (by omega)
    · unfold ext1; split
      · exact set_z (h 1 (by omega)) (sumA_length (a := 1))
      · exact h 1 (by omega)
theorem RZ.res {bk : List Bank} (hv : RV bk) (h : RZ bk) : RZ (resBk bk) := by
  rcases hv.1.cases with rfl | ⟨b0, b1, rfl, g0, g1⟩
  · exact RZ.nil
  · exact RZ.two (stN_z List.length_replicate (h 0 (by omega)) 4) (stN_z List.length_replicate (h 1 (by omega)) 4)
theorem newB_z {a : Nat} : ∀ x ∈ newB a, x.length = szA a := by
  intro x hx
  unfold newB at hx
  obtain ⟨i, _, rfl⟩ := List.mem_map.1 hx
  exact List.length_replicate
theorem RZ.new {s : Int} : RZ (newBk s) := by
  unfold newBk
  split
  · exact RZ.nil
  · refine RZ.two ?_ ?_
    · split
      · exact newB_z (a := 0)
      · intro x hx; simp at hx
    · split
      · exact newB_z (a := 1)
      · intro x hx; simp at hx
theorem take_mid {α : Type} {b p q t : List α} {k : Nat} (hb : b = p ++ q ++ t) (hq : q.length = k) : List.take k (List.drop p.length b) = q := by
  subst hb; subst hq
  rw [List.append_assoc, List.drop_left, List.take_left]
theorem rdUint_of {b p q t : List UInt8} {k : Nat} (hb : b = p ++ q ++ t) (hq : q.length = k) (hv : beV q < 9223372036854775808) : rdUint (b, p.length, 0) k = (((beV q : Nat) : Int), (b, p.length + k, 0)) := by
  have h1 := take_mid hb hq
  have h2 : b.length = p.length + k + t.length := by rw [hb]; simp only [List.length_append, hq]
  unfold rdUint
  simp only [h1]
  rw [if_neg (by simp), if_neg (by omega), if_neg (by omega)]
theorem beV_app {l : List UInt8} {x : UInt8} : beV (l ++ [x]) = 256 * beV l + x.toNat := by simp [beV]
theorem beV_beI {size : Nat} {n : Int} : ∀ k, k ≤ size → beV (beI size n k) = m64 n / 2 ^ (8 * (size - k)) % 256 ^ k
  | 0, _ => by simp [beI, beV, Nat.mod_one]
  | k + 1, h => by
    have ih := beV_beI (size := size) (n := n) k (by omega)
    rw [beI_succ, beV_app, ih]
    have e1 : 8 * (size - k) = 8 * (size - 1 - k) + 8 := by omega
    have e2 : size - (k + 1) = size - 1 - k := by omega
    rw [e1, e2, Nat.pow_add, ← Nat.div_div_eq_div_mul]
    generalize m64 n / 2 ^ (8 * (size - 1 - k)) = q
    have e3 : (UInt8.ofNat q).toNat = q % 256 := by rw [UInt8.toNat_ofNat']
    have e4 : q / 2 ^ 8 = q / 256 := rfl
    have e5 : 256 ^ (k + 1) = 256 * 256 ^ k := by rw [Nat.pow_succ, Nat.mul_comm]
    rw [e3, e4, e5, Nat.mod_mul, Nat.add_comm]
theorem beV_all {size : Nat} {n : Int} : beV (beI size n size) = m64 n % 256 ^ size := by
  rw [beV_beI size (Nat.le_refl _)]; simp
theorem m64_of {n : Int} (h : 0 ≤ n ∧ n < 18446744073709551616) : ((m64 n : Nat) : Int) = n := by unfold m64; omega
end Go.Eng
end
section
set_option maxRecDepth 20000
set_option maxHeartbeats 64000000
namespace Go.Eng
theorem wc_wire_take (tab : Tab) (gl : Gl) (x : ct_take.α) (hx : ct_take.pre x) : ac_wire_Reader_take.wp tab gl (zipF 0 (ct_take.as x)) (zipF 0 (ct_take.ins x)) (resW [(6, none), (7, none)] (ct_take.ins x).length (fun r o => r = ct_take.r x ∧ o = ct_take.outs x)) := by
  obtain ⟨⟨b, a, e⟩, p, n⟩ := x
  obtain ⟨h1, h2, h3⟩ := hx
  simp only [rdOk] at h1 h2 h3
  by_cases h : p + n ≤ b.length
  · have hr : ct_take.r ((b, a, e), p, n) = .tup [.t (.sl (((b.drop p).take n).map byteT)), .t (.int .i64 0)] := if_pos h
    rw [hr]
    exact w_wire_take tab gl (b, a, e) h1 p n h
  · have hr : ct_take.r ((b, a, e), p, n) = .tup [.t (.sl []), .t (.int .i64 2)] := if_neg h
    rw [hr]
    show ac_wire_Reader_take.wp tab gl (zipF 0 [.ref 0 0 0, .t (.int .i64 p), .t (.int .i64 n)]) (zipF 0 [rdOb (b, a, e)]) (resW [(6, none), (7, none)] 1 (fun r o => r = .tup [.t (.sl []), .t (.int .i64 2)] ∧ o = [rdOb (b, a, e)]))
    simp (disch := omega) only [go_sem, ↓reduceIte, Nat.reduceAdd, Nat.reduceEqDiff, Nat.reduceLeDiff, reduceCtorEq, ac_wire_Reader_take, rdOb, rdT]
end Go.Eng
end
section
namespace Go.Eng
def strT (s : List UInt8) : T := .str ⟨s.toArray⟩
theorem str_fold {s : List UInt8} : T.str ⟨s.toArray⟩ = strT s := Eq.trans (Eq.refl _) rfl
theorem baList_loop (b : ByteArray) : ∀ (n i : Nat) (r : List UInt8), n = b.size - i → ByteArray.toList.loop b i r = r.reverse ++ b.data.toList.drop i
  | 0, i, r, h => by
    unfold ByteArray.toList.loop
    rw [if_neg (by omega)]
    have : b.data.toList.drop i = [] := List.drop_eq_nil_of_le (by have : b.data.toList.length = b.size := rfl; omega)
    rw [this, List.append_nil]
  | n + 1, i, r, h => by
    unfold ByteArray.toList.loop
    have hi : i < b.size := by omega
    have hl : b.data.toList.length = b.size := rfl
    rw [if_pos hi, baList_loop b n (i + 1) _ (by omega)]
    have e : b.data.toList.drop i = b.data.toList[i]'(by omega) :: b.data.toList.drop (i + 1) := List.drop_eq_getElem_cons (by omega)
    rw [e]
    have e2 : b.get! i = b.data.toList[i]'(by omega) := by
      show b.data[i]! = _
      have hi' : i < b.data.size := hi
      rw [getElem!_pos b.data i hi']; simp
    rw [e2]; simp
theorem baList {s : List UInt8} : (ByteArray.mk s.toArray).toList = s := by
  unfold ByteArray.toList
  rw [baList_loop _ _ 0 [] rfl]; simp
theorem bin_s_eq {a b : List UInt8} : binT .eql (strT a) (strT b) = some (.bool (decide (a = b))) := by
  show some (T.bool ((ByteArray.mk a.toArray).toList == (ByteArray.mk b.toArray).toList)) = _
  rw [baList, baList]
  by_cases h : a = b <;> simp [h]
theorem bin_s_ne {a b : List UInt8} : binT .neq (strT a) (strT b) = some (.bool (!decide (a = b))) := by
  show some (T.bool (!((ByteArray.mk a.toArray).toList == (ByteArray.mk b.toArray).toList))) = _
  rw [baList, baList]
  by_cases h : a = b <;> simp [h]
theorem bin_s_add {a b : List UInt8} (h : a.length + b.length ≤ 9223372036854775807) : binT .add (strT a) (strT b) = some (strT (a ++ b)) := by
  show (if (ByteArray.mk a.toArray).size + (ByteArray.mk b.toArray).size ≤ maxLen then some (T.str (ByteArray.mk a.toArray ++ ByteArray.mk b.toArray)) else none) = _
  have h1 : (ByteArray.mk a.toArray).size = a.length := rfl
  have h2 : (ByteArray.mk b.toArray).size = b.length := rfl
  have h3 : maxLen = 9223372036854775807 := by decide
  rw [h1, h2, h3, if_pos h]
  have e : ByteArray.mk a.toArray ++ ByteArray.mk b.toArray = ⟨(a ++ b).toArray⟩ := by
    apply ByteArray.ext
    simp [ByteArray.data_append]
  rw [e]; rfl
theorem slen_strT {a : List UInt8} : semSlen [.t (strT a)] = .ret (.t (.int .i64 a.length), []) := Eq.trans (Eq.refl _) rfl
theorem sindex_strT {a : List UInt8} {k : IntKind} {i : Nat} (h : i < a.length) : semSindex [.t (strT a), .t (.int k (i : Nat))] = .ret (.t (byteT (a.getD i 0)), []) := by
  have e : (ByteArray.mk a.toArray).data.toList[(i : Int).toNat]? = some (a.getD i 0) := by simp [List.getD, h]
  simp only [strT, semSindex, intArg, Q.of, Q.bind, Q.assert, e]
  rw [if_pos (by omega)]
theorem s2b_strT {a : List UInt8} {nb : Nat} : semS2b nb [.t (strT a)] = Q.assert (sizeOk a.length 1) (.free nb (.ret (.sl nb 0 a.length, [(nb, .live 1 ((a.map byteT).map V.t) true false)]))) := by
  have h1 : (ByteArray.mk a.toArray).size = a.length := rfl
  have h2 : ((ByteArray.mk a.toArray).data.toList.map fun b => V.t (byteT b)) = (a.map byteT).map V.t := by simp [List.map_map, Function.comp_def]
  simp only [strT, semS2b, h1, h2]
theorem bytesOf_rows {bs : List UInt8} : bytesOf ((bs.map byteT).map V.t) = some bs := by
  have := bytesOf_bytes (bs := bs)
  rw [List.map_map]; exact this
theorem strT_inj {a b : List UInt8} : (strT a = strT b) = (a = b) := by
  apply propext
  constructor
  · intro h
    have h1 := congrArg (fun x => match x with | T.str s => s.data.toList | _ => []) h
    simpa [strT] using h1
  · rintro rfl; rfl
theorem tc_strT {s : List UInt8} : (strT s).cells = [strT s] := Eq.trans (Eq.refl _) rfl
theorem vc_strT {s : List UInt8} : (V.t (strT s)).cells = [V.t (strT s)] := Eq.trans (Eq.refl _) rfl
theorem vp_strT {s : List UInt8} : (V.t (strT s)).plain = true := Eq.trans (Eq.refl _) rfl
theorem single_strT {s : List UInt8} : (V.t (strT s)).single = true := Eq.trans (Eq.refl _) rfl
theorem flat_strT {s : List UInt8} : (strT s).flat = true := Eq.trans (Eq.refl _) rfl
attribute [go_sem ↓] bin_s_eq bin_s_ne bin_s_add slen_strT sindex_strT s2b_strT
attribute [go_sem] str_fold bytesOf_rows strT_inj tc_strT vc_strT vp_strT single_strT flat_strT
end Go.Eng
end
section
namespace Go.Eng
def ac_event_Check_L0 (n_digest_Size : Nat) : AC :=
 (.seq
 (rG 36864 [
 bT 49 .lss 48 47])
 (.seq
 (.cond (.tmp 49)
 .skip
 (.exit 1))
 (.seq
 (.block 2
 (.seq
 (rG 40960 [
 mv 50 48,
 oO 51 (.iaddr 1) [.tmp 46, .tmp 48],
 oO 52 (.load 1 false) [.tmp 51],
 mv 5 50,
 mv 6 52])
 (.seq
 (rG 45056 [
 mC 7 (.t (.int .i64 0))])
 (.seq
 (.seq
 (rG 49152 [
 oO 53 (.faddr 1) [.tmp 2],
 oO 54 (.load 1 false) [.tmp 53],
 bN 55 .neq 54 5,
 mv 56 55,
 mG 57 1 56,
 mG 58 5 56,
 oG 59 56 (.bin .shr) [.tmp 57, .tmp 58],
 oG 60 56 (.bin .and) [.tmp 59, .cst (.t (.int .i64 1))],
 oG 61 56 (.bin .eql) [.tmp 60, .cst (.t (.int .i64 1))],
 oO 62 .pick [.tmp 56, .tmp 61, .cst (.t (.bool false))]])
 (.cond (.tmp 62)
 (rG 53248 [
 mv 63 5,
 cL 64 n_digest_Size false [.tmp 63],
 mv 7 64])
 .skip))
 (.seq
 (rG 57344 [
 mv 65 6,
 oO 66 .len [.tmp 65],
 mv 67 7,
 bT 68 .neq 66 67])
 (.cond (.tmp 68)
 (.seq
 (rG 61440 [
 mC 4 (.t (.int .i64 27))])
 .ret)
 .skip))))))
 (rG 65536 [
 bN 69 .add 48 1,
 mv 48 69]))))
def ac_event_Check (n_digest_Size : Nat) : AC :=
 (.seq
 (rG 4096 [
 oO 2 .box [.tmp 0],
 mC 4 (.t (.int .i64 0))])
 (.seq
 (.block 0
 (.seq
 (rG 8192 [
 mv 9 1,
 bN 10 .lss 9 1,
 mv 11 10,
 mF 12 1 11,
 oF 13 11 (.bin .gtr) [.tmp 12, .cst (.t (.int .i64 3))],
 oO 14 .pick [.tmp 11, .cst (.t (.bool true)), .tmp 13],
 mv 15 14,
 oF 16 15 (.faddr 0) [.tmp 2],
 oF 17 15 (.load 1 false) [.tmp 16],
 oF 18 15 (.bin .lss) [.tmp 17, .cst (.t (.int .i64 0))],
 oO 19 .pick [.tmp 15, .cst (.t (.bool true)), .tmp 18],
 mv 20 19,
 oF 21 20 (.faddr 0) [.tmp 2],
 oF 22 20 (.load 1 false) [.tmp 21],
 oF 23 20 (.bin .gtr) [.tmp 22, .cst (.t (.int .i64 11))],
 oO 24 .pick [.tmp 20, .cst (.t (.bool true)), .tmp 23],
 mv 25 24,
 oF 26 25 (.faddr 1) [.tmp 2],
 oF 27 25 (.load 1 false) [.tmp 26],
 oF 28 25 (.bin .lss) [.tmp 27, .cst (.t (.int .i64 1))],
 oO 29 .pick [.tmp 25, .cst (.t (.bool true)), .tmp 28],
 mv 30 29,
 oF 31 30 (.faddr 1) [.tmp 2],
 oF 32 30 (.load 1 false) [.tmp 31],
 oF 33 30 (.bin .gtr) [.tmp 32, .cst (.t (.int .i64 5))],
 oO 34 .pick [.tmp 30, .cst (.t (.bool true)), .tmp 33],
 mv 8 34])
 (.cond (.tmp 8)
 (.seq
 (rG 12288 [
 mC 4 (.t (.int .i64 1))])
 .ret)
 (.seq
 (rG 16384 [
 oO 36 (.faddr 3) [.tmp 2],
 oO 37 (.load 1 false) [.tmp 36],
 oO 38 .len [.tmp 37],
 bN 39 .gtr 38 64,
 mv 35 39])
 (.cond (.tmp 35)
 (.seq
 (rG 20480 [
 mC 4 (.t (.int .i64 4))])
 .ret)
 (.seq
 (rG 24576 [
 oO 41 (.faddr 2) [.tmp 2],
 oO 42 (.load 1 false) [.tmp 41],
 oO 43 .len [.tmp 42],
 bN 44 .neq 43 2,
 mv 40 44])
 (.cond (.tmp 40)
 (.seq
 (rG 28672 [
 mC 4 (.t (.int .i64 27))])
 .ret)
 .skip)))))))
 (.seq
 (.seq
 (rG 32768 [
 oO 45 (.faddr 2) [.tmp 2],
 oO 46 (.load 1 false) [.tmp 45],
 oO 47 .len [.tmp 46],
 mC 48 (.t (.int .i64 0))])
 (.block 1
 (.loop (ac_event_Check_L0 n_digest_Size))))
 (.seq
 (rG 69632 [
 mC 4 (.t (.int .i64 0))])
 .ret))))
def hints_event_Check : List (Nat × List Nat) := []
def ac_event_Make_L0 (n_digest_Sum : Nat) : AC :=
 (.seq
 (rG 16384 [
 bT 21 .lss 20 19])
 (.seq
 (.cond (.tmp 21)
 .skip
 (.exit 0))
 (.seq
 (.block 1
 (.seq
 (rG 20480 [
 mv 22 20,
 mv 10 22])
 (.seq
 (rG 24576 [
 mv 23 1,
 bN 24 .neq 23 5,
 mv 25 24,
 mG 26 2 25,
 mG 27 10 25,
 oG 28 25 (.bin .shr) [.tmp 26, .tmp 27],
 oG 29 25 (.bin .and) [.tmp 28, .cst (.t (.int .i64 1))],
 oG 30 25 (.bin .eql) [.tmp 29, .cst (.t (.int .i64 1))],
 oO 31 .pick [.tmp 25, .tmp 30, .cst (.t (.bool false))]])
 (.cond (.tmp 31)
 (.reg 28672 (some [0, 1, 0, 0, 0, 24, 63, 127]) [
 oO 32 (.faddr 2) [.tmp 9],
 oO 33 (.load 1 false) [.tmp 32],
 mv 34 10,
 mv 35 10,
 mv 36 3,
 cL 37 n_digest_Sum false [.tmp 35, .tmp 36],
 oO 38 (.iaddr 1) [.tmp 33, .tmp 34],
 oS 1 38 37])
 .skip))))
 (rG 32768 [
 bN 39 .add 20 1,
 mv 20 39]))))
def ac_event_Make (n_bytes_Clone n_digest_Sum : Nat) : AC :=
 (.seq
 (rG 4096 [
 oO 8 (.new 4 [(.agg [(.t (.int .i64 0)), (.t (.int .i64 0)), .nil, .nil])]) []])
 (.seq
 (.reg 8192 (some [0, 0, 0, 0, 8, 31, 0, 127]) [
 mv 11 0,
 mv 12 1,
 oO 13 (.mkslice 1 24 .nil) [.cst (.t (.int .i64 2)), .cst (.t (.int .i64 2))],
 mv 14 3,
 cL 15 n_bytes_Clone true [.tmp 14],
 oO 16 (.build [(.t (.int .i64 0)), (.t (.int .i64 0)), .nil, .nil] [(0, 1), (1, 1), (2, 1), (3, 1)]) [.tmp 11, .tmp 12, .tmp 13, .tmp 15],
 oO 9 (.new 4 [(.agg [(.t (.int .i64 0)), (.t (.int .i64 0)), .nil, .nil])]) [],
 oS 4 9 16])
 (.seq
 (.seq
 (rG 12288 [
 oO 17 (.faddr 2) [.tmp 9],
 oO 18 (.load 1 false) [.tmp 17],
 oO 19 .len [.tmp 18],
 mC 20 (.t (.int .i64 0))])
 (.block 0
 (.loop (ac_event_Make_L0 n_digest_Sum))))
 (.seq
 (rG 36864 [
 oO 40 (.load 4 true) [.tmp 9],
 oS 4 8 40])
 .ret))))
def hints_event_Make : List (Nat × List Nat) := [(1, [4])]
def ac_event_Encode_L0 (n_wire_Blob : Nat) : AC :=
 (.seq
 (rG 28672 [
 bT 20 .lss 19 18])
 (.seq
 (.cond (.tmp 20)
 .skip
 (.exit 0))
 (.seq
 (.block 1
 (.seq
 (rG 32768 [
 oO 21 (.iaddr 1) [.tmp 17, .tmp 19],
 oO 22 (.load 1 false) [.tmp 21],
 mv 5 22])
 (rG 36864 [
 mv 23 3,
 mv 24 5,
 cL 25 n_wire_Blob false [.tmp 23, .tmp 24],
 mv 3 25])))
 (rG 40960 [
 bN 26 .add 19 1,
 mv 19 26]))))
def ac_event_Encode (n_event_encodable n_wire_Uint n_wire_Blob : Nat) : AC :=
 (.seq
 (rG 4096 [
 oO 1 .box [.tmp 0],
 mC 2 .nil])
 (.seq
 (.seq
 (rG 8192 [
 oO 6 (.load 4 true) [.tmp 1],
 cL 7 n_event_encodable false [.tmp 6],
 oO 8 (.un .not) [.tmp 7]])
 (.cond (.tmp 8)
 (.seq
 (rG 12288 [
 mC 2 .nil])
 .ret)
 .skip))
 (.seq
 (rG 16384 [
 oO 9 (.faddr 0) [.tmp 1],
 oO 10 (.load 1 false) [.tmp 9],
 cL 11 n_wire_Uint false [.cst .nil, .cst (.t (.int .i64 1)), .tmp 10],
 mv 3 11])
 (.seq
 (rG 20480 [
 mv 12 3,
 oO 13 (.faddr 1) [.tmp 1],
 oO 14 (.load 1 false) [.tmp 13],
 cL 15 n_wire_Uint false [.tmp 12, .cst (.t (.int .i64 1)), .tmp 14],
 mv 3 15])
 (.seq
 (.seq
 (rG 24576 [
 oO 16 (.faddr 2) [.tmp 1],
 oO 17 (.load 1 false) [.tmp 16],
 oO 18 .len [.tmp 17],
 mC 19 (.t (.int .i64 0))])
 (.block 0
 (.loop (ac_event_Encode_L0 n_wire_Blob))))
 (.seq
 (rG 45056 [
 mv 27 3,
 oO 28 (.faddr 3) [.tmp 1],
 oO 29 (.load 1 false) [.tmp 28],
 cL 30 n_wire_Blob false [.tmp 27, .tmp 29],
 mv 2 30])
 .ret))))))
def hints_event_Encode : List (Nat × List Nat) := []
def ac_event_Consistent_L0 : AC :=
 (.seq
 (rG 57344 [
 bT 37 .lss 36 35])
 (.seq
 (.cond (.tmp 37)
 .skip
 (.exit 1))
 (.seq
 (.block 2
 (.seq
 (rG 61440 [
 oO 38 (.iaddr 1) [.tmp 34, .tmp 36],
 oO 39 (.load 1 false) [.tmp 38],
 mv 5 39])
 (.seq
 (rG 65536 [
 mv 40 5,
 oO 41 (.bin .lss) [.tmp 40, .cst (.t (byteT 32))],
 mv 42 41,
 mF 43 5 42,
 oF 44 42 (.bin .gtr) [.tmp 43, .cst (.t (byteT 126))],
 oO 45 .pick [.tmp 42, .cst (.t (.bool true)), .tmp 44]])
 (.cond (.tmp 45)
 (.seq
 (rG 69632 [
 mC 2 (.t (.bool false))])
 .ret)
 .skip))))
 (rG 73728 [
 bN 46 .add 36 1,
 mv 36 46]))))
def ac_event_Consistent_L1 (n_digest_Sum n_bytes_Equal : Nat) : AC :=
 (.seq
 (rG 90112 [
 bT 55 .lss 54 53])
 (.seq
 (.cond (.tmp 55)
 .skip
 (.exit 3))
 (.seq
 (.block 4
 (.seq
 (rG 94208 [
 mv 56 54,
 mv 6 56])
 (.seq
 (rG 98304 [
 oO 57 (.faddr 2) [.tmp 1],
 oO 58 (.load 1 false) [.tmp 57],
 mv 59 6,
 oO 60 (.iaddr 1) [.tmp 58, .tmp 59],
 oO 61 (.load 1 false) [.tmp 60],
 mv 7 61])
 (.seq
 (rG 102400 [
 mv 62 7,
 oO 63 .len [.tmp 62],
 bN 64 .gtr 63 0,
 mv 65 64,
 mG 66 3 65,
 oG 67 65 (.un .not) [.tmp 66],
 mG 68 67 65,
 mF 69 7 68,
 mF 70 6 68,
 oF 71 68 (.faddr 3) [.tmp 1],
 oF 72 68 (.load 1 false) [.tmp 71],
 cF 73 68 n_digest_Sum false [.tmp 70, .tmp 72],
 cF 74 68 n_bytes_Equal false [.tmp 69, .tmp 73],
 oF 75 68 (.un .not) [.tmp 74],
 oG 76 65 .pick [.tmp 68, .cst (.t (.bool true)), .tmp 75],
 oO 77 .pick [.tmp 65, .tmp 76, .cst (.t (.bool false))]])
 (.cond (.tmp 77)
 (.seq
 (rG 106496 [
 mC 2 (.t (.bool false))])
 .ret)
 .skip)))))
 (rG 110592 [
 bN 78 .add 54 1,
 mv 54 78]))))
def ac_event_Consistent (n_bytes_Equal n_digest_Sum : Nat) : AC :=
 (.seq
 (rG 4096 [
 oO 1 .box [.tmp 0],
 mC 2 (.t (.bool false))])
 (.seq
 (rG 8192 [
 oO 8 (.faddr 1) [.tmp 1],
 oO 9 (.load 1 false) [.tmp 8],
 bN 10 .neq 9 1,
 mv 11 10,
 oG 12 11 (.faddr 1) [.tmp 1],
 oG 13 11 (.load 1 false) [.tmp 12],
 oG 14 11 (.bin .neq) [.tmp 13, .cst (.t (.int .i64 5))],
 oO 15 .pick [.tmp 11, .tmp 14, .cst (.t (.bool false))],
 mv 3 15])
 (.seq
 (.seq
 (rG 12288 [
 oO 16 (.faddr 1) [.tmp 1],
 oO 17 (.load 1 false) [.tmp 16]])
 (.block 0
 (.seq
 (rG 20480 [
 bN 19 .eql 17 1,
 mv 18 19])
 (.cond (.tmp 18)
 (.seq
 (rG 24576 [
 mC 2 (.t (.bool true))])
 .ret)
 (.seq
 (rG 28672 [
 bN 21 .eql 17 2,
 mv 20 21])
 (.cond (.tmp 20)
 (.seq
 (.reg 32768 (some [0, 1, 0, 7, 15]) [
 oO 22 (.faddr 3) [.tmp 1],
 oO 23 (.load 1 false) [.tmp 22],
 oO 24 (.mkslice 1 1 (.t (byteT 0))) [.cst (.t (.int .i64 4)), .cst (.t (.int .i64 4))],
 cL 25 n_bytes_Equal false [.tmp 23, .tmp 24],
 oO 26 (.un .not) [.tmp 25]])
 (.cond (.tmp 26)
 (.seq
 (rG 36864 [
 mC 2 (.t (.bool false))])
 .ret)
 .skip))
 (.seq
 (rG 40960 [
 bN 28 .eql 17 3,
 mv 27 28])
 (.cond (.tmp 27)
 (.seq
 (.seq
 (rG 45056 [
 oO 29 (.faddr 3) [.tmp 1],
 oO 30 (.load 1 false) [.tmp 29],
 oO 31 .len [.tmp 30],
 bN 32 .eql 31 0])
 (.cond (.tmp 32)
 (.seq
 (rG 49152 [
 mC 2 (.t (.bool false))])
 .ret)
 .skip))
 (.seq
 (rG 53248 [
 oO 33 (.faddr 3) [.tmp 1],
 oO 34 (.load 1 false) [.tmp 33],
 oO 35 .len [.tmp 34],
 mC 36 (.t (.int .i64 0))])
 (.block 1
 (.loop ac_event_Consistent_L0))))
 (.seq
 (.seq
 (rG 77824 [
 bN 48 .eql 17 4,
 mv 47 48])
 (.cond (.tmp 47)
 .skip
 (rG 81920 [
 bN 49 .eql 17 5,
 mv 47 49])))
 (.cond (.tmp 47)
 .skip
 (.seq
 (rG 16384 [
 mC 2 (.t (.bool false))])
 .ret)))))))))))
 (.seq
 (.seq
 (rG 86016 [
 oO 50 (.faddr 2) [.tmp 1],
 oO 51 (.load 1 false) [.tmp 50],
 oO 52 .len [.tmp 51],
 oO 53 .min [.tmp 52, .cst (.t (.int .i64 2))],
 mC 54 (.t (.int .i64 0))])
 (.block 3
 (.loop (ac_event_Consistent_L1 n_digest_Sum n_bytes_Equal))))
 (.seq
 (rG 114688 [
 mC 2 (.t (.bool true))])
 .ret)))))
def hints_event_Consistent : List (Nat × List Nat) := []
def ac_event_encodable_L0 (n_digest_Size : Nat) : AC :=
 (.seq
 (rG 20480 [
 bT 39 .lss 38 37])
 (.seq
 (.cond (.tmp 39)
 .skip
 (.exit 0))
 (.seq
 (.block 1
 (.seq
 (rG 24576 [
 oO 40 (.iaddr 1) [.tmp 36, .tmp 38],
 oO 41 (.load 1 false) [.tmp 40],
 mv 4 41])
 (.seq
 (rG 28672 [
 mv 42 4,
 oO 43 .len [.tmp 42],
 cL 44 n_digest_Size false [.cst (.t (.int .i64 1))],
 bT 45 .gtr 43 44])
 (.cond (.tmp 45)
 (.seq
 (rG 32768 [
 mC 2 (.t (.bool false))])
 .ret)
 .skip))))
 (rG 36864 [
 bN 46 .add 38 1,
 mv 38 46]))))
def ac_event_encodable (n_digest_Size : Nat) : AC :=
 (.seq
 (rG 4096 [
 oO 1 .box [.tmp 0],
 mC 2 (.t (.bool false))])
 (.seq
 (.seq
 (rG 8192 [
 oO 5 (.faddr 0) [.tmp 1],
 oO 6 (.load 1 false) [.tmp 5],
 bN 7 .lss 6 0,
 mv 8 7,
 oF 9 8 (.faddr 0) [.tmp 1],
 oF 10 8 (.load 1 false) [.tmp 9],
 oF 11 8 (.bin .gtr) [.tmp 10, .cst (.t (.int .i64 11))],
 oO 12 .pick [.tmp 8, .cst (.t (.bool true)), .tmp 11],
 mv 13 12,
 oF 14 13 (.faddr 1) [.tmp 1],
 oF 15 13 (.load 1 false) [.tmp 14],
 oF 16 13 (.bin .lss) [.tmp 15, .cst (.t (.int .i64 1))],
 oO 17 .pick [.tmp 13, .cst (.t (.bool true)), .tmp 16],
 mv 18 17,
 oF 19 18 (.faddr 1) [.tmp 1],
 oF 20 18 (.load 1 false) [.tmp 19],
 oF 21 18 (.bin .gtr) [.tmp 20, .cst (.t (.int .i64 5))],
 oO 22 .pick [.tmp 18, .cst (.t (.bool true)), .tmp 21],
 mv 23 22,
 oF 24 23 (.faddr 2) [.tmp 1],
 oF 25 23 (.load 1 false) [.tmp 24],
 oF 26 23 .len [.tmp 25],
 oF 27 23 (.bin .neq) [.tmp 26, .cst (.t (.int .i64 2))],
 oO 28 .pick [.tmp 23, .cst (.t (.bool true)), .tmp 27],
 mv 29 28,
 oF 30 29 (.faddr 3) [.tmp 1],
 oF 31 29 (.load 1 false) [.tmp 30],
 oF 32 29 .len [.tmp 31],
 oF 33 29 (.bin .gtr) [.tmp 32, .cst (.t (.int .i64 64))],
 oO 34 .pick [.tmp 29, .cst (.t (.bool true)), .tmp 33]])
 (.cond (.tmp 34)
 (.seq
 (rG 12288 [
 mC 2 (.t (.bool false))])
 .ret)
 .skip))
 (.seq
 (.seq
 (rG 16384 [
 oO 35 (.faddr 2) [.tmp 1],
 oO 36 (.load 1 false) [.tmp 35],
 oO 37 .len [.tmp 36],
 mC 38 (.t (.int .i64 0))])
 (.block 0
 (.loop (ac_event_encodable_L0 n_digest_Size))))
 (.seq
 (rG 40960 [
 mC 2 (.t (.bool true))])
 .ret))))
def hints_event_encodable : List (Nat × List Nat) := []
def ac_event_Decode_L0 (n_digest_Size n_wire_Reader_Blob : Nat) : AC :=
 (.seq
 (rG 28672 [
 bN 15 .lss 14 2])
 (.seq
 (.cond (.tmp 15)
 .skip
 (.exit 0))
 (.seq
 (.block 1
 (.reg 32768 (some [0, 1, 0, 0, 12, 28, 63, 127, 255]) [
 oO 16 (.faddr 2) [.tmp 5],
 oO 17 (.load 1 false) [.tmp 16],
 mv 18 4,
 cL 19 n_digest_Size false [.cst (.t (.int .i64 1))],
 cL 20 n_wire_Reader_Blob true [.tmp 18, .tmp 19],
 oO 21 (.bslice 1 1 .nil [0]) [.tmp 20],
 oO 22 (.append 1 24) [.tmp 17, .tmp 21],
 oO 23 (.faddr 2) [.tmp 5],
 oS 1 23 22]))
 (rG 36864 [
 bN 24 .add 14 1,
 mv 14 24]))))
def ac_event_Decode (n_wire_New n_wire_Reader_Uint n_digest_Size n_wire_Reader_Blob n_wire_Reader_End n_event_encodable : Nat) : AC :=
 (.seq
 (rG 4096 [
 oO 2 (.new 4 [(.agg [(.t (.int .i64 0)), (.t (.int .i64 0)), .nil, .nil])]) [],
 mC 3 (.t (.int .i64 0))])
 (.seq
 (rG 8192 [
 mv 6 0,
 cL 7 n_wire_New true [.tmp 6],
 mv 4 7])
 (.seq
 (rG 12288 [
 oO 5 (.new 4 [(.agg [(.t (.int .i64 0)), (.t (.int .i64 0)), .nil, .nil])]) []])
 (.seq
 (rG 16384 [
 mv 8 4,
 cL 9 n_wire_Reader_Uint true [.tmp 8, .cst (.t (.int .i64 1))],
 oO 10 (.faddr 0) [.tmp 5],
 oS 1 10 9])
 (.seq
 (rG 20480 [
 mv 11 4,
 cL 12 n_wire_Reader_Uint true [.tmp 11, .cst (.t (.int .i64 1))],
 oO 13 (.faddr 1) [.tmp 5],
 oS 1 13 12])
 (.seq
 (.seq
 (rG 24576 [
 mC 14 (.t (.int .i64 0))])
 (.block 0
 (.loop (ac_event_Decode_L0 n_digest_Size n_wire_Reader_Blob))))
 (.seq
 (rG 40960 [
 mv 25 4,
 cL 26 n_wire_Reader_Blob true [.tmp 25, .cst (.t (.int .i64 64))],
 oO 27 (.faddr 3) [.tmp 5],
 oS 1 27 26])
 (.seq
 (.seq
 (rG 45056 [
 mv 28 4,
 cL 29 n_wire_Reader_End true [.tmp 28],
 bN 30 .neq 29 0,
 mv 31 30,
 oF 32 31 (.load 4 true) [.tmp 5],
 cF 33 31 n_event_encodable false [.tmp 32],
 oF 34 31 (.un .not) [.tmp 33],
 oO 35 .pick [.tmp 31, .cst (.t (.bool true)), .tmp 34]])
 (.cond (.tmp 35)
 (.seq
 (rG 49152 [
 oO 36 (.build [(.t (.int .i64 0)), (.t (.int .i64 0)), .nil, .nil] []) [],
 oS 4 2 36,
 mC 3 (.t (.int .i64 30))])
 .ret)
 .skip))
 (.seq
 (rG 53248 [
 oO 37 (.load 4 true) [.tmp 5],
 oS 4 2 37,
 mC 3 (.t (.int .i64 0))])
 .ret)))))))))
def hints_event_Decode : List (Nat × List Nat) := [(1, [1]), (3, [1]), (4, [1]), (7, [4]), (9, [1]), (10, [1])]
def ac_ref25_has : AC :=
 (.seq
 (rG 4096 [
 mC 4 (.t (.bool false))])
 (.seq
 (rG 8192 [
 mv 5 0,
 mv 6 1,
 oO 7 (.conv .u64) [.tmp 6],
 bT 8 .shr 5 7,
 bN 9 .and 8 1,
 bN 10 .eql 9 1,
 mv 4 10])
 .ret))
def hints_ref25_has : List (Nat × List Nat) := []
def ac_ref25_Make_L0 (n_ref25_has n_ref1_Sum : Nat) : AC :=
 (.seq
 (.seq
 (rG 16384 [
 mv 16 10,
 bN 17 .lss 16 2])
 (.cond (.tmp 17)
 .skip
 (.exit 0)))
 (.seq
 (.block 1
 (.seq
 (rG 24576 [
 mv 20 2,
 mv 21 10,
 cL 22 n_ref25_has false [.tmp 20, .tmp 21],
 mv 23 22,
 mG 24 1 23,
 oG 25 23 (.bin .neq) [.tmp 24, .cst (.t (.int .i64 5))],
 oO 26 .pick [.tmp 23, .tmp 25, .cst (.t (.bool false))]])
 (.cond (.tmp 26)
 (.reg 28672 (some [0, 1, 0, 0, 0, 24, 63, 127]) [
 oO 27 (.faddr 2) [.tmp 9],
 oO 28 (.load 1 false) [.tmp 27],
 mv 29 10,
 mv 30 10,
 mv 31 3,
 cL 32 n_ref1_Sum false [.tmp 30, .tmp 31],
 oO 33 (.iaddr 1) [.tmp 28, .tmp 29],
 oS 1 33 32])
 .skip)))
 (rG 20480 [
 mv 18 10,
 bN 19 .add 18 1,
 mv 10 19])))
def ac_ref25_Make (n_ref25_has n_ref1_Sum : Nat) : AC :=
 (.seq
 (rG 4096 [
 oO 8 (.new 4 [(.agg [(.t (.int .i64 0)), (.t (.int .i64 0)), .nil, .nil])]) []])
 (.seq
 (rG 8192 [
 mv 11 0,
 mv 12 1,
 oO 13 (.mkslice 1 24 .nil) [.cst (.t (.int .i64 2)), .cst (.t (.int .i64 2))],
 mv 14 3,
 oO 15 (.build [(.t (.int .i64 0)), (.t (.int .i64 0)), .nil, .nil] [(0, 1), (1, 1), (2, 1), (3, 1)]) [.tmp 11, .tmp 12, .tmp 13, .tmp 14],
 oO 9 (.new 4 [(.agg [(.t (.int .i64 0)), (.t (.int .i64 0)), .nil, .nil])]) [],
 oS 4 9 15])
 (.seq
 (.seq
 (rG 12288 [
 mC 10 (.t (.int .i64 0))])
 (.block 0
 (.loop (ac_ref25_Make_L0 n_ref25_has n_ref1_Sum))))
 (.seq
 (rG 32768 [
 oO 34 (.load 4 true) [.tmp 9],
 oS 4 8 34])
 .ret))))
def hints_ref25_Make : List (Nat × List Nat) := []
def ac_ref25_SameEvent (n_ref1_Lists n_ref1_Same : Nat) : AC :=
 (.seq
 (rG 4096 [
 oO 2 .box [.tmp 0],
 oO 3 .box [.tmp 1],
 mC 4 (.t (.bool false))])
 (.seq
 (rG 8192 [
 oO 5 (.faddr 0) [.tmp 2],
 oO 6 (.load 1 false) [.tmp 5],
 oO 7 (.faddr 0) [.tmp 3],
 oO 8 (.load 1 false) [.tmp 7],
 bT 9 .eql 6 8,
 mv 10 9,
 oG 11 10 (.faddr 1) [.tmp 2],
 oG 12 10 (.load 1 false) [.tmp 11],
 oG 13 10 (.faddr 1) [.tmp 3],
 oG 14 10 (.load 1 false) [.tmp 13],
 oG 15 10 (.bin .eql) [.tmp 12, .tmp 14],
 oO 16 .pick [.tmp 10, .tmp 15, .cst (.t (.bool false))],
 mv 17 16,
 oG 18 17 (.faddr 2) [.tmp 2],
 oG 19 17 (.load 1 false) [.tmp 18],
 oG 20 17 (.faddr 2) [.tmp 3],
 oG 21 17 (.load 1 false) [.tmp 20],
 cG 22 17 n_ref1_Lists false [.tmp 19, .tmp 21],
 oO 23 .pick [.tmp 17, .tmp 22, .cst (.t (.bool false))],
 mv 24 23,
 oG 25 24 (.faddr 3) [.tmp 2],
 oG 26 24 (.load 1 false) [.tmp 25],
 oG 27 24 (.faddr 3) [.tmp 3],
 oG 28 24 (.load 1 false) [.tmp 27],
 cG 29 24 n_ref1_Same false [.tmp 26, .tmp 28],
 oO 30 .pick [.tmp 24, .tmp 29, .cst (.t (.bool false))],
 mv 4 30])
 .ret))
def hints_ref25_SameEvent : List (Nat × List Nat) := []
def ac_draw_Cut : AC :=
 (.seq
 (rG 4096 [
 mC 4 .nil])
 (.seq
 (.seq
 (rG 8192 [
 mv 5 0,
 oO 6 .len [.tmp 5],
 mv 7 1,
 bT 8 .gtr 6 7])
 (.cond (.tmp 8)
 (.seq
 (rG 12288 [
 mv 9 0,
 mv 10 1,
 oO 11 (.slice 1 false true false) [.tmp 9, .tmp 10],
 mv 4 11])
 .ret)
 .skip))
 (.seq
 (rG 16384 [
 mv 12 0,
 mv 4 12])
 .ret)))
def hints_draw_Cut : List (Nat × List Nat) := []
def ac_bytes_Clone : AC :=
 (.seq
 (rG 4096 [
 mC 2 .nil])
 (.seq
 (.seq
 (rG 8192 [
 mv 3 0,
 oO 4 (.nileq false) [.tmp 3, .cst .nil]])
 (.cond (.tmp 4)
 (.seq
 (rG 12288 [
 mC 2 .nil])
 .ret)
 .skip))
 (.seq
 (rG 16384 [
 oO 5 (.bslice 1 0 (.t (byteT 0)) []) [],
 mv 6 0,
 oO 7 (.append 1 1) [.tmp 5, .tmp 6],
 mv 2 7])
 .ret)))
def hints_bytes_Clone : List (Nat × List Nat) := []
def ac_bytes_Equal : AC :=
 (.seq
 (rG 4096 [
 mC 4 (.t (.bool false))])
 (.seq
 (rG 8192 [
 mv 5 0,
 oO 6 .b2s [.tmp 5],
 mv 7 1,
 oO 8 .b2s [.tmp 7],
 bT 9 .eql 6 8,
 mv 4 9])
 .ret))
def hints_bytes_Equal : List (Nat × List Nat) := []
def ac_wire_Blob (n_wire_Uint : Nat) : AC :=
 (.seq
 (rG 4096 [
 mC 4 .nil])
 (.seq
 (rG 8192 [
 mv 5 1,
 mv 6 1,
 oO 7 .len [.tmp 6],
 oO 8 .min [.tmp 7, .cst (.t (.int .i64 65535))],
 oO 9 (.slice 1 false true false) [.tmp 5, .tmp 8],
 mv 1 9])
 (.seq
 (rG 12288 [
 mv 10 0,
 mv 11 1,
 oO 12 .len [.tmp 11],
 cL 13 n_wire_Uint false [.tmp 10, .cst (.t (.int .i64 2)), .tmp 12],
 mv 14 1,
 oO 15 (.append 1 1) [.tmp 13, .tmp 14],
 mv 4 15])
 .ret)))
def hints_wire_Blob : List (Nat × List Nat) := []
def ac_wire_Reader_Blob (n_wire_Reader_take n_wire_Reader_fail : Nat) : AC :=
 (.seq
 (rG 4096 [
 mC 4 .nil])
 (.seq
 (.seq
 (rG 8192 [
 mv 10 0,
 oO 11 .nilchk [.tmp 10],
 oO 12 (.faddr 2) [.tmp 11],
 oO 13 (.load 1 false) [.tmp 12],
 bN 14 .neq 13 0])
 (.cond (.tmp 14)
 (.seq
 (rG 12288 [
 mC 4 .nil])
 .ret)
 .skip))
 (.seq
 (rG 16384 [
 mv 15 0,
 oO 16 (.mkbd n_wire_Reader_take) [.tmp 15],
 mv 5 16])
 (.seq
 (rG 20480 [
 mv 18 5,
 mv 19 0,
 oO 20 .nilchk [.tmp 19],
 oO 21 (.faddr 1) [.tmp 20],
 oO 22 (.load 1 false) [.tmp 21],
⟨some 23, (.callv true), [.tmp 18, .tmp 22, .cst (.t (.int .i64 2))], none⟩,
 mv 17 23,
 oO 24 (.extract 0) [.tmp 17],
 oO 25 (.extract 1) [.tmp 17],
 mv 6 24,
 mv 7 25])
 (.seq
 (.seq
 (rG 24576 [
 mv 26 7,
 bN 27 .neq 26 0])
 (.cond (.tmp 27)
 (.seq
 (rG 28672 [
 mv 28 0,
 mv 29 7,
 cL 30 n_wire_Reader_fail true [.tmp 28, .tmp 29]])
 (.seq
 (rG 32768 [
 mC 4 .nil])
 .ret))
 .skip))
 (.seq
 (.reg 36864 (some [0, 1, 3, 7, 15, 0, 32, 96, 224, 511, 1023]) [
 mv 31 6,
 oO 32 (.iaddr 1) [.tmp 31, .cst (.t (.int .i64 0))],
 oO 33 (.load 1 false) [.tmp 32],
 oO 34 (.conv .i64) [.tmp 33],
 oO 35 (.bin .shl) [.tmp 34, .cst (.t (.int .u64 8))],
 mv 36 6,
 oO 37 (.iaddr 1) [.tmp 36, .cst (.t (.int .i64 1))],
 oO 38 (.load 1 false) [.tmp 37],
 oO 39 (.conv .i64) [.tmp 38],
 bT 40 .or 35 39,
 mv 8 40])
 (.seq
 (.seq
 (rG 40960 [
 mv 41 8,
 mv 42 1,
 bT 43 .gtr 41 42])
 (.cond (.tmp 43)
 (.seq
 (rG 45056 [
 mv 44 0,
 cL 45 n_wire_Reader_fail true [.tmp 44, .cst (.t (.int .i64 4))]])
 (.seq
 (rG 49152 [
 mC 4 .nil])
 .ret))
 .skip))
 (.seq
 (rG 53248 [
 mv 47 5,
 mv 48 0,
 oO 49 .nilchk [.tmp 48],
 oO 50 (.faddr 1) [.tmp 49],
 oO 51 (.load 1 false) [.tmp 50],
 bN 52 .add 51 2,
 mv 53 8,
⟨some 54, (.callv true), [.tmp 47, .tmp 52, .tmp 53], none⟩,
 mv 46 54,
 oO 55 (.extract 0) [.tmp 46],
 oO 56 (.extract 1) [.tmp 46],
 mv 9 55,
 mv 7 56])
 (.seq
 (.seq
 (rG 57344 [
 mv 57 7,
 bN 58 .neq 57 0])
 (.cond (.tmp 58)
 (.seq
 (rG 61440 [
 mv 59 0,
 mv 60 7,
 cL 61 n_wire_Reader_fail true [.tmp 59, .tmp 60]])
 (.seq
 (rG 65536 [
 mC 4 .nil])
 .ret))
 .skip))
 (.seq
 (rG 69632 [
 mv 62 0,
 oO 63 .nilchk [.tmp 62],
 oO 64 (.faddr 1) [.tmp 63],
 oO 65 (.load 1 false) [.tmp 64],
 mv 66 8,
 oO 67 (.bin .add) [.cst (.t (.int .i64 2)), .tmp 66],
 bT 68 .add 65 67,
 oO 69 .nilchk [.tmp 62],
 oO 70 (.faddr 1) [.tmp 69],
 oS 1 70 68])
 (.seq
 (rG 73728 [
 mv 71 9,
 oO 72 (.append 1 1) [.cst .nil, .tmp 71],
 mv 4 72])
 .ret)))))))))))
def hints_wire_Reader_Blob : List (Nat × List Nat) := [(4, [5]), (6, [2]), (10, [1]), (12, [7]), (14, [2])]
end Go.Eng
end
section
set_option maxRecDepth 20000
set_option maxHeartbeats 64000000
namespace Go.Eng
abbrev Ev := Int × Int × List (List UInt8) × List UInt8
def evT (e : Ev) : T := .agg [.int .i64 e.1, .int .i64 e.2.1, .sl (e.2.2.1.map bsT), .sl (e.2.2.2.map byteT)]
theorem evT_def {a b : Int} {c : List (List UInt8)} {d : List UInt8} : evT (a, b, c, d) = .agg [.int .i64 a, .int .i64 b, .sl (c.map bsT), .sl (d.map byteT)] := Eq.trans (Eq.refl _) rfl
theorem evT_inj {e f : Ev} (h : evT e = evT f) : e = f := by
  obtain ⟨a, b, c, d⟩ := e
  obtain ⟨a', b', c', d'⟩ := f
  simp only [evT_def, T.agg.injEq, List.cons.injEq, T.int.injEq, T.sl.injEq, true_and, and_true, mapBs_inj, mapB_inj] at h
  obtain ⟨rfl, rfl, rfl, rfl⟩ := h
  rfl
def evM (e : Ev) : Prop := modL e.2.2.1 ∧ e.2.2.2.length < 1000000000
def wantL (kind act : Int) (a : Nat) : Nat := if kind ≠ 5 ∧ act / 2 ^ a % 2 = 1 then szA a else 0
def badE (r k act : Int) : Prop := act < 1 ∨ 3 < act ∨ r < 0 ∨ 11 < r ∨ k < 1 ∨ 5 < k
instance {r k act : Int} : Decidable (badE r k act) := by unfold badE; infer_instance
def fitE (k act : Int) (ds : List (List UInt8)) : Bool := decide (ds.length = 2) && decide ((ds.getD 0 []).length = wantL k act 0) && decide ((ds.getD 1 []).length = wantL k act 1)
def chkE (e : Ev) (act : Int) : Int := if badE e.1 e.2.1 act then 1 else if 64 < e.2.2.2.length then 4 else if fitE e.2.1 act e.2.2.1 then 0 else 27
def ct_chk : Ct where
  α := Ev × Int
  as x := [.t (evT x.1), .t (.int .i64 x.2)]
  ins _ := []
  pre x := evM x.1
  r x := .t (.int .i64 (chkE x.1 x.2))
  outs _ := []
  inj := by
    rintro ⟨e, a⟩ ⟨f, b⟩ h _
    simp only [List.cons.injEq, V.t.injEq, T.int.injEq, true_and, and_true] at h
    obtain ⟨h1, rfl⟩ := h
    cases evT_inj h1
    exact ⟨rfl, rfl⟩
theorem wantL_note {act : Int} {a : Nat} : wantL 5 act a = 0 := if_neg (by simp)
theorem len2 {α : Type} {l : List α} (h : l.length = 2) : ∃ a b, l = [a, b] := by
  match l, h with
  | [a, b], _ => exact ⟨a, b, rfl⟩
theorem fitE_two {k act : Int} {d0 d1 : List UInt8} : fitE k act [d0, d1] = (decide (d0.length = wantL k act 0) && decide (d1.length = wantL k act 1)) := by simp [fitE]
theorem goodE {r k act : Int} (hb : ¬ badE r k act) : (¬ act < 1 ∧ ¬ 3 < act) ∧ (¬ r < 0 ∧ ¬ 11 < r) ∧ (¬ k < 1 ∧ ¬ 5 < k) := by
  unfold badE at hb; omega
theorem w_event_Check (tab : Tab) (gl : Gl) (n1 : Nat) (h1 : tab.look n1 = some ct_size.fs) (e : Ev) (act : Int) (hm : evM e) :
    (ac_event_Check n1).wp tab gl (zipF 0 [.t (evT e), .t (.int .i64 act)]) (zipF 0 []) (resW [(4, none)] 0 (fun r o => r = .t (.int .i64 (chkE e act)) ∧ o = [])) := by
  obtain ⟨r, k, ds, d⟩ := e
  have hl := hm.2
  have hd := hm.1.1
  simp only at hl hd
  by_cases hb : badE r k act
  · have hr : chkE (r, k, ds, d) act = 1 := if_pos hb
    rw [hr]
    by_cases c1 : act < 1
    · simp (disch := omega) only [go_sem, ↓reduceIte, Nat.reduceAdd, Nat.reduceEqDiff, reduceCtorEq, ac_event_Check, evT_def, c1]
    by_cases c2 : 3 < act
    · simp (disch := omega) only [go_sem, ↓reduceIte, Nat.reduceAdd, Nat.reduceEqDiff, reduceCtorEq, ac_event_Check, evT_def, c1, c2]
    by_cases c3 : r < 0
    · simp (disch := omega) only [go_sem, ↓reduceIte, Nat.reduceAdd, Nat.reduceEqDiff, Nat.reduceLeDiff, reduceCtorEq, ac_event_Check, evT_def, c1, c2, c3]
    by_cases c4 : 11 < r
    · simp (disch := omega) only [go_sem, ↓reduceIte, Nat.reduceAdd, Nat.reduceEqDiff, Nat.reduceLeDiff, reduceCtorEq, ac_event_Check, evT_def, c1, c2, c3, c4]
    by_cases c5 : k < 1
    · simp (disch := omega) only [go_sem, ↓reduceIte, Nat.reduceAdd, Nat.reduceEqDiff, Nat.reduceLeDiff, reduceCtorEq, ac_event_Check, evT_def, c1, c2, c3, c4, c5]
    have c6 : 5 < k := by unfold badE at hb; omega
    simp (disch := omega) only [go_sem, ↓reduceIte, Nat.reduceAdd, Nat.reduceEqDiff, Nat.reduceLeDiff, reduceCtorEq, ac_event_Check, evT_def, c1, c2, c3, c4, c5, c6]
  · obtain ⟨⟨c1, c2⟩, ⟨c3, c4⟩, c5, c6⟩ := goodE hb
    by_cases c7 : 64 < d.length
    · have hr : chkE (r, k, ds, d) act = 4 := by unfold chkE; rw [if_neg hb, if_pos c7]
      rw [hr]
      simp (disch := omega) only [go_sem, ↓reduceIte, Nat.reduceAdd, Nat.reduceEqDiff, Nat.reduceLeDiff, reduceCtorEq, ac_event_Check, evT_def, c1, c2, c3, c4, c5, c6, c7]
    · have hr : chkE (r, k, ds, d) act = if fitE k act ds then 0 else 27 := by unfold chkE; rw [if_neg hb, if_neg c7]
      rw [hr]
      by_cases c8 : ds.length = 2
      · obtain ⟨d0, d1, rfl⟩ := len2 c8
        have m0 := hm.1.2 d0 (by simp)
        have m1 := hm.1.2 d1 (by simp)
        rw [fitE_two]
        rcases (show k = 5 ∨ k ≠ 5 by omega) with rfl | hk
        · simp only [wantL_note]
          by_cases l0 : d0.length = 0 <;> by_cases l1 : d1.length = 0
          all_goals simp (disch := omega) only [go_sem, ↓reduceIte, Nat.reduceAdd, Nat.reduceEqDiff, Nat.reduceLeDiff, reduceCtorEq, ac_event_Check, evT_def, c1, c2, c3, c4, c5, c6, c7, List.map_cons, List.map_nil]
          all_goals refine loop_fuel 3 ?_
          all_goals simp (disch := omega) only [go_sem, ↓reduceIte, Nat.reduceAdd, Nat.reduceEqDiff, Nat.reduceLeDiff, Int.reduceLT, Int.reduceLE, Int.reduceAdd, reduceCtorEq, loopN_succ, ac_event_Check_L0, h1, l0, l1, Int.reduceFDiv]
        · have k5 : (k == 5) = false := by simpa using hk
          rcases (show act = 1 ∨ act = 2 ∨ act = 3 by omega) with rfl | rfl | rfl
          · have w0 : wantL k 1 0 = 20 := if_pos ⟨hk, by decide⟩
            have w1 : wantL k 1 1 = 0 := if_neg (by simp)
            rw [w0, w1]
            by_cases l0 : d0.length = 20 <;> by_cases l1 : d1.length = 0
            all_goals simp (disch := omega) only [go_sem, ↓reduceIte, Nat.reduceAdd, Nat.reduceEqDiff, Nat.reduceLeDiff, Int.reduceLT, reduceCtorEq, ac_event_Check, evT_def, c3, c4, c5, c6, c7, List.map_cons, List.map_nil]
            all_goals refine loop_fuel 3 ?_
            all_goals simp (disch := omega) only [go_sem, ↓reduceIte, Nat.reduceAdd, Nat.reduceEqDiff, Nat.reduceLeDiff, Int.reduceLT, Int.reduceLE, Int.reduceAdd, Int.reduceMod, reduceCtorEq, Int.reducePow, loopN_succ, ac_event_Check_L0, h1, size_eq0, size_eq1, k5, l0, l1, Int.reduceFDiv]
          · have w0 : wantL k 2 0 = 0 := if_neg (by simp)
            have w1 : wantL k 2 1 = 32 := if_pos ⟨hk, by decide⟩
            rw [w0, w1]
            by_cases l0 : d0.length = 0 <;> by_cases l1 : d1.length = 32
            all_goals simp (disch := omega) only [go_sem, ↓reduceIte, Nat.reduceAdd, Nat.reduceEqDiff, Nat.reduceLeDiff, Int.reduceLT, reduceCtorEq, ac_event_Check, evT_def, c3, c4, c5, c6, c7, List.map_cons, List.map_nil]
            all_goals refine loop_fuel 3 ?_
            all_goals simp (disch := omega) only [go_sem, ↓reduceIte, Nat.reduceAdd, Nat.reduceEqDiff, Nat.reduceLeDiff, Int.reduceLT, Int.reduceLE, Int.reduceAdd, Int.reduceMod, reduceCtorEq, Int.reducePow, loopN_succ, ac_event_Check_L0, h1, size_eq0, size_eq1, k5, l0, l1, Int.reduceFDiv]
          · have w0 : wantL k 3 0 = 20 := if_pos ⟨hk, by decide⟩
            have w1 : wantL k 3 1 = 32 := if_pos ⟨hk, by decide⟩
            rw [w0, w1]
            by_cases l0 : d0.length = 20 <;> by_cases l1 : d1.length = 32
            all_goals simp (disch := omega) only [go_sem, ↓reduceIte, Nat.reduceAdd, Nat.reduceEqDiff, Nat.reduceLeDiff, Int.reduceLT, reduceCtorEq, ac_event_Check, evT_def, c3, c4, c5, c6, c7, List.map_cons, List.map_nil]
            all_goals refine loop_fuel 3 ?_
            all_goals simp (disch := omega) only [go_sem, ↓reduceIte, Nat.reduceAdd, Nat.reduceEqDiff, Nat.reduceLeDiff, Int.reduceLT, Int.reduceLE, Int.reduceAdd, Int.reduceMod, reduceCtorEq, Int.reducePow, loopN_succ, ac_event_Check_L0, h1, size_eq0, size_eq1, k5, l0, l1, Int.reduceFDiv]
      · have hf : fitE k act ds = false := by unfold fitE; rw [decide_eq_false c8]; rfl
        rw [hf]
        have c9 : ((ds.length : Int) == 2) = false := by simpa using (by omega : ¬ (ds.length : Int) = 2)
        simp (disch := omega) only [go_sem, ↓reduceIte, Nat.reduceAdd, Nat.reduceEqDiff, Nat.reduceLeDiff, reduceCtorEq, ac_event_Check, evT_def, c1, c2, c3, c4, c5, c6, c7, c8, c9]
end Go.Eng
end
section
set_option maxRecDepth 20000
set_option maxHeartbeats 64000000
namespace Go.Eng
theorem chk_eq {a b : Int} {c : List (List UInt8)} {d : List UInt8} {act : Int} (h : evM (a, b, c, d)) : ct_chk.fs [.t (.agg [.int .i64 a, .int .i64 b, .sl (c.map bsT), .sl (d.map byteT)]), .t (.int .i64 act)] [] = some (.t (.int .i64 (chkE (a, b, c, d) act)), []) := ct_chk.eq ((a, b, c, d), act) h
def ct_has : Ct where
  α := Int × Nat
  as x := [.t (.int .i64 x.1), .t (.int .i64 x.2)]
  ins _ := []
  pre x := (0 ≤ x.1 ∧ x.1 < 4) ∧ x.2 < 2
  r x := .t (.bool (decide (x.1 / 2 ^ x.2 % 2 = 1)))
  outs _ := []
  inj := by
    rintro ⟨a, b⟩ ⟨c, d⟩ h _
    simp only [List.cons.injEq, V.t.injEq, T.int.injEq, true_and, and_true, Int.natCast_inj] at h
    obtain ⟨rfl, rfl⟩ := h
    exact ⟨rfl, rfl⟩
theorem w_ref25_has (tab : Tab) (gl : Gl) (x : ct_has.α) (hx : ct_has.pre x) : ac_ref25_has.wp tab gl (zipF 0 (ct_has.as x)) (zipF 0 []) (resW [(4, none)] 0 (fun r o => r = ct_has.r x ∧ o = [])) := by
  obtain ⟨s, a⟩ := x
  obtain ⟨⟨h1, h2⟩, h3⟩ := hx
  simp only at h1 h2 h3
  show ac_ref25_has.wp tab gl (zipF 0 [.t (.int .i64 s), .t (.int .i64 a)]) (zipF 0 []) (resW [(4, none)] 0 (fun r o => r = .t (.bool (decide (s / 2 ^ a % 2 = 1))) ∧ o = []))
  rcases (show s = 0 ∨ s = 1 ∨ s = 2 ∨ s = 3 by omega) with rfl | rfl | rfl | rfl <;> rcases (show a = 0 ∨ a = 1 by omega) with rfl | rfl
  all_goals simp (disch := omega) only [go_sem, ↓reduceIte, Nat.reduceAdd, Nat.reduceEqDiff, Int.reduceEq, Int.reduceLT, Int.reduceMod, Int.reduceDiv, reduceCtorEq, Int.reducePow, ac_ref25_has]
  all_goals rfl
theorem has_eq {s : Int} {a : Nat} (h : (0 ≤ s ∧ s < 4) ∧ a < 2) : ct_has.fs [.t (.int .i64 s), .t (.int .i64 a)] [] = some (.t (.bool (decide (s / 2 ^ a % 2 = 1))), []) := ct_has.eq (s, a) h
theorem has_eq0 {s : Int} (h : 0 ≤ s ∧ s < 4) : ct_has.fs [.t (.int .i64 s), .t (.int .i64 0)] [] = some (.t (.bool (decide (s % 2 = 1))), []) := by
  have := has_eq (s := s) (a := 0) ⟨h, by omega⟩
  simpa using this
theorem has_eq1 {s : Int} (h : 0 ≤ s ∧ s < 4) : ct_has.fs [.t (.int .i64 s), .t (.int .i64 1)] [] = some (.t (.bool (decide (s / 2 % 2 = 1))), []) := by
  have := has_eq (s := s) (a := 1) ⟨h, by omega⟩
  simpa using this
theorem wantL0 {k s : Int} : wantL k s 0 = if k ≠ 5 ∧ s % 2 = 1 then 20 else 0 := by unfold wantL; simp [szA]
theorem wantL1 {k s : Int} : wantL k s 1 = if k ≠ 5 ∧ s / 2 % 2 = 1 then 32 else 0 := by unfold wantL; simp [szA]
def ct_sameE : Ct where
  α := Ev × Ev
  as x := [.t (evT x.1), .t (evT x.2)]
  ins _ := []
  pre x := evM x.1 ∧ evM x.2
  r x := .t (.bool (decide (x.1 = x.2)))
  outs _ := []
  inj := by
    rintro ⟨a, b⟩ ⟨c, d⟩ h _
    simp only [List.cons.injEq, V.t.injEq, and_true] at h
    obtain ⟨h1, h2⟩ := h
    cases evT_inj h1
    cases evT_inj h2
    exact ⟨rfl, rfl⟩
theorem lists2_eq {a b : List (List UInt8)} (ha : modL a) (hb : modL b) : ct_lists.fs [.t (.sl (a.map bsT)), .t (.sl (b.map bsT))] [] = some (.t (.bool (decide (a = b))), []) := ct_lists.eq (a, b) ⟨ha, hb⟩
theorem w_ref25_SameEvent (tab : Tab) (gl : Gl) (n1 n2 : Nat) (h1 : tab.look n1 = some ct_lists.fs) (h2 : tab.look n2 = some ct_same.fs) (e f : Ev) (he : evM e) (hf : evM f) :
    (ac_ref25_SameEvent n1 n2).wp tab gl (zipF 0 [.t (evT e), .t (evT f)]) (zipF 0 []) (resW [(4, none)] 0 (fun r o => r = .t (.bool (decide (e = f))) ∧ o = [])) := by
  obtain ⟨r, k, ds, d⟩ := e
  obtain ⟨r', k', ds', d'⟩ := f
  have hL := lists2_eq he.1 hf.1
  have hS := same_eq (a := d) (b := d') ⟨he.2, hf.2⟩
  simp only at hL hS
  by_cases q1 : r = r'
  · subst q1
    by_cases q2 : k = k'
    · subst q2
      by_cases q3 : ds = ds'
      · subst q3
        by_cases q4 : d = d'
        · subst q4
          rw [decide_eq_true rfl] at hL hS
          simp (disch := omega) only [go_sem, ↓reduceIte, Nat.reduceAdd, Nat.reduceEqDiff, Nat.reduceLeDiff, reduceCtorEq, ac_ref25_SameEvent, evT_def, h1, h2, hL, hS, beq_self_eq_true]
        · rw [decide_eq_true rfl] at hL
          rw [decide_eq_false q4] at hS
          have hn : ¬ (r, k, ds, d) = (r, k, ds, d') := fun h => q4 (by injection h with _ h; injection h with _ h; injection h)
          rw [decide_eq_false hn]
          simp (disch := omega) only [go_sem, ↓reduceIte, Nat.reduceAdd, Nat.reduceEqDiff, Nat.reduceLeDiff, reduceCtorEq, ac_ref25_SameEvent, evT_def, h1, h2, hL, hS, beq_self_eq_true]
      · rw [decide_eq_false q3] at hL
        have hn : ¬ (r, k, ds, d) = (r, k, ds', d') := fun h => q3 (by injection h with _ h; injection h with _ h; injection h)
        rw [decide_eq_false hn]
        simp (disch := omega) only [go_sem, ↓reduceIte, Nat.reduceAdd, Nat.reduceEqDiff, Nat.reduceLeDiff, reduceCtorEq, ac_ref25_SameEvent, evT_def, h1, h2, hL, beq_self_eq_true]
    · have hn : ¬ (r, k, ds, d) = (r, k', ds', d') := fun h => q2 (by injection h with _ h; injection h)
      rw [decide_eq_false hn]
      have e2 : (k == k') = false := by simpa using q2
      simp (disch := omega) only [go_sem, ↓reduceIte, Nat.reduceAdd, Nat.reduceEqDiff, Nat.reduceLeDiff, reduceCtorEq, ac_ref25_SameEvent, evT_def, beq_self_eq_true, e2, q2]
  · have hn : ¬ (r, k, ds, d) = (r', k', ds', d') := fun h => q1 (by injection h)
    rw [decide_eq_false hn]
    have e1 : (r == r') = false := by simpa using q1
    simp (disch := omega) only [go_sem, ↓reduceIte, Nat.reduceAdd, Nat.reduceEqDiff, Nat.reduceLeDiff, reduceCtorEq, ac_ref25_SameEvent, evT_def, e1, q1]
end Go.Eng
end
section
set_option maxRecDepth 20000
set_option maxHeartbeats 64000000
namespace Go.Eng
def ct_clone : Ct where
  α := List UInt8
  as x := [.t (.sl (x.map byteT))]
  ins _ := []
  pre x := x.length < 1000000000
  r x := .t (.sl (x.map byteT))
  outs _ := []
  inj := by
    intro a b h _
    simp only [List.cons.injEq, V.t.injEq, T.sl.injEq, and_true, mapB_inj] at h
    subst h; exact ⟨rfl, rfl⟩
theorem clone_eq {x : List UInt8} (h : x.length < 1000000000) : ct_clone.fs [.t (.sl (x.map byteT))] [] = some (.t (.sl (x.map byteT)), []) := ct_clone.eq x h
theorem w_bytes_Clone (tab : Tab) (gl : Gl) (x : List UInt8) (hx : x.length < 1000000000) : ac_bytes_Clone.wp tab gl (zipF 0 [.t (.sl (x.map byteT))]) (zipF 0 []) (resW [(2, none)] 0 (fun r o => r = .t (.sl (x.map byteT)) ∧ o = [])) := by
  match x, hx with
  | [], hx => simp (disch := omega) only [go_sem, ↓reduceIte, Nat.reduceAdd, Nat.reduceEqDiff, Nat.reduceLeDiff, reduceCtorEq, ac_bytes_Clone, List.map_nil]
  | a :: r, hx =>
    simp only [List.length_cons] at hx
    simp (disch := omega) only [go_sem, ↓reduceIte, Nat.reduceAdd, Nat.reduceEqDiff, Nat.reduceLeDiff, reduceCtorEq, ac_bytes_Clone, List.map_cons, List.take_length]
def mkD (k act : Int) (d : List UInt8) (a : Nat) : List UInt8 := if k ≠ 5 ∧ act / 2 ^ a % 2 = 1 then sumA a d else []
def mkE (r k act : Int) (d : List UInt8) : Ev := (r, k, [mkD k act d 0, mkD k act d 1], d)
def ct_make : Ct where
  α := Int × Int × Int × List UInt8
  as x := [.t (.int .i64 x.1), .t (.int .i64 x.2.1), .t (.int .i64 x.2.2.1), .t (.sl (x.2.2.2.map byteT))]
  ins _ := []
  pre x := (0 ≤ x.2.2.1 ∧ x.2.2.1 < 4) ∧ x.2.2.2.length < 1000000000
  r x := .t (evT (mkE x.1 x.2.1 x.2.2.1 x.2.2.2))
  outs _ := []
  inj := by
    rintro ⟨a, b, c, d⟩ ⟨a', b', c', d'⟩ h _
    simp only [List.cons.injEq, V.t.injEq, T.int.injEq, T.sl.injEq, true_and, and_true, mapB_inj] at h
    obtain ⟨rfl, rfl, rfl, rfl⟩ := h
    exact ⟨rfl, rfl⟩
theorem make_eq {r k act : Int} {d : List UInt8} (h : (0 ≤ act ∧ act < 4) ∧ d.length < 1000000000) : ct_make.fs [.t (.int .i64 r), .t (.int .i64 k), .t (.int .i64 act), .t (.sl (d.map byteT))] [] =
    some (.t (.agg [.int .i64 r, .int .i64 k, .sl [bsT (mkD k act d 0), bsT (mkD k act d 1)], .sl (d.map byteT)]), []) := ct_make.eq (r, k, act, d) h
def mkA (k act : Int) (d : List UInt8) (i a : Nat) : List UInt8 := if a < i then mkD k act d a else []
theorem mkA_0 {k act : Int} {d : List UInt8} {a : Nat} : mkA k act d 0 a = [] := if_neg (by omega)
theorem mkA_10 {k act : Int} {d : List UInt8} : mkA k act d 1 0 = mkD k act d 0 := if_pos (by omega)
theorem mkA_11 {k act : Int} {d : List UInt8} : mkA k act d 1 1 = [] := if_neg (by omega)
theorem mkA_2 {k act : Int} {d : List UInt8} {a : Nat} (h : a < 2) : mkA k act d 2 a = mkD k act d a := if_pos h
theorem mkD0 {k act : Int} {d : List UInt8} : mkD k act d 0 = if k ≠ 5 ∧ act % 2 = 1 then sum1 d else [] := by unfold mkD; simp [sumA]
theorem mkD1 {k act : Int} {d : List UInt8} : mkD k act d 1 = if k ≠ 5 ∧ act / 2 % 2 = 1 then sum256 d else [] := by unfold mkD; simp [sumA]
theorem w_event_Make (tab : Tab) (gl : Gl) (n1 n2 : Nat) (h1 : tab.look n1 = some ct_clone.fs) (h2 : tab.look n2 = some ct_sumA.fs) (r k act : Int) (d : List UInt8) (ha : 0 ≤ act ∧ act < 4) (hd : d.length < 1000000000) :
    (ac_event_Make n1 n2).wp tab gl (zipF 0 [.t (.int .i64 r), .t (.int .i64 k), .t (.int .i64 act), .t (.sl (d.map byteT))]) (zipF 0 []) (resW [(8, some (4, true))] 0 (fun r' o => r' = .t (evT (mkE r k act d)) ∧ o = [])) := by
  have hc := clone_eq hd
  have s0 := sumA_eq0 hd
  have s1 := sumA_eq1 hd
  have e0 := mkD0 (k := k) (act := act) (d := d)
  have e1 := mkD1 (k := k) (act := act) (d := d)
  have l0 : (sum1 d).length = 20 := sum1_length
  have l1 : (sum256 d).length = 32 := sum256_length
  have t0 : List.take 20 (sum1 d) = sum1 d := take_sum1
  have t1 : List.take 32 (sum256 d) = sum256 d := take_sum256
  generalize sum1 d = S0 at *
  generalize sum256 d = S1 at *
  simp (disch := omega) only [go_sem, ↓reduceIte, Nat.reduceAdd, Nat.reduceEqDiff, Nat.reduceMul, Nat.reduceLeDiff, Int.reduceLE, reduceCtorEq, ac_event_Make, h1, hc]
  repeat refine And.intro rfl ?_
  refine loop_upto 2 (fun i => [(1, .t (.int .i64 k)), (2, .t (.int .i64 act)), (3, .t (.sl (d.map byteT))), (8, .ref 4096 0 0), (9, .ref 8288 0 0), (19, .t (.int .i64 2)), (20, .t (.int .i64 (i : Nat)))])
    (fun i => [(8288, .live 4 [.agg [.t (.int .i64 r), .t (.int .i64 k), .sl 8224 0 2, .t (.sl (d.map byteT))]] true true), (8224, .live 1 [.t (.sl ((mkA k act d i 0).map byteT)), .t (.sl ((mkA k act d i 1).map byteT))] true false), (4096, .live 4 [.agg [.t (.int .i64 0), .t (.int .i64 0), .nil, .nil]] true true)]) ?_ (fun i hi => ?_)
  · refine Weak.rd id ?_ ?_ rfl
    all_goals simp (disch := omega) only [go_sem, ↓reduceIte, Nat.reduceAdd, Nat.reduceEqDiff, Nat.reduceBEq, reduceCtorEq, id, mkA_0, List.map_nil]
  · rcases (show i = 0 ∨ i = 1 ∨ i = 2 by omega) with rfl | rfl | rfl
    · rcases (show k = 5 ∨ k ≠ 5 by omega) with rfl | hk
      · rw [if_neg (by simp)] at e0
        simp (disch := omega) only [go_sem, ↓reduceIte, Nat.reduceAdd, Nat.reduceEqDiff, Nat.reduceLT, Int.reduceLT, Int.reduceAdd, ac_event_Make_L0, mkA_0]
        refine Weak.rd id ?_ ?_ rfl
        all_goals simp (disch := omega) only [go_sem, ↓reduceIte, Nat.reduceAdd, Nat.reduceEqDiff, Nat.reduceBEq, id, mkA_10, mkA_11, e0, List.map_nil]
      · have k5 : (k == 5) = false := by simpa using hk
        have b5 : (k != 5) = true := by simpa using hk
        rcases (show act = 0 ∨ act = 1 ∨ act = 2 ∨ act = 3 by omega) with rfl | rfl | rfl | rfl
        all_goals simp only [hk, ne_eq, not_false_eq_true, true_and, Int.reduceMod, Int.reduceEq, if_true, if_false] at e0
        all_goals simp (disch := omega) only [go_sem, ↓reduceIte, Nat.reduceAdd, Nat.reduceEqDiff, Nat.reduceLT, Nat.reduceLeDiff, Int.reduceLT, Int.reduceLE, Int.reduceAdd, Int.reduceMod, reduceCtorEq, Int.reducePow, ac_event_Make_L0, mkA_0, k5, b5, h2, s0, Int.reduceFDiv]
        all_goals first
          | (refine ⟨rfl, Weak.cv (hv := []) [28752] id ?_ rfl⟩
             simp (disch := omega) only [go_sem, ↓reduceIte, Nat.reduceAdd, Nat.reduceEqDiff, Nat.reduceLeDiff, Nat.reduceBEq, id, mkA_10, mkA_11, e0, l0, t0, List.map_nil]
             rfl)
          | (refine Weak.rd id ?_ ?_ rfl
             all_goals simp (disch := omega) only [go_sem, ↓reduceIte, Nat.reduceAdd, Nat.reduceEqDiff, Nat.reduceBEq, id, mkA_10, mkA_11, e0, List.map_nil])
    · rcases (show k = 5 ∨ k ≠ 5 by omega) with rfl | hk
      · rw [if_neg (by simp)] at e1
        simp (disch := omega) only [go_sem, ↓reduceIte, Nat.reduceAdd, Nat.reduceEqDiff, Nat.reduceLT, Int.reduceLT, Int.reduceAdd, ac_event_Make_L0, mkA_10, mkA_11]
        refine Weak.rd id ?_ ?_ rfl
        all_goals simp (disch := omega) only [go_sem, ↓reduceIte, Nat.reduceAdd, Nat.reduceEqDiff, Nat.reduceBEq, id, mkA_2, e1, List.map_nil]
      · have k5 : (k == 5) = false := by simpa using hk
        have b5 : (k != 5) = true := by simpa using hk
        rcases (show act = 0 ∨ act = 1 ∨ act = 2 ∨ act = 3 by omega) with rfl | rfl | rfl | rfl
        all_goals simp only [hk, ne_eq, not_false_eq_true, true_and, Int.reduceDiv, Int.reduceMod, Int.reduceEq, if_true, if_false] at e1
        all_goals simp (disch := omega) only [go_sem, ↓reduceIte, Nat.reduceAdd, Nat.reduceEqDiff, Nat.reduceLT, Nat.reduceLeDiff, Int.reduceLT, Int.reduceLE, Int.reduceAdd, Int.reduceMod, reduceCtorEq, Int.reducePow, ac_event_Make_L0, mkA_10, mkA_11, k5, b5, h2, s1, Int.reduceFDiv]
        all_goals first
          | (refine ⟨rfl, Weak.cv (hv := []) [28752] id ?_ rfl⟩
             simp (disch := omega) only [go_sem, ↓reduceIte, Nat.reduceAdd, Nat.reduceEqDiff, Nat.reduceLeDiff, Nat.reduceBEq, id, mkA_2, e1, l1, t1, List.map_nil]
             rfl)
          | (refine Weak.rd id ?_ ?_ rfl
             all_goals simp (disch := omega) only [go_sem, ↓reduceIte, Nat.reduceAdd, Nat.reduceEqDiff, Nat.reduceBEq, id, mkA_2, e1, List.map_nil])
    · simp (disch := omega) only [go_sem, ↓reduceIte, Nat.reduceAdd, Nat.reduceEqDiff, Nat.reduceLeDiff, Int.reduceLT, ac_event_Make_L0, mkA_2, mkE, evT_def, List.map_cons, List.map_nil]
theorem w_ref25_Make (tab : Tab) (gl : Gl) (n1 n2 : Nat) (h1 : tab.look n1 = some ct_has.fs) (h2 : tab.look n2 = some ct_sumA.fs) (r k act : Int) (d : List UInt8) (ha : 0 ≤ act ∧ act < 4) (hd : d.length < 1000000000) :
    (ac_ref25_Make n1 n2).wp tab gl (zipF 0 [.t (.int .i64 r), .t (.int .i64 k), .t (.int .i64 act), .t (.sl (d.map byteT))]) (zipF 0 []) (resW [(8, some (4, true))] 0 (fun r' o => r' = .t (evT (mkE r k act d)) ∧ o = [])) := by
  have q0 := has_eq0 ha
  have q1 := has_eq1 ha
  have s0 := sumA_eq0 hd
  have s1 := sumA_eq1 hd
  have e0 := mkD0 (k := k) (act := act) (d := d)
  have e1 := mkD1 (k := k) (act := act) (d := d)
  have l0 : (sum1 d).length = 20 := sum1_length
  have l1 : (sum256 d).length = 32 := sum256_length
  have t0 : List.take 20 (sum1 d) = sum1 d := take_sum1
  have t1 : List.take 32 (sum256 d) = sum256 d := take_sum256
  generalize sum1 d = S0 at *
  generalize sum256 d = S1 at *
  simp (disch := omega) only [go_sem, ↓reduceIte, Nat.reduceAdd, Nat.reduceEqDiff, Nat.reduceMul, Nat.reduceLeDiff, Int.reduceLE, reduceCtorEq, ac_ref25_Make]
  repeat refine And.intro rfl ?_
  refine loop_upto 2 (fun i => [(1, .t (.int .i64 k)), (2, .t (.int .i64 act)), (3, .t (.sl (d.map byteT))), (8, .ref 4096 0 0), (9, .ref 8272 0 0), (10, .t (.int .i64 (i : Nat)))])
    (fun i => [(8272, .live 4 [.agg [.t (.int .i64 r), .t (.int .i64 k), .sl 8224 0 2, .t (.sl (d.map byteT))]] true true), (8224, .live 1 [.t (.sl ((mkA k act d i 0).map byteT)), .t (.sl ((mkA k act d i 1).map byteT))] true false), (4096, .live 4 [.agg [.t (.int .i64 0), .t (.int .i64 0), .nil, .nil]] true true)]) ?_ (fun i hi => ?_)
  · refine Weak.rd id ?_ ?_ rfl
    all_goals simp (disch := omega) only [go_sem, ↓reduceIte, Nat.reduceAdd, Nat.reduceEqDiff, Nat.reduceBEq, reduceCtorEq, id, mkA_0, List.map_nil]
  · have k5 : ∀ h : k ≠ 5, (k == 5) = false := fun h => by simpa using h
    have b5 : ∀ h : k ≠ 5, (k != 5) = true := fun h => by simpa using h
    rcases (show i = 0 ∨ i = 1 ∨ i = 2 by omega) with rfl | rfl | rfl
    · by_cases b0 : act % 2 = 1
      · rcases (show k = 5 ∨ k ≠ 5 by omega) with rfl | hk
        · rw [if_neg (by simp)] at e0
          simp (disch := omega) only [go_sem, ↓reduceIte, Nat.reduceAdd, Nat.reduceEqDiff, Nat.reduceLT, Nat.reduceLeDiff, Int.reduceLT, Int.reduceAdd, ac_ref25_Make_L0, mkA_0, h1, q0, b0]
          refine Weak.rd id ?_ ?_ rfl
          all_goals simp (disch := omega) only [go_sem, ↓reduceIte, Nat.reduceAdd, Nat.reduceEqDiff, Nat.reduceBEq, id, mkA_10, mkA_11, e0, List.map_nil]
        · rw [if_pos ⟨hk, b0⟩] at e0
          simp (disch := omega) only [go_sem, ↓reduceIte, Nat.reduceAdd, Nat.reduceEqDiff, Nat.reduceLT, Nat.reduceLeDiff, Int.reduceLT, Int.reduceLE, Int.reduceAdd, reduceCtorEq, ac_ref25_Make_L0, mkA_0, h1, q0, b0, k5 hk, b5 hk, h2, s0]
          refine ⟨rfl, Weak.cv (hv := []) [28752] id ?_ rfl⟩
          simp (disch := omega) only [go_sem, ↓reduceIte, Nat.reduceAdd, Nat.reduceEqDiff, Nat.reduceLeDiff, Nat.reduceBEq, id, mkA_10, mkA_11, e0, l0, t0, List.map_nil]
          rfl
      · rw [if_neg (by simp [b0])] at e0
        simp (disch := omega) only [go_sem, ↓reduceIte, Nat.reduceAdd, Nat.reduceEqDiff, Nat.reduceLT, Nat.reduceLeDiff, Int.reduceLT, Int.reduceAdd, ac_ref25_Make_L0, mkA_0, h1, q0, b0]
        refine Weak.rd id ?_ ?_ rfl
        all_goals simp (disch := omega) only [go_sem, ↓reduceIte, Nat.reduceAdd, Nat.reduceEqDiff, Nat.reduceBEq, id, mkA_10, mkA_11, e0, List.map_nil]
    · by_cases b0 : act / 2 % 2 = 1
      · rcases (show k = 5 ∨ k ≠ 5 by omega) with rfl | hk
        · rw [if_neg (by simp)] at e1
          simp (disch := omega) only [go_sem, ↓reduceIte, Nat.reduceAdd, Nat.reduceEqDiff, Nat.reduceLT, Nat.reduceLeDiff, Int.reduceLT, Int.reduceAdd, ac_ref25_Make_L0, mkA_10, mkA_11, h1, q1, b0]
          refine Weak.rd id ?_ ?_ rfl
          all_goals simp (disch := omega) only [go_sem, ↓reduceIte, Nat.reduceAdd, Nat.reduceEqDiff, Nat.reduceBEq, id, mkA_2, e1, List.map_nil]
        · rw [if_pos ⟨hk, b0⟩] at e1
          simp (disch := omega) only [go_sem, ↓reduceIte, Nat.reduceAdd, Nat.reduceEqDiff, Nat.reduceLT, Nat.reduceLeDiff, Int.reduceLT, Int.reduceLE, Int.reduceAdd, reduceCtorEq, ac_ref25_Make_L0, mkA_10, mkA_11, h1, q1, b0, k5 hk, b5 hk, h2, s1]
          refine ⟨rfl, Weak.cv (hv := []) [28752] id ?_ rfl⟩
          simp (disch := omega) only [go_sem, ↓reduceIte, Nat.reduceAdd, Nat.reduceEqDiff, Nat.reduceLeDiff, Nat.reduceBEq, id, mkA_2, e1, l1, t1, List.map_nil]
          rfl
      · rw [if_neg (by simp [b0])] at e1
        simp (disch := omega) only [go_sem, ↓reduceIte, Nat.reduceAdd, Nat.reduceEqDiff, Nat.reduceLT, Nat.reduceLeDiff, Int.reduceLT, Int.reduceAdd, ac_ref25_Make_L0, mkA_10, mkA_11, h1, q1, b0]
        refine Weak.rd id ?_ ?_ rfl
        all_goals simp (disch := omega) only [go_sem, ↓reduceIte, Nat.reduceAdd, Nat.reduceEqDiff, Nat.reduceBEq, id, mkA_2, e1, List.map_nil]
    · simp (disch := omega) only [go_sem, ↓reduceIte, Nat.reduceAdd, Nat.reduceEqDiff, Nat.reduceLeDiff, Int.reduceLT, ac_ref25_Make_L0, mkA_2, mkE, evT_def, List.map_cons, List.map_nil]
end Go.Eng
end
section
set_option maxRecDepth 20000
set_option maxHeartbeats 64000000
namespace Go.Eng
def ct_eqB : Ct where
  α := List UInt8 × List UInt8
  as x := [.t (.sl (x.1.map byteT)), .t (.sl (x.2.map byteT))]
  ins _ := []
  pre _ := True
  r x := .t (.bool (decide (x.1 = x.2)))
  outs _ := []
  inj := by
    rintro ⟨a, b⟩ ⟨c, d⟩ h _
    simp only [List.cons.injEq, V.t.injEq, T.sl.injEq, and_true, mapB_inj] at h
    obtain ⟨rfl, rfl⟩ := h
    exact ⟨rfl, rfl⟩
theorem eqB_eq {a b : List UInt8} : ct_eqB.fs [.t (.sl (a.map byteT)), .t (.sl (b.map byteT))] [] = some (.t (.bool (decide (a = b))), []) := ct_eqB.eq (a, b) trivial
theorem w_bytes_Equal (tab : Tab) (gl : Gl) (x : ct_eqB.α) : ac_bytes_Equal.wp tab gl (zipF 0 (ct_eqB.as x)) (zipF 0 []) (resW [(4, none)] 0 (fun r o => r = ct_eqB.r x ∧ o = [])) := by
  obtain ⟨a, b⟩ := x
  show ac_bytes_Equal.wp tab gl (zipF 0 [.t (.sl (a.map byteT)), .t (.sl (b.map byteT))]) (zipF 0 []) (resW [(4, none)] 0 (fun r o => r = .t (.bool (decide (a = b))) ∧ o = []))
  simp (disch := omega) only [go_sem, ↓reduceIte, Nat.reduceAdd, Nat.reduceEqDiff, reduceCtorEq, ac_bytes_Equal]
def sep4 : List UInt8 := [0, 0, 0, 0]
def okC (c : UInt8) : Bool := !decide (c.toNat < 32) && !decide (c.toNat > 126)
def prL (d : List UInt8) : Bool := decide (0 < d.length) && d.all okC
theorem all_take {d : List UInt8} {i : Nat} (h : i < d.length) : (d.take (i + 1)).all okC = ((d.take i).all okC && okC (d.getD i 0)) := by
  rw [take_s (d := 0) h]; simp
theorem all_not {d : List UInt8} {i : Nat} (h : i < d.length) (hc : okC (d.getD i 0) = false) : d.all okC = false := by
  have e : d.getD i 0 = d[i] := by simp [List.getD, h]
  rw [e] at hc
  cases hq : d.all okC
  · rfl
  · have := List.all_eq_true.1 hq _ (List.getElem_mem h)
    rw [hc] at this; cases this
def conA (k : Int) (ds : List (List UInt8)) (d : List UInt8) (a : Nat) : Bool := decide (ds.length ≤ a) || (decide ((ds.getD a []).length = 0) || (decide (k ≠ 5) && decide (ds.getD a [] = sumA a d)))
def conD (k : Int) (ds : List (List UInt8)) (d : List UInt8) : Bool := conA k ds d 0 && conA k ds d 1
def conE (e : Ev) : Bool := if e.2.1 = 1 then true else if e.2.1 < 1 ∨ 5 < e.2.1 then false else if e.2.1 = 2 ∧ e.2.2.2 ≠ sep4 then false else if e.2.1 = 3 ∧ prL e.2.2.2 = false then false else conD e.2.1 e.2.2.1 e.2.2.2
def ct_con : Ct where
  α := Ev
  as x := [.t (evT x)]
  ins _ := []
  pre x := evM x
  r x := .t (.bool (conE x))
  outs _ := []
  inj := by
    intro a b h _
    simp only [List.cons.injEq, V.t.injEq, and_true] at h
    cases evT_inj h
    exact ⟨rfl, rfl⟩
theorem conA_z {k : Int} {ds : List (List UInt8)} {d : List UInt8} {a : Nat} (h : (ds.getD a []).length = 0) : conA k ds d a = true := by unfold conA; rw [decide_eq_true h]; simp
theorem conA_n {k : Int} {ds : List (List UInt8)} {d : List UInt8} {a : Nat} (h1 : a < ds.length) (h2 : ¬ (ds.getD a []).length = 0) : conA k ds d a = (decide (k ≠ 5) && decide (ds.getD a [] = sumA a d)) := by
  unfold conA; rw [decide_eq_false (by omega), decide_eq_false h2]; rfl
theorem conD_f {k : Int} {ds : List (List UInt8)} {d : List UInt8} {a : Nat} (ha : a < 2) (h : conA k ds d a = false) : conD k ds d = false := by
  unfold conD; rcases (show a = 0 ∨ a = 1 by omega) with rfl | rfl <;> rw [h] <;> simp
theorem minI {n : Nat} : ((Nat.min n 2 : Nat) : Int) = if 2 < (n : Int) then 2 else (n : Int) := by
  have : Nat.min n 2 = min n 2 := rfl
  split <;> omega
theorem up1 {P : Nat → Prop} {i : Nat} (h : ∀ a, a < i → P a) (hi : P i) : ∀ a, a < i + 1 → P a := by
  intro a ha
  rcases Nat.lt_or_ge a i with h1 | h1
  · exact h a h1
  · have : a = i := by omega
    subst this; exact hi
theorem w_event_Consistent (tab : Tab) (gl : Gl) (n1 n2 : Nat) (h1 : tab.look n1 = some ct_eqB.fs) (h2 : tab.look n2 = some ct_sumA.fs) (e : Ev) (hm : evM e) :
    (ac_event_Consistent n1 n2).wp tab gl (zipF 0 [.t (evT e)]) (zipF 0 []) (resW [(2, none)] 0 (fun r o => r = .t (.bool (conE e)) ∧ o = [])) := by
  obtain ⟨r, k, ds, d⟩ := e
  have hd := hm.2
  simp only at hd
  by_cases k1 : k = 1
  · subst k1
    simp (disch := omega) only [go_sem, ↓reduceIte, Nat.reduceAdd, Nat.reduceEqDiff, Nat.reduceLeDiff, reduceCtorEq, ac_event_Consistent, evT_def, conE]
  by_cases kb : k < 1 ∨ 5 < k
  · have q1 : (k == 1) = false := by simpa using k1
    have q2 : (k == 2) = false := by simpa using (by omega : ¬ k = 2)
    have q3 : (k == 3) = false := by simpa using (by omega : ¬ k = 3)
    have q4 : (k == 4) = false := by simpa using (by omega : ¬ k = 4)
    have q5 : (k == 5) = false := by simpa using (by omega : ¬ k = 5)
    have n5 : (k != 5) = true := by simpa using (by omega : ¬ k = 5)
    have n1 : (k != 1) = true := by simpa using k1
    have hr : conE (r, k, ds, d) = false := by unfold conE; simp only; rw [if_neg k1, if_pos kb]
    rw [hr]
    simp (disch := omega) only [go_sem, ↓reduceIte, Nat.reduceAdd, Nat.reduceEqDiff, Nat.reduceLeDiff, reduceCtorEq, ac_event_Consistent, evT_def, q1, q2, q3, q4, q5, n1, n5]
  have hd0 : ∀ a, (ds.getD a []).length < 1000000000 := modL_get hm.1
  have fin : ∀ (fs : Fs) (hs : Hs), conE (r, k, ds, d) = conD k ds d → Weak fs hs [(1, .ref 4096 0 0), (3, .t (.bool (decide (k ≠ 5)))), (53, .t (.int .i64 (Nat.min ds.length 2 : Nat))), (54, .t (.int .i64 0))] [(4096, .live 4 [.t (evT (r, k, ds, d))] true true)] →
      loopW tab gl (ac_event_Consistent_L1 n2 n1) fs hs (blockK 3 (seqK tab gl ((rG 114688 [mC 2 (.t (.bool true))]).seq AC.ret) (resW [(2, none)] 0 (fun r' o => r' = .t (.bool (conE (r, k, ds, d))) ∧ o = [])))) := by
    intro fs hs hE hw
    refine loopW_weak hw ?_
    rw [hE]
    refine loop_uptoP (Nat.min ds.length 2) (fun i => ∀ a, a < i → conA k ds d a = true) (fun i => [(1, .ref 4096 0 0), (3, .t (.bool (decide (k ≠ 5)))), (53, .t (.int .i64 (Nat.min ds.length 2 : Nat))), (54, .t (.int .i64 (i : Nat)))]) (fun _ => [(4096, .live 4 [.t (evT (r, k, ds, d))] true true)]) (by intro a ha; omega) ?_ (fun i hi hP => ?_)
    · refine Weak.rd id ?_ ?_ rfl
      all_goals simp (disch := omega) only [go_sem, ↓reduceIte, Nat.reduceEqDiff, id]
    · have hmin : Nat.min ds.length 2 ≤ ds.length ∧ Nat.min ds.length 2 ≤ 2 := ⟨Nat.min_le_left _ _, Nat.min_le_right _ _⟩
      have hle : Nat.min ds.length 2 = ds.length ∨ Nat.min ds.length 2 = 2 := by
        have : Nat.min ds.length 2 = min ds.length 2 := rfl
        omega
      generalize hn : Nat.min ds.length 2 = n at *
      by_cases hlt : i < n
      · have hi2 : i < ds.length := by omega
        have mi := hd0 i
        by_cases z : (ds.getD i []).length = 0
        · have hc := conA_z (k := k) (d := d) z
          simp (disch := omega) only [go_sem, ↓reduceIte, Nat.reduceAdd, Nat.reduceEqDiff, Nat.reduceLeDiff, reduceCtorEq, ac_event_Consistent_L1, evT_def, z]
          refine ⟨hlt, up1 hP hc, Weak.rd id ?_ ?_ rfl⟩
          all_goals simp (disch := omega) only [go_sem, ↓reduceIte, Nat.reduceEqDiff, id, evT_def]
        · by_cases k5 : k = 5
          · subst k5
            have hf : conD 5 ds d = false := conD_f (a := i) (by omega) (by rw [conA_n hi2 z]; simp)
            simp (disch := omega) only [go_sem, ↓reduceIte, Nat.reduceAdd, Nat.reduceEqDiff, Nat.reduceLeDiff, reduceCtorEq, ac_event_Consistent_L1, evT_def, z, hf, ne_eq]
          · have hcn := conA_n (k := k) (d := d) hi2 z
            rw [decide_eq_true k5, Bool.true_and] at hcn
            have s0 := sumA_eq0 hd
            have s1 := sumA_eq1 hd
            have l0 : (sum1 d).length = 20 := sum1_length
            have l1 : (sum256 d).length = 32 := sum256_length
            have t0 : List.take 20 (sum1 d) = sum1 d := take_sum1
            have t1 : List.take 32 (sum256 d) = sum256 d := take_sum256
            have a0 : sumA 0 d = sum1 d := rfl
            have a1 : sumA 1 d = sum256 d := rfl
            rcases (show i = 0 ∨ i = 1 by omega) with rfl | rfl
            · rw [a0] at hcn
              generalize sum1 d = S0 at *
              have hq := eqB_eq (a := ds.getD 0 []) (b := S0)
              rw [← hcn] at hq
              cases hx : conA k ds d 0
              · rw [hx] at hq
                have hf := conD_f (a := 0) (by omega) hx
                simp (disch := omega) only [go_sem, ↓reduceIte, Nat.reduceAdd, Nat.reduceEqDiff, Nat.reduceLeDiff, Int.reduceLE, reduceCtorEq, ac_event_Consistent_L1, evT_def, z, k5, h2, s0, l0, t0, h1, hq, hf, ne_eq]
                all_goals rfl
              · rw [hx] at hq
                simp (disch := omega) only [go_sem, ↓reduceIte, Nat.reduceAdd, Nat.reduceEqDiff, Nat.reduceLeDiff, Int.reduceLE, Int.reduceAdd, reduceCtorEq, ac_event_Consistent_L1, evT_def, z, k5, h2, s0, l0, t0, h1, hq, ne_eq]
                refine ⟨hlt, up1 hP hx, Weak.rd id ?_ ?_ rfl⟩
                all_goals simp (disch := omega) only [go_sem, ↓reduceIte, Nat.reduceEqDiff, id, evT_def]
            · rw [a1] at hcn
              generalize sum256 d = S0 at *
              have hq := eqB_eq (a := ds.getD 1 []) (b := S0)
              rw [← hcn] at hq
              cases hx : conA k ds d 1
              · rw [hx] at hq
                have hf := conD_f (a := 1) (by omega) hx
                simp (disch := omega) only [go_sem, ↓reduceIte, Nat.reduceAdd, Nat.reduceEqDiff, Nat.reduceLeDiff, Int.reduceLE, reduceCtorEq, ac_event_Consistent_L1, evT_def, z, k5, h2, s1, l1, t1, h1, hq, hf, ne_eq]
                all_goals rfl
              · rw [hx] at hq
                simp (disch := omega) only [go_sem, ↓reduceIte, Nat.reduceAdd, Nat.reduceEqDiff, Nat.reduceLeDiff, Int.reduceLE, Int.reduceAdd, reduceCtorEq, ac_event_Consistent_L1, evT_def, z, k5, h2, s1, l1, t1, h1, hq, ne_eq]
                refine ⟨hlt, up1 hP hx, Weak.rd id ?_ ?_ rfl⟩
                all_goals simp (disch := omega) only [go_sem, ↓reduceIte, Nat.reduceEqDiff, id, evT_def]
      · have e : i = n := by omega
        subst e
        have hc : conD k ds d = true := by
          have hA : ∀ a, a < 2 → conA k ds d a = true := by
            intro a ha
            by_cases h : a < i
            · exact hP a h
            · unfold conA; rw [decide_eq_true (by omega), Bool.true_or]
          unfold conD; rw [hA 0 (by omega), hA 1 (by omega)]; rfl
        simp (disch := omega) only [go_sem, ↓reduceIte, Nat.reduceAdd, Nat.reduceEqDiff, ac_event_Consistent_L1, hc]
  rcases (show k = 2 ∨ k = 3 ∨ k = 4 ∨ k = 5 by omega) with rfl | rfl | rfl | rfl
  · by_cases hs : d = sep4
    · have hq : ct_eqB.fs [.t (.sl (d.map byteT)), .t (.sl [byteT 0, byteT 0, byteT 0, byteT 0])] [] = some (.t (.bool true), []) := by
        have := eqB_eq (a := d) (b := sep4)
        rw [decide_eq_true hs] at this
        exact this
      simp (disch := omega) only [go_sem, ↓reduceIte, Nat.reduceAdd, Nat.reduceEqDiff, Nat.reduceLeDiff, Int.reduceLE, reduceCtorEq, ac_event_Consistent, evT_def, h1, hq]
      repeat refine And.intro rfl ?_
      refine fin _ _ (by unfold conE; simp [hs]) (Weak.rd id ?_ ?_ rfl)
      all_goals simp (disch := omega) only [go_sem, ↓reduceIte, Nat.reduceEqDiff, id, evT_def, minI]
    · have hq : ct_eqB.fs [.t (.sl (d.map byteT)), .t (.sl [byteT 0, byteT 0, byteT 0, byteT 0])] [] = some (.t (.bool false), []) := by
        have := eqB_eq (a := d) (b := sep4)
        rw [decide_eq_false hs] at this
        exact this
      have hr : conE (r, 2, ds, d) = false := by unfold conE; simp [hs]
      rw [hr]
      simp (disch := omega) only [go_sem, ↓reduceIte, Nat.reduceAdd, Nat.reduceEqDiff, Nat.reduceLeDiff, Int.reduceLE, reduceCtorEq, ac_event_Consistent, evT_def, h1, hq]
      all_goals rfl
  · by_cases hz : d.length = 0
    · have hp : prL d = false := by unfold prL; rw [decide_eq_false (by omega)]; rfl
      have hr : conE (r, 3, ds, d) = false := by unfold conE; simp [hp]
      rw [hr]
      simp (disch := omega) only [go_sem, ↓reduceIte, Nat.reduceAdd, Nat.reduceEqDiff, Nat.reduceLeDiff, reduceCtorEq, ac_event_Consistent, evT_def, hz]
    · have hzi : ((d.length : Int) == 0) = false := by simpa using (by omega : ¬ (d.length : Int) = 0)
      have hp : prL d = d.all okC := by unfold prL; rw [decide_eq_true (by omega)]; rfl
      simp (disch := omega) only [go_sem, ↓reduceIte, Nat.reduceAdd, Nat.reduceEqDiff, Nat.reduceLeDiff, reduceCtorEq, ac_event_Consistent, evT_def, hz, hzi]
      refine loop_uptoP d.length (fun i => (d.take i).all okC = true) (fun i => [(1, .ref 4096 0 0), (3, .t (.bool true)), (34, .t (.sl (d.map byteT))), (35, .t (.int .i64 d.length)), (36, .t (.int .i64 (i : Nat)))]) (fun _ => [(4096, .live 4 [.t (evT (r, 3, ds, d))] true true)]) rfl ?_ (fun i hi hP => ?_)
      · refine Weak.rd id ?_ ?_ rfl
        all_goals simp (disch := omega) only [go_sem, ↓reduceIte, Nat.reduceEqDiff, id, evT_def]
      · by_cases hlt : i < d.length
        · have hs := all_take hlt
          rw [hP, Bool.true_and] at hs
          cases hc : okC (d.getD i 0)
          · have hn := all_not hlt hc
            have hr : conE (r, 3, ds, d) = false := by unfold conE; simp [hp, hn]
            by_cases c1 : (d.getD i 0).toNat < 32
            · simp (disch := omega) only [go_sem, ↓reduceIte, Nat.reduceAdd, Nat.reduceEqDiff, Nat.reduceLeDiff, ac_event_Consistent_L0, c1, hr]
            · have c2 : 126 < (d.getD i 0).toNat := by
                unfold okC at hc
                rw [decide_eq_false c1] at hc
                simp only [Bool.not_false, Bool.true_and, Bool.not_eq_false', decide_eq_true_eq] at hc
                exact hc
              simp (disch := omega) only [go_sem, ↓reduceIte, Nat.reduceAdd, Nat.reduceEqDiff, Nat.reduceLeDiff, ac_event_Consistent_L0, c1, c2, hr]
          · have hc' := hc
            unfold okC at hc'
            simp only [Bool.and_eq_true, Bool.not_eq_true', decide_eq_false_iff_not] at hc'
            obtain ⟨c1, c2⟩ := hc'
            have c3 : ¬ 126 < (d.getD i 0).toNat := c2
            rw [hc] at hs
            simp (disch := omega) only [go_sem, ↓reduceIte, Nat.reduceAdd, Nat.reduceEqDiff, Nat.reduceLeDiff, ac_event_Consistent_L0, c1, c2, c3]
            refine ⟨hlt, hs, Weak.rd id ?_ ?_ rfl⟩
            all_goals simp (disch := omega) only [go_sem, ↓reduceIte, Nat.reduceEqDiff, id, evT_def]
        · have e : i = d.length := by omega
          subst e
          rw [List.take_length] at hP
          have hr : conE (r, 3, ds, d) = conD 3 ds d := by unfold conE; simp [hp, hP]
          simp (disch := omega) only [go_sem, ↓reduceIte, Nat.reduceAdd, Nat.reduceEqDiff, Nat.reduceLeDiff, reduceCtorEq, ac_event_Consistent_L0, evT_def]
          refine fin _ _ hr (Weak.rd id ?_ ?_ rfl)
          all_goals simp (disch := omega) only [go_sem, ↓reduceIte, Nat.reduceEqDiff, id, evT_def, minI]
  · have hr : conE (r, 4, ds, d) = conD 4 ds d := by unfold conE; simp
    simp (disch := omega) only [go_sem, ↓reduceIte, Nat.reduceAdd, Nat.reduceEqDiff, Nat.reduceLeDiff, reduceCtorEq, ac_event_Consistent, evT_def]
    refine fin _ _ hr (Weak.rd id ?_ ?_ rfl)
    all_goals simp (disch := omega) only [go_sem, ↓reduceIte, Nat.reduceEqDiff, id, evT_def, minI]
  · have hr : conE (r, 5, ds, d) = conD 5 ds d := by unfold conE; simp
    simp (disch := omega) only [go_sem, ↓reduceIte, Nat.reduceAdd, Nat.reduceEqDiff, Nat.reduceLeDiff, reduceCtorEq, ac_event_Consistent, evT_def]
    refine fin _ _ hr (Weak.rd id ?_ ?_ rfl)
    all_goals simp (disch := omega) only [go_sem, ↓reduceIte, Nat.reduceEqDiff, id, evT_def, minI]
end Go.Eng
end
section
set_option maxRecDepth 20000
set_option maxHeartbeats 64000000
namespace Go.Eng
def blL (b x : List UInt8) : List UInt8 := b ++ beI 2 (x.length : Int) 2 ++ x
theorem blL_len {b x : List UInt8} : (blL b x).length = b.length + 2 + x.length := by unfold blL; rw [List.length_append, List.length_append, beI_len]
def ct_blob : Ct where
  α := List UInt8 × List UInt8
  as x := [.t (.sl (x.1.map byteT)), .t (.sl (x.2.map byteT))]
  ins _ := []
  pre x := x.1.length < 100000000 ∧ x.2.length ≤ 65535
  r x := .sl 0 0 (x.1.length + 2 + x.2.length)
  outs x := [.live 1 (((blL x.1 x.2).map byteT).map V.t) true false]
  inj := by
    rintro ⟨a, b⟩ ⟨c, d⟩ h _
    simp only [List.cons.injEq, V.t.injEq, T.sl.injEq, and_true, mapB_inj] at h
    obtain ⟨rfl, rfl⟩ := h
    exact ⟨rfl, rfl⟩
theorem blob_eq {b x : List UInt8} (h : b.length < 100000000 ∧ x.length ≤ 65535) : ct_blob.fs [.t (.sl (b.map byteT)), .t (.sl (x.map byteT))] [] = some (.sl 0 0 (b.length + 2 + x.length), [.live 1 (((blL b x).map byteT).map V.t) true false]) := ct_blob.eq (b, x) h
theorem w_wire_Blob (tab : Tab) (gl : Gl) (n1 : Nat) (h1 : tab.look n1 = some ct_uint.fs) (b x : List UInt8) (hb : b.length < 100000000) (hx : x.length ≤ 65535) :
    (ac_wire_Blob n1).wp tab gl (zipF 0 [.t (.sl (b.map byteT)), .t (.sl (x.map byteT))]) (zipF 0 []) (resF [] [(4, none)] 0 (fun r o => r = .sl 0 0 (b.length + 2 + x.length) ∧ o = [.live 1 (((blL b x).map byteT).map V.t) true false])) := by
  have hu := uint2 (b := b) (n := (x.length : Int)) (by omega)
  have hl : (b ++ beI 2 (x.length : Int) 2).length = b.length + 2 := by rw [List.length_append, beI_len]
  have hbl : blL b x = b ++ beI 2 (x.length : Int) 2 ++ x := rfl
  have hno : ¬ 65535 < (x.length : Int) := by omega
  rw [hbl]
  generalize b ++ beI 2 (x.length : Int) 2 = B at *
  simp (disch := omega) only [go_sem, ↓reduceIte, Nat.reduceAdd, Nat.reduceEqDiff, Nat.reduceLeDiff, Int.reduceLE, reduceCtorEq, ac_wire_Blob, h1, hu, hl, hno, List.take_length]
def wrBad (r k : Int) (n m : Nat) : Prop := r < 0 ∨ 11 < r ∨ k < 1 ∨ 5 < k ∨ n ≠ 2 ∨ 64 < m
instance {r k : Int} {n m : Nat} : Decidable (wrBad r k n m) := by unfold wrBad; infer_instance
def wrE (e : Ev) : Bool := !decide (wrBad e.1 e.2.1 e.2.2.1.length e.2.2.2.length) && (decide ((e.2.2.1.getD 0 []).length ≤ 32) && decide ((e.2.2.1.getD 1 []).length ≤ 32))
def ct_wr : Ct where
  α := Ev
  as x := [.t (evT x)]
  ins _ := []
  pre x := evM x
  r x := .t (.bool (wrE x))
  outs _ := []
  inj := by
    intro a b h _
    simp only [List.cons.injEq, V.t.injEq, and_true] at h
    cases evT_inj h
    exact ⟨rfl, rfl⟩
theorem wr_eq {a b : Int} {c : List (List UInt8)} {d : List UInt8} (h : evM (a, b, c, d)) : ct_wr.fs [.t (.agg [.int .i64 a, .int .i64 b, .sl (c.map bsT), .sl (d.map byteT)])] [] = some (.t (.bool (wrE (a, b, c, d))), []) := ct_wr.eq (a, b, c, d) h
theorem wrE_two {r k : Int} {d0 d1 d : List UInt8} (h : ¬ wrBad r k 2 d.length) : wrE (r, k, [d0, d1], d) = (decide (d0.length ≤ 32) && decide (d1.length ≤ 32)) := by
  unfold wrE
  simp only [List.length_cons, List.length_nil]
  rw [decide_eq_false h]; rfl
theorem wrE_bad {r k : Int} {ds : List (List UInt8)} {d : List UInt8} (h : wrBad r k ds.length d.length) : wrE (r, k, ds, d) = false := by
  unfold wrE
  rw [decide_eq_true h]; rfl
theorem w_event_encodable (tab : Tab) (gl : Gl) (n1 : Nat) (h1 : tab.look n1 = some ct_size.fs) (e : Ev) (hm : evM e) :
    (ac_event_encodable n1).wp tab gl (zipF 0 [.t (evT e)]) (zipF 0 []) (resW [(2, none)] 0 (fun r o => r = .t (.bool (wrE e)) ∧ o = [])) := by
  obtain ⟨r, k, ds, d⟩ := e
  have hl := hm.2
  have hd := hm.1.1
  simp only at hl hd
  by_cases hb : wrBad r k ds.length d.length
  · rw [wrE_bad hb]
    by_cases c1 : r < 0
    · simp (disch := omega) only [go_sem, ↓reduceIte, Nat.reduceAdd, Nat.reduceEqDiff, Nat.reduceLeDiff, ac_event_encodable, evT_def, c1]
    by_cases c2 : 11 < r
    · simp (disch := omega) only [go_sem, ↓reduceIte, Nat.reduceAdd, Nat.reduceEqDiff, Nat.reduceLeDiff, ac_event_encodable, evT_def, c1, c2]
    by_cases c3 : k < 1
    · simp (disch := omega) only [go_sem, ↓reduceIte, Nat.reduceAdd, Nat.reduceEqDiff, Nat.reduceLeDiff, reduceCtorEq, ac_event_encodable, evT_def, c1, c2, c3]
    by_cases c4 : 5 < k
    · simp (disch := omega) only [go_sem, ↓reduceIte, Nat.reduceAdd, Nat.reduceEqDiff, Nat.reduceLeDiff, reduceCtorEq, ac_event_encodable, evT_def, c1, c2, c3, c4]
    by_cases c5 : ds.length = 2
    · have c6 : 64 < d.length := by unfold wrBad at hb; omega
      simp (disch := omega) only [go_sem, ↓reduceIte, Nat.reduceAdd, Nat.reduceEqDiff, Nat.reduceLeDiff, reduceCtorEq, ac_event_encodable, evT_def, c1, c2, c3, c4, c5, c6]
    · have c9 : ((ds.length : Int) != 2) = true := by simpa using (by omega : ¬ (ds.length : Int) = 2)
      simp (disch := omega) only [go_sem, ↓reduceIte, Nat.reduceAdd, Nat.reduceEqDiff, Nat.reduceLeDiff, reduceCtorEq, ac_event_encodable, evT_def, c1, c2, c3, c4, c9]
  · have hb' := hb
    unfold wrBad at hb'
    have c1 : ¬ r < 0 := by omega
    have c2 : ¬ 11 < r := by omega
    have c3 : ¬ k < 1 := by omega
    have c4 : ¬ 5 < k := by omega
    have c6 : ¬ 64 < d.length := by omega
    have c5 : ds.length = 2 := by omega
    obtain ⟨d0, d1, rfl⟩ := len2 c5
    have m0 := hm.1.2 d0 (by simp)
    have m1 := hm.1.2 d1 (by simp)
    rw [wrE_two hb]
    by_cases l0 : d0.length ≤ 32 <;> by_cases l1 : d1.length ≤ 32
    all_goals simp (disch := omega) only [go_sem, ↓reduceIte, Nat.reduceAdd, Nat.reduceEqDiff, Nat.reduceLeDiff, reduceCtorEq, ac_event_encodable, evT_def, c1, c2, c3, c4, c6, List.map_cons, List.map_nil]
    all_goals refine loop_fuel 3 ?_
    all_goals simp (disch := omega) only [go_sem, ↓reduceIte, Nat.reduceAdd, Nat.reduceEqDiff, Nat.reduceLeDiff, Int.reduceLT, Int.reduceLE, Int.reduceAdd, loopN_succ, ac_event_encodable_L0, h1, size_eq1, l0, l1]
def encE (e : Ev) : List UInt8 := blL (blL (blL (beI 1 e.1 1 ++ beI 1 e.2.1 1) (e.2.2.1.getD 0 [])) (e.2.2.1.getD 1 [])) e.2.2.2
def encE' (e : Ev) : List UInt8 := if wrE e then encE e else []
def ct_encE : Ct where
  α := Ev
  as x := [.t (evT x)]
  ins _ := []
  pre x := evM x
  r x := .t (.sl ((encE' x).map byteT))
  outs _ := []
  inj := by
    intro a b h _
    simp only [List.cons.injEq, V.t.injEq, and_true] at h
    cases evT_inj h
    exact ⟨rfl, rfl⟩
theorem encE_eq {a b : Int} {c : List (List UInt8)} {d : List UInt8} (h : evM (a, b, c, d)) : ct_encE.fs [.t (.agg [.int .i64 a, .int .i64 b, .sl (c.map bsT), .sl (d.map byteT)])] [] = some (.t (.sl ((encE' (a, b, c, d)).map byteT)), []) := ct_encE.eq (a, b, c, d) h
theorem uint1 {b : List UInt8} {n : Int} (hb : b.length < 1000000000) : ct_uint.fs [.t (.sl (b.map byteT)), .t (.int .i64 1), .t (.int .i64 n)] [] = some (.sl 0 0 (b.length + 1), [.live 1 (((b ++ beI 1 n 1).map byteT).map V.t) true false]) := ct_uint.eq (b, 1, n) ⟨hb, Nat.le_refl 1, by show 1 ≤ 8; omega⟩
theorem wrE_true {r k : Int} {ds : List (List UInt8)} {d : List UInt8} (h : wrE (r, k, ds, d) = true) : (0 ≤ r ∧ r ≤ 11) ∧ (1 ≤ k ∧ k ≤ 5) ∧ d.length ≤ 64 ∧ ∃ d0 d1, ds = [d0, d1] ∧ d0.length ≤ 32 ∧ d1.length ≤ 32 := by
  by_cases hb : wrBad r k ds.length d.length
  · rw [wrE_bad hb] at h; cases h
  · have hb' := hb
    unfold wrBad at hb'
    obtain ⟨d0, d1, rfl⟩ := len2 (show ds.length = 2 by omega)
    rw [wrE_two hb] at h
    simp only [Bool.and_eq_true, decide_eq_true_eq] at h
    exact ⟨by omega, by omega, by omega, d0, d1, rfl, h.1, h.2⟩
theorem encE_two {r k : Int} {d0 d1 d : List UInt8} : encE (r, k, [d0, d1], d) = blL (blL (blL (beI 1 r 1 ++ beI 1 k 1) d0) d1) d := rfl
theorem w_event_Encode (tab : Tab) (gl : Gl) (n1 n2 n3 : Nat) (h1 : tab.look n1 = some ct_wr.fs) (h2 : tab.look n2 = some ct_uint.fs) (h3 : tab.look n3 = some ct_blob.fs) (e : Ev) (hm : evM e) :
    (ac_event_Encode n1 n2 n3).wp tab gl (zipF 0 [.t (evT e)]) (zipF 0 []) (resW [(2, none)] 0 (fun r o => r = .t (.sl ((encE' e).map byteT)) ∧ o = [])) := by
  obtain ⟨r, k, ds, d⟩ := e
  have hw := wr_eq hm
  unfold encE'
  cases hq : wrE (r, k, ds, d)
  · rw [hq] at hw
    simp (disch := omega) only [go_sem, ↓reduceIte, Nat.reduceAdd, Nat.reduceEqDiff, Nat.reduceLeDiff, ac_event_Encode, evT_def, h1, hw, List.map_nil]
  · rw [hq] at hw
    obtain ⟨_, _, hd, d0, d1, rfl, q0, q1⟩ := wrE_true hq
    simp only [List.map_cons, List.map_nil, bsT_def] at hw
    have u0 : ct_uint.fs [.t (.sl []), .t (.int .i64 1), .t (.int .i64 r)] [] = some (.sl 0 0 1, [.live 1 (((beI 1 r 1).map byteT).map V.t) true false]) := uint1 (b := []) (by decide)
    have u1 := uint1 (b := beI 1 r 1) (n := k) (by rw [beI_len]; decide)
    have z1 : (beI 1 r 1).length = 1 := beI_len
    have t1 : List.take 1 (beI 1 r 1) = beI 1 r 1 := List.take_of_length_le (by omega)
    have zB : (beI 1 r 1 ++ beI 1 k 1).length = 2 := by rw [List.length_append, beI_len, beI_len]
    rw [encE_two]
    generalize hB : beI 1 r 1 ++ beI 1 k 1 = B at *
    generalize beI 1 r 1 = A at *
    have zC : (blL B d0).length = 2 + 2 + d0.length := by rw [blL_len, zB]
    have zD : (blL (blL B d0) d1).length = 2 + 2 + d0.length + 2 + d1.length := by rw [blL_len, zC]
    have b0 := blob_eq (b := B) (x := d0) ⟨by omega, by omega⟩
    have b1 := blob_eq (b := blL B d0) (x := d1) ⟨by omega, by omega⟩
    have b2 := blob_eq (b := blL (blL B d0) d1) (x := d) ⟨by omega, by omega⟩
    have zE : (blL (blL (blL B d0) d1) d).length = (blL (blL B d0) d1).length + 2 + d.length := blL_len
    have tB : List.take 2 B = B := List.take_of_length_le (by omega)
    simp (disch := omega) only [go_sem, ↓reduceIte, Nat.reduceAdd, Nat.reduceEqDiff, Nat.reduceLeDiff, reduceCtorEq, ac_event_Encode, evT_def, h1, hw, h2, u0, z1, t1, u1, hB, List.map_cons, List.map_nil]
    repeat refine And.intro rfl ?_
    refine loop_upto 2 (fun i => [(1, .ref 4096 0 0), (3, .sl 9100 0 (match i with | 0 => B | 1 => blL B d0 | _ => blL (blL B d0) d1).length), (17, .t (.sl [bsT d0, bsT d1])), (18, .t (.int .i64 2)), (19, .t (.int .i64 (i : Nat)))]) (fun i => [(9100, .live 1 (((match i with | 0 => B | 1 => blL B d0 | _ => blL (blL B d0) d1).map byteT).map V.t) true false), (4096, .live 4 [.t (evT (r, k, [d0, d1], d))] true true)]) ?_ (fun i hi => ?_)
    · refine Weak.rd (fun j => if j = 9100 then 20528 else j) ?_ ?_ rfl
      all_goals simp (disch := omega) only [go_sem, ↓reduceIte, Nat.reduceAdd, Nat.reduceEqDiff, Nat.reduceBEq, evT_def, zB, List.map_cons, List.map_nil]
    · rcases (show i = 0 ∨ i = 1 ∨ i = 2 by omega) with rfl | rfl | rfl
      · simp (disch := omega) only [go_sem, ↓reduceIte, Nat.reduceAdd, Nat.reduceEqDiff, Nat.reduceLT, Nat.reduceLeDiff, Int.reduceLT, Int.reduceLE, Int.reduceAdd, ac_event_Encode_L0, h3, b0, zB, tB]
        refine Weak.rd (fun j => if j = 9100 then 36896 else j) ?_ ?_ rfl
        all_goals simp (disch := omega) only [go_sem, ↓reduceIte, Nat.reduceAdd, Nat.reduceEqDiff, Nat.reduceBEq, evT_def, zC, List.map_cons, List.map_nil]
      · have tC : List.take (2 + 2 + d0.length) (blL B d0) = blL B d0 := List.take_of_length_le (by omega)
        rw [zC] at b1
        simp (disch := omega) only [go_sem, ↓reduceIte, Nat.reduceAdd, Nat.reduceEqDiff, Nat.reduceLT, Nat.reduceLeDiff, Int.reduceLT, Int.reduceLE, Int.reduceAdd, ac_event_Encode_L0, h3, b1, zC, tC]
        refine Weak.rd (fun j => if j = 9100 then 36896 else j) ?_ ?_ rfl
        all_goals simp (disch := omega) only [go_sem, ↓reduceIte, Nat.reduceAdd, Nat.reduceEqDiff, Nat.reduceBEq, evT_def, zD, List.map_cons, List.map_nil]
      · have tD : List.take (2 + 2 + d0.length + 2 + d1.length) (blL (blL B d0) d1) = blL (blL B d0) d1 := List.take_of_length_le (by omega)
        rw [zD] at b2 zE
        have tE : List.take (2 + 2 + d0.length + 2 + d1.length + 2 + d.length) (blL (blL (blL B d0) d1) d) = blL (blL (blL B d0) d1) d := List.take_of_length_le (by omega)
        simp (disch := omega) only [go_sem, ↓reduceIte, Nat.reduceAdd, Nat.reduceEqDiff, Nat.reduceLeDiff, Int.reduceLT, reduceCtorEq, ac_event_Encode_L0, evT_def, h3, b2, zD, tD, zE, tE]
end Go.Eng
end
section
set_option maxRecDepth 20000
set_option maxHeartbeats 64000000
namespace Go.Eng
theorem shl8_i64 {a : Nat} {k' : IntKind} (h : a < 1000000) : binI .shl .i64 (a : Int) k' 8 = some (.int .i64 ((256 * a : Nat) : Int)) := by
  change (if (8 : Int) < 0 then none else some (T.int .i64 (IntKind.i64.wrap ((a : Int) * 2 ^ min (8 : Int).toNat 64)))) = _
  rw [if_neg (by omega), show (a : Int) * 2 ^ min (8 : Int).toNat 64 = ((256 * a : Nat) : Int) by
    rw [show min (8 : Int).toNat 64 = 8 from rfl]; omega, wrap_i64_id (by omega)]
theorem or8_i64 {a : Nat} {x : UInt8} (h : a < 1000000) : binI .or .i64 ((256 * a : Nat) : Int) .i64 (x.toNat : Int) = some (.int .i64 ((256 * a + x.toNat : Nat) : Int)) := by
  have hx := x.toNat_lt
  change some (T.int .i64 (IntKind.i64.wrap ((BitVec.ofInt 64 ((256 * a : Nat) : Int) ||| BitVec.ofInt 64 (x.toNat : Int)).toNat : Int))) = _
  have e : (BitVec.ofInt 64 ((256 * a : Nat) : Int) ||| BitVec.ofInt 64 (x.toNat : Int)).toNat = 256 * a + x.toNat := by
    rw [BitVec.toNat_or, BitVec.toNat_ofInt, BitVec.toNat_ofInt, Int.emod_eq_of_lt (by omega) (by omega), Int.emod_eq_of_lt (by omega) (by omega), Int.toNat_natCast, Int.toNat_natCast, or8 (by omega)]
  rw [e, wrap_i64_id (by omega)]
attribute [go_sem ↓] shl8_i64 or8_i64
def rdBlob (s : Rd) (most : Nat) : List UInt8 × Rd :=
  if s.2.2 ≠ 0 then ([], s) else if s.1.length < s.2.1 + 2 then ([], (s.1, s.2.1, 2))
  else if most < beV ((s.1.drop s.2.1).take 2) then ([], (s.1, s.2.1, 4))
  else if s.1.length < s.2.1 + 2 + beV ((s.1.drop s.2.1).take 2) then ([], (s.1, s.2.1, 2))
  else ((s.1.drop (s.2.1 + 2)).take (beV ((s.1.drop s.2.1).take 2)), (s.1, s.2.1 + 2 + beV ((s.1.drop s.2.1).take 2), 0))
def ct_rblob : Ct where
  α := Rd × Nat
  as x := [.ref 0 0 0, .t (.int .i64 x.2)]
  ins x := [rdOb x.1]
  pre x := rdOk x.1 ∧ x.2 ≤ 65535
  r x := .t (.sl ((rdBlob x.1 x.2).1.map byteT))
  outs x := [rdOb (rdBlob x.1 x.2).2]
  inj := by
    rintro ⟨s, a⟩ ⟨t, c⟩ h1 h2
    simp only [List.cons.injEq, V.t.injEq, T.int.injEq, true_and, and_true, Int.natCast_inj] at h1
    simp only [List.cons.injEq, and_true] at h2
    subst h1
    cases rdOb_inj h2
    exact ⟨rfl, rfl⟩
theorem rblob_eq {s : Rd} {k : Nat} (h : rdOk s ∧ k ≤ 65535) : ct_rblob.fs [.ref 0 0 0, .t (.int .i64 k)] [rdO s] = some (.t (.sl ((rdBlob s k).1.map byteT)), [rdO (rdBlob s k).2]) := ct_rblob.eq (s, k) h
theorem take2 {b : List UInt8} {a : Nat} (h : a + 2 ≤ b.length) : List.take 2 (List.drop a b) = [b.getD a 0, b.getD (a + 1) 0] := by
  have e : List.drop a b = b[a]'(by omega) :: b[a + 1]'(by omega) :: List.drop (a + 2) b := by
    rw [List.drop_eq_getElem_cons (by omega), List.drop_eq_getElem_cons (by omega)]
  have g0 : b.getD a 0 = b[a]'(by omega) := by simp [List.getD, show a < b.length by omega]
  have g1 : b.getD (a + 1) 0 = b[a + 1]'(by omega) := by simp [List.getD, show a + 1 < b.length by omega]
  rw [e, g0, g1]; rfl
theorem beV2 {x y : UInt8} : beV [x, y] = 256 * x.toNat + y.toNat := by simp [beV]
theorem rdBlob_le {s : Rd} {k : Nat} : (rdBlob s k).1.length ≤ k := by
  unfold rdBlob
  split
  · simp
  · split
    · simp
    · split
      · simp
      · split
        · simp
        · simp only [List.length_take]; omega
theorem rdBlob_ok {s : Rd} {k : Nat} (h : rdOk s) : rdOk (rdBlob s k).2 := by
  unfold rdBlob
  unfold rdOk at *
  split
  · exact h
  · split
    · exact h
    · split
      · exact h
      · split
        · exact h
        · exact ⟨by simp only; omega, h.2⟩
theorem w_wire_Reader_Blob (tab : Tab) (gl : Gl) (n1 n2 : Nat) (h1 : tab.look n1 = some ct_take.fs) (h2 : tab.look n2 = some ct_fail.fs) (s : Rd) (hs : rdOk s) (k : Nat) (hk : k ≤ 65535) :
    (ac_wire_Reader_Blob n1 n2).wp tab gl (zipF 0 [.ref 0 0 0, .t (.int .i64 k)]) (zipF 0 [rdOb s]) (resW [(4, none)] 1 (fun r o => r = .t (.sl ((rdBlob s k).1.map byteT)) ∧ o = [rdOb (rdBlob s k).2])) := by
  obtain ⟨b, a, e⟩ := s
  have ha : a ≤ b.length ∧ b.length < 1000000000 := hs
  by_cases he : e = 0
  · subst he
    by_cases hl : b.length < a + 2
    · have hr : rdBlob (b, a, 0) k = ([], (b, a, 2)) := by unfold rdBlob; simp [hl]
      rw [hr]
      have ht := take_no (b := b) (a := a) (p := a) (n := 2) (e := 0) ⟨ha.1, ha.2, ha.1, by omega, by omega⟩
      have k2 : ((2 : Nat) : Int) = 2 := rfl
      rw [k2] at ht
      simp (disch := omega) only [go_sem, ↓reduceIte, Nat.reduceAdd, Nat.reduceEqDiff, Nat.reduceSub, Nat.reduceLeDiff, reduceCtorEq, ac_wire_Reader_Blob, rdOb_eq, h1, h2, ht, fail_eq, List.map_nil]
    · have t2 := take2 (b := b) (a := a) (by omega)
      have ht := take_ok (b := b) (a := a) (p := a) (n := 2) (e := 0) ⟨ha.1, ha.2, by omega⟩
      have k2 : ((2 : Nat) : Int) = 2 := rfl
      rw [k2, t2] at ht
      have hb := beV2 (x := b.getD a 0) (y := b.getD (a + 1) 0)
      have hx := (b.getD a 0).toNat_lt
      have hy := (b.getD (a + 1) 0).toNat_lt
      have hr : rdBlob (b, a, 0) k = if k < 256 * (b.getD a 0).toNat + (b.getD (a + 1) 0).toNat then ([], (b, a, 4)) else if b.length < a + 2 + (256 * (b.getD a 0).toNat + (b.getD (a + 1) 0).toNat) then ([], (b, a, 2)) else ((b.drop (a + 2)).take (256 * (b.getD a 0).toNat + (b.getD (a + 1) 0).toNat), (b, a + 2 + (256 * (b.getD a 0).toNat + (b.getD (a + 1) 0).toNat), 0)) := by
        unfold rdBlob
        simp only [t2, hb]
        rw [if_neg (by simp), if_neg hl]
      rw [hr]
      simp only [List.map_cons, List.map_nil] at ht
      by_cases c1 : k < 256 * (b.getD a 0).toNat + (b.getD (a + 1) 0).toNat
      · rw [if_pos c1]
        simp (disch := omega) only [go_sem, ↓reduceIte, Nat.reduceAdd, Nat.reduceEqDiff, Nat.reduceSub, Nat.reduceLeDiff, Int.reduceLE, reduceCtorEq, ac_wire_Reader_Blob, rdOb_eq, h1, h2, ht, fail_eq, c1, List.map_nil]
        rfl
      · rw [if_neg c1]
        have hn : ((b.getD a 0).toNat < 256) ∧ (b.getD (a + 1) 0).toNat < 256 := ⟨hx, hy⟩
        generalize hN : 256 * (b.getD a 0).toNat + (b.getD (a + 1) 0).toNat = N at *
        have hN2 : N ≤ 65535 := by omega
        by_cases c2 : b.length < a + 2 + N
        · rw [if_pos c2]
          have ht2 := take_no (b := b) (a := a) (p := a + 2) (n := N) (e := 0) ⟨ha.1, ha.2, by omega, by omega, c2⟩
          simp (disch := omega) only [go_sem, ↓reduceIte, Nat.reduceAdd, Nat.reduceEqDiff, Nat.reduceSub, Nat.reduceLeDiff, Int.reduceLE, reduceCtorEq, ac_wire_Reader_Blob, rdOb_eq, h1, h2, ht, hN, ht2, fail_eq, c1, List.map_nil]
          rfl
        · rw [if_neg c2]
          have ht2 := take_ok (b := b) (a := a) (p := a + 2) (n := N) (e := 0) ⟨ha.1, ha.2, by omega⟩
          have hc : (List.take N (List.drop (a + 2) b)).length = N := by simp only [List.length_take, List.length_drop]; omega
          have tt : List.take N (List.take N (List.drop (a + 2) b)) = List.take N (List.drop (a + 2) b) := List.take_of_length_le (by omega)
          simp (disch := omega) only [go_sem, ↓reduceIte, Nat.reduceAdd, Nat.reduceEqDiff, Nat.reduceSub, Nat.reduceLeDiff, Nat.reduceBEq, Int.reduceLE, reduceCtorEq, ac_wire_Reader_Blob, rdOb_eq, h1, h2, ht, hN, ht2, fail_eq, c1, hc, tt]
          exact ⟨rfl, by omega⟩
  · have hr : rdBlob (b, a, e) k = ([], (b, a, e)) := by unfold rdBlob; rw [if_pos he]
    rw [hr]
    simp (disch := omega) only [go_sem, ↓reduceIte, Nat.reduceAdd, Nat.reduceLeDiff, reduceCtorEq, ac_wire_Reader_Blob, rdOb_eq, ne_eq, he, List.map_nil]
end Go.Eng
end
section
set_option maxRecDepth 20000
set_option maxHeartbeats 64000000
namespace Go.Eng
def rdEv (s : Rd) : Ev × Rd :=
  let u := rdUint s 1
  let v := rdUint u.2 1
  let x := rdBlob v.2 32
  let y := rdBlob x.2 32
  let z := rdBlob y.2 64
  ((u.1, v.1, [x.1, y.1], z.1), z.2)
def dcEv (b : List UInt8) : Ev × Int := if rdEnd (rdEv (b, 0, 0)).2 = 0 ∧ wrE (rdEv (b, 0, 0)).1 = true then ((rdEv (b, 0, 0)).1, 0) else ((0, 0, [], []), 30)
def ct_decE : Ct where
  α := List UInt8
  as x := [.t (.sl (x.map byteT))]
  ins _ := []
  pre x := x.length < 1000000000
  r x := .tup [.t (evT (dcEv x).1), .t (.int .i64 (dcEv x).2)]
  outs _ := []
  inj := by
    intro a b h _
    simp only [List.cons.injEq, V.t.injEq, T.sl.injEq, and_true, mapB_inj] at h
    subst h; exact ⟨rfl, rfl⟩
theorem w_event_Decode (tab : Tab) (gl : Gl) (n1 n2 n3 n4 n5 n6 : Nat) (h1 : tab.look n1 = some ct_rnew.fs) (h2 : tab.look n2 = some ct_rint.fs) (h3 : tab.look n3 = some ct_size.fs) (h4 : tab.look n4 = some ct_rblob.fs) (h5 : tab.look n5 = some ct_rend.fs) (h6 : tab.look n6 = some ct_wr.fs) (b : List UInt8) (hb : b.length < 1000000000) :
    (ac_event_Decode n1 n2 n3 n4 n5 n6).wp tab gl (zipF 0 [.t (.sl (b.map byteT))]) (zipF 0 []) (resW [(2, some (4, true)), (3, none)] 0 (fun r o => r = .tup [.t (evT (dcEv b).1), .t (.int .i64 (dcEv b).2)] ∧ o = [])) := by
  have ok0 : rdOk (b, 0, 0) := ⟨Nat.zero_le _, hb⟩
  have hN := rnew_eq hb
  have hD : dcEv b = dcEv b := rfl
  conv at hD => rhs; unfold dcEv rdEv
  obtain ⟨⟨r, b1, a1, e1⟩, hU1⟩ : ∃ x, rdUint (b, 0, 0) 1 = x := ⟨_, rfl⟩
  have hI1 := rint_eq (k := 1) ⟨ok0, by omega, by omega⟩
  have ok1 := rdUint_ok (k := 1) ok0
  rw [hU1] at hI1 ok1
  obtain ⟨⟨k, b2, a2, e2⟩, hU2⟩ : ∃ x, rdUint (b1, a1, e1) 1 = x := ⟨_, rfl⟩
  have hI2 := rint_eq (k := 1) ⟨ok1, by omega, by omega⟩
  have ok2 := rdUint_ok (k := 1) ok1
  simp only at hI2 ok2
  rw [hU2] at hI2 ok2
  obtain ⟨⟨d0, b3, a3, e3⟩, hU3⟩ : ∃ x, rdBlob (b2, a2, e2) 32 = x := ⟨_, rfl⟩
  have hI3 := rblob_eq (k := 32) ⟨ok2, by omega⟩
  have ok3 := rdBlob_ok (k := 32) ok2
  have l0 := rdBlob_le (s := (b2, a2, e2)) (k := 32)
  simp only at hI3 ok3
  rw [hU3] at hI3 ok3 l0
  obtain ⟨⟨d1, b4, a4, e4⟩, hU4⟩ : ∃ x, rdBlob (b3, a3, e3) 32 = x := ⟨_, rfl⟩
  have hI4 := rblob_eq (k := 32) ⟨ok3, by omega⟩
  have ok4 := rdBlob_ok (k := 32) ok3
  have l1 := rdBlob_le (s := (b3, a3, e3)) (k := 32)
  simp only at hI4 ok4
  rw [hU4] at hI4 ok4 l1
  obtain ⟨⟨d, b5, a5, e5⟩, hU5⟩ : ∃ x, rdBlob (b4, a4, e4) 64 = x := ⟨_, rfl⟩
  have hI5 := rblob_eq (k := 64) ⟨ok4, by omega⟩
  have ok5 := rdBlob_ok (k := 64) ok4
  have l2 := rdBlob_le (s := (b4, a4, e4)) (k := 64)
  simp only at hI5 ok5
  rw [hU5] at hI5 ok5 l2
  have hend := rend_eq ok5
  simp only [hU1, hU2, hU3, hU4, hU5] at hD
  simp only at l0 l1 l2
  have hm : evM (r, k, [d0, d1], d) := ⟨⟨by simp, fun x hx => by simp at hx; rcases hx with rfl | rfl <;> omega⟩, by simp only; omega⟩
  have hw := wr_eq hm
  simp only [List.map_cons, List.map_nil, bsT_def] at hw
  have k32 : ((32 : Nat) : Int) = 32 := rfl
  have k64 : ((64 : Nat) : Int) = 64 := rfl
  simp only [rdO, Int.natCast_zero, Int.natCast_one, k32, k64] at hN hI1 hI2 hI3 hI4 hI5 hend
  simp (disch := omega) only [go_sem, ↓reduceIte, Nat.reduceAdd, Nat.reduceEqDiff, Nat.reduceSub, Nat.reduceLeDiff, reduceCtorEq, ac_event_Decode, h1, hN, h2, hI1, hI2]
  refine loop_upto 2 (fun i => [(2, .ref 4096 0 0), (4, .ref 8208 0 0), (5, .ref 12288 0 0), (14, .t (.int .i64 (i : Nat)))]) (fun i => match i with
    | 0 => [(12288, .live 4 [.agg [.t (.int .i64 r), .t (.int .i64 k), .nil, .nil]] true true), (8208, rdO (b2, a2, e2)), (4096, .live 4 [.agg [.t (.int .i64 0), .t (.int .i64 0), .nil, .nil]] true true)]
    | 1 => [(12288, .live 4 [.agg [.t (.int .i64 r), .t (.int .i64 k), .sl 9100 0 1, .nil]] true true), (9100, .live 1 [.t (.sl (d0.map byteT))] true false), (8208, rdO (b3, a3, e3)), (4096, .live 4 [.agg [.t (.int .i64 0), .t (.int .i64 0), .nil, .nil]] true true)]
    | _ => [(12288, .live 4 [.agg [.t (.int .i64 r), .t (.int .i64 k), .sl 9100 0 2, .nil]] true true), (9100, .live 1 [.t (.sl (d0.map byteT)), .t (.sl (d1.map byteT))] true false), (8208, rdO (b4, a4, e4)), (4096, .live 4 [.agg [.t (.int .i64 0), .t (.int .i64 0), .nil, .nil]] true true)]) ?_ (fun i hi => ?_)
  · refine Weak.rd id ?_ ?_ rfl
    all_goals simp (disch := omega) only [go_sem, ↓reduceIte, Nat.reduceEqDiff, Nat.reduceBEq, id, rdO]
  · rcases (show i = 0 ∨ i = 1 ∨ i = 2 by omega) with rfl | rfl | rfl
    · simp (disch := omega) only [go_sem, ↓reduceIte, Nat.reduceAdd, Nat.reduceEqDiff, Nat.reduceSub, Nat.reduceLT, Nat.reduceLeDiff, Int.reduceLT, Int.reduceAdd, reduceCtorEq, ac_event_Decode_L0, rdO, h3, size_eq1, h4, hI3]
      refine ⟨rfl, Weak.rd (fun j => if j = 9100 then 32864 else j) ?_ ?_ rfl⟩
      all_goals simp (disch := omega) only [go_sem, ↓reduceIte, Nat.reduceAdd, Nat.reduceEqDiff, Nat.reduceBEq, rdO]
    · simp (disch := omega) only [go_sem, ↓reduceIte, Nat.reduceAdd, Nat.reduceEqDiff, Nat.reduceSub, Nat.reduceMul, Nat.reduceLT, Nat.reduceLeDiff, Int.reduceLT, Int.reduceAdd, reduceCtorEq, ac_event_Decode_L0, rdO, h3, size_eq1, h4, hI4]
      refine ⟨rfl, Weak.rd (fun j => if j = 9100 then 32864 else j) ?_ ?_ rfl⟩
      all_goals simp (disch := omega) only [go_sem, ↓reduceIte, Nat.reduceAdd, Nat.reduceEqDiff, Nat.reduceBEq, rdO]
    · by_cases hz : rdEnd (b5, a5, e5) = 0
      · rw [hz] at hend
        cases hq : wrE (r, k, [d0, d1], d)
        · rw [hq] at hw
          rw [if_neg (by simp [hq])] at hD
          rw [hD]
          simp (disch := omega) only [go_sem, ↓reduceIte, Nat.reduceAdd, Nat.reduceEqDiff, Nat.reduceSub, Nat.reduceLeDiff, Int.reduceLT, reduceCtorEq, ac_event_Decode_L0, rdO, h4, hI5, h5, hend, h6, hw, evT_def, List.map_nil]
          all_goals rfl
        · rw [hq] at hw
          rw [if_pos ⟨hz, hq⟩] at hD
          rw [hD]
          simp (disch := omega) only [go_sem, ↓reduceIte, Nat.reduceAdd, Nat.reduceEqDiff, Nat.reduceSub, Nat.reduceLeDiff, Int.reduceLT, reduceCtorEq, ac_event_Decode_L0, rdO, h4, hI5, h5, hend, h6, hw, evT_def, List.map_cons, List.map_nil]
          all_goals rfl
      · have hz2 : (rdEnd (b5, a5, e5) == 0) = false := by simpa using hz
        rw [if_neg (by simp [hz])] at hD
        rw [hD]
        simp (disch := omega) only [go_sem, ↓reduceIte, Nat.reduceAdd, Nat.reduceEqDiff, Nat.reduceSub, Nat.reduceLeDiff, Int.reduceLT, reduceCtorEq, ac_event_Decode_L0, rdO, h4, hI5, h5, hend, hz2, evT_def, List.map_nil]
        all_goals rfl
end Go.Eng
end
section
set_option maxRecDepth 20000
set_option maxHeartbeats 64000000
namespace Go.Eng
def ct_cut : Ct where
  α := List UInt8 × Nat
  as x := [.t (.sl (x.1.map byteT)), .t (.int .i64 x.2)]
  ins _ := []
  pre x := x.1.length ≤ 9223372036854775807 ∧ x.2 ≤ 1000000
  r x := .t (.sl ((x.1.take x.2).map byteT))
  outs _ := []
  inj := by
    rintro ⟨a, b⟩ ⟨c, d⟩ h _
    simp only [List.cons.injEq, V.t.injEq, T.sl.injEq, T.int.injEq, true_and, and_true, mapB_inj, Int.natCast_inj] at h
    obtain ⟨rfl, rfl⟩ := h
    exact ⟨rfl, rfl⟩
theorem cut_eq {b : List UInt8} {n : Nat} (h : b.length ≤ 9223372036854775807 ∧ n ≤ 1000000) : ct_cut.fs [.t (.sl (b.map byteT)), .t (.int .i64 n)] [] = some (.t (.sl ((b.take n).map byteT)), []) := ct_cut.eq (b, n) h
theorem w_draw_Cut (tab : Tab) (gl : Gl) (b : List UInt8) (n : Nat) (h1 : b.length ≤ 9223372036854775807) (h2 : n ≤ 1000000) :
    ac_draw_Cut.wp tab gl (zipF 0 [.t (.sl (b.map byteT)), .t (.int .i64 n)]) (zipF 0 []) (resW [(4, none)] 0 (fun r o => r = .t (.sl ((b.take n).map byteT)) ∧ o = [])) := by
  by_cases h : n < b.length
  · simp (disch := omega) only [go_sem, ↓reduceIte, Nat.reduceAdd, Nat.reduceEqDiff, Int.reduceLE, reduceCtorEq, ac_draw_Cut, h]
  · have e : b.take n = b := List.take_of_length_le (by omega)
    simp (disch := omega) only [go_sem, ↓reduceIte, Nat.reduceAdd, Nat.reduceEqDiff, reduceCtorEq, ac_draw_Cut, h, e]
end Go.Eng
end
section
namespace Go.Eng
def ac_law26_awake (n_event_Make n_event_Encode n_event_Decode n_ref25_SameEvent n_event_Check n_event_Consistent : Nat) : AC :=
 (.seq
 (rG 4096 [
 mC 0 (.t (.bool false))])
 (.seq
 (rG 8192 [
 oO 5 (.bslice 1 4 (.t (byteT 0)) [0, 1, 2, 3]) [.cst (.t (byteT 0)), .cst (.t (byteT 0)), .cst (.t (byteT 0)), .cst (.t (byteT 0))],
 cL 6 n_event_Make true [.cst (.t (.int .i64 4)), .cst (.t (.int .i64 2)), .cst (.t (.int .i64 2)), .tmp 5],
 oO 1 (.new 4 [(.agg [(.t (.int .i64 0)), (.t (.int .i64 0)), .nil, .nil])]) [],
 oS 4 1 6])
 (.seq
 (rG 12288 [
 oO 7 (.load 4 true) [.tmp 1],
 cL 8 n_event_Encode true [.tmp 7],
 mv 2 8])
 (.seq
 (rG 16384 [
 mv 10 2,
 cL 11 n_event_Decode true [.tmp 10],
 mv 9 11,
 oO 12 (.extract 0) [.tmp 9],
 oO 13 (.extract 1) [.tmp 9],
 oO 3 (.new 4 [(.agg [(.t (.int .i64 0)), (.t (.int .i64 0)), .nil, .nil])]) [],
 oS 4 3 12,
 mv 4 13])
 (.seq
 (rG 20480 [
 mv 14 2,
 oO 15 .len [.tmp 14],
 bN 16 .eql 15 44,
 mv 17 16,
 mG 18 4 17,
 oG 19 17 (.bin .eql) [.tmp 18, .cst (.t (.int .i64 0))],
 oO 20 .pick [.tmp 17, .tmp 19, .cst (.t (.bool false))],
 mv 21 20,
 oG 22 21 (.load 4 true) [.tmp 1],
 oG 23 21 (.load 4 true) [.tmp 3],
 cG 24 21 n_ref25_SameEvent false [.tmp 22, .tmp 23],
 oO 25 .pick [.tmp 21, .tmp 24, .cst (.t (.bool false))],
 mv 26 25,
 oG 27 26 (.load 4 true) [.tmp 1],
 cG 28 26 n_event_Check false [.tmp 27, .cst (.t (.int .i64 2))],
 oG 29 26 (.bin .eql) [.tmp 28, .cst (.t (.int .i64 0))],
 oO 30 .pick [.tmp 26, .tmp 29, .cst (.t (.bool false))],
 mv 31 30,
 oG 32 31 (.load 4 true) [.tmp 1],
 cG 33 31 n_event_Check false [.tmp 32, .cst (.t (.int .i64 3))],
 oG 34 31 (.bin .eql) [.tmp 33, .cst (.t (.int .i64 27))],
 oO 35 .pick [.tmp 31, .tmp 34, .cst (.t (.bool false))],
 mv 36 35,
 oG 37 36 (.load 4 true) [.tmp 1],
 cG 38 36 n_event_Consistent false [.tmp 37],
 oO 39 .pick [.tmp 36, .tmp 38, .cst (.t (.bool false))],
 mv 40 39,
 oG 41 40 (.bslice 1 1 (.t (byteT 0)) [0]) [.cst (.t (byteT 120))],
 oG 42 40 .idsl [.tmp 41],
 cG 43 40 n_event_Make true [.cst (.t (.int .i64 4)), .cst (.t (.int .i64 2)), .cst (.t (.int .i64 2)), .tmp 42],
 cG 44 40 n_event_Consistent false [.tmp 43],
 oG 45 40 (.un .not) [.tmp 44],
 oO 46 .pick [.tmp 40, .tmp 45, .cst (.t (.bool false))],
 mv 0 46])
 .ret)))))
def hints_law26_awake : List (Nat × List Nat) := [(1, [1]), (2, [1]), (3, [1]), (4, [29])]
def ac_law26_EventMake (n_law26_awake n_draw_Mod n_draw_Cut n_event_Make n_ref25_Make n_ref25_SameEvent n_event_Check n_event_Encode : Nat) : AC :=
 (.seq
 (rG 4096 [
 mC 10 (.t (.bool false))])
 (.seq
 (.seq
 (rG 8192 [
 cL 12 n_law26_awake false [],
 oO 13 (.un .not) [.tmp 12]])
 (.cond (.tmp 13)
 (.seq
 (rG 12288 [
 mC 10 (.t (.bool false))])
 .ret)
 .skip))
 (.seq
 (rG 16384 [
 mv 14 2,
 cL 15 n_draw_Mod false [.tmp 14, .cst (.t (.int .i64 4))],
 mv 2 15])
 (.seq
 (rG 20480 [
 mv 16 3,
 cL 17 n_draw_Cut true [.tmp 16, .cst (.t (.int .i64 200))],
 mv 3 17])
 (.seq
 (.seq
 (rG 24576 [
 mv 18 4,
 oO 19 (.un .not) [.tmp 18]])
 (.cond (.tmp 19)
 (rG 28672 [
 mv 20 0,
 cL 21 n_draw_Mod false [.tmp 20, .cst (.t (.int .i64 12))],
 mv 22 1,
 cL 23 n_draw_Mod false [.tmp 22, .cst (.t (.int .i64 5))],
 oO 24 (.bin .add) [.cst (.t (.int .i64 1)), .tmp 23],
 mv 0 21,
 mv 1 24])
 .skip))
 (.seq
 (rG 32768 [
 mv 25 0,
 mv 26 1,
 mv 27 2,
 mv 28 3,
 cL 29 n_event_Make true [.tmp 25, .tmp 26, .tmp 27, .tmp 28],
 oO 11 (.new 4 [(.agg [(.t (.int .i64 0)), (.t (.int .i64 0)), .nil, .nil])]) [],
 oS 4 11 29])
 (.seq
 (.seq
 (.reg 36864 (some [0, 0, 0, 0, 0, 30, 63, 127]) [
 oO 30 (.load 4 true) [.tmp 11],
 mv 31 0,
 mv 32 1,
 mv 33 2,
 mv 34 3,
 cL 35 n_ref25_Make true [.tmp 31, .tmp 32, .tmp 33, .tmp 34],
 cL 36 n_ref25_SameEvent false [.tmp 30, .tmp 35],
 oO 37 (.un .not) [.tmp 36]])
 (.cond (.tmp 37)
 (.seq
 (rG 40960 [
 mC 10 (.t (.bool false))])
 .ret)
 .skip))
 (.seq
 (.seq
 (rG 45056 [
 mv 38 4,
 mv 39 38,
 mF 40 2 39,
 oF 41 39 (.bin .eql) [.tmp 40, .cst (.t (.int .i64 0))],
 oO 42 .pick [.tmp 39, .cst (.t (.bool true)), .tmp 41],
 mv 43 42,
 mF 44 3 43,
 oF 45 43 .len [.tmp 44],
 oF 46 43 (.bin .gtr) [.tmp 45, .cst (.t (.int .i64 64))],
 oO 47 .pick [.tmp 43, .cst (.t (.bool true)), .tmp 46]])
 (.cond (.tmp 47)
 (.seq
 (rG 49152 [
 mC 10 (.t (.bool true))])
 .ret)
 .skip))
 (.seq
 (rG 53248 [
 oO 48 (.load 4 true) [.tmp 11],
 mv 49 2,
 cL 50 n_event_Check false [.tmp 48, .tmp 49],
 bN 51 .eql 50 0,
 mv 52 51,
 oG 53 52 (.load 4 true) [.tmp 11],
 cG 54 52 n_event_Encode true [.tmp 53],
 oG 55 52 .len [.tmp 54],
 oG 56 52 (.bin .gtr) [.tmp 55, .cst (.t (.int .i64 0))],
 oO 57 .pick [.tmp 52, .tmp 56, .cst (.t (.bool false))],
 mv 10 57])
 .ret)))))))))
def hints_law26_EventMake : List (Nat × List Nat) := [(4, [1]), (7, [4]), (8, [5]), (12, [6])]
end Go.Eng
end
