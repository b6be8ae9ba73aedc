/- My own text: an abstract machine, its walks over the functions reached, and their tie to the program. -/
import Derived.Test.YtldnhemfgkfiiaaGreatDoorG2
set_option linter.unusedSimpArgs false
set_option linter.unusedVariables false
section
namespace Go.Eng
variable {tab : Tab} {gl : Gl} {fs : Fs} {hs : Hs} {Qx : Post}
def upP (n : Nat) (P : Nat → Prop) (fI : Nat → Fs) (hI : Nat → Hs) (i : Nat) (Qx : Post) : Post := fun e fs' hs' => match e with | .normal => i < n ∧ P (i + 1) ∧ Weak fs' hs' (fI (i + 1)) (hI (i + 1)) | e => Qx e fs' hs'
theorem upP_normal {n : Nat} {P : Nat → Prop} {fI : Nat → Fs} {hI : Nat → Hs} {i : Nat} : upP n P fI hI i Qx .normal fs hs = (i < n ∧ P (i + 1) ∧ Weak fs hs (fI (i + 1)) (hI (i + 1))) := Eq.trans (Eq.refl _) rfl
theorem upP_exit {n : Nat} {P : Nat → Prop} {fI : Nat → Fs} {hI : Nat → Hs} {i id : Nat} : upP n P fI hI i Qx (.exit id) fs hs = Qx (.exit id) fs hs := Eq.trans (Eq.refl _) rfl
theorem upP_ret {n : Nat} {P : Nat → Prop} {fI : Nat → Fs} {hI : Nat → Hs} {i : Nat} : upP n P fI hI i Qx .ret fs hs = Qx .ret fs hs := Eq.trans (Eq.refl _) rfl
attribute [go_sem] upP_normal upP_exit upP_ret
theorem loop_uptoP {a : AC} (n : Nat) (P : Nat → Prop) (fI : Nat → Fs) (hI : Nat → Hs) (hP : P 0) (h0 : Weak fs hs (fI 0) (hI 0)) (h : ∀ i, i ≤ n → P i → a.wp tab gl (fI i) (hI i) (upP n P fI hI i Qx)) : loopW tab gl a fs hs Qx := by
 refine loop_rule (ι := { i : Nat // i ≤ n ∧ P i }) (fun i => (fI i.1, hI i.1)) (fun i => n - i.1) ⟨0, Nat.zero_le _, hP⟩ h0 (fun i => ?_)
 refine wp_post_mono (fun e f g hq => ?_) (h i.1 i.2.1 i.2.2)
 cases e with
 | normal => exact ⟨⟨i.1 + 1, hq.1, hq.2.1⟩, by simp only; have := hq.1; omega, hq.2.2⟩
 | exit id => exact hq
 | ret => exact hq
theorem shr_u32n {a : Nat} {k' : IntKind} {b : Int} (h : 0 ≤ b ∧ b ≤ 32) : binI .shr .u32 (a : Int) k' b = some (.int .u32 ((a / 2 ^ b.toNat : Nat) : Int)) := by
 change (if b < 0 then none else some (T.int .u32 ((a : Int).fdiv (2 ^ min b.toNat 32)))) = _
 rw [if_neg (by omega), show min b.toNat 32 = b.toNat by omega, Int.fdiv_eq_ediv_of_nonneg _ (Int.pow_nonneg (by omega))]
 norm_cast
attribute [go_sem ↓] shr_u32n
theorem byte_ieq {a b : UInt8} : ((a.toNat : Int) == (b.toNat : Int)) = decide (a = b) := by
 by_cases h : a = b
 · subst h; simp
 · have : ¬ ((a.toNat : Int) = b.toNat) := fun e => h (UInt8.toNat_inj.1 (by omega))
   simp [h, this]
theorem bin_b_eq {a b : UInt8} : binT .eql (byteT a) (byteT b) = some (.bool (decide (a = b))) := by
 change some (T.bool ((a.toNat : Int) == (b.toNat : Int))) = _
 rw [byte_ieq]
theorem bin_b_ne {a b : UInt8} : binT .neq (byteT a) (byteT b) = some (.bool (!decide (a = b))) := by
 change some (T.bool (!((a.toNat : Int) == (b.toNat : Int)))) = _
 rw [byte_ieq]
theorem bin_b_lt {a b : UInt8} : binT .lss (byteT a) (byteT b) = some (.bool (decide (a.toNat < b.toNat))) := by
 change some (T.bool (decide ((a.toNat : Int) < (b.toNat : Int)))) = _
 congr 2; simp
theorem bin_b_gt {a b : UInt8} : binT .gtr (byteT a) (byteT b) = some (.bool (decide (a.toNat > b.toNat))) := by
 change some (T.bool (decide ((a.toNat : Int) > (b.toNat : Int)))) = _
 congr 2; simp
theorem bin_b_le {a b : UInt8} : binT .leq (byteT a) (byteT b) = some (.bool (decide (a.toNat ≤ b.toNat))) := by
 change some (T.bool (decide ((a.toNat : Int) ≤ (b.toNat : Int)))) = _
 congr 2; simp
theorem bin_b_ge {a b : UInt8} : binT .geq (byteT a) (byteT b) = some (.bool (decide (a.toNat ≥ b.toNat))) := by
 change some (T.bool (decide ((a.toNat : Int) ≥ (b.toNat : Int)))) = _
 congr 2; simp
theorem bin_b_xor {a b : UInt8} : binT .xor (byteT a) (byteT b) = some (byteT (a ^^^ b)) := by
 change some (T.int .u8 (IntKind.u8.wrap ((BitVec.ofInt 8 (a.toNat : Int) ^^^ BitVec.ofInt 8 (b.toNat : Int)).toNat : Int))) = _
 have e : ∀ x : UInt8, BitVec.ofInt 8 (x.toNat : Int) = x.toBitVec := fun x => BitVec.eq_of_toNat_eq (by simp)
 rw [e, e, ← UInt8.toBitVec_xor, wrap_u8]
 have := (a ^^^ b).toNat_lt
 unfold byteT
 rw [UInt8.toNat_toBitVec]
 congr 2; omega
attribute [go_sem ↓] bin_b_eq bin_b_ne bin_b_lt bin_b_gt bin_b_le bin_b_ge bin_b_xor
attribute [go_sem] UInt8.reduceToNat
theorem conv_u64_byte {b : UInt8} : semConv .u64 [.t (byteT b)] = .ret (.t (.int .u64 (b.toNat : Int)), []) := by
 change Q.ret (V.t (.int .u64 (IntKind.u64.wrap (b.toNat : Int))), ([] : Wr)) = _
 have := b.toNat_lt
 rw [wrap_u64_id (by omega)]
theorem conv_i64_byte {b : UInt8} : semConv .i64 [.t (byteT b)] = .ret (.t (.int .i64 (b.toNat : Int)), []) := by
 change Q.ret (V.t (.int .i64 (IntKind.i64.wrap (b.toNat : Int))), ([] : Wr)) = _
 have := b.toNat_lt
 rw [wrap_i64_id (by omega)]
theorem shl8_u64 {a : Nat} {k' : IntKind} (h : a < 72057594037927936) : binI .shl .u64 (a : Int) k' 8 = some (.int .u64 ((256 * a : Nat) : Int)) := by
 change (if (8 : Int) < 0 then none else some (T.int .u64 (IntKind.u64.wrap ((a : Int) * 2 ^ min (8 : Int).toNat 64)))) = _
 rw [if_neg (by omega), show (a : Int) * 2 ^ min (8 : Int).toNat 64 = ((256 * a : Nat) : Int) by
   rw [show min (8 : Int).toNat 64 = 8 from rfl]; omega, wrap_u64_id (by omega)]
theorem or8 {a x : Nat} (hx : x < 256) : (256 * a) ||| x = 256 * a + x := by
 have := Nat.shiftLeft_add_eq_or_of_lt (i := 8) (b := x) (by omega) a
 rw [Nat.shiftLeft_eq] at this
 rw [Nat.mul_comm]; exact this.symm
theorem or8_u64 {a : Nat} {x : UInt8} (h : a < 72057594037927936) : binI .or .u64 ((256 * a : Nat) : Int) .u64 (x.toNat : Int) = some (.int .u64 ((256 * a + x.toNat : Nat) : Int)) := by
 have hx := x.toNat_lt
 change some (T.int .u64 (IntKind.u64.wrap ((BitVec.ofInt 64 ((256 * a : Nat) : Int) ||| BitVec.ofInt 64 (x.toNat : Int)).toNat : Int))) = _
 have e : (BitVec.ofInt 64 ((256 * a : Nat) : Int) ||| BitVec.ofInt 64 (x.toNat : Int)).toNat = 256 * a + x.toNat := by
   rw [BitVec.toNat_or, BitVec.toNat_ofInt, BitVec.toNat_ofInt, Int.emod_eq_of_lt (by omega) (by omega), Int.emod_eq_of_lt (by omega) (by omega), Int.toNat_natCast, Int.toNat_natCast, or8 (by omega)]
 rw [e, wrap_u64_id (by omega)]
attribute [go_sem ↓] conv_u64_byte conv_i64_byte shl8_u64 or8_u64
theorem bsT_def {bs : List UInt8} : bsT bs = .sl (bs.map byteT) := Eq.trans (Eq.refl _) rfl
theorem getL {l : List (List UInt8)} {i : Nat} (h : i < l.length) : l[i]? = some (l.getD i []) := by simp [List.getD, h]
theorem getB {l : List (List (List UInt8))} {i : Nat} (h : i < l.length) : l[i]? = some (l.getD i []) := by simp [List.getD, h]
theorem bs_app_cons {l : List (List UInt8)} {x : List UInt8} {r : List T} : List.map bsT l ++ T.sl (List.map byteT x) :: r = List.map bsT (l ++ [x]) ++ r := by simp [bsT]
theorem zOkT_bs {l : List (List UInt8)} : zOkT 1 (l.map bsT) = true := zOkT_map (f := bsT) (fun _ => rfl)
theorem ones_bs {l : List (List UInt8)} : ones ((l.map bsT).map V.t) = true := ones_map (f := bsT) (fun _ => rfl)
theorem bsT_inj {a b : List UInt8} (h : bsT a = bsT b) : a = b := by
 have := congrArg dBs h
 rw [bsT, bsT, dBs_bytes, dBs_bytes] at this
 exact Option.some.inj this
theorem mapBs_inj {l m : List (List UInt8)} : (l.map bsT = m.map bsT) = (l = m) := propext ⟨map_inj' (fun _ _ => bsT_inj), fun h => by rw [h]⟩
theorem allT_app {ts : List T} {r : List V} : allT (ts.map .t ++ r) = (allT r).map (ts ++ ·) := by
 induction ts with
 | nil => simp [Option.map_id']
 | cons x l ih =>
   rw [List.map_cons, List.cons_append, allT_cons, ih, Option.map_map]
   rfl
attribute [go_sem] allT_app
attribute [go_sem] bsT_def bs_app_cons zOkT_bs ones_bs
end Go.Eng
end
section
namespace Go.Eng
theorem allT_set {ts : List T} {i : Nat} {v : V} (h : i < ts.length) (hv : ∀ x, v ≠ .t x) : allT ((ts.map .t).set i v) = none := by
 induction ts generalizing i with
 | nil => simp at h
 | cons x r ih =>
   cases i with
   | zero =>
     rw [List.map_cons, List.set_cons_zero]
     cases v with
     | t y => exact absurd rfl (hv y)
     | _ => rfl
   | succ i =>
     rw [List.map_cons, List.set_cons_succ, allT_cons, ih (by simpa using h)]
     rfl
theorem allT_set_sl {ts : List T} {i id off len : Nat} (h : i < ts.length) : allT ((ts.map .t).set i (.sl id off len)) = none := allT_set h (by simp)
theorem allT_set_agg {ts : List T} {i : Nat} {cs : List V} (h : i < ts.length) : allT ((ts.map .t).set i (.agg cs)) = none := allT_set h (by simp)
theorem rdL_set {n : Nat} {ts : List T} {i : Nat} {v : V} (h : i < ts.length) : rdL (rdV n) ((ts.map .t).set i v) = (rdV n v).bind fun x => .ret ((ts.map .t).set i x) := by
 induction ts generalizing i with
 | nil => simp at h
 | cons x r ih =>
   cases i with
   | zero => rw [List.map_cons, List.set_cons_zero, rdL_cons, rdL_t]; rfl
   | succ i =>
     rw [List.map_cons, List.set_cons_succ, rdL_cons, rdV_t, ih (by simpa using h), bind_ret, q_bind_assoc]
     rfl
theorem convL_t {n : Nat} {ts : List T} : convL (convArg n) (ts.map .t) = .ret (ts.map .t, []) := by
 induction ts with
 | nil => rfl
 | cons x r ih => rw [List.map_cons, convL_cons, conv_t, bind_ret, ih, bind_ret]; rfl
theorem convL_set {n : Nat} {ts : List T} {i : Nat} {v : V} (h : i < ts.length) : convL (convArg n) ((ts.map .t).set i v) = (convArg n v).bind fun p => .ret ((ts.map .t).set i p.1, p.2) := by
 induction ts generalizing i with
 | nil => simp at h
 | cons x r ih =>
   cases i with
   | zero =>
     rw [List.map_cons, List.set_cons_zero, convL_cons, convL_t]
     simp [Q.bind]
   | succ i =>
     rw [List.map_cons, List.set_cons_succ, convL_cons, conv_t, bind_ret, ih (by simpa using h), q_bind_assoc]
     rfl
theorem ones_set {es : List V} {i : Nat} {v : V} (h : ones es = true) (hv : v.single = true) : ones (es.set i v) = true := by
 simp only [ones, List.all_eq_true] at *
 intro x hx
 rcases List.mem_or_eq_of_mem_set hx with h1 | rfl
 · exact h x h1
 · exact hv
theorem ones_set_bs {l : List (List UInt8)} {i id off len : Nat} : ones (((l.map bsT).map V.t).set i (.sl id off len)) = true := ones_set ones_bs rfl
theorem bs_set {l : List (List UInt8)} {i : Nat} {x : List UInt8} : List.set (List.map bsT l) i (T.sl (List.map byteT x)) = List.map bsT (l.set i x) := by
 rw [List.map_set]; rfl
attribute [go_sem] allT_set_sl allT_set_agg rdL_set convL_t convL_set ones_set_bs bs_set
theorem loopW_weak {tab : Tab} {gl : Gl} {a : AC} {fs fs' : Fs} {hs hs' : Hs} {Qx : Post} (h : Weak fs hs fs' hs') (hl : loopW tab gl a fs' hs' Qx) : loopW tab gl a fs hs Qx := by
 obtain ⟨ι, I, μ, i0, h0, hr⟩ := hl
 exact ⟨ι, I, μ, i0, h.trans h0, hr⟩
end Go.Eng
end
section
namespace Go.Eng
theorem lens {α : Type} : (∀ (n : Nat) (l : List α), (l.take n).length = min n l.length) ∧ (∀ (n : Nat) (l : List α), (l.drop n).length = l.length - n) ∧ (∀ (l m : List α), (l ++ m).length = l.length + m.length) ∧ (∀ (a : α) (l : List α), (a :: l).length = l.length + 1) ∧ (([] : List α).length = 0) ∧ (∀ (n : Nat) (a : α), (List.replicate n a).length = n) ∧ (∀ (l : List α) (n : Nat) (a : α), (l.set n a).length = l.length) := by simp
theorem lenm {α γ : Type} (f : α → γ) (l : List α) : (l.map f).length = l.length := List.length_map f
attribute [go_sem] Bool.false_eq_true Int.toNat_natCast Bool.and_self false_and and_false or_true true_or or_false false_or Bool.or_self Bool.or_true Bool.true_or Bool.or_false Bool.false_or Bool.and_false Bool.false_and not_true_eq_false not_false_eq_true and_self List.length_append List.length_set List.take_length Option.getD_some Option.getD_none false_implies implies_true Option.some.injEq forall_eq_apply_imp_iff forall_eq forall_eq' List.length_drop List.length_take List.getElem?_drop Nat.mul_one Nat.one_mul Nat.zero_add Nat.add_zero Nat.sub_zero Nat.add_sub_cancel_left Nat.add_sub_cancel wi64 wu64 wu32 map_app_cons map_app_map drop_map' take_map' set_map' get_map' get8 get32 getL getB nc_add nc_addl nc_laddr nc_mul nc_lmul nc_mull nc_tmod nc_tdiv nc_fdiv u8_nat Nat.min_eq_left Nat.min_eq_right nc_sub nc_subl nc_lsub nc_lit Int.cast_ofNat_Int Int.natCast_zero Int.natCast_one
variable {tab : Tab} {gl : Gl} {fs : Fs} {hs : Hs} {Qx : Post} {fm : Nat → Option V} {nb : Nat} {K : V × Wr → List Nat → Prop}
def mv (d s : Nat) : AOper := ⟨some d, .op .mov, [.tmp s], none⟩
theorem mv_q {d s : Nat} : ((mv d s).q tab gl fm nb).wp hs K = ((⟨some d, .op .mov, [.tmp s], none⟩ : AOper).q tab gl fm nb).wp hs K := Eq.trans (Eq.refl _) rfl
theorem mv_d {d s : Nat} : (mv d s).dst = some d := Eq.trans (Eq.refl _) rfl
def mG (d s t : Nat) : AOper := ⟨some d, .op .mov, [.tmp s], some (t, true)⟩
theorem mG_q {d s t : Nat} : ((mG d s t).q tab gl fm nb).wp hs K = ((⟨some d, .op .mov, [.tmp s], some (t, true)⟩ : AOper).q tab gl fm nb).wp hs K := Eq.trans (Eq.refl _) rfl
theorem mG_d {d s t : Nat} : (mG d s t).dst = some d := Eq.trans (Eq.refl _) rfl
def mC (d : Nat) (v : V) : AOper := ⟨some d, .op .mov, [.cst v], none⟩
theorem mC_q {d : Nat} {v : V} : ((mC d v).q tab gl fm nb).wp hs K = ((⟨some d, .op .mov, [.cst v], none⟩ : AOper).q tab gl fm nb).wp hs K := Eq.trans (Eq.refl _) rfl
theorem mC_d {d : Nat} {v : V} : (mC d v).dst = some d := Eq.trans (Eq.refl _) rfl
def oO (d : Nat) (a : AO) (xs : List AOpd) : AOper := ⟨some d, .op a, xs, none⟩
theorem oO_q {d : Nat} {a : AO} {xs : List AOpd} : ((oO d a xs).q tab gl fm nb).wp hs K = ((⟨some d, .op a, xs, none⟩ : AOper).q tab gl fm nb).wp hs K := Eq.trans (Eq.refl _) rfl
theorem oO_d {d : Nat} {a : AO} {xs : List AOpd} : (oO d a xs).dst = some d := Eq.trans (Eq.refl _) rfl
def oG (d t : Nat) (a : AO) (xs : List AOpd) : AOper := ⟨some d, .op a, xs, some (t, true)⟩
theorem oG_q {d t : Nat} {a : AO} {xs : List AOpd} : ((oG d t a xs).q tab gl fm nb).wp hs K = ((⟨some d, .op a, xs, some (t, true)⟩ : AOper).q tab gl fm nb).wp hs K := Eq.trans (Eq.refl _) rfl
theorem oG_d {d t : Nat} {a : AO} {xs : List AOpd} : (oG d t a xs).dst = some d := Eq.trans (Eq.refl _) rfl
def bT (d : Nat) (o : BinOp) (x y : Nat) : AOper := ⟨some d, .op (.bin o), [.tmp x, .tmp y], none⟩
theorem bT_q {d : Nat} {o : BinOp} {x y : Nat} : ((bT d o x y).q tab gl fm nb).wp hs K = ((⟨some d, .op (.bin o), [.tmp x, .tmp y], none⟩ : AOper).q tab gl fm nb).wp hs K := Eq.trans (Eq.refl _) rfl
theorem bT_d {d : Nat} {o : BinOp} {x y : Nat} : (bT d o x y).dst = some d := Eq.trans (Eq.refl _) rfl
def bN (d : Nat) (o : BinOp) (x : Nat) (n : Int) : AOper := ⟨some d, .op (.bin o), [.tmp x, .cst (.t (.int .i64 n))], none⟩
theorem bN_q {d : Nat} {o : BinOp} {x : Nat} {n : Int} : ((bN d o x n).q tab gl fm nb).wp hs K = ((⟨some d, .op (.bin o), [.tmp x, .cst (.t (.int .i64 n))], none⟩ : AOper).q tab gl fm nb).wp hs K := Eq.trans (Eq.refl _) rfl
theorem bN_d {d : Nat} {o : BinOp} {x : Nat} {n : Int} : (bN d o x n).dst = some d := Eq.trans (Eq.refl _) rfl
def cL (d f : Nat) (k : Bool) (xs : List AOpd) : AOper := ⟨some d, .call f k, xs, none⟩
theorem cL_q {d f : Nat} {k : Bool} {xs : List AOpd} : ((cL d f k xs).q tab gl fm nb).wp hs K = ((⟨some d, .call f k, xs, none⟩ : AOper).q tab gl fm nb).wp hs K := Eq.trans (Eq.refl _) rfl
theorem cL_d {d f : Nat} {k : Bool} {xs : List AOpd} : (cL d f k xs).dst = some d := Eq.trans (Eq.refl _) rfl
def mF (d s t : Nat) : AOper := ⟨some d, .op .mov, [.tmp s], some (t, false)⟩
theorem mF_q {d s t : Nat} : ((mF d s t).q tab gl fm nb).wp hs K = ((⟨some d, .op .mov, [.tmp s], some (t, false)⟩ : AOper).q tab gl fm nb).wp hs K := Eq.trans (Eq.refl _) rfl
theorem mF_d {d s t : Nat} : (mF d s t).dst = some d := Eq.trans (Eq.refl _) rfl
def oF (d t : Nat) (a : AO) (xs : List AOpd) : AOper := ⟨some d, .op a, xs, some (t, false)⟩
theorem oF_q {d t : Nat} {a : AO} {xs : List AOpd} : ((oF d t a xs).q tab gl fm nb).wp hs K = ((⟨some d, .op a, xs, some (t, false)⟩ : AOper).q tab gl fm nb).wp hs K := Eq.trans (Eq.refl _) rfl
theorem oF_d {d t : Nat} {a : AO} {xs : List AOpd} : (oF d t a xs).dst = some d := Eq.trans (Eq.refl _) rfl
def cG (d t f : Nat) (k : Bool) (xs : List AOpd) : AOper := ⟨some d, .call f k, xs, some (t, true)⟩
theorem cG_q {d t f : Nat} {k : Bool} {xs : List AOpd} : ((cG d t f k xs).q tab gl fm nb).wp hs K = ((⟨some d, .call f k, xs, some (t, true)⟩ : AOper).q tab gl fm nb).wp hs K := Eq.trans (Eq.refl _) rfl
theorem cG_d {d t f : Nat} {k : Bool} {xs : List AOpd} : (cG d t f k xs).dst = some d := Eq.trans (Eq.refl _) rfl
def cF (d t f : Nat) (k : Bool) (xs : List AOpd) : AOper := ⟨some d, .call f k, xs, some (t, false)⟩
theorem cF_q {d t f : Nat} {k : Bool} {xs : List AOpd} : ((cF d t f k xs).q tab gl fm nb).wp hs K = ((⟨some d, .call f k, xs, some (t, false)⟩ : AOper).q tab gl fm nb).wp hs K := Eq.trans (Eq.refl _) rfl
theorem cF_d {d t f : Nat} {k : Bool} {xs : List AOpd} : (cF d t f k xs).dst = some d := Eq.trans (Eq.refl _) rfl
attribute [go_sem ↓] mF_q oF_q cG_q cF_q
attribute [go_sem] mF_d oF_d cG_d cF_d
def oS (n x y : Nat) : AOper := ⟨none, .op (.store n), [.tmp x, .tmp y], none⟩
theorem oS_q {n x y : Nat} : ((oS n x y).q tab gl fm nb).wp hs K = ((⟨none, .op (.store n), [.tmp x, .tmp y], none⟩ : AOper).q tab gl fm nb).wp hs K := Eq.trans (Eq.refl _) rfl
theorem oS_d {n x y : Nat} : (oS n x y).dst = none := Eq.trans (Eq.refl _) rfl
def rG (nb : Nat) (os : List AOper) : AC := .reg nb none os
theorem rG_w {os : List AOper} : (rG nb os).wp tab gl fs hs Qx = (AC.reg nb none os).wp tab gl fs hs Qx := Eq.trans (Eq.refl _) rfl
attribute [go_sem ↓] rG_w mv_q mG_q mC_q oO_q oG_q bT_q bN_q cL_q oS_q
attribute [go_sem] mv_d mG_d mC_d oO_d oG_d bT_d bN_d cL_d oS_d
end Go.Eng
end
section
namespace Go.Eng
def ac_digest_Size : AC :=
 (.seq
 (rG 4096 [mC 2 (.t (.int .i64 0))])
 (.seq
 (.seq
 (rG 8192 [mv 3 0])
 (.block 0
 (.seq
 (rG 12288 [bN 5 .eql 3 0,mv 4 5])
 (.cond (.tmp 4)
 (.seq
 (rG 16384 [mC 2 (.t (.int .i64 20))])
 .ret)
 (.seq
 (rG 20480 [bN 7 .eql 3 1,mv 6 7])
 (.cond (.tmp 6)
 (.seq
 (rG 24576 [mC 2 (.t (.int .i64 32))])
 .ret)
 .skip))))))
 (.seq
 (rG 28672 [mC 2 (.t (.int .i64 0))])
 .ret)))
def hints_digest_Size : List (Nat × List Nat) := []
def ac_digest_pad_L0 : AC :=
 (.seq
 (.seq
 (rG 12288 [mv 14 3,oO 15 .len [.tmp 14],bN 16 .rem 15 64,bN 17 .neq 16 56])
 (.cond (.tmp 17)
 .skip
 (.exit 0)))
 (.block 1
 (rG 16384 [mv 18 3,oO 19 (.bslice 1 1 (.t (byteT 0)) [0]) [.cst (.t (byteT 0))],oO 20 (.append 1 1) [.tmp 18, .tmp 19],mv 3 20])))
def ac_digest_pad_L1 : AC :=
 (.seq
 (.seq
 (rG 28672 [mv 25 5,bN 26 .geq 25 0])
 (.cond (.tmp 26)
 .skip
 (.exit 2)))
 (.seq
 (.block 3
 (rG 36864 [mv 29 3,mv 30 4,mv 31 5,oO 32 (.conv .u64) [.tmp 31],bT 33 .shr 30 32,oO 34 (.conv .u8) [.tmp 33],oO 35 (.bslice 1 1 (.t (byteT 0)) [0]) [.tmp 34],oO 36 (.append 1 1) [.tmp 29, .tmp 35],mv 3 36]))
 (rG 32768 [mv 27 5,bN 28 .sub 27 8,mv 5 28])))
def ac_digest_pad : AC :=
 (.seq
 (rG 4096 [mC 2 .nil])
 (.seq
 (rG 8192 [mv 6 0,oO 7 .len [.tmp 6],bN 8 .add 7 72,oO 9 (.mkslice 1 1 (.t (byteT 0))) [.cst (.t (.int .i64 0)), .tmp 8],mv 10 0,oO 11 (.append 1 1) [.tmp 9, .tmp 10],oO 12 (.bslice 1 1 (.t (byteT 0)) [0]) [.cst (.t (byteT 128))],oO 13 (.append 1 1) [.tmp 11, .tmp 12],mv 3 13])
 (.seq
 (.block 0
 (.loop ac_digest_pad_L0))
 (.seq
 (rG 20480 [mv 21 0,oO 22 .len [.tmp 21],oO 23 (.conv .u64) [.tmp 22],oO 24 (.bin .mul) [.tmp 23, .cst (.t (.int .u64 8))],mv 4 24])
 (.seq
 (.seq
 (rG 24576 [mC 5 (.t (.int .i64 56))])
 (.block 2
 (.loop ac_digest_pad_L1)))
 (.seq
 (rG 40960 [mv 37 3,mv 2 37])
 .ret))))))
def hints_digest_pad : List (Nat × List Nat) := []
def ac_digest_word : AC :=
 (.seq
 (rG 4096 [mC 4 (.t (u32T 0))])
 (.seq
 (.reg 8192 (some [0, 0, 2, 7, 15, 31, 63, 0, 0, 256, 768, 1920, 3968, 8064, 16256, 32767, 0, 0, 131072, 393216, 983040, 2031616, 4128768, 8323072, 16777215, 0, 0, 67108864, 201326592, 503316480, 1040187392, 2113929216, 4294967295, 8589934591]) [mv 5 0,mv 6 1,oO 7 (.bin .mul) [.cst (.t (.int .i64 4)), .tmp 6],oO 8 (.iaddr 1) [.tmp 5, .tmp 7],oO 9 (.load 1 false) [.tmp 8],oO 10 (.conv .u32) [.tmp 9],oO 11 (.bin .shl) [.tmp 10, .cst (.t (.int .u64 24))],mv 12 0,mv 13 1,oO 14 (.bin .mul) [.cst (.t (.int .i64 4)), .tmp 13],bN 15 .add 14 1,oO 16 (.iaddr 1) [.tmp 12, .tmp 15],oO 17 (.load 1 false) [.tmp 16],oO 18 (.conv .u32) [.tmp 17],oO 19 (.bin .shl) [.tmp 18, .cst (.t (.int .u64 16))],bT 20 .or 11 19,mv 21 0,mv 22 1,oO 23 (.bin .mul) [.cst (.t (.int .i64 4)), .tmp 22],bN 24 .add 23 2,oO 25 (.iaddr 1) [.tmp 21, .tmp 24],oO 26 (.load 1 false) [.tmp 25],oO 27 (.conv .u32) [.tmp 26],oO 28 (.bin .shl) [.tmp 27, .cst (.t (.int .u64 8))],bT 29 .or 20 28,mv 30 0,mv 31 1,oO 32 (.bin .mul) [.cst (.t (.int .i64 4)), .tmp 31],bN 33 .add 32 3,oO 34 (.iaddr 1) [.tmp 30, .tmp 33],oO 35 (.load 1 false) [.tmp 34],oO 36 (.conv .u32) [.tmp 35],bT 37 .or 29 36,mv 4 37])
 .ret))
def hints_digest_word : List (Nat × List Nat) := []
def ac_digest_spread_L0 : AC :=
 (.seq
 (rG 16384 [bT 13 .lss 12 11])
 (.seq
 (.cond (.tmp 13)
 .skip
 (.exit 0))
 (.seq
 (.block 1
 (.seq
 (rG 20480 [oO 14 (.iaddr 1) [.tmp 10, .tmp 12],oO 15 (.load 1 false) [.tmp 14],mv 5 15])
 (rG 24576 [mv 16 3,mv 17 5,oO 18 (.bin .shr) [.tmp 17, .cst (.t (.int .u64 24))],oO 19 (.conv .u8) [.tmp 18],mv 20 5,oO 21 (.bin .shr) [.tmp 20, .cst (.t (.int .u64 16))],oO 22 (.conv .u8) [.tmp 21],mv 23 5,oO 24 (.bin .shr) [.tmp 23, .cst (.t (.int .u64 8))],oO 25 (.conv .u8) [.tmp 24],mv 26 5,oO 27 (.conv .u8) [.tmp 26],oO 28 (.bslice 1 4 (.t (byteT 0)) [0, 1, 2, 3]) [.tmp 19, .tmp 22, .tmp 25, .tmp 27],oO 29 (.append 1 1) [.tmp 16, .tmp 28],mv 3 29])))
 (rG 28672 [bN 30 .add 12 1,mv 12 30]))))
def ac_digest_spread : AC :=
 (.seq
 (rG 4096 [mC 2 .nil])
 (.seq
 (rG 8192 [mv 6 0,oO 7 .len [.tmp 6],oO 8 (.bin .mul) [.cst (.t (.int .i64 4)), .tmp 7],oO 9 (.mkslice 1 1 (.t (byteT 0))) [.cst (.t (.int .i64 0)), .tmp 8],mv 3 9])
 (.seq
 (.seq
 (rG 12288 [mv 10 0,oO 11 .len [.tmp 10],mC 12 (.t (.int .i64 0))])
 (.block 0
 (.loop ac_digest_spread_L0)))
 (.seq
 (rG 32768 [mv 31 3,mv 2 31])
 .ret))))
def hints_digest_spread : List (Nat × List Nat) := []
def ac_digest_compress256_L0 (n_digest_word n_bits_RotateLeft32 : Nat) : AC :=
 (.seq
 (rG 12288 [bN 18 .lss 17 64])
 (.seq
 (.cond (.tmp 18)
 .skip
 (.exit 0))
 (.seq
 (.block 1
 (.seq
 (rG 16384 [mv 19 17,mv 5 19])
 (.seq
 (.seq
 (rG 20480 [mv 20 5,bN 21 .lss 20 16])
 (.cond (.tmp 21)
 (.seq
 (rG 24576 [mv 22 5,mv 23 1,mv 24 5,cL 25 n_digest_word false [.tmp 23, .tmp 24],oO 26 (.aaddr 64 1) [.tmp 4, .tmp 22],oS 1 26 25])
 (.exit 1))
 .skip))
 (.seq
 (.reg 28672 (some [0, 1, 3, 7, 0, 16, 48, 112, 15, 511]) [mv 27 5,bN 28 .sub 27 15,oO 29 (.aaddr 64 1) [.tmp 4, .tmp 28],oO 30 (.load 1 false) [.tmp 29],mv 31 5,bN 32 .sub 31 2,oO 33 (.aaddr 64 1) [.tmp 4, .tmp 32],oO 34 (.load 1 false) [.tmp 33],mv 6 30,mv 7 34])
 (.seq
 (rG 32768 [mv 35 6,cL 36 n_bits_RotateLeft32 false [.tmp 35, .cst (.t (.int .i64 (-7)))],mv 37 6,cL 38 n_bits_RotateLeft32 false [.tmp 37, .cst (.t (.int .i64 (-18)))],bT 39 .xor 36 38,mv 40 6,oO 41 (.bin .shr) [.tmp 40, .cst (.t (.int .u64 3))],bT 42 .xor 39 41,mv 8 42])
 (.seq
 (rG 36864 [mv 43 7,cL 44 n_bits_RotateLeft32 false [.tmp 43, .cst (.t (.int .i64 (-17)))],mv 45 7,cL 46 n_bits_RotateLeft32 false [.tmp 45, .cst (.t (.int .i64 (-19)))],bT 47 .xor 44 46,mv 48 7,oO 49 (.bin .shr) [.tmp 48, .cst (.t (.int .u64 10))],bT 50 .xor 47 49,mv 9 50])
 (.reg 40960 (some [0, 0, 0, 4, 12, 28, 62, 0, 254, 0, 512, 1536, 3584, 8190, 16383, 32767]) [mv 51 5,mv 52 9,mv 53 5,bN 54 .sub 53 7,oO 55 (.aaddr 64 1) [.tmp 4, .tmp 54],oO 56 (.load 1 false) [.tmp 55],bT 57 .add 52 56,mv 58 8,bT 59 .add 57 58,mv 60 5,bN 61 .sub 60 16,oO 62 (.aaddr 64 1) [.tmp 4, .tmp 61],oO 63 (.load 1 false) [.tmp 62],bT 64 .add 59 63,oO 65 (.aaddr 64 1) [.tmp 4, .tmp 51],oS 1 65 64])))))))
 (rG 45056 [bN 66 .add 17 1,mv 17 66]))))
def ac_digest_compress256_L1 (n_bits_RotateLeft32 g_digest_round256 : Nat) : AC :=
 (.seq
 (rG 57344 [bN 71 .lss 70 64])
 (.seq
 (.cond (.tmp 71)
 .skip
 (.exit 2))
 (.seq
 (.block 3
 (.seq
 (rG 61440 [mv 72 70,mv 11 72])
 (.seq
 (.reg 65536 (some [0, 1, 0, 4, 3, 31]) [oO 73 (.aaddr 8 1) [.tmp 10, .cst (.t (.int .i64 0))],oO 74 (.load 1 false) [.tmp 73],oO 75 (.aaddr 8 1) [.tmp 10, .cst (.t (.int .i64 4))],oO 76 (.load 1 false) [.tmp 75],mv 12 74,mv 13 76])
 (.seq
 (.reg 69632 (some [0, 1, 0, 4, 0, 28, 60, 0, 188, 508, 1023, 0, 0, 4096, 14336, 0, 32768, 0, 131072, 491520, 1046528, 2097151, 0, 4194304, 12582912, 33554431, 0, 67108864, 201326592, 536870911, 1073741823]) [oO 77 (.aaddr 8 1) [.tmp 10, .cst (.t (.int .i64 7))],oO 78 (.load 1 false) [.tmp 77],mv 79 13,cL 80 n_bits_RotateLeft32 false [.tmp 79, .cst (.t (.int .i64 (-6)))],mv 81 13,cL 82 n_bits_RotateLeft32 false [.tmp 81, .cst (.t (.int .i64 (-11)))],bT 83 .xor 80 82,mv 84 13,cL 85 n_bits_RotateLeft32 false [.tmp 84, .cst (.t (.int .i64 (-25)))],bT 86 .xor 83 85,bT 87 .add 78 86,mv 88 13,oO 89 (.aaddr 8 1) [.tmp 10, .cst (.t (.int .i64 5))],oO 90 (.load 1 false) [.tmp 89],bT 91 .and 88 90,mv 92 13,oO 93 (.un .xor) [.tmp 92],oO 94 (.aaddr 8 1) [.tmp 10, .cst (.t (.int .i64 6))],oO 95 (.load 1 false) [.tmp 94],bT 96 .and 93 95,bT 97 .xor 91 96,bT 98 .add 87 97,mv 99 11,oO 100 (.aaddr 64 1) [.glob g_digest_round256, .tmp 99],oO 101 (.load 1 false) [.tmp 100],bT 102 .add 98 101,mv 103 11,oO 104 (.aaddr 64 1) [.tmp 4, .tmp 103],oO 105 (.load 1 false) [.tmp 104],bT 106 .add 102 105,mv 14 106])
 (.seq
 (.reg 73728 (some [0, 1, 0, 7, 15, 0, 47, 127, 0, 0, 512, 1792, 0, 0, 8192, 28672, 65280, 0, 131072, 0, 524288, 1966080, 4194048, 8388607, 16777215]) [mv 107 12,cL 108 n_bits_RotateLeft32 false [.tmp 107, .cst (.t (.int .i64 (-2)))],mv 109 12,cL 110 n_bits_RotateLeft32 false [.tmp 109, .cst (.t (.int .i64 (-13)))],bT 111 .xor 108 110,mv 112 12,cL 113 n_bits_RotateLeft32 false [.tmp 112, .cst (.t (.int .i64 (-22)))],bT 114 .xor 111 113,mv 115 12,oO 116 (.aaddr 8 1) [.tmp 10, .cst (.t (.int .i64 1))],oO 117 (.load 1 false) [.tmp 116],bT 118 .and 115 117,mv 119 12,oO 120 (.aaddr 8 1) [.tmp 10, .cst (.t (.int .i64 2))],oO 121 (.load 1 false) [.tmp 120],bT 122 .and 119 121,bT 123 .xor 118 122,oO 124 (.aaddr 8 1) [.tmp 10, .cst (.t (.int .i64 1))],oO 125 (.load 1 false) [.tmp 124],oO 126 (.aaddr 8 1) [.tmp 10, .cst (.t (.int .i64 2))],oO 127 (.load 1 false) [.tmp 126],bT 128 .and 125 127,bT 129 .xor 123 128,bT 130 .add 114 129,mv 15 130])
 (rG 77824 [mv 131 14,mv 132 15,bT 133 .add 131 132,oO 134 (.aaddr 8 1) [.tmp 10, .cst (.t (.int .i64 0))],oO 135 (.load 1 false) [.tmp 134],oO 136 (.aaddr 8 1) [.tmp 10, .cst (.t (.int .i64 1))],oO 137 (.load 1 false) [.tmp 136],oO 138 (.aaddr 8 1) [.tmp 10, .cst (.t (.int .i64 2))],oO 139 (.load 1 false) [.tmp 138],oO 140 (.aaddr 8 1) [.tmp 10, .cst (.t (.int .i64 3))],oO 141 (.load 1 false) [.tmp 140],mv 142 14,bT 143 .add 141 142,oO 144 (.aaddr 8 1) [.tmp 10, .cst (.t (.int .i64 4))],oO 145 (.load 1 false) [.tmp 144],oO 146 (.aaddr 8 1) [.tmp 10, .cst (.t (.int .i64 5))],oO 147 (.load 1 false) [.tmp 146],oO 148 (.aaddr 8 1) [.tmp 10, .cst (.t (.int .i64 6))],oO 149 (.load 1 false) [.tmp 148],oO 150 (.build [(.t (u32T 0)), (.t (u32T 0)), (.t (u32T 0)), (.t (u32T 0)), (.t (u32T 0)), (.t (u32T 0)), (.t (u32T 0)), (.t (u32T 0))] [(0, 1), (1, 1), (2, 1), (3, 1), (4, 1), (5, 1), (6, 1), (7, 1)]) [.tmp 133, .tmp 135, .tmp 137, .tmp 139, .tmp 143, .tmp 145, .tmp 147, .tmp 149],oS 8 10 150]))))))
 (rG 81920 [bN 151 .add 70 1,mv 70 151]))))
def ac_digest_compress256_L2 : AC :=
 (.seq
 (rG 90112 [bN 153 .lss 152 8])
 (.seq
 (.cond (.tmp 153)
 .skip
 (.exit 4))
 (.seq
 (.block 5
 (.seq
 (rG 94208 [mv 154 152,mv 16 154])
 (.reg 98304 (some [0, 0, 1, 7, 15, 0, 32, 96, 255, 1, 1023, 2047]) [mv 155 0,mv 156 16,oO 157 .nilchk [.tmp 155],oO 158 (.aaddr 8 1) [.tmp 157, .tmp 156],oO 159 (.load 1 false) [.tmp 158],mv 160 16,oO 161 (.aaddr 8 1) [.tmp 10, .tmp 160],oO 162 (.load 1 false) [.tmp 161],bT 163 .add 159 162,oO 164 .nilchk [.tmp 155],oO 165 (.aaddr 8 1) [.tmp 164, .tmp 156],oS 1 165 163])))
 (rG 102400 [bN 166 .add 152 1,mv 152 166]))))
def ac_digest_compress256 (n_digest_word n_bits_RotateLeft32 g_digest_round256 : Nat) : AC :=
 (.seq
 (rG 4096 [oO 4 (.new 1 (List.replicate 64 (.t (u32T 0)))) []])
 (.seq
 (.seq
 (rG 8192 [mC 17 (.t (.int .i64 0))])
 (.block 0
 (.loop (ac_digest_compress256_L0 n_digest_word n_bits_RotateLeft32))))
 (.seq
 (rG 49152 [mv 67 0,oO 68 .nilchk [.tmp 67],oO 69 (.load 8 true) [.tmp 68],oO 10 (.new 1 [(.t (u32T 0)), (.t (u32T 0)), (.t (u32T 0)), (.t (u32T 0)), (.t (u32T 0)), (.t (u32T 0)), (.t (u32T 0)), (.t (u32T 0))]) [],oS 8 10 69])
 (.seq
 (.seq
 (rG 53248 [mC 70 (.t (.int .i64 0))])
 (.block 2
 (.loop (ac_digest_compress256_L1 n_bits_RotateLeft32 g_digest_round256))))
 (.seq
 (rG 86016 [mC 152 (.t (.int .i64 0))])
 (.block 4
 (.loop ac_digest_compress256_L2)))))))
def hints_digest_compress256 : List (Nat × List Nat) := []
def ac_digest_compress1_L0 (n_digest_word n_bits_RotateLeft32 : Nat) : AC :=
 (.seq
 (rG 12288 [bN 15 .lss 14 80])
 (.seq
 (.cond (.tmp 15)
 .skip
 (.exit 0))
 (.seq
 (.block 1
 (.seq
 (rG 16384 [mv 16 14,mv 5 16])
 (.seq
 (rG 20480 [mv 17 5,bN 18 .lss 17 16])
 (.cond (.tmp 18)
 (rG 24576 [mv 19 5,mv 20 1,mv 21 5,cL 22 n_digest_word false [.tmp 20, .tmp 21],oO 23 (.aaddr 80 1) [.tmp 4, .tmp 19],oS 1 23 22])
 (.reg 28672 (some [0, 0, 2, 6, 14, 0, 32, 96, 224, 510, 0, 1024, 3072, 7168, 16382, 0, 32768, 98304, 229376, 524286, 1048574, 2097151, 4194303]) [mv 24 5,mv 25 5,bN 26 .sub 25 3,oO 27 (.aaddr 80 1) [.tmp 4, .tmp 26],oO 28 (.load 1 false) [.tmp 27],mv 29 5,bN 30 .sub 29 8,oO 31 (.aaddr 80 1) [.tmp 4, .tmp 30],oO 32 (.load 1 false) [.tmp 31],bT 33 .xor 28 32,mv 34 5,bN 35 .sub 34 14,oO 36 (.aaddr 80 1) [.tmp 4, .tmp 35],oO 37 (.load 1 false) [.tmp 36],bT 38 .xor 33 37,mv 39 5,bN 40 .sub 39 16,oO 41 (.aaddr 80 1) [.tmp 4, .tmp 40],oO 42 (.load 1 false) [.tmp 41],bT 43 .xor 38 42,cL 44 n_bits_RotateLeft32 false [.tmp 43, .cst (.t (.int .i64 1))],oO 45 (.aaddr 80 1) [.tmp 4, .tmp 24],oS 1 45 44])))))
 (rG 32768 [bN 46 .add 14 1,mv 14 46]))))
def ac_digest_compress1_L1 (n_bits_RotateLeft32 : Nat) : AC :=
 (.seq
 (rG 45056 [bN 68 .lss 67 80])
 (.seq
 (.cond (.tmp 68)
 .skip
 (.exit 2))
 (.seq
 (.block 3
 (.seq
 (rG 49152 [mv 69 67,mv 11 69])
 (.seq
 (rG 53248 [mC 12 (.t (u32T 0)),mC 13 (.t (u32T 0))])
 (.seq
 (.seq
 (rG 57344 [mv 70 11,bN 71 .quo 70 20])
 (.block 4
 (.seq
 (rG 65536 [bN 78 .eql 71 0,mv 77 78])
 (.cond (.tmp 77)
 (rG 69632 [mv 79 7,mv 80 8,bT 81 .and 79 80,mv 82 7,oO 83 (.un .xor) [.tmp 82],mv 84 9,bT 85 .and 83 84,bT 86 .xor 81 85,mv 12 86,mC 13 (.t (u32T 1518500249))])
 (.seq
 (rG 73728 [bN 88 .eql 71 1,mv 87 88])
 (.cond (.tmp 87)
 (rG 77824 [mv 89 7,mv 90 8,bT 91 .xor 89 90,mv 92 9,bT 93 .xor 91 92,mv 12 93,mC 13 (.t (u32T 1859775393))])
 (.seq
 (rG 81920 [bN 95 .eql 71 2,mv 94 95])
 (.cond (.tmp 94)
 (rG 86016 [mv 96 7,mv 97 8,bT 98 .and 96 97,mv 99 7,mv 100 9,bT 101 .and 99 100,bT 102 .xor 98 101,mv 103 8,mv 104 9,bT 105 .and 103 104,bT 106 .xor 102 105,mv 12 106,mC 13 (.t (u32T 2400959708))])
 (rG 61440 [mv 72 7,mv 73 8,bT 74 .xor 72 73,mv 75 9,bT 76 .xor 74 75,mv 12 76,mC 13 (.t (u32T 3395469782))])))))))))
 (.reg 90112 (some [0, 1, 0, 7, 0, 31, 0, 127, 0, 256, 768, 2047, 0, 0, 8195, 0, 0, 131071, 262143, 524287, 1048575, 2097151]) [mv 107 6,cL 108 n_bits_RotateLeft32 false [.tmp 107, .cst (.t (.int .i64 5))],mv 109 12,bT 110 .add 108 109,mv 111 10,bT 112 .add 110 111,mv 113 13,bT 114 .add 112 113,mv 115 11,oO 116 (.aaddr 80 1) [.tmp 4, .tmp 115],oO 117 (.load 1 false) [.tmp 116],bT 118 .add 114 117,mv 119 6,mv 120 7,cL 121 n_bits_RotateLeft32 false [.tmp 120, .cst (.t (.int .i64 30))],mv 122 8,mv 123 9,mv 6 118,mv 7 119,mv 8 121,mv 9 122,mv 10 123])))))
 (rG 94208 [bN 124 .add 67 1,mv 67 124]))))
def ac_digest_compress1 (n_digest_word n_bits_RotateLeft32 : Nat) : AC :=
 (.seq
 (rG 4096 [oO 4 (.new 1 (List.replicate 80 (.t (u32T 0)))) []])
 (.seq
 (.seq
 (rG 8192 [mC 14 (.t (.int .i64 0))])
 (.block 0
 (.loop (ac_digest_compress1_L0 n_digest_word n_bits_RotateLeft32))))
 (.seq
 (.reg 36864 (some [0, 1, 3, 7, 0, 16, 48, 112, 0, 256, 768, 1792, 0, 4096, 12288, 28672, 0, 65536, 196608, 458752, 15, 1048831, 3149823, 7405567, 16777215]) [mv 47 0,oO 48 .nilchk [.tmp 47],oO 49 (.aaddr 5 1) [.tmp 48, .cst (.t (.int .i64 0))],oO 50 (.load 1 false) [.tmp 49],mv 51 0,oO 52 .nilchk [.tmp 51],oO 53 (.aaddr 5 1) [.tmp 52, .cst (.t (.int .i64 1))],oO 54 (.load 1 false) [.tmp 53],mv 55 0,oO 56 .nilchk [.tmp 55],oO 57 (.aaddr 5 1) [.tmp 56, .cst (.t (.int .i64 2))],oO 58 (.load 1 false) [.tmp 57],mv 59 0,oO 60 .nilchk [.tmp 59],oO 61 (.aaddr 5 1) [.tmp 60, .cst (.t (.int .i64 3))],oO 62 (.load 1 false) [.tmp 61],mv 63 0,oO 64 .nilchk [.tmp 63],oO 65 (.aaddr 5 1) [.tmp 64, .cst (.t (.int .i64 4))],oO 66 (.load 1 false) [.tmp 65],mv 6 50,mv 7 54,mv 8 58,mv 9 62,mv 10 66])
 (.seq
 (.seq
 (rG 40960 [mC 67 (.t (.int .i64 0))])
 (.block 2
 (.loop (ac_digest_compress1_L1 n_bits_RotateLeft32))))
 (.seq
 (.reg 98304 (some [0, 1, 3, 7, 0, 31, 1, 127, 255]) [mv 125 0,oO 126 .nilchk [.tmp 125],oO 127 (.aaddr 5 1) [.tmp 126, .cst (.t (.int .i64 0))],oO 128 (.load 1 false) [.tmp 127],mv 129 6,bT 130 .add 128 129,oO 131 .nilchk [.tmp 125],oO 132 (.aaddr 5 1) [.tmp 131, .cst (.t (.int .i64 0))],oS 1 132 130])
 (.seq
 (.reg 102400 (some [0, 1, 3, 7, 0, 31, 1, 127, 255]) [mv 133 0,oO 134 .nilchk [.tmp 133],oO 135 (.aaddr 5 1) [.tmp 134, .cst (.t (.int .i64 1))],oO 136 (.load 1 false) [.tmp 135],mv 137 7,bT 138 .add 136 137,oO 139 .nilchk [.tmp 133],oO 140 (.aaddr 5 1) [.tmp 139, .cst (.t (.int .i64 1))],oS 1 140 138])
 (.seq
 (.reg 106496 (some [0, 1, 3, 7, 0, 31, 1, 127, 255]) [mv 141 0,oO 142 .nilchk [.tmp 141],oO 143 (.aaddr 5 1) [.tmp 142, .cst (.t (.int .i64 2))],oO 144 (.load 1 false) [.tmp 143],mv 145 8,bT 146 .add 144 145,oO 147 .nilchk [.tmp 141],oO 148 (.aaddr 5 1) [.tmp 147, .cst (.t (.int .i64 2))],oS 1 148 146])
 (.seq
 (.reg 110592 (some [0, 1, 3, 7, 0, 31, 1, 127, 255]) [mv 149 0,oO 150 .nilchk [.tmp 149],oO 151 (.aaddr 5 1) [.tmp 150, .cst (.t (.int .i64 3))],oO 152 (.load 1 false) [.tmp 151],mv 153 9,bT 154 .add 152 153,oO 155 .nilchk [.tmp 149],oO 156 (.aaddr 5 1) [.tmp 155, .cst (.t (.int .i64 3))],oS 1 156 154])
 (.reg 114688 (some [0, 1, 3, 7, 0, 31, 1, 127, 255]) [mv 157 0,oO 158 .nilchk [.tmp 157],oO 159 (.aaddr 5 1) [.tmp 158, .cst (.t (.int .i64 4))],oO 160 (.load 1 false) [.tmp 159],mv 161 10,bT 162 .add 160 161,oO 163 .nilchk [.tmp 157],oO 164 (.aaddr 5 1) [.tmp 163, .cst (.t (.int .i64 4))],oS 1 164 162])))))))))
def hints_digest_compress1 : List (Nat × List Nat) := []
def ac_digest_Sum_L0 (n_digest_compress1 : Nat) : AC :=
 (.seq
 (.seq
 (rG 24576 [mv 15 6,oO 16 .len [.tmp 15],bN 17 .gtr 16 0])
 (.cond (.tmp 17)
 .skip
 (.exit 1)))
 (.seq
 (.block 2
 (rG 32768 [mv 20 6,oO 21 (.slice 1 false true false) [.tmp 20, .cst (.t (.int .i64 64))],cL 22 n_digest_compress1 false [.tmp 5, .tmp 21]]))
 (rG 28672 [mv 18 6,oO 19 (.slice 1 true false false) [.tmp 18, .cst (.t (.int .i64 64))],mv 6 19])))
def ac_digest_Sum_L1 (n_digest_compress256 : Nat) : AC :=
 (.seq
 (.seq
 (rG 53248 [mv 30 8,oO 31 .len [.tmp 30],bN 32 .gtr 31 0])
 (.cond (.tmp 32)
 .skip
 (.exit 3)))
 (.seq
 (.block 4
 (rG 61440 [mv 35 8,oO 36 (.slice 1 false true false) [.tmp 35, .cst (.t (.int .i64 64))],cL 37 n_digest_compress256 false [.tmp 7, .tmp 36]]))
 (rG 57344 [mv 33 8,oO 34 (.slice 1 true false false) [.tmp 33, .cst (.t (.int .i64 64))],mv 8 34])))
def ac_digest_Sum (n_digest_pad n_digest_compress1 n_digest_spread n_digest_compress256 : Nat) : AC :=
 (.seq
 (rG 4096 [mC 4 .nil])
 (.seq
 (.seq
 (rG 8192 [mv 9 0])
 (.block 0
 (.seq
 (rG 12288 [bN 11 .eql 9 0,mv 10 11])
 (.cond (.tmp 10)
 (.seq
 (rG 16384 [oO 12 (.build [(.t (u32T 0)), (.t (u32T 0)), (.t (u32T 0)), (.t (u32T 0)), (.t (u32T 0))] [(0, 1), (1, 1), (2, 1), (3, 1), (4, 1)]) [.cst (.t (u32T 1732584193)), .cst (.t (u32T 4023233417)), .cst (.t (u32T 2562383102)), .cst (.t (u32T 271733878)), .cst (.t (u32T 3285377520))],oO 5 (.new 1 [(.t (u32T 0)), (.t (u32T 0)), (.t (u32T 0)), (.t (u32T 0)), (.t (u32T 0))]) [],oS 5 5 12])
 (.seq
 (.seq
 (rG 20480 [mv 13 1,cL 14 n_digest_pad false [.tmp 13],mv 6 14])
 (.block 1
 (.loop (ac_digest_Sum_L0 n_digest_compress1))))
 (.seq
 (rG 36864 [oO 23 (.aslice 5 1 false false false) [.tmp 5],cL 24 n_digest_spread false [.tmp 23],mv 4 24])
 .ret)))
 (.seq
 (rG 40960 [bN 26 .eql 9 1,mv 25 26])
 (.cond (.tmp 25)
 (.seq
 (rG 45056 [oO 27 (.build [(.t (u32T 0)), (.t (u32T 0)), (.t (u32T 0)), (.t (u32T 0)), (.t (u32T 0)), (.t (u32T 0)), (.t (u32T 0)), (.t (u32T 0))] [(0, 1), (1, 1), (2, 1), (3, 1), (4, 1), (5, 1), (6, 1), (7, 1)]) [.cst (.t (u32T 1779033703)), .cst (.t (u32T 3144134277)), .cst (.t (u32T 1013904242)), .cst (.t (u32T 2773480762)), .cst (.t (u32T 1359893119)), .cst (.t (u32T 2600822924)), .cst (.t (u32T 528734635)), .cst (.t (u32T 1541459225))],oO 7 (.new 1 [(.t (u32T 0)), (.t (u32T 0)), (.t (u32T 0)), (.t (u32T 0)), (.t (u32T 0)), (.t (u32T 0)), (.t (u32T 0)), (.t (u32T 0))]) [],oS 8 7 27])
 (.seq
 (.seq
 (rG 49152 [mv 28 1,cL 29 n_digest_pad false [.tmp 28],mv 8 29])
 (.block 3
 (.loop (ac_digest_Sum_L1 n_digest_compress256))))
 (.seq
 (rG 65536 [oO 38 (.aslice 8 1 false false false) [.tmp 7],cL 39 n_digest_spread false [.tmp 38],mv 4 39])
 .ret)))
 .skip))))))
 (.seq
 (rG 69632 [mC 4 .nil])
 .ret)))
def hints_digest_Sum : List (Nat × List Nat) := []
def ac_digest_Frame_L0 : AC :=
 (.seq
 (rG 16384 [bT 15 .lss 14 13])
 (.seq
 (.cond (.tmp 15)
 .skip
 (.exit 0))
 (.seq
 (.block 1
 (.seq
 (rG 20480 [oO 16 (.iaddr 1) [.tmp 12, .tmp 14],oO 17 (.load 1 false) [.tmp 16],mv 7 17])
 (.seq
 (rG 24576 [mv 18 7,oO 19 .len [.tmp 18],oO 20 (.conv .u32) [.tmp 19],mv 8 20])
 (.seq
 (rG 28672 [mv 21 5,mv 22 8,oO 23 (.bin .shr) [.tmp 22, .cst (.t (.int .u64 24))],oO 24 (.conv .u8) [.tmp 23],mv 25 8,oO 26 (.bin .shr) [.tmp 25, .cst (.t (.int .u64 16))],oO 27 (.conv .u8) [.tmp 26],mv 28 8,oO 29 (.bin .shr) [.tmp 28, .cst (.t (.int .u64 8))],oO 30 (.conv .u8) [.tmp 29],mv 31 8,oO 32 (.conv .u8) [.tmp 31],oO 33 (.bslice 1 4 (.t (byteT 0)) [0, 1, 2, 3]) [.tmp 24, .tmp 27, .tmp 30, .tmp 32],oO 34 (.append 1 1) [.tmp 21, .tmp 33],mv 5 34])
 (rG 32768 [mv 35 5,mv 36 7,oO 37 (.append 1 1) [.tmp 35, .tmp 36],mv 5 37])))))
 (rG 36864 [bN 38 .add 14 1,mv 14 38]))))
def ac_digest_Frame : AC :=
 (.seq
 (rG 4096 [mC 4 .nil])
 (.seq
 (rG 8192 [mv 9 0,oO 10 (.conv .u8) [.tmp 9],oO 11 (.bslice 1 1 (.t (byteT 0)) [0]) [.tmp 10],mv 5 11])
 (.seq
 (.seq
 (rG 12288 [mv 12 1,oO 13 .len [.tmp 12],mC 14 (.t (.int .i64 0))])
 (.block 0
 (.loop ac_digest_Frame_L0)))
 (.seq
 (rG 40960 [mv 39 5,mv 4 39])
 .ret))))
def hints_digest_Frame : List (Nat × List Nat) := []
def ac_digest_Hash (n_digest_Frame n_digest_Sum : Nat) : AC :=
 (.seq
 (rG 4096 [mC 4 .nil])
 (.seq
 (rG 8192 [mv 5 0,mv 6 1,cL 7 n_digest_Frame false [.tmp 5, .tmp 6],cL 8 n_digest_Sum false [.cst (.t (.int .i64 1)), .tmp 7],mv 4 8])
 .ret))
def hints_digest_Hash : List (Nat × List Nat) := []
def ac_bits_RotateLeft32 : AC :=
 (.seq
 (rG 4096 [mC 4 (.t (u32T 0))])
 (.seq
 (rG 8192 [mv 6 1,oO 7 (.conv .u64) [.tmp 6],oO 8 (.bin .and) [.tmp 7, .cst (.t (.int .u64 31))],mv 5 8])
 (.seq
 (rG 12288 [mv 9 0,mv 10 5,bT 11 .shl 9 10,mv 12 0,mv 13 5,oO 14 (.bin .sub) [.cst (.t (.int .u64 32)), .tmp 13],bT 15 .shr 12 14,bT 16 .or 11 15,mv 4 16])
 .ret)))
def hints_bits_RotateLeft32 : List (Nat × List Nat) := []
def ac_ref1_rotr : AC :=
 (.seq
 (rG 4096 [mC 4 (.t (u32T 0))])
 (.seq
 (rG 8192 [mv 5 0,mv 6 1,bT 7 .shr 5 6,mv 8 0,mv 9 1,oO 10 (.bin .sub) [.cst (.t (.int .u64 32)), .tmp 9],bT 11 .shl 8 10,bT 12 .or 7 11,mv 4 12])
 .ret))
def hints_ref1_rotr : List (Nat × List Nat) := []
def ac_ref1_rotl : AC :=
 (.seq
 (rG 4096 [mC 4 (.t (u32T 0))])
 (.seq
 (rG 8192 [mv 5 0,mv 6 1,bT 7 .shl 5 6,mv 8 0,mv 9 1,oO 10 (.bin .sub) [.cst (.t (.int .u64 32)), .tmp 9],bT 11 .shr 8 10,bT 12 .or 7 11,mv 4 12])
 .ret))
def hints_ref1_rotl : List (Nat × List Nat) := []
def ac_ref1_constants : AC :=
 (.seq
 (rG 4096 [oO 0 (.new 1 (List.replicate 64 (.t (u32T 0)))) []])
 (.seq
 (rG 8192 [oO 1 (.build (List.replicate 64 (.t (u32T 0))) [(0, 1), (1, 1), (2, 1), (3, 1), (4, 1), (5, 1), (6, 1), (7, 1), (8, 1), (9, 1), (10, 1), (11, 1), (12, 1), (13, 1), (14, 1), (15, 1), (16, 1), (17, 1), (18, 1), (19, 1), (20, 1), (21, 1), (22, 1), (23, 1), (24, 1), (25, 1), (26, 1), (27, 1), (28, 1), (29, 1), (30, 1), (31, 1), (32, 1), (33, 1), (34, 1), (35, 1), (36, 1), (37, 1), (38, 1), (39, 1), (40, 1), (41, 1), (42, 1), (43, 1), (44, 1), (45, 1), (46, 1), (47, 1), (48, 1), (49, 1), (50, 1), (51, 1), (52, 1), (53, 1), (54, 1), (55, 1), (56, 1), (57, 1), (58, 1), (59, 1), (60, 1), (61, 1), (62, 1), (63, 1)]) [.cst (.t (u32T 1116352408)), .cst (.t (u32T 1899447441)), .cst (.t (u32T 3049323471)), .cst (.t (u32T 3921009573)), .cst (.t (u32T 961987163)), .cst (.t (u32T 1508970993)), .cst (.t (u32T 2453635748)), .cst (.t (u32T 2870763221)), .cst (.t (u32T 3624381080)), .cst (.t (u32T 310598401)), .cst (.t (u32T 607225278)), .cst (.t (u32T 1426881987)), .cst (.t (u32T 1925078388)), .cst (.t (u32T 2162078206)), .cst (.t (u32T 2614888103)), .cst (.t (u32T 3248222580)), .cst (.t (u32T 3835390401)), .cst (.t (u32T 4022224774)), .cst (.t (u32T 264347078)), .cst (.t (u32T 604807628)), .cst (.t (u32T 770255983)), .cst (.t (u32T 1249150122)), .cst (.t (u32T 1555081692)), .cst (.t (u32T 1996064986)), .cst (.t (u32T 2554220882)), .cst (.t (u32T 2821834349)), .cst (.t (u32T 2952996808)), .cst (.t (u32T 3210313671)), .cst (.t (u32T 3336571891)), .cst (.t (u32T 3584528711)), .cst (.t (u32T 113926993)), .cst (.t (u32T 338241895)), .cst (.t (u32T 666307205)), .cst (.t (u32T 773529912)), .cst (.t (u32T 1294757372)), .cst (.t (u32T 1396182291)), .cst (.t (u32T 1695183700)), .cst (.t (u32T 1986661051)), .cst (.t (u32T 2177026350)), .cst (.t (u32T 2456956037)), .cst (.t (u32T 2730485921)), .cst (.t (u32T 2820302411)), .cst (.t (u32T 3259730800)), .cst (.t (u32T 3345764771)), .cst (.t (u32T 3516065817)), .cst (.t (u32T 3600352804)), .cst (.t (u32T 4094571909)), .cst (.t (u32T 275423344)), .cst (.t (u32T 430227734)), .cst (.t (u32T 506948616)), .cst (.t (u32T 659060556)), .cst (.t (u32T 883997877)), .cst (.t (u32T 958139571)), .cst (.t (u32T 1322822218)), .cst (.t (u32T 1537002063)), .cst (.t (u32T 1747873779)), .cst (.t (u32T 1955562222)), .cst (.t (u32T 2024104815)), .cst (.t (u32T 2227730452)), .cst (.t (u32T 2361852424)), .cst (.t (u32T 2428436474)), .cst (.t (u32T 2756734187)), .cst (.t (u32T 3204031479)), .cst (.t (u32T 3329325298))],oS 64 0 1])
 .ret))
def hints_ref1_constants : List (Nat × List Nat) := []
def ac_ref1_pad_L0 : AC :=
 (.seq
 (.seq
 (rG 12288 [mv 11 3,oO 12 .len [.tmp 11],bN 13 .rem 12 64,bN 14 .neq 13 56])
 (.cond (.tmp 14)
 .skip
 (.exit 0)))
 (.block 1
 (rG 16384 [mv 15 3,oO 16 (.bslice 1 1 (.t (byteT 0)) [0]) [.cst (.t (byteT 0))],oO 17 (.append 1 1) [.tmp 15, .tmp 16],mv 3 17])))
def ac_ref1_pad_L1 : AC :=
 (.seq
 (.seq
 (rG 28672 [mv 22 5,bN 23 .geq 22 0])
 (.cond (.tmp 23)
 .skip
 (.exit 2)))
 (.seq
 (.block 3
 (rG 36864 [mv 26 3,mv 27 4,mv 28 5,oO 29 (.conv .u64) [.tmp 28],oO 30 (.bin .mul) [.cst (.t (.int .u64 8)), .tmp 29],bT 31 .shr 27 30,oO 32 (.conv .u8) [.tmp 31],oO 33 (.bslice 1 1 (.t (byteT 0)) [0]) [.tmp 32],oO 34 (.append 1 1) [.tmp 26, .tmp 33],mv 3 34]))
 (rG 32768 [mv 24 5,bN 25 .sub 24 1,mv 5 25])))
def ac_ref1_pad : AC :=
 (.seq
 (rG 4096 [mC 2 .nil])
 (.seq
 (rG 8192 [oO 6 (.bslice 1 0 (.t (byteT 0)) []) [],mv 7 0,oO 8 (.append 1 1) [.tmp 6, .tmp 7],oO 9 (.bslice 1 1 (.t (byteT 0)) [0]) [.cst (.t (byteT 128))],oO 10 (.append 1 1) [.tmp 8, .tmp 9],mv 3 10])
 (.seq
 (.block 0
 (.loop ac_ref1_pad_L0))
 (.seq
 (rG 20480 [mv 18 0,oO 19 .len [.tmp 18],oO 20 (.conv .u64) [.tmp 19],oO 21 (.bin .mul) [.tmp 20, .cst (.t (.int .u64 8))],mv 4 21])
 (.seq
 (.seq
 (rG 24576 [mC 5 (.t (.int .i64 7))])
 (.block 2
 (.loop ac_ref1_pad_L1)))
 (.seq
 (rG 40960 [mv 35 3,mv 2 35])
 .ret))))))
def hints_ref1_pad : List (Nat × List Nat) := []
def ac_ref1_word : AC :=
 (.seq
 (rG 4096 [mC 4 (.t (u32T 0))])
 (.seq
 (.reg 8192 (some [0, 0, 2, 7, 15, 31, 63, 0, 0, 256, 768, 1920, 3968, 8064, 16256, 32767, 0, 0, 131072, 393216, 983040, 2031616, 4128768, 8323072, 16777215, 0, 0, 67108864, 201326592, 503316480, 1040187392, 2113929216, 4294967295, 8589934591]) [mv 5 0,mv 6 1,oO 7 (.bin .mul) [.cst (.t (.int .i64 4)), .tmp 6],oO 8 (.iaddr 1) [.tmp 5, .tmp 7],oO 9 (.load 1 false) [.tmp 8],oO 10 (.conv .u32) [.tmp 9],oO 11 (.bin .shl) [.tmp 10, .cst (.t (.int .u64 24))],mv 12 0,mv 13 1,oO 14 (.bin .mul) [.cst (.t (.int .i64 4)), .tmp 13],bN 15 .add 14 1,oO 16 (.iaddr 1) [.tmp 12, .tmp 15],oO 17 (.load 1 false) [.tmp 16],oO 18 (.conv .u32) [.tmp 17],oO 19 (.bin .shl) [.tmp 18, .cst (.t (.int .u64 16))],bT 20 .or 11 19,mv 21 0,mv 22 1,oO 23 (.bin .mul) [.cst (.t (.int .i64 4)), .tmp 22],bN 24 .add 23 2,oO 25 (.iaddr 1) [.tmp 21, .tmp 24],oO 26 (.load 1 false) [.tmp 25],oO 27 (.conv .u32) [.tmp 26],oO 28 (.bin .shl) [.tmp 27, .cst (.t (.int .u64 8))],bT 29 .or 20 28,mv 30 0,mv 31 1,oO 32 (.bin .mul) [.cst (.t (.int .i64 4)), .tmp 31],bN 33 .add 32 3,oO 34 (.iaddr 1) [.tmp 30, .tmp 33],oO 35 (.load 1 false) [.tmp 34],oO 36 (.conv .u32) [.tmp 35],bT 37 .or 29 36,mv 4 37])
 .ret))
def hints_ref1_word : List (Nat × List Nat) := []
def ac_ref1_bytes_L0 : AC :=
 (.seq
 (.seq
 (rG 16384 [mv 5 4,mv 6 0,oO 7 .len [.tmp 6],bT 8 .lss 5 7])
 (.cond (.tmp 8)
 .skip
 (.exit 0)))
 (.seq
 (.block 1
 (.reg 24576 (some [0, 0, 0, 6, 14, 30, 62, 0, 0, 384, 896, 1920, 3968, 0, 0, 24576, 57344, 122880, 253952, 0, 0, 1572864, 3670016, 7864320, 16777214, 33554431, 67108863]) [mv 11 3,mv 12 0,mv 13 4,oO 14 (.iaddr 1) [.tmp 12, .tmp 13],oO 15 (.load 1 false) [.tmp 14],oO 16 (.bin .shr) [.tmp 15, .cst (.t (.int .u64 24))],oO 17 (.conv .u8) [.tmp 16],mv 18 0,mv 19 4,oO 20 (.iaddr 1) [.tmp 18, .tmp 19],oO 21 (.load 1 false) [.tmp 20],oO 22 (.bin .shr) [.tmp 21, .cst (.t (.int .u64 16))],oO 23 (.conv .u8) [.tmp 22],mv 24 0,mv 25 4,oO 26 (.iaddr 1) [.tmp 24, .tmp 25],oO 27 (.load 1 false) [.tmp 26],oO 28 (.bin .shr) [.tmp 27, .cst (.t (.int .u64 8))],oO 29 (.conv .u8) [.tmp 28],mv 30 0,mv 31 4,oO 32 (.iaddr 1) [.tmp 30, .tmp 31],oO 33 (.load 1 false) [.tmp 32],oO 34 (.conv .u8) [.tmp 33],oO 35 (.bslice 1 4 (.t (byteT 0)) [0, 1, 2, 3]) [.tmp 17, .tmp 23, .tmp 29, .tmp 34],oO 36 (.append 1 1) [.tmp 11, .tmp 35],mv 3 36]))
 (rG 20480 [mv 9 4,bN 10 .add 9 1,mv 4 10])))
def ac_ref1_bytes : AC :=
 (.seq
 (rG 4096 [mC 2 .nil])
 (.seq
 (rG 8192 [mC 3 .nil])
 (.seq
 (.seq
 (rG 12288 [mC 4 (.t (.int .i64 0))])
 (.block 0
 (.loop ac_ref1_bytes_L0)))
 (.seq
 (rG 28672 [mv 37 3,mv 2 37])
 .ret))))
def hints_ref1_bytes : List (Nat × List Nat) := []
def ac_ref1_Sum256_L1 (n_ref1_word n_ref1_rotr : Nat) : AC :=
 (.seq
 (.seq
 (rG 40960 [mv 28 8,bN 29 .lss 28 64])
 (.cond (.tmp 29)
 .skip
 (.exit 2)))
 (.seq
 (.block 3
 (.seq
 (.seq
 (rG 49152 [mv 32 8,bN 33 .lss 32 16])
 (.cond (.tmp 33)
 (.seq
 (rG 53248 [mv 34 8,mv 35 5,mv 36 6,mv 37 6,bN 38 .add 37 64,oO 39 (.slice 1 true true false) [.tmp 35, .tmp 36, .tmp 38],mv 40 8,cL 41 n_ref1_word false [.tmp 39, .tmp 40],oO 42 (.aaddr 64 1) [.tmp 7, .tmp 34],oS 1 42 41])
 (.exit 3))
 .skip))
 (.seq
 (.reg 57344 (some [0, 1, 3, 7, 15, 0, 32, 96, 224, 511, 1023, 0, 2048, 6144, 14336, 30720, 65535, 131071]) [mv 43 8,bN 44 .sub 43 15,oO 45 (.aaddr 64 1) [.tmp 7, .tmp 44],oO 46 (.load 1 false) [.tmp 45],cL 47 n_ref1_rotr false [.tmp 46, .cst (.t (.int .u64 7))],mv 48 8,bN 49 .sub 48 15,oO 50 (.aaddr 64 1) [.tmp 7, .tmp 49],oO 51 (.load 1 false) [.tmp 50],cL 52 n_ref1_rotr false [.tmp 51, .cst (.t (.int .u64 18))],bT 53 .xor 47 52,mv 54 8,bN 55 .sub 54 15,oO 56 (.aaddr 64 1) [.tmp 7, .tmp 55],oO 57 (.load 1 false) [.tmp 56],oO 58 (.bin .shr) [.tmp 57, .cst (.t (.int .u64 3))],bT 59 .xor 53 58,mv 9 59])
 (.seq
 (.reg 61440 (some [0, 1, 3, 7, 15, 0, 32, 96, 224, 511, 1023, 0, 2048, 6144, 14336, 30720, 65535, 131071]) [mv 60 8,bN 61 .sub 60 2,oO 62 (.aaddr 64 1) [.tmp 7, .tmp 61],oO 63 (.load 1 false) [.tmp 62],cL 64 n_ref1_rotr false [.tmp 63, .cst (.t (.int .u64 17))],mv 65 8,bN 66 .sub 65 2,oO 67 (.aaddr 64 1) [.tmp 7, .tmp 66],oO 68 (.load 1 false) [.tmp 67],cL 69 n_ref1_rotr false [.tmp 68, .cst (.t (.int .u64 19))],bT 70 .xor 64 69,mv 71 8,bN 72 .sub 71 2,oO 73 (.aaddr 64 1) [.tmp 7, .tmp 72],oO 74 (.load 1 false) [.tmp 73],oO 75 (.bin .shr) [.tmp 74, .cst (.t (.int .u64 10))],bT 76 .xor 70 75,mv 10 76])
 (.reg 65536 (some [0, 0, 0, 4, 12, 28, 62, 0, 254, 0, 512, 1536, 3584, 8190, 16383, 32767]) [mv 77 8,mv 78 10,mv 79 8,bN 80 .sub 79 7,oO 81 (.aaddr 64 1) [.tmp 7, .tmp 80],oO 82 (.load 1 false) [.tmp 81],bT 83 .add 78 82,mv 84 9,bT 85 .add 83 84,mv 86 8,bN 87 .sub 86 16,oO 88 (.aaddr 64 1) [.tmp 7, .tmp 87],oO 89 (.load 1 false) [.tmp 88],bT 90 .add 85 89,oO 91 (.aaddr 64 1) [.tmp 7, .tmp 77],oS 1 91 90])))))
 (rG 45056 [mv 30 8,bN 31 .add 30 1,mv 8 31])))
def ac_ref1_Sum256_L2 (n_ref1_rotr : Nat) : AC :=
 (.seq
 (.seq
 (rG 77824 [mv 95 12,bN 96 .lss 95 64])
 (.cond (.tmp 96)
 .skip
 (.exit 4)))
 (.seq
 (.block 5
 (.seq
 (.reg 86016 (some [0, 1, 3, 0, 8, 24, 7, 127]) [mv 99 11,oO 100 (.iaddr 1) [.tmp 99, .cst (.t (.int .i64 0))],oO 101 (.load 1 false) [.tmp 100],mv 102 11,oO 103 (.iaddr 1) [.tmp 102, .cst (.t (.int .i64 4))],oO 104 (.load 1 false) [.tmp 103],mv 13 101,mv 14 104])
 (.seq
 (.reg 90112 (some [0, 1, 3, 0, 8, 0, 56, 120, 0, 376, 1016, 2047, 0, 0, 8192, 24576, 61440, 0, 131072, 0, 524288, 1572864, 4063232, 8384512, 16777215, 0, 33554432, 100663296, 268435455, 0, 536870912, 1610612736, 4294967295, 8589934591]) [mv 105 11,oO 106 (.iaddr 1) [.tmp 105, .cst (.t (.int .i64 7))],oO 107 (.load 1 false) [.tmp 106],mv 108 14,cL 109 n_ref1_rotr false [.tmp 108, .cst (.t (.int .u64 6))],mv 110 14,cL 111 n_ref1_rotr false [.tmp 110, .cst (.t (.int .u64 11))],bT 112 .xor 109 111,mv 113 14,cL 114 n_ref1_rotr false [.tmp 113, .cst (.t (.int .u64 25))],bT 115 .xor 112 114,bT 116 .add 107 115,mv 117 14,mv 118 11,oO 119 (.iaddr 1) [.tmp 118, .cst (.t (.int .i64 5))],oO 120 (.load 1 false) [.tmp 119],bT 121 .and 117 120,mv 122 14,oO 123 (.un .xor) [.tmp 122],mv 124 11,oO 125 (.iaddr 1) [.tmp 124, .cst (.t (.int .i64 6))],oO 126 (.load 1 false) [.tmp 125],bT 127 .and 123 126,bT 128 .xor 121 127,bT 129 .add 116 128,mv 130 12,oO 131 (.aaddr 64 1) [.tmp 3, .tmp 130],oO 132 (.load 1 false) [.tmp 131],bT 133 .add 129 132,mv 134 12,oO 135 (.aaddr 64 1) [.tmp 7, .tmp 134],oO 136 (.load 1 false) [.tmp 135],bT 137 .add 133 136,mv 15 137])
 (.seq
 (.reg 94208 (some [0, 1, 0, 7, 15, 0, 47, 127, 0, 0, 512, 1536, 3840, 0, 0, 16384, 49152, 122880, 261888, 0, 524288, 1572864, 0, 4194304, 12582912, 33030144, 67108608, 134217727, 268435455]) [mv 138 13,cL 139 n_ref1_rotr false [.tmp 138, .cst (.t (.int .u64 2))],mv 140 13,cL 141 n_ref1_rotr false [.tmp 140, .cst (.t (.int .u64 13))],bT 142 .xor 139 141,mv 143 13,cL 144 n_ref1_rotr false [.tmp 143, .cst (.t (.int .u64 22))],bT 145 .xor 142 144,mv 146 13,mv 147 11,oO 148 (.iaddr 1) [.tmp 147, .cst (.t (.int .i64 1))],oO 149 (.load 1 false) [.tmp 148],bT 150 .and 146 149,mv 151 13,mv 152 11,oO 153 (.iaddr 1) [.tmp 152, .cst (.t (.int .i64 2))],oO 154 (.load 1 false) [.tmp 153],bT 155 .and 151 154,bT 156 .xor 150 155,mv 157 11,oO 158 (.iaddr 1) [.tmp 157, .cst (.t (.int .i64 1))],oO 159 (.load 1 false) [.tmp 158],mv 160 11,oO 161 (.iaddr 1) [.tmp 160, .cst (.t (.int .i64 2))],oO 162 (.load 1 false) [.tmp 161],bT 163 .and 159 162,bT 164 .xor 156 163,bT 165 .add 145 164,mv 16 165])
 (.reg 98304 (some [0, 0, 3, 0, 0, 16, 48, 0, 128, 384, 0, 1024, 3072, 0, 15360, 0, 0, 65536, 196608, 0, 524288, 1572864, 4194303, 8388607]) [mv 166 15,mv 167 16,bT 168 .add 166 167,mv 169 13,mv 170 11,oO 171 (.iaddr 1) [.tmp 170, .cst (.t (.int .i64 1))],oO 172 (.load 1 false) [.tmp 171],mv 173 11,oO 174 (.iaddr 1) [.tmp 173, .cst (.t (.int .i64 2))],oO 175 (.load 1 false) [.tmp 174],mv 176 11,oO 177 (.iaddr 1) [.tmp 176, .cst (.t (.int .i64 3))],oO 178 (.load 1 false) [.tmp 177],mv 179 15,bT 180 .add 178 179,mv 181 14,mv 182 11,oO 183 (.iaddr 1) [.tmp 182, .cst (.t (.int .i64 5))],oO 184 (.load 1 false) [.tmp 183],mv 185 11,oO 186 (.iaddr 1) [.tmp 185, .cst (.t (.int .i64 6))],oO 187 (.load 1 false) [.tmp 186],oO 188 (.bslice 1 8 (.t (u32T 0)) [0, 1, 2, 3, 4, 5, 6, 7]) [.tmp 168, .tmp 169, .tmp 172, .tmp 175, .tmp 180, .tmp 181, .tmp 184, .tmp 187],mv 11 188])))))
 (rG 81920 [mv 97 12,bN 98 .add 97 1,mv 12 98])))
def ac_ref1_Sum256_L3 : AC :=
 (.seq
 (.seq
 (rG 106496 [mv 189 17,bN 190 .lss 189 8])
 (.cond (.tmp 190)
 .skip
 (.exit 6)))
 (.seq
 (.block 7
 (.reg 114688 (some [0, 0, 3, 7, 0, 0, 48, 112, 255, 511, 1023]) [mv 193 4,mv 194 17,oO 195 (.iaddr 1) [.tmp 193, .tmp 194],oO 196 (.load 1 false) [.tmp 195],mv 197 11,mv 198 17,oO 199 (.iaddr 1) [.tmp 197, .tmp 198],oO 200 (.load 1 false) [.tmp 199],bT 201 .add 196 200,oO 202 (.iaddr 1) [.tmp 193, .tmp 194],oS 1 202 201]))
 (rG 110592 [mv 191 17,bN 192 .add 191 1,mv 17 192])))
def ac_ref1_Sum256_L0 (n_ref1_word n_ref1_rotr : Nat) : AC :=
 (.seq
 (.seq
 (rG 24576 [mv 22 6,mv 23 5,oO 24 .len [.tmp 23],bT 25 .lss 22 24])
 (.cond (.tmp 25)
 .skip
 (.exit 0)))
 (.seq
 (.block 1
 (.seq
 (rG 32768 [oO 7 (.new 1 (List.replicate 64 (.t (u32T 0)))) []])
 (.seq
 (.seq
 (rG 36864 [mC 8 (.t (.int .i64 0))])
 (.block 2
 (.loop (ac_ref1_Sum256_L1 n_ref1_word n_ref1_rotr))))
 (.seq
 (rG 69632 [oO 92 (.bslice 1 0 (.t (u32T 0)) []) [],mv 93 4,oO 94 (.append 1 4) [.tmp 92, .tmp 93],mv 11 94])
 (.seq
 (.seq
 (rG 73728 [mC 12 (.t (.int .i64 0))])
 (.block 4
 (.loop (ac_ref1_Sum256_L2 n_ref1_rotr))))
 (.seq
 (rG 102400 [mC 17 (.t (.int .i64 0))])
 (.block 6
 (.loop ac_ref1_Sum256_L3))))))))
 (rG 28672 [mv 26 6,bN 27 .add 26 64,mv 6 27])))
def ac_ref1_Sum256 (n_ref1_constants n_ref1_pad n_ref1_word n_ref1_rotr n_ref1_bytes : Nat) : AC :=
 (.seq
 (rG 4096 [mC 2 .nil])
 (.seq
 (rG 8192 [cL 18 n_ref1_constants false [],oO 3 (.new 1 (List.replicate 64 (.t (u32T 0)))) [],oS 64 3 18])
 (.seq
 (rG 12288 [oO 19 (.bslice 1 8 (.t (u32T 0)) [0, 1, 2, 3, 4, 5, 6, 7]) [.cst (.t (u32T 1779033703)), .cst (.t (u32T 3144134277)), .cst (.t (u32T 1013904242)), .cst (.t (u32T 2773480762)), .cst (.t (u32T 1359893119)), .cst (.t (u32T 2600822924)), .cst (.t (u32T 528734635)), .cst (.t (u32T 1541459225))],mv 4 19])
 (.seq
 (rG 16384 [mv 20 0,cL 21 n_ref1_pad false [.tmp 20],mv 5 21])
 (.seq
 (.seq
 (rG 20480 [mC 6 (.t (.int .i64 0))])
 (.block 0
 (.loop (ac_ref1_Sum256_L0 n_ref1_word n_ref1_rotr))))
 (.seq
 (rG 118784 [mv 203 4,cL 204 n_ref1_bytes false [.tmp 203],mv 2 204])
 .ret))))))
def hints_ref1_Sum256 : List (Nat × List Nat) := []
def ac_ref1_Sum1_L1 (n_ref1_word n_ref1_rotl : Nat) : AC :=
 (.seq
 (.seq
 (rG 36864 [mv 26 7,bN 27 .lss 26 80])
 (.cond (.tmp 27)
 .skip
 (.exit 2)))
 (.seq
 (.block 3
 (.seq
 (.seq
 (rG 45056 [mv 30 7,bN 31 .lss 30 16])
 (.cond (.tmp 31)
 (.seq
 (rG 49152 [mv 32 7,mv 33 4,mv 34 5,mv 35 5,bN 36 .add 35 64,oO 37 (.slice 1 true true false) [.tmp 33, .tmp 34, .tmp 36],mv 38 7,cL 39 n_ref1_word false [.tmp 37, .tmp 38],oO 40 (.aaddr 80 1) [.tmp 6, .tmp 32],oS 1 40 39])
 (.exit 3))
 .skip))
 (.reg 53248 (some [0, 0, 2, 6, 14, 0, 32, 96, 224, 510, 0, 1024, 3072, 7168, 16382, 0, 32768, 98304, 229376, 524286, 1048574, 2097151, 4194303]) [mv 41 7,mv 42 7,bN 43 .sub 42 3,oO 44 (.aaddr 80 1) [.tmp 6, .tmp 43],oO 45 (.load 1 false) [.tmp 44],mv 46 7,bN 47 .sub 46 8,oO 48 (.aaddr 80 1) [.tmp 6, .tmp 47],oO 49 (.load 1 false) [.tmp 48],bT 50 .xor 45 49,mv 51 7,bN 52 .sub 51 14,oO 53 (.aaddr 80 1) [.tmp 6, .tmp 52],oO 54 (.load 1 false) [.tmp 53],bT 55 .xor 50 54,mv 56 7,bN 57 .sub 56 16,oO 58 (.aaddr 80 1) [.tmp 6, .tmp 57],oO 59 (.load 1 false) [.tmp 58],bT 60 .xor 55 59,cL 61 n_ref1_rotl false [.tmp 60, .cst (.t (.int .u64 1))],oO 62 (.aaddr 80 1) [.tmp 6, .tmp 41],oS 1 62 61])))
 (rG 40960 [mv 28 7,bN 29 .add 28 1,mv 7 29])))
def ac_ref1_Sum1_L2 (n_ref1_rotl : Nat) : AC :=
 (.seq
 (.seq
 (rG 65536 [mv 78 13,bN 79 .lss 78 80])
 (.cond (.tmp 79)
 .skip
 (.exit 4)))
 (.seq
 (.block 5
 (.seq
 (rG 73728 [mv 82 9,mv 83 10,bT 84 .xor 82 83,mv 85 11,bT 86 .xor 84 85,mv 14 86,mC 15 (.t (u32T 3395469782))])
 (.seq
 (.block 6
 (.seq
 (rG 77824 [mv 88 13,bN 89 .lss 88 20,mv 87 89])
 (.cond (.tmp 87)
 (rG 81920 [mv 90 9,mv 91 10,bT 92 .and 90 91,mv 93 9,oO 94 (.un .xor) [.tmp 93],mv 95 11,bT 96 .and 94 95,bT 97 .xor 92 96,mv 14 97,mC 15 (.t (u32T 1518500249))])
 (.seq
 (rG 86016 [mv 99 13,bN 100 .lss 99 40,mv 98 100])
 (.cond (.tmp 98)
 (rG 90112 [mC 15 (.t (u32T 1859775393))])
 (.seq
 (rG 94208 [mv 102 13,bN 103 .lss 102 60,mv 101 103])
 (.cond (.tmp 101)
 (rG 98304 [mv 104 9,mv 105 10,bT 106 .and 104 105,mv 107 9,mv 108 11,bT 109 .and 107 108,bT 110 .xor 106 109,mv 111 10,mv 112 11,bT 113 .and 111 112,bT 114 .xor 110 113,mv 14 114,mC 15 (.t (u32T 2400959708))])
 .skip)))))))
 (.seq
 (.reg 102400 (some [0, 1, 0, 7, 0, 31, 0, 127, 0, 256, 768, 2047, 4095]) [mv 115 8,cL 116 n_ref1_rotl false [.tmp 115, .cst (.t (.int .u64 5))],mv 117 14,bT 118 .add 116 117,mv 119 12,bT 120 .add 118 119,mv 121 15,bT 122 .add 120 121,mv 123 13,oO 124 (.aaddr 80 1) [.tmp 6, .tmp 123],oO 125 (.load 1 false) [.tmp 124],bT 126 .add 122 125,mv 16 126])
 (rG 106496 [mv 127 16,mv 128 8,mv 129 9,cL 130 n_ref1_rotl false [.tmp 129, .cst (.t (.int .u64 30))],mv 131 10,mv 132 11,mv 8 127,mv 9 128,mv 10 130,mv 11 131,mv 12 132])))))
 (rG 69632 [mv 80 13,bN 81 .add 80 1,mv 13 81])))
def ac_ref1_Sum1_L0 (n_ref1_word n_ref1_rotl : Nat) : AC :=
 (.seq
 (.seq
 (rG 20480 [mv 20 5,mv 21 4,oO 22 .len [.tmp 21],bT 23 .lss 20 22])
 (.cond (.tmp 23)
 .skip
 (.exit 0)))
 (.seq
 (.block 1
 (.seq
 (rG 28672 [oO 6 (.new 1 (List.replicate 80 (.t (u32T 0)))) []])
 (.seq
 (.seq
 (rG 32768 [mC 7 (.t (.int .i64 0))])
 (.block 2
 (.loop (ac_ref1_Sum1_L1 n_ref1_word n_ref1_rotl))))
 (.seq
 (.reg 57344 (some [0, 1, 3, 0, 8, 24, 0, 64, 192, 0, 512, 1536, 0, 4096, 12288, 7, 32831, 98815, 233471, 524287]) [mv 63 3,oO 64 (.iaddr 1) [.tmp 63, .cst (.t (.int .i64 0))],oO 65 (.load 1 false) [.tmp 64],mv 66 3,oO 67 (.iaddr 1) [.tmp 66, .cst (.t (.int .i64 1))],oO 68 (.load 1 false) [.tmp 67],mv 69 3,oO 70 (.iaddr 1) [.tmp 69, .cst (.t (.int .i64 2))],oO 71 (.load 1 false) [.tmp 70],mv 72 3,oO 73 (.iaddr 1) [.tmp 72, .cst (.t (.int .i64 3))],oO 74 (.load 1 false) [.tmp 73],mv 75 3,oO 76 (.iaddr 1) [.tmp 75, .cst (.t (.int .i64 4))],oO 77 (.load 1 false) [.tmp 76],mv 8 65,mv 9 68,mv 10 71,mv 11 74,mv 12 77])
 (.seq
 (.seq
 (rG 61440 [mC 13 (.t (.int .i64 0))])
 (.block 4
 (.loop (ac_ref1_Sum1_L2 n_ref1_rotl))))
 (.reg 110592 (some [0, 1, 3, 0, 15, 0, 32, 96, 0, 480, 0, 1024, 3072, 0, 15360, 0, 32768, 98304, 0, 491520, 0, 1048576, 3145728, 0, 15728640, 33554431, 67108863]) [mv 133 3,oO 134 (.iaddr 1) [.tmp 133, .cst (.t (.int .i64 0))],oO 135 (.load 1 false) [.tmp 134],mv 136 8,bT 137 .add 135 136,mv 138 3,oO 139 (.iaddr 1) [.tmp 138, .cst (.t (.int .i64 1))],oO 140 (.load 1 false) [.tmp 139],mv 141 9,bT 142 .add 140 141,mv 143 3,oO 144 (.iaddr 1) [.tmp 143, .cst (.t (.int .i64 2))],oO 145 (.load 1 false) [.tmp 144],mv 146 10,bT 147 .add 145 146,mv 148 3,oO 149 (.iaddr 1) [.tmp 148, .cst (.t (.int .i64 3))],oO 150 (.load 1 false) [.tmp 149],mv 151 11,bT 152 .add 150 151,mv 153 3,oO 154 (.iaddr 1) [.tmp 153, .cst (.t (.int .i64 4))],oO 155 (.load 1 false) [.tmp 154],mv 156 12,bT 157 .add 155 156,oO 158 (.bslice 1 5 (.t (u32T 0)) [0, 1, 2, 3, 4]) [.tmp 137, .tmp 142, .tmp 147, .tmp 152, .tmp 157],mv 3 158]))))))
 (rG 24576 [mv 24 5,bN 25 .add 24 64,mv 5 25])))
def ac_ref1_Sum1 (n_ref1_pad n_ref1_word n_ref1_rotl n_ref1_bytes : Nat) : AC :=
 (.seq
 (rG 4096 [mC 2 .nil])
 (.seq
 (rG 8192 [oO 17 (.bslice 1 5 (.t (u32T 0)) [0, 1, 2, 3, 4]) [.cst (.t (u32T 1732584193)), .cst (.t (u32T 4023233417)), .cst (.t (u32T 2562383102)), .cst (.t (u32T 271733878)), .cst (.t (u32T 3285377520))],mv 3 17])
 (.seq
 (rG 12288 [mv 18 0,cL 19 n_ref1_pad false [.tmp 18],mv 4 19])
 (.seq
 (.seq
 (rG 16384 [mC 5 (.t (.int .i64 0))])
 (.block 0
 (.loop (ac_ref1_Sum1_L0 n_ref1_word n_ref1_rotl))))
 (.seq
 (rG 114688 [mv 159 3,cL 160 n_ref1_bytes false [.tmp 159],mv 2 160])
 .ret)))))
def hints_ref1_Sum1 : List (Nat × List Nat) := []
def ac_ref1_Size : AC :=
 (.seq
 (rG 4096 [mC 2 (.t (.int .i64 0))])
 (.seq
 (.seq
 (rG 8192 [mv 3 0])
 (.block 0
 (.seq
 (rG 12288 [bN 5 .eql 3 0,mv 4 5])
 (.cond (.tmp 4)
 (.seq
 (rG 16384 [mC 2 (.t (.int .i64 20))])
 .ret)
 (.seq
 (rG 20480 [bN 7 .eql 3 1,mv 6 7])
 (.cond (.tmp 6)
 (.seq
 (rG 24576 [mC 2 (.t (.int .i64 32))])
 .ret)
 .skip))))))
 (.seq
 (rG 28672 [mC 2 (.t (.int .i64 0))])
 .ret)))
def hints_ref1_Size : List (Nat × List Nat) := []
def ac_ref1_Sum (n_ref1_Sum1 n_ref1_Sum256 : Nat) : AC :=
 (.seq
 (rG 4096 [mC 4 .nil])
 (.seq
 (.seq
 (rG 8192 [mv 5 0])
 (.block 0
 (.seq
 (rG 12288 [bN 7 .eql 5 0,mv 6 7])
 (.cond (.tmp 6)
 (.seq
 (rG 16384 [mv 8 1,cL 9 n_ref1_Sum1 false [.tmp 8],mv 4 9])
 .ret)
 (.seq
 (rG 20480 [bN 11 .eql 5 1,mv 10 11])
 (.cond (.tmp 10)
 (.seq
 (rG 24576 [mv 12 1,cL 13 n_ref1_Sum256 false [.tmp 12],mv 4 13])
 .ret)
 .skip))))))
 (.seq
 (rG 28672 [mC 4 .nil])
 .ret)))
def hints_ref1_Sum : List (Nat × List Nat) := []
def ac_ref1_Collide (n_ref1_Same n_ref1_Sum256 : Nat) : AC :=
 (.seq
 (rG 4096 [mC 6 (.t (.bool false))])
 (.seq
 (.reg 8192 (some [0, 1, 3, 7, 15, 31, 63, 127, 127, 511, 1023, 2047, 4095, 8191, 16383, 8191, 65535, 8191, 163839, 8191, 950271, 2097151, 4194303, 8388607]) [mv 7 2,bN 8 .geq 7 0,mv 9 8,mG 10 2 9,oG 11 9 (.bin .leq) [.tmp 10, .cst (.t (.int .i64 32))],oO 12 .pick [.tmp 9, .tmp 11, .cst (.t (.bool false))],mv 13 12,mG 14 0 13,mG 15 1 13,cG 16 13 n_ref1_Same false [.tmp 14, .tmp 15],oG 17 13 (.un .not) [.tmp 16],oO 18 .pick [.tmp 13, .tmp 17, .cst (.t (.bool false))],mv 19 18,mG 20 0 19,cG 21 19 n_ref1_Sum256 false [.tmp 20],mG 22 2 19,oG 23 19 (.slice 1 false true false) [.tmp 21, .tmp 22],mG 24 1 19,cG 25 19 n_ref1_Sum256 false [.tmp 24],mG 26 2 19,oG 27 19 (.slice 1 false true false) [.tmp 25, .tmp 26],cG 28 19 n_ref1_Same false [.tmp 23, .tmp 27],oO 29 .pick [.tmp 19, .tmp 28, .cst (.t (.bool false))],mv 6 29])
 .ret))
def hints_ref1_Collide : List (Nat × List Nat) := []
def ac_ref1_Same_L0 : AC :=
 (.seq
 (.seq
 (rG 20480 [mv 11 5,mv 12 0,oO 13 .len [.tmp 12],bT 14 .lss 11 13])
 (.cond (.tmp 14)
 .skip
 (.exit 0)))
 (.seq
 (.block 1
 (.seq
 (.reg 28672 (some [0, 0, 3, 7, 0, 0, 48, 112, 255]) [mv 17 0,mv 18 5,oO 19 (.iaddr 1) [.tmp 17, .tmp 18],oO 20 (.load 1 false) [.tmp 19],mv 21 1,mv 22 5,oO 23 (.iaddr 1) [.tmp 21, .tmp 22],oO 24 (.load 1 false) [.tmp 23],bT 25 .neq 20 24])
 (.cond (.tmp 25)
 (.seq
 (rG 32768 [mC 4 (.t (.bool false))])
 .ret)
 .skip)))
 (rG 24576 [mv 15 5,bN 16 .add 15 1,mv 5 16])))
def ac_ref1_Same : AC :=
 (.seq
 (rG 4096 [mC 4 (.t (.bool false))])
 (.seq
 (.seq
 (rG 8192 [mv 6 0,oO 7 .len [.tmp 6],mv 8 1,oO 9 .len [.tmp 8],bT 10 .neq 7 9])
 (.cond (.tmp 10)
 (.seq
 (rG 12288 [mC 4 (.t (.bool false))])
 .ret)
 .skip))
 (.seq
 (.seq
 (rG 16384 [mC 5 (.t (.int .i64 0))])
 (.block 0
 (.loop ac_ref1_Same_L0)))
 (.seq
 (rG 36864 [mC 4 (.t (.bool true))])
 .ret))))
def hints_ref1_Same : List (Nat × List Nat) := []
def ac_ref1_Lists_L0 (n_ref1_Same : Nat) : AC :=
 (.seq
 (.seq
 (rG 20480 [mv 11 5,mv 12 0,oO 13 .len [.tmp 12],bT 14 .lss 11 13])
 (.cond (.tmp 14)
 .skip
 (.exit 0)))
 (.seq
 (.block 1
 (.seq
 (.reg 28672 (some [0, 0, 3, 7, 0, 0, 48, 112, 255, 511]) [mv 17 0,mv 18 5,oO 19 (.iaddr 1) [.tmp 17, .tmp 18],oO 20 (.load 1 false) [.tmp 19],mv 21 1,mv 22 5,oO 23 (.iaddr 1) [.tmp 21, .tmp 22],oO 24 (.load 1 false) [.tmp 23],cL 25 n_ref1_Same false [.tmp 20, .tmp 24],oO 26 (.un .not) [.tmp 25]])
 (.cond (.tmp 26)
 (.seq
 (rG 32768 [mC 4 (.t (.bool false))])
 .ret)
 .skip)))
 (rG 24576 [mv 15 5,bN 16 .add 15 1,mv 5 16])))
def ac_ref1_Lists (n_ref1_Same : Nat) : AC :=
 (.seq
 (rG 4096 [mC 4 (.t (.bool false))])
 (.seq
 (.seq
 (rG 8192 [mv 6 0,oO 7 .len [.tmp 6],mv 8 1,oO 9 .len [.tmp 8],bT 10 .neq 7 9])
 (.cond (.tmp 10)
 (.seq
 (rG 12288 [mC 4 (.t (.bool false))])
 .ret)
 .skip))
 (.seq
 (.seq
 (rG 16384 [mC 5 (.t (.int .i64 0))])
 (.block 0
 (.loop (ac_ref1_Lists_L0 n_ref1_Same))))
 (.seq
 (rG 36864 [mC 4 (.t (.bool true))])
 .ret))))
def hints_ref1_Lists : List (Nat × List Nat) := []
def ac_ref1_Copy : AC :=
 (.seq
 (rG 4096 [mC 2 .nil])
 (.seq
 (rG 8192 [oO 3 (.bslice 1 0 (.t (byteT 0)) []) [],mv 4 0,oO 5 (.append 1 1) [.tmp 3, .tmp 4],mv 2 5])
 .ret))
def hints_ref1_Copy : List (Nat × List Nat) := []
end Go.Eng
end
section
set_option maxRecDepth 20000
namespace Go.Eng
def padZ (n : Nat) : Nat := (119 - n % 64) % 64
def beL (n : Nat) (k : Nat) : List UInt8 := (List.range k).map fun i => UInt8.ofNat (n / 2 ^ (56 - 8 * i))
def padL (bs : List UInt8) : List UInt8 := bs ++ [128] ++ List.replicate (padZ bs.length) 0 ++ beL (bs.length * 8) 8
theorem beL_zero {n : Nat} : beL n 0 = [] := rfl
theorem beL_length {n k : Nat} : (beL n k).length = k := by simp [beL]
theorem beL_succ {n k : Nat} : beL n (k + 1) = beL n k ++ [UInt8.ofNat (n / 2 ^ (56 - 8 * k))] := by simp [beL, List.range_succ]
theorem w_digest_pad (tab : Tab) (gl : Gl) (bs : List UInt8) (hb : bs.length < 1000000000) : ac_digest_pad.wp tab gl (zipF 0 [.t (.sl (bs.map byteT))]) (zipF 0 []) (resF [] [(2, none)] 0 (fun r o => r = .sl 0 0 (padL bs).length ∧ o = [.live 1 (((padL bs).map byteT).map V.t) true false])) := by
 have hz : padZ bs.length = (119 - bs.length % 64) % 64 := rfl
 simp (disch := omega) only [go_sem, ↓reduceIte, Nat.reduceAdd, Nat.reduceEqDiff, Nat.reduceLT, Nat.reduceLeDiff, Int.reduceLE, reduceCtorEq, ac_digest_pad]
 refine loop_upto (padZ bs.length) (fun k => [(0, .t (.sl (bs.map byteT))), (3, .sl 8304 0 (bs.length + 1 + k))]) (fun k => [(8304, .live 1 (((bs ++ [128] ++ List.replicate k 0).map byteT).map V.t) true false)]) ?_ (fun k hk => ?_)
 · refine Weak.rd id ?_ ?_ rfl
   all_goals simp (disch := omega) only [go_sem, ↓reduceIte, Nat.reduceAdd, reduceCtorEq, id]
 · by_cases hlt : k < padZ bs.length
   · simp (disch := omega) only [go_sem, ↓reduceIte, Nat.reduceAdd, Nat.reduceEqDiff, Nat.reduceLT, Nat.reduceLeDiff, reduceCtorEq, ac_digest_pad_L0]
     refine ⟨hlt, Weak.rd (fun _ => 16416) ?_ ?_ rfl⟩
     all_goals simp (disch := omega) only [go_sem, ↓reduceIte, Nat.reduceAdd, reduceCtorEq, List.replicate_succ', List.append_assoc, Nat.add_assoc]
   · have e : k = padZ bs.length := by omega
     subst e
     simp (disch := omega) only [go_sem, ↓reduceIte, Nat.reduceAdd, reduceCtorEq, ac_digest_pad_L0]
     refine loop_upto 8 (fun k => [(3, .sl 8304 0 (bs.length + 1 + padZ bs.length + k)), (4, V.t (T.int IntKind.u64 (bs.length * 8 : Nat))), (5, .t (.int .i64 (56 - ((8 * k : Nat) : Int))))]) (fun k => [(8304, .live 1 (((bs ++ [128] ++ List.replicate (padZ bs.length) 0 ++ beL (bs.length * 8) k).map byteT).map V.t) true false)]) ?_ (fun k hk => ?_)
     · refine Weak.rd id ?_ ?_ rfl
       all_goals simp (disch := omega) only [go_sem, ↓reduceIte, Nat.reduceAdd, Nat.reduceEqDiff, Nat.reduceMul, Int.reduceSub, reduceCtorEq, id, beL_zero, List.append_nil]
     · by_cases hlt : k < 8
       · simp (disch := omega) only [go_sem, ↓reduceIte, Nat.reduceAdd, Nat.reduceEqDiff, Nat.reduceLT, Nat.reduceLeDiff, ac_digest_pad_L1, beL_length]
         refine ⟨hlt, Weak.rd (fun _ => 36976) ?_ ?_ rfl⟩
         all_goals simp (disch := omega) only [go_sem, ↓reduceIte, Nat.reduceAdd, Nat.reduceEqDiff, beL_succ, List.append_assoc, Nat.add_assoc]
         omega
       · have e : k = 8 := by omega
         subst e
         simp (disch := omega) only [go_sem, ↓reduceIte, Nat.reduceAdd, Nat.reduceEqDiff, Int.reduceNeg, Int.reduceSub, ac_digest_pad_L1, beL_length, padL]
theorem w_digest_Size (tab : Tab) (gl : Gl) (a : Int) : ac_digest_Size.wp tab gl (zipF 0 [.t (.int .i64 a)]) (zipF 0 []) (resW [(2, none)] 0 (fun r o => r = .t (.int .i64 (if a = 0 then 20 else if a = 1 then 32 else 0)) ∧ o = [])) := by
 by_cases h0 : a = 0
 · subst h0; simp (disch := omega) only [go_sem, ↓reduceIte, Nat.reduceAdd, reduceCtorEq, ac_digest_Size]
 · by_cases h1 : a = 1
   · subst h1; simp (disch := omega) only [go_sem, ↓reduceIte, Nat.reduceAdd, Nat.reduceEqDiff, Int.reduceEq, reduceCtorEq, ac_digest_Size]
   · simp (disch := omega) only [go_sem, ↓reduceIte, Nat.reduceAdd, Nat.reduceEqDiff, reduceCtorEq, ac_digest_Size, h0, h1]
theorem w_ref1_Size (tab : Tab) (gl : Gl) (a : Int) : ac_ref1_Size.wp tab gl (zipF 0 [.t (.int .i64 a)]) (zipF 0 []) (resW [(2, none)] 0 (fun r o => r = .t (.int .i64 (if a = 0 then 20 else if a = 1 then 32 else 0)) ∧ o = [])) := by
 by_cases h0 : a = 0
 · subst h0; simp (disch := omega) only [go_sem, ↓reduceIte, Nat.reduceAdd, reduceCtorEq, ac_ref1_Size]
 · by_cases h1 : a = 1
   · subst h1; simp (disch := omega) only [go_sem, ↓reduceIte, Nat.reduceAdd, Nat.reduceEqDiff, Int.reduceEq, reduceCtorEq, ac_ref1_Size]
   · simp (disch := omega) only [go_sem, ↓reduceIte, Nat.reduceAdd, Nat.reduceEqDiff, reduceCtorEq, ac_ref1_Size, h0, h1]
def wordOf (bs : List UInt8) (i : Nat) : UInt32 := (bs.getD (4 * i) 0).toUInt32 <<< 24 ||| (bs.getD (4 * i + 1) 0).toUInt32 <<< 16 ||| (bs.getD (4 * i + 2) 0).toUInt32 <<< 8 ||| (bs.getD (4 * i + 3) 0).toUInt32
theorem w_digest_word (tab : Tab) (gl : Gl) (bs : List UInt8) (i : Nat) (hi : 4 * i + 3 < bs.length) (hb : bs.length < 1000000000) : ac_digest_word.wp tab gl (zipF 0 [.t (.sl (bs.map byteT)), .t (.int .i64 i)]) (zipF 0 []) (resW [(4, none)] 0 (fun r o => r = .t (u32T (wordOf bs i)) ∧ o = [])) := by
 simp (disch := omega) only [go_sem, ↓reduceIte, Nat.reduceAdd, Nat.reduceEqDiff, Nat.reduceLT, Nat.reduceLeDiff, reduceCtorEq, ac_digest_word]
 exact ⟨rfl, rfl⟩
theorem w_ref1_word (tab : Tab) (gl : Gl) (bs : List UInt8) (i : Nat) (hi : 4 * i + 3 < bs.length) (hb : bs.length < 1000000000) : ac_ref1_word.wp tab gl (zipF 0 [.t (.sl (bs.map byteT)), .t (.int .i64 i)]) (zipF 0 []) (resW [(4, none)] 0 (fun r o => r = .t (u32T (wordOf bs i)) ∧ o = [])) := by
 simp (disch := omega) only [go_sem, ↓reduceIte, Nat.reduceAdd, Nat.reduceEqDiff, Nat.reduceLT, Nat.reduceLeDiff, reduceCtorEq, ac_ref1_word]
 exact ⟨rfl, rfl⟩
def rotr (x : UInt32) (n : Nat) : UInt32 := x >>> UInt32.ofNat n ||| x <<< UInt32.ofNat (32 - n)
theorem w_ref1_rotr (tab : Tab) (gl : Gl) (x : UInt32) (n : Nat) (h : 0 < n ∧ n < 32) : ac_ref1_rotr.wp tab gl (zipF 0 [.t (u32T x), .t (.int .u64 n)]) (zipF 0 []) (resW [(4, none)] 0 (fun r o => r = .t (u32T (rotr x n)) ∧ o = [])) := by
 simp (disch := omega) only [go_sem, ↓reduceIte, Nat.reduceAdd, Nat.reduceEqDiff, reduceCtorEq, ac_ref1_rotr]
 rfl
theorem w_ref1_rotl (tab : Tab) (gl : Gl) (x : UInt32) (n : Nat) (h : 0 < n ∧ n < 32) : ac_ref1_rotl.wp tab gl (zipF 0 [.t (u32T x), .t (.int .u64 n)]) (zipF 0 []) (resW [(4, none)] 0 (fun r o => r = .t (u32T (rotr x (32 - n))) ∧ o = [])) := by
 simp (disch := omega) only [go_sem, ↓reduceIte, Nat.reduceAdd, Nat.reduceEqDiff, reduceCtorEq, ac_ref1_rotl]
 rw [rotr, UInt32.or_comm, show 32 - (32 - n) = n by omega]
theorem w_bits_RotateLeft32 (tab : Tab) (gl : Gl) (x : UInt32) (n : Int) (h : -32 < n ∧ n < 32 ∧ n ≠ 0) : ac_bits_RotateLeft32.wp tab gl (zipF 0 [.t (u32T x), .t (.int .i64 n)]) (zipF 0 []) (resW [(4, none)] 0 (fun r o => r = .t (u32T (rotr x ((32 - n) % 32).toNat)) ∧ o = [])) := by
 have e : IntKind.u64.wrap n % 32 = ((32 - (32 - n).toNat % 32 : Nat) : Int) := by rw [wrap_u64]; omega
 have e2 : ((32 - n) % 32).toNat = (32 - n).toNat % 32 := by omega
 have e3 : 32 - (32 - (32 - n).toNat % 32) = (32 - n).toNat % 32 := by omega
 simp (disch := omega) only [go_sem, ↓reduceIte, Nat.reduceAdd, Nat.reduceEqDiff, reduceCtorEq, ac_bits_RotateLeft32, e, e2, e3]
 rw [rotr, UInt32.or_comm]
def spread1 (w : UInt32) : List UInt8 := [(w >>> 24).toUInt8, (w >>> 16).toUInt8, (w >>> 8).toUInt8, w.toUInt8]
def spreadL (ws : List UInt32) : List UInt8 := ws.flatMap spread1
theorem spreadL_length (ws : List UInt32) : (spreadL ws).length = 4 * ws.length := by
 induction ws with
 | nil => rfl
 | cons w r ih => simp only [spreadL, List.flatMap_cons, List.length_append] at *; rw [ih]; simp [spread1]; omega
theorem spreadL_take {ws : List UInt32} {k : Nat} (h : k < ws.length) : spreadL (ws.take (k + 1)) = spreadL (ws.take k) ++ spread1 (ws.getD k 0) := by
 rw [take_s (d := 0) h]; simp [spreadL]
theorem w_digest_spread (tab : Tab) (gl : Gl) (ws : List UInt32) (hb : ws.length < 1000000000) : ac_digest_spread.wp tab gl (zipF 0 [.t (.sl (ws.map u32T))]) (zipF 0 []) (resF [] [(2, none)] 0 (fun r o => r = .sl 0 0 (4 * ws.length) ∧ o = [.live 1 (((spreadL ws).map byteT).map V.t) true false])) := by
 simp (disch := omega) only [go_sem, ↓reduceIte, Nat.reduceAdd, Int.reduceLE, reduceCtorEq, ac_digest_spread]
 refine loop_upto ws.length (fun k => [(3, .sl 8240 0 (4 * k)), (10, .t (.sl (ws.map u32T))), (11, .t (.int .i64 ws.length)), (12, .t (.int .i64 k))]) (fun k => [(8240, .live 1 (((spreadL (ws.take k)).map byteT).map V.t) true false)]) ?_ (fun k hk => ?_)
 · refine Weak.rd id ?_ ?_ rfl
   all_goals simp (disch := omega) only [go_sem, ↓reduceIte, Nat.reduceAdd, Nat.reduceEqDiff, Nat.reduceMul, id, spreadL, List.flatMap_nil, List.map_nil]
 · have hl : (spreadL (ws.take k)).length = 4 * k := by rw [spreadL_length, List.length_take]; omega
   by_cases hlt : k < ws.length
   · simp (disch := omega) only [go_sem, ↓reduceIte, Nat.reduceAdd, Nat.reduceEqDiff, Nat.reduceLT, Nat.reduceLeDiff, ac_digest_spread_L0, hl]
     refine ⟨hlt, Weak.rd (fun _ => 24784) ?_ ?_ rfl⟩
     all_goals simp (disch := omega) only [go_sem, ↓reduceIte, Nat.reduceAdd, Nat.reduceEqDiff, spreadL_take, spread1]
     · omega
     · simp only [List.append_assoc, List.cons_append, List.nil_append]; rfl
   · have e : k = ws.length := by omega
     subst e
     rw [List.take_length] at hl
     simp (disch := omega) only [go_sem, ↓reduceIte, Nat.reduceAdd, Nat.reduceEqDiff, ac_digest_spread_L0, hl, List.take_length]
end Go.Eng
end
section
set_option maxRecDepth 20000
set_option maxHeartbeats 4000000
namespace Go.Eng
def sig0 (x : UInt32) : UInt32 := rotr x 7 ^^^ rotr x 18 ^^^ x >>> 3
def sig1 (x : UInt32) : UInt32 := rotr x 17 ^^^ rotr x 19 ^^^ x >>> 10
def sched (bs : List UInt8) : Nat → List UInt32
 | 0 => List.replicate 64 0
 | t + 1 => let w := sched bs t
   w.set t (if t < 16 then wordOf bs t else sig1 (w.getD (t - 2) 0) + w.getD (t - 7) 0 + sig0 (w.getD (t - 15) 0) + w.getD (t - 16) 0)
theorem sched_length {bs : List UInt8} {t : Nat} : (sched bs t).length = 64 := by
 induction t with
 | zero => rfl
 | succ t ih => simp only [sched, List.length_set, ih]
def ct_word : Ct where
 α := List UInt8 × Nat
 as x := [.t (.sl (x.1.map byteT)), .t (.int .i64 x.2)]
 ins _ := []
 pre x := 4 * x.2 + 3 < x.1.length ∧ x.1.length < 1000000000
 r x := .t (u32T (wordOf x.1 x.2))
 outs _ := []
 inj := by
   rintro ⟨a, b⟩ ⟨c, d⟩ h _
   simp [mapB_inj, Int.natCast_inj] at h
   obtain ⟨rfl, rfl⟩ := h
   exact ⟨rfl, rfl⟩
theorem word_eq {bs : List UInt8} {i : Nat} (h : 4 * i + 3 < bs.length ∧ bs.length < 1000000000) : ct_word.fs [.t (.sl (bs.map byteT)), .t (.int .i64 i)] [] = some (.t (u32T (wordOf bs i)), []) := ct_word.eq (bs, i) h
def ct_rotl : Ct where
 α := UInt32 × Int
 as x := [.t (u32T x.1), .t (.int .i64 x.2)]
 ins _ := []
 pre x := -32 < x.2 ∧ x.2 < 32 ∧ x.2 ≠ 0
 r x := .t (u32T (rotr x.1 ((32 - x.2) % 32).toNat))
 outs _ := []
 inj := by
   rintro ⟨a, b⟩ ⟨c, d⟩ h _
   simp [u32T_eq] at h
   obtain ⟨rfl, rfl⟩ := h
   exact ⟨rfl, rfl⟩
theorem rotl_eq {x : UInt32} {i : Int} (h : -32 < i ∧ i < 32 ∧ i ≠ 0) : ct_rotl.fs [.t (u32T x), .t (.int .i64 i)] [] = some (.t (u32T (rotr x ((32 - i) % 32).toNat)), []) := ct_rotl.eq (x, i) h
def k256 : List UInt32 := [0x428a2f98, 0x71374491, 0xb5c0fbcf, 0xe9b5dba5, 0x3956c25b, 0x59f111f1, 0x923f82a4, 0xab1c5ed5, 0xd807aa98, 0x12835b01, 0x243185be, 0x550c7dc3, 0x72be5d74, 0x80deb1fe, 0x9bdc06a7, 0xc19bf174, 0xe49b69c1, 0xefbe4786, 0x0fc19dc6, 0x240ca1cc, 0x2de92c6f, 0x4a7484aa, 0x5cb0a9dc, 0x76f988da, 0x983e5152, 0xa831c66d, 0xb00327c8, 0xbf597fc7, 0xc6e00bf3, 0xd5a79147, 0x06ca6351, 0x14292967, 0x27b70a85, 0x2e1b2138, 0x4d2c6dfc, 0x53380d13, 0x650a7354, 0x766a0abb, 0x81c2c92e, 0x92722c85, 0xa2bfe8a1, 0xa81a664b, 0xc24b8b70, 0xc76c51a3, 0xd192e819, 0xd6990624, 0xf40e3585, 0x106aa070, 0x19a4c116, 0x1e376c08, 0x2748774c, 0x34b0bcb5, 0x391c0cb3, 0x4ed8aa4a, 0x5b9cca4f, 0x682e6ff3, 0x748f82ee, 0x78a5636f, 0x84c87814, 0x8cc70208, 0x90befffa, 0xa4506ceb, 0xbef9a3f7, 0xc67178f2]
def rnd (k w : UInt32) (s : List UInt32) : List UInt32 :=
 let a := s.getD 0 0
 let e := s.getD 4 0
 let t1 := s.getD 7 0 + (rotr e 6 ^^^ rotr e 11 ^^^ rotr e 25) + ((e &&& s.getD 5 0) ^^^ (~~~e &&& s.getD 6 0)) + k + w
 let t2 := (rotr a 2 ^^^ rotr a 13 ^^^ rotr a 22) + ((a &&& s.getD 1 0) ^^^ (a &&& s.getD 2 0) ^^^ (s.getD 1 0 &&& s.getD 2 0))
 [t1 + t2, s.getD 0 0, s.getD 1 0, s.getD 2 0, s.getD 3 0 + t1, s.getD 4 0, s.getD 5 0, s.getD 6 0]
def rounds (ws hs : List UInt32) : Nat → List UInt32
 | 0 => hs
 | t + 1 => rnd (k256.getD t 0) (ws.getD t 0) (rounds ws hs t)
theorem rounds_length {ws hs : List UInt32} {t : Nat} (h : hs.length = 8) : (rounds ws hs t).length = 8 := by
 cases t with
 | zero => exact h
 | succ t => rfl
def addW (hs s : List UInt32) : Nat → List UInt32
 | 0 => hs
 | i + 1 => (addW hs s i).set i ((addW hs s i).getD i 0 + s.getD i 0)
theorem addW_length {hs s : List UInt32} {i : Nat} : (addW hs s i).length = hs.length := by
 induction i with
 | zero => rfl
 | succ i ih => simp only [addW, List.length_set, ih]
def comp256 (hs : List UInt32) (bs : List UInt8) : List UInt32 := addW hs (rounds (sched bs 64) hs 64) 8
theorem w_digest_compress256 (tab : Tab) (gl : Gl) (n1 n2 g : Nat) (h1 : tab.look n1 = some ct_word.fs) (h2 : tab.look n2 = some ct_rotl.fs) (hg : gl g = some (k256.map u32T)) (bs : List UInt8) (hs : List UInt32) (hb : bs.length = 64) (hh : hs.length = 8) :
   (ac_digest_compress256 n1 n2 g).wp tab gl (zipF 0 [.ref 0 0 0, .t (.sl (bs.map byteT))]) (zipF 0 [.live 1 ((hs.map u32T).map V.t) true true]) (resW [] 1 (fun r o => r = .tup [] ∧ o = [.live 1 (((comp256 hs bs).map u32T).map V.t) true true])) := by
 have ht : hs.take 8 = hs := List.take_of_length_le (by omega)
 simp (disch := omega) only [go_sem, seval, ac_digest_compress256]
 refine loop_upto 64 (fun k => [(17, .t (.int .i64 k)), (4, .ref 4096 0 0), (0, .ref 0 0 0), (1, V.t (T.sl (List.map byteT bs)))]) (fun k => [(4096, .live 1 (((sched bs k).map u32T).map V.t) true true), (0, .live 1 ((hs.map u32T).map V.t) true true)]) ?_ (fun k hk => ?_)
 · refine Weak.rd id ?_ ?_ rfl
   all_goals simp (disch := omega) only [go_sem, seval, id, sched]
 · have hl : (sched bs k).length = 64 := sched_length
   by_cases hlt : k < 64
   · by_cases h16 : k < 16
     · simp (disch := omega) only [go_sem, seval, ac_digest_compress256_L0, h1, h2, word_eq, hl]
       refine ⟨hlt, Weak.rd id ?_ ?_ rfl⟩
       all_goals simp (disch := omega) only [go_sem, seval, id, sched, if_pos h16]
     · simp (disch := omega) only [go_sem, seval, ac_digest_compress256_L0, h1, h2, rotl_eq, hl]
       refine ⟨rfl, rfl, hlt, Weak.rd id ?_ ?_ rfl⟩
       all_goals simp (disch := omega) only [go_sem, seval, id, sched, if_neg h16]
       rfl
   · have e : k = 64 := by omega
     subst e
     simp (disch := omega) only [go_sem, seval, ac_digest_compress256_L0, ht, hh]
     refine loop_upto 64 (fun k => [(70, .t (.int .i64 k)), (4, .ref 4096 0 0), (0, .ref 0 0 0), (10, .ref 49200 0 0)]) (fun k => [(49200, .live 1 (((rounds (sched bs 64) hs k).map u32T).map V.t) true true), (4096, .live 1 (((sched bs 64).map u32T).map V.t) true true), (0, .live 1 ((hs.map u32T).map V.t) true true)]) ?_ (fun k hk => ?_)
     · refine Weak.rd id ?_ ?_ rfl
       all_goals simp (disch := omega) only [go_sem, seval, id, rounds]
     · have hl2 : (rounds (sched bs 64) hs k).length = 8 := rounds_length hh
       by_cases hlt : k < 64
       · have hk2 : k256.length = 64 := rfl
         simp (config := { maxSteps := 2000000 }) (disch := (first | omega | (simp only [lens, lenm]; omega))) only [go_sem, seval, ac_digest_compress256_L1, h1, h2, rotl_eq, hl, hl2, hg, hk2]
         repeat refine And.intro rfl ?_
         refine ⟨hlt, Weak.rd id ?_ ?_ rfl⟩
         all_goals simp (disch := omega) only [go_sem, seval, id, rounds, rnd, List.drop_eq_nil_of_le (show (rounds (sched bs 64) hs k).length ≤ 8 by omega)]
       · have e : k = 64 := by omega
         subst e
         simp (disch := omega) only [go_sem, seval, ac_digest_compress256_L1]
         refine loop_upto 8 (fun k => [(152, .t (.int .i64 k)), (0, .ref 0 0 0), (10, .ref 49200 0 0)]) (fun k => [(49200, .live 1 (((rounds (sched bs 64) hs 64).map u32T).map V.t) true true), (0, .live 1 (((addW hs (rounds (sched bs 64) hs 64) k).map u32T).map V.t) true true)]) ?_ (fun k hk => ?_)
         · refine Weak.rd id ?_ ?_ rfl
           all_goals simp (disch := omega) only [go_sem, seval, id, addW]
         · have hl3 : (addW hs (rounds (sched bs 64) hs 64) k).length = 8 := by rw [addW_length, hh]
           by_cases hlt : k < 8
           · simp (disch := omega) only [go_sem, seval, ac_digest_compress256_L2, hl2, hl3]
             refine ⟨rfl, hlt, Weak.rd id ?_ ?_ rfl⟩
             all_goals simp (disch := omega) only [go_sem, seval, id, addW]
           · have e : k = 8 := by omega
             subst e
             simp (disch := omega) only [go_sem, seval, ac_digest_compress256_L2, comp256]
end Go.Eng
end
section
set_option maxRecDepth 20000
set_option maxHeartbeats 4000000
namespace Go.Eng
theorem padL_length (bs : List UInt8) : (padL bs).length = bs.length + 1 + padZ bs.length + 8 := by
 simp only [padL, List.length_append, List.length_replicate, beL_length, List.length_cons, List.length_nil]
theorem padL_mod (bs : List UInt8) : (padL bs).length % 64 = 0 := by
 rw [padL_length, padZ]; omega
def hN (comp : List UInt32 → List UInt8 → List UInt32) (iv : List UInt32) (p : List UInt8) : Nat → List UInt32
 | 0 => iv
 | k + 1 => comp (hN comp iv p k) ((p.drop (64 * k)).take 64)
def sumL (comp : List UInt32 → List UInt8 → List UInt32) (iv : List UInt32) (bs : List UInt8) : List UInt8 := spreadL (hN comp iv (padL bs) ((padL bs).length / 64))
def iv256 : List UInt32 := [0x6a09e667, 0xbb67ae85, 0x3c6ef372, 0xa54ff53a, 0x510e527f, 0x9b05688c, 0x1f83d9ab, 0x5be0cd19]
def sum256 (bs : List UInt8) : List UInt8 := sumL comp256 iv256 bs
theorem hN_length {comp : List UInt32 → List UInt8 → List UInt32} {iv : List UInt32} {p : List UInt8} {n : Nat} (hc : ∀ h b, (comp h b).length = h.length) (hi : iv.length = n) {k : Nat} : (hN comp iv p k).length = n := by
 induction k with
 | zero => exact hi
 | succ k ih => rw [hN, hc, ih]
theorem comp256_length (h : List UInt32) (b : List UInt8) : (comp256 h b).length = h.length := addW_length
theorem h256_length {p : List UInt8} {k : Nat} : (hN comp256 iv256 p k).length = 8 := hN_length comp256_length rfl
def ct_pad : Ct where
 α := List UInt8
 as x := [.t (.sl (x.map byteT))]
 ins _ := []
 pre x := x.length < 1000000000
 r x := .sl 0 0 (padL x).length
 outs x := [.live 1 (((padL x).map byteT).map V.t) true false]
 inj := by
   intro a b h _
   simp [mapB_inj] at h
   subst h; exact ⟨rfl, rfl⟩
theorem pad_eq {bs : List UInt8} (h : bs.length < 1000000000) : ct_pad.fs [.t (.sl (bs.map byteT))] [] = some (.sl 0 0 (padL bs).length, [.live 1 (((padL bs).map byteT).map V.t) true false]) := ct_pad.eq bs h
def ct_spread : Ct where
 α := List UInt32
 as x := [.t (.sl (x.map u32T))]
 ins _ := []
 pre x := x.length < 1000000000
 r x := .sl 0 0 (4 * x.length)
 outs x := [.live 1 (((spreadL x).map byteT).map V.t) true false]
 inj := by
   intro a b h _
   simp [mapW_inj] at h
   subst h; exact ⟨rfl, rfl⟩
theorem spread_eq {ws : List UInt32} (h : ws.length < 1000000000) : ct_spread.fs [.t (.sl (ws.map u32T))] [] = some (.sl 0 0 (4 * ws.length), [.live 1 (((spreadL ws).map byteT).map V.t) true false]) := ct_spread.eq ws h
def ct_comp (n : Nat) (comp : List UInt32 → List UInt8 → List UInt32) : Ct where
 α := List UInt32 × List UInt8
 as x := [.ref 0 0 0, .t (.sl (x.2.map byteT))]
 ins x := [.live 1 ((x.1.map u32T).map V.t) true true]
 pre x := x.2.length = 64 ∧ x.1.length = n
 r _ := .tup []
 outs x := [.live 1 (((comp x.1 x.2).map u32T).map V.t) true true]
 inj := by
   rintro ⟨a, b⟩ ⟨c, d⟩ h1 h2
   simp [mapB_inj] at h1
   simp only [Ob.live.injEq, mapV_inj, mapW_inj, List.cons.injEq] at h2
   obtain ⟨⟨_, rfl, _, _⟩, _⟩ := h2
   subst h1; exact ⟨rfl, rfl⟩
theorem comp_eq {n : Nat} {comp : List UInt32 → List UInt8 → List UInt32} {hs : List UInt32} {bs : List UInt8} (h : bs.length = 64 ∧ hs.length = n) : (ct_comp n comp).fs [.ref 0 0 0, .t (.sl (bs.map byteT))] [.live 1 ((hs.map u32T).map V.t) true true] =
   some (.tup [], [.live 1 (((comp hs bs).map u32T).map V.t) true true]) := (ct_comp n comp).eq (hs, bs) h
theorem w_digest_Sum_256 (tab : Tab) (gl : Gl) (n1 n2 n3 n4 : Nat) (h1 : tab.look n1 = some ct_pad.fs) (h3 : tab.look n3 = some ct_spread.fs) (h4 : tab.look n4 = some (ct_comp 8 comp256).fs) (bs : List UInt8) (hb : bs.length < 1000000000) :
   (ac_digest_Sum n1 n2 n3 n4).wp tab gl (zipF 0 [.t (.int .i64 1), .t (.sl (bs.map byteT))]) (zipF 0 []) (resF [] [(4, none)] 0 (fun r o => r = .sl 0 0 32 ∧ o = [.live 1 (((sum256 bs).map byteT).map V.t) true false])) := by
 have hp := padL_length bs
 have hm := padL_mod bs
 simp (disch := omega) only [go_sem, seval, ac_digest_Sum, h1, pad_eq]
 refine loop_upto ((padL bs).length / 64) (fun k => [(8, V.sl 49168 (64 * k) ((padL bs).length - 64 * k)), (7, V.ref 45072 0 0)]) (fun k => [(49168, .live 1 (((padL bs).map byteT).map V.t) true false), (45072, .live 1 (((hN comp256 iv256 (padL bs) k).map u32T).map V.t) true true)]) ?_ (fun k hk => ?_)
 · refine Weak.rd id ?_ ?_ rfl
   all_goals simp (disch := omega) only [go_sem, seval, id, hN, iv256, Nat.mul_zero, List.map_cons, List.map_nil]
 · have hl : (hN comp256 iv256 (padL bs) k).length = 8 := h256_length
   by_cases hlt : k < (padL bs).length / 64
   · simp (config := { maxSteps := 2000000 }) (disch := (first | omega | (simp only [lens, lenm]; omega))) only [go_sem, seval, ac_digest_Sum_L1, h4, comp_eq, hl]
     refine ⟨hlt, Weak.rd id ?_ ?_ rfl⟩
     all_goals simp (config := { maxSteps := 2000000 }) (disch := (first | omega | (simp only [lens, lenm]; omega))) only [go_sem, seval, id, hN]
     omega
   · have e : k = (padL bs).length / 64 := by omega
     subst e
     have ht : List.take 8 (hN comp256 iv256 (padL bs) ((padL bs).length / 64)) = hN comp256 iv256 (padL bs) ((padL bs).length / 64) := List.take_of_length_le (by omega)
     simp (disch := omega) only [go_sem, seval, ac_digest_Sum_L1, h3, spread_eq, hl, ht, sum256, sumL]
end Go.Eng
end
section
set_option maxRecDepth 20000
set_option maxHeartbeats 4000000
namespace Go.Eng
def sched1 (bs : List UInt8) : Nat → List UInt32
 | 0 => List.replicate 80 0
 | t + 1 => let w := sched1 bs t
   w.set t (if t < 16 then wordOf bs t else rotr (w.getD (t - 3) 0 ^^^ w.getD (t - 8) 0 ^^^ w.getD (t - 14) 0 ^^^ w.getD (t - 16) 0) 31)
theorem sched1_length {bs : List UInt8} {t : Nat} : (sched1 bs t).length = 80 := by
 induction t with
 | zero => rfl
 | succ t ih => simp only [sched1, List.length_set, ih]
def f1 (t : Nat) (b c d : UInt32) : UInt32 := if t < 20 then (b &&& c) ^^^ (~~~b &&& d) else if t < 40 then b ^^^ c ^^^ d else if t < 60 then (b &&& c) ^^^ (b &&& d) ^^^ (c &&& d) else b ^^^ c ^^^ d
def k1 (t : Nat) : UInt32 := if t < 20 then 0x5a827999 else if t < 40 then 0x6ed9eba1 else if t < 60 then 0x8f1bbcdc else 0xca62c1d6
def rnd1 (t : Nat) (w : UInt32) (s : List UInt32) : List UInt32 :=
 [rotr (s.getD 0 0) 27 + f1 t (s.getD 1 0) (s.getD 2 0) (s.getD 3 0) + s.getD 4 0 + k1 t + w, s.getD 0 0, rotr (s.getD 1 0) 2, s.getD 2 0, s.getD 3 0]
def rounds1 (ws hs : List UInt32) : Nat → List UInt32
 | 0 => hs
 | t + 1 => rnd1 t (ws.getD t 0) (rounds1 ws hs t)
def comp1 (hs : List UInt32) (bs : List UInt8) : List UInt32 :=
 let s := rounds1 (sched1 bs 80) hs 80
 [hs.getD 0 0 + s.getD 0 0, hs.getD 1 0 + s.getD 1 0, hs.getD 2 0 + s.getD 2 0, hs.getD 3 0 + s.getD 3 0, hs.getD 4 0 + s.getD 4 0]
theorem w_digest_compress1 (tab : Tab) (gl : Gl) (n1 n2 : Nat) (h1 : tab.look n1 = some ct_word.fs) (h2 : tab.look n2 = some ct_rotl.fs) (bs : List UInt8) (x0 x1 x2 x3 x4 : UInt32) (hb : bs.length = 64) :
   (ac_digest_compress1 n1 n2).wp tab gl (zipF 0 [.ref 0 0 0, .t (.sl (bs.map byteT))]) (zipF 0 [.live 1 (([x0, x1, x2, x3, x4].map u32T).map V.t) true true]) (resW [] 1 (fun r o => r = .tup [] ∧ o = [.live 1 (((comp1 [x0, x1, x2, x3, x4] bs).map u32T).map V.t) true true])) := by
 simp (disch := omega) only [go_sem, seval, ac_digest_compress1]
 refine loop_upto 80 (fun k => [(14, .t (.int .i64 k)), (4, .ref 4096 0 0), (0, .ref 0 0 0), (1, V.t (T.sl (List.map byteT bs)))]) (fun k => [(4096, .live 1 (((sched1 bs k).map u32T).map V.t) true true), (0, .live 1 [.t (u32T x0), .t (u32T x1), .t (u32T x2), .t (u32T x3), .t (u32T x4)] true true)]) ?_ (fun k hk => ?_)
 · refine Weak.rd id ?_ ?_ rfl
   all_goals simp (disch := omega) only [go_sem, seval, id, sched1]
 · have hl : (sched1 bs k).length = 80 := sched1_length
   by_cases hlt : k < 80
   · by_cases h16 : k < 16
     · simp (disch := omega) only [go_sem, seval, ac_digest_compress1_L0, h1, h2, word_eq, hl]
       refine ⟨hlt, Weak.rd id ?_ ?_ rfl⟩
       all_goals simp (disch := omega) only [go_sem, seval, id, sched1, if_pos h16]
     · simp (disch := omega) only [go_sem, seval, ac_digest_compress1_L0, h1, h2, rotl_eq, hl]
       repeat refine And.intro rfl ?_
       refine ⟨hlt, Weak.rd id ?_ ?_ rfl⟩
       all_goals simp (disch := omega) only [go_sem, seval, id, sched1, if_neg h16]
   · have e : k = 80 := by omega
     subst e
     simp (disch := omega) only [go_sem, seval, ac_digest_compress1_L0]
     repeat refine And.intro rfl ?_
     refine loop_upto 80 (fun k => [(67, .t (.int .i64 k)), (4, .ref 4096 0 0), (0, .ref 0 0 0), (6, .t (u32T ((rounds1 (sched1 bs 80) [x0, x1, x2, x3, x4] k).getD 0 0))), (7, .t (u32T ((rounds1 (sched1 bs 80) [x0, x1, x2, x3, x4] k).getD 1 0))), (8, .t (u32T ((rounds1 (sched1 bs 80) [x0, x1, x2, x3, x4] k).getD 2 0))), (9, .t (u32T ((rounds1 (sched1 bs 80) [x0, x1, x2, x3, x4] k).getD 3 0))), (10, .t (u32T ((rounds1 (sched1 bs 80) [x0, x1, x2, x3, x4] k).getD 4 0)))])
       (fun k => [(4096, .live 1 (((sched1 bs 80).map u32T).map V.t) true true), (0, .live 1 [.t (u32T x0), .t (u32T x1), .t (u32T x2), .t (u32T x3), .t (u32T x4)] true true)]) ?_ (fun k hk => ?_)
     · refine Weak.rd id ?_ ?_ rfl
       all_goals simp (disch := omega) only [go_sem, seval, id, rounds1, List.getD_cons_zero, List.getD_cons_succ]
     · by_cases hlt : k < 80
       · by_cases h20 : k < 20
         · have e0 : k / 20 = 0 := by omega
           simp (disch := omega) only [go_sem, seval, ac_digest_compress1_L1, h1, h2, rotl_eq, hl, e0]
           repeat refine And.intro rfl ?_
           refine ⟨hlt, Weak.rd id ?_ ?_ rfl⟩
           all_goals simp (disch := omega) only [go_sem, seval, id, rounds1, rnd1, f1, k1, if_pos h20, List.getD_cons_zero, List.getD_cons_succ]
         · by_cases h40 : k < 40
           · have e0 : k / 20 = 1 := by omega
             simp (disch := omega) only [go_sem, seval, ac_digest_compress1_L1, h1, h2, rotl_eq, hl, e0]
             repeat refine And.intro rfl ?_
             refine ⟨hlt, Weak.rd id ?_ ?_ rfl⟩
             all_goals simp (disch := omega) only [go_sem, seval, id, rounds1, rnd1, f1, k1, if_neg h20, if_pos h40, List.getD_cons_zero, List.getD_cons_succ]
           · by_cases h60 : k < 60
             · have e0 : k / 20 = 2 := by omega
               simp (disch := omega) only [go_sem, seval, ac_digest_compress1_L1, h1, h2, rotl_eq, hl, e0]
               repeat refine And.intro rfl ?_
               refine ⟨hlt, Weak.rd id ?_ ?_ rfl⟩
               all_goals simp (disch := omega) only [go_sem, seval, id, rounds1, rnd1, f1, k1, if_neg h20, if_neg h40, if_pos h60, List.getD_cons_zero, List.getD_cons_succ]
             · have e0 : k / 20 = 3 := by omega
               simp (disch := omega) only [go_sem, seval, ac_digest_compress1_L1, h1, h2, rotl_eq, hl, e0]
               repeat refine And.intro rfl ?_
               refine ⟨hlt, Weak.rd id ?_ ?_ rfl⟩
               all_goals simp (disch := omega) only [go_sem, seval, id, rounds1, rnd1, f1, k1, if_neg h20, if_neg h40, if_neg h60, List.getD_cons_zero, List.getD_cons_succ]
       · have e : k = 80 := by omega
         subst e
         simp (disch := omega) only [go_sem, seval, ac_digest_compress1_L1, comp1, List.getD_cons_zero, List.getD_cons_succ]
         repeat refine And.intro rfl ?_
         rfl
end Go.Eng
end
section
set_option maxRecDepth 20000
set_option maxHeartbeats 4000000
namespace Go.Eng
def iv1 : List UInt32 := [0x67452301, 0xefcdab89, 0x98badcfe, 0x10325476, 0xc3d2e1f0]
theorem h1_length {p : List UInt8} {k : Nat} : (hN comp1 iv1 p k).length = 5 := by
 cases k <;> rfl
def sum1 (bs : List UInt8) : List UInt8 := sumL comp1 iv1 bs
theorem w_digest_Sum_1 (tab : Tab) (gl : Gl) (n1 n2 n3 n4 : Nat) (h1 : tab.look n1 = some ct_pad.fs) (h3 : tab.look n3 = some ct_spread.fs) (h4 : tab.look n2 = some (ct_comp 5 comp1).fs) (bs : List UInt8) (hb : bs.length < 1000000000) :
   (ac_digest_Sum n1 n2 n3 n4).wp tab gl (zipF 0 [.t (.int .i64 0), .t (.sl (bs.map byteT))]) (zipF 0 []) (resF [] [(4, none)] 0 (fun r o => r = .sl 0 0 20 ∧ o = [.live 1 (((sum1 bs).map byteT).map V.t) true false])) := by
 have hp := padL_length bs
 have hm := padL_mod bs
 simp (disch := omega) only [go_sem, ↓reduceIte, Nat.reduceAdd, Nat.reduceEqDiff, Nat.reduceLeDiff, reduceCtorEq, ac_digest_Sum, h1, pad_eq]
 refine loop_upto ((padL bs).length / 64) (fun k => [(6, V.sl 20496 (64 * k) ((padL bs).length - 64 * k)), (5, V.ref 16400 0 0)]) (fun k => [(20496, .live 1 (((padL bs).map byteT).map V.t) true false), (16400, .live 1 (((hN comp1 iv1 (padL bs) k).map u32T).map V.t) true true)]) ?_ (fun k hk => ?_)
 · refine Weak.rd id ?_ ?_ rfl
   all_goals simp (disch := omega) only [go_sem, ↓reduceIte, Nat.reduceAdd, Nat.reduceEqDiff, Nat.reduceBEq, id, hN, iv1, Nat.mul_zero, List.map_cons, List.map_nil]
 · have hl : (hN comp1 iv1 (padL bs) k).length = 5 := h1_length
   by_cases hlt : k < (padL bs).length / 64
   · simp (config := { maxSteps := 2000000 }) (disch := (first | omega | (simp only [lens, lenm]; omega))) only [go_sem, ↓reduceIte, Nat.reduceAdd, Nat.reduceEqDiff, Nat.reduceSub, Nat.reduceLeDiff, Nat.reduceBEq, Int.reduceLE, reduceCtorEq, ac_digest_Sum_L0, h4, comp_eq, hl]
     refine ⟨hlt, Weak.rd id ?_ ?_ rfl⟩
     all_goals simp (config := { maxSteps := 2000000 }) (disch := (first | omega | (simp only [lens, lenm]; omega))) only [go_sem, ↓reduceIte, Nat.reduceAdd, Nat.reduceEqDiff, Nat.reduceBEq, id, hN]
     omega
   · have e : k = (padL bs).length / 64 := by omega
     subst e
     have ht : List.take 5 (hN comp1 iv1 (padL bs) ((padL bs).length / 64)) = hN comp1 iv1 (padL bs) ((padL bs).length / 64) := List.take_of_length_le (by omega)
     simp (disch := omega) only [go_sem, ↓reduceIte, Nat.reduceAdd, Nat.reduceEqDiff, Nat.reduceMul, Nat.reduceLeDiff, Int.reduceLE, reduceCtorEq, ac_digest_Sum_L0, h3, spread_eq, hl, ht, sum1, sumL]
theorem w_ref1_pad (tab : Tab) (gl : Gl) (bs : List UInt8) (hb : bs.length < 1000000000) : ac_ref1_pad.wp tab gl (zipF 0 [.t (.sl (bs.map byteT))]) (zipF 0 []) (resF [] [(2, none)] 0 (fun r o => r = .sl 0 0 (padL bs).length ∧ o = [.live 1 (((padL bs).map byteT).map V.t) true false])) := by
 have hz : padZ bs.length = (119 - bs.length % 64) % 64 := rfl
 simp (disch := omega) only [go_sem, ↓reduceIte, Nat.reduceAdd, Nat.reduceEqDiff, Nat.reduceLT, Nat.reduceLeDiff, reduceCtorEq, ac_ref1_pad]
 refine loop_upto (padZ bs.length) (fun k => [(0, .t (.sl (bs.map byteT))), (3, .sl 8256 0 (bs.length + 1 + k))]) (fun k => [(8256, .live 1 (((bs ++ [128] ++ List.replicate k 0).map byteT).map V.t) true false)]) ?_ (fun k hk => ?_)
 · refine Weak.rd id ?_ ?_ rfl
   all_goals simp (disch := omega) only [go_sem, ↓reduceIte, Nat.reduceAdd, reduceCtorEq, id]
 · by_cases hlt : k < padZ bs.length
   · simp (disch := omega) only [go_sem, ↓reduceIte, Nat.reduceAdd, Nat.reduceEqDiff, Nat.reduceLT, Nat.reduceLeDiff, reduceCtorEq, ac_ref1_pad_L0]
     refine ⟨hlt, Weak.rd (fun _ => 16416) ?_ ?_ rfl⟩
     all_goals simp (disch := omega) only [go_sem, ↓reduceIte, Nat.reduceAdd, reduceCtorEq, List.replicate_succ', List.append_assoc, Nat.add_assoc]
   · have e : k = padZ bs.length := by omega
     subst e
     simp (disch := omega) only [go_sem, ↓reduceIte, Nat.reduceAdd, reduceCtorEq, ac_ref1_pad_L0]
     refine loop_upto 8 (fun k => [(3, .sl 8256 0 (bs.length + 1 + padZ bs.length + k)), (4, V.t (T.int IntKind.u64 (bs.length * 8 : Nat))), (5, .t (.int .i64 (7 - (k : Int))))]) (fun k => [(8256, .live 1 (((bs ++ [128] ++ List.replicate (padZ bs.length) 0 ++ beL (bs.length * 8) k).map byteT).map V.t) true false)]) ?_ (fun k hk => ?_)
     · refine Weak.rd id ?_ ?_ rfl
       all_goals simp (disch := omega) only [go_sem, ↓reduceIte, Nat.reduceAdd, Nat.reduceEqDiff, Int.reduceSub, reduceCtorEq, id, beL_zero, List.append_nil]
     · by_cases hlt : k < 8
       · have e : 8 * (7 - k) = 56 - 8 * k := by omega
         simp (disch := omega) only [go_sem, ↓reduceIte, Nat.reduceAdd, Nat.reduceEqDiff, Nat.reduceLT, Nat.reduceLeDiff, ac_ref1_pad_L1, beL_length, e]
         refine ⟨hlt, Weak.rd (fun _ => 36992) ?_ ?_ rfl⟩
         all_goals simp (disch := omega) only [go_sem, ↓reduceIte, Nat.reduceAdd, Nat.reduceEqDiff, beL_succ, List.append_assoc, Nat.add_assoc]
         omega
       · have e : k = 8 := by omega
         subst e
         simp (disch := omega) only [go_sem, ↓reduceIte, Nat.reduceAdd, Nat.reduceEqDiff, Int.reduceNeg, Int.reduceSub, ac_ref1_pad_L1, beL_length, padL]
theorem w_ref1_bytes (tab : Tab) (gl : Gl) (ws : List UInt32) (hb : ws.length < 1000000000) : ac_ref1_bytes.wp tab gl (zipF 0 [.t (.sl (ws.map u32T))]) (zipF 0 []) (resF [] [(2, none)] 0 (fun r o => r = .sl 0 0 (4 * ws.length) ∧ o = [.live 1 (((spreadL ws).map byteT).map V.t) true false])) := by
 simp (disch := omega) only [go_sem, Nat.reduceAdd, ac_ref1_bytes]
 refine loop_upto ws.length (fun k => [(3, .sl 9000 0 (4 * k)), (0, .t (.sl (ws.map u32T))), (4, .t (.int .i64 k))]) (fun k => [(9000, .live 1 (((spreadL (ws.take k)).map byteT).map V.t) true false)]) ?_ (fun k hk => ?_)
 · show Weak _ _ _ ([(9000, .live 1 [] true false)] ++ [])
   refine Weak.cv0 id ?_ ?_ rfl rfl
   all_goals simp (disch := omega) only [go_sem, ↓reduceIte, Nat.reduceEqDiff, reduceCtorEq, id, List.map_cons, List.map_nil, Nat.mul_zero]
 · have hl : (spreadL (ws.take k)).length = 4 * k := by rw [spreadL_length, List.length_take]; omega
   by_cases hlt : k < ws.length
   · simp (disch := omega) only [go_sem, ↓reduceIte, Nat.reduceAdd, Nat.reduceEqDiff, Nat.reduceLT, Nat.reduceLeDiff, reduceCtorEq, ac_ref1_bytes_L0, hl]
     refine ⟨rfl, hlt, Weak.rd (fun _ => 24976) ?_ ?_ rfl⟩
     all_goals simp (disch := omega) only [go_sem, ↓reduceIte, Nat.reduceAdd, Nat.reduceEqDiff, reduceCtorEq, spreadL_take, spread1]
     · omega
     · simp only [List.append_assoc, List.cons_append, List.nil_append]; rfl
   · have e : k = ws.length := by omega
     subst e
     rw [List.take_length] at hl
     simp (disch := omega) only [go_sem, ↓reduceIte, Nat.reduceAdd, Nat.reduceEqDiff, reduceCtorEq, ac_ref1_bytes_L0, hl, List.take_length]
theorem w_ref1_constants (tab : Tab) (gl : Gl) : ac_ref1_constants.wp tab gl (zipF 0 []) (zipF 0 []) (resW [(0, some (64, true))] 0 (fun r o => r = .t (.agg (k256.map u32T)) ∧ o = [])) := by
 simp (config := { maxSteps := 2000000 }) (disch := (first | omega | (simp only [lens, lenm]; omega))) only [go_sem, ↓reduceIte, Nat.reduceAdd, Nat.reduceEqDiff, Nat.reduceSub, Nat.reduceLeDiff, reduceCtorEq, ac_ref1_constants, List.drop_replicate]
 rfl
end Go.Eng
end
section
set_option maxRecDepth 20000
set_option maxHeartbeats 8000000
namespace Go.Eng
def ct_const : Ct where
 α := Unit
 as _ := []
 ins _ := []
 pre _ := True
 r _ := .t (.agg (k256.map u32T))
 outs _ := []
 inj := fun _ _ _ _ => ⟨rfl, rfl⟩
theorem const_eq : ct_const.fs [] [] = some (.t (.agg (k256.map u32T)), []) := ct_const.eq () trivial
def ct_rotr : Ct where
 α := UInt32 × Nat
 as x := [.t (u32T x.1), .t (.int .u64 x.2)]
 ins _ := []
 pre x := 0 < x.2 ∧ x.2 < 32
 r x := .t (u32T (rotr x.1 x.2))
 outs _ := []
 inj := by
   rintro ⟨a, b⟩ ⟨c, d⟩ h _
   simp [u32T_eq, Int.natCast_inj] at h
   obtain ⟨rfl, rfl⟩ := h
   exact ⟨rfl, rfl⟩
theorem rotr_eq {x : UInt32} {n : Nat} (h : 0 < n ∧ n < 32) : ct_rotr.fs [.t (u32T x), .t (.int .u64 (no_index (@OfNat.ofNat Int n _)))] [] = some (.t (u32T (rotr x n)), []) := ct_rotr.eq (x, n) h
theorem w_ref1_Sum256 (tab : Tab) (gl : Gl) (n1 n2 n3 n4 n5 : Nat) (h1 : tab.look n1 = some ct_const.fs) (h2 : tab.look n2 = some ct_pad.fs) (h3 : tab.look n3 = some ct_word.fs) (h4 : tab.look n4 = some ct_rotr.fs) (h5 : tab.look n5 = some ct_spread.fs)
   (bs : List UInt8) (hb : bs.length < 1000000000) :
   (ac_ref1_Sum256 n1 n2 n3 n4 n5).wp tab gl (zipF 0 [.t (.sl (bs.map byteT))]) (zipF 0 []) (resF [] [(2, none)] 0 (fun r o => r = .sl 0 0 32 ∧ o = [.live 1 (((sum256 bs).map byteT).map V.t) true false])) := by
 have hp := padL_length bs
 have hm := padL_mod bs
 have hz : padZ bs.length < 64 := by unfold padZ; omega
 have hk2 : k256.length = 64 := rfl
 simp (config := { maxSteps := 2000000 }) (disch := (first | omega | (simp only [lens, lenm]; omega))) only [go_sem, seval, ac_ref1_Sum256, h1, const_eq, h2, pad_eq, hk2]
 refine loop_upto ((padL bs).length / 64) (fun k => [(3, .ref 8208 0 0), (4, .sl 12288 0 8), (5, .sl 16400 0 (padL bs).length), (6, .t (.int .i64 ((64 * k : Nat) : Int)))])
   (fun k => [(8208, .live 1 ((k256.map u32T).map V.t) true true), (12288, .live 1 (((hN comp256 iv256 (padL bs) k).map u32T).map V.t) true false), (16400, .live 1 (((padL bs).map byteT).map V.t) true false)]) ?_ (fun k hk => ?_)
 · refine Weak.rd id ?_ ?_ rfl
   all_goals simp (disch := omega) only [go_sem, seval, id, hN, iv256, Nat.mul_zero, List.map_cons, List.map_nil]
 · have hl : (hN comp256 iv256 (padL bs) k).length = 8 := h256_length
   by_cases hlt : k < (padL bs).length / 64
   · generalize hH : hN comp256 iv256 (padL bs) k = H at hl ⊢
     generalize hB : List.take 64 (List.drop (64 * k) (padL bs)) = B
     have hBl : B.length = 64 := by rw [← hB]; simp only [List.length_take, List.length_drop]; omega
     simp (disch := omega) only [go_sem, seval, ac_ref1_Sum256_L0]
     refine loop_upto 64 (fun t => [(8, .t (.int .i64 t)), (7, .ref 32768 0 0), (3, .ref 8208 0 0), (4, .sl 12288 0 8), (5, .sl 16400 0 (padL bs).length), (6, .t (.int .i64 ((64 * k : Nat) : Int)))])
       (fun t => [(32768, .live 1 (((sched B t).map u32T).map V.t) true true), (8208, .live 1 ((k256.map u32T).map V.t) true true), (12288, .live 1 ((H.map u32T).map V.t) true false), (16400, .live 1 (((padL bs).map byteT).map V.t) true false)]) ?_ (fun t ht => ?_)
     · refine Weak.rd id ?_ ?_ rfl
       all_goals simp (disch := omega) only [go_sem, seval, id, sched]
     · have hs : (sched B t).length = 64 := sched_length
       by_cases hlt2 : t < 64
       · by_cases h16 : t < 16
         · simp (disch := omega) only [go_sem, seval, ac_ref1_Sum256_L1, h3, word_eq, hs, hB]
           refine ⟨hlt2, Weak.rd id ?_ ?_ rfl⟩
           all_goals simp (disch := omega) only [go_sem, seval, id, sched, if_pos h16]
         · simp (config := { maxSteps := 2000000 }) (disch := (first | omega | (simp only [lens, lenm]; omega))) only [go_sem, seval, ac_ref1_Sum256_L1, h4, rotr_eq, hs]
           repeat refine And.intro rfl ?_
           refine ⟨hlt2, Weak.rd id ?_ ?_ rfl⟩
           all_goals simp (config := { maxSteps := 2000000 }) (disch := (first | omega | (simp only [lens, lenm]; omega))) only [go_sem, seval, id, sched, if_neg h16]
           rfl
       · have e : t = 64 := by omega
         subst e
         have hT : List.take 8 H = H := List.take_of_length_le (by omega)
         simp (disch := omega) only [go_sem, seval, ac_ref1_Sum256_L1, hl, hT]
         refine loop_upto 64 (fun t => [(12, .t (.int .i64 t)), (11, .sl 69664 0 8), (7, .ref 32768 0 0), (3, .ref 8208 0 0), (4, .sl 12288 0 8), (5, .sl 16400 0 (padL bs).length), (6, .t (.int .i64 ((64 * k : Nat) : Int)))])
           (fun t => [(69664, .live 1 (((rounds (sched B 64) H t).map u32T).map V.t) true false), (32768, .live 1 (((sched B 64).map u32T).map V.t) true true), (8208, .live 1 ((k256.map u32T).map V.t) true true), (12288, .live 1 ((H.map u32T).map V.t) true false), (16400, .live 1 (((padL bs).map byteT).map V.t) true false)]) ?_ (fun t ht => ?_)
         · refine Weak.rd id ?_ ?_ rfl
           all_goals simp (disch := omega) only [go_sem, seval, id, rounds]
         · have hr : (rounds (sched B 64) H t).length = 8 := rounds_length hl
           by_cases hlt3 : t < 64
           · simp (config := { maxSteps := 2000000 }) (disch := (first | omega | (simp only [lens, lenm]; omega))) only [go_sem, seval, ac_ref1_Sum256_L2, h4, rotr_eq, hs, hr, hk2]
             repeat refine And.intro rfl ?_
             refine ⟨hlt3, Weak.rd (fun i => if i = 69664 then 98656 else i) ?_ ?_ rfl⟩
             all_goals simp (disch := omega) only [go_sem, seval, rounds, rnd]
             trace_state
           · have e : t = 64 := by omega
             subst e
             simp (disch := omega) only [go_sem, seval, ac_ref1_Sum256_L2]
             refine loop_upto 8 (fun t => [(17, .t (.int .i64 t)), (11, .sl 69664 0 8), (3, .ref 8208 0 0), (4, .sl 12288 0 8), (5, .sl 16400 0 (padL bs).length), (6, .t (.int .i64 ((64 * k : Nat) : Int)))])
               (fun t => [(69664, .live 1 (((rounds (sched B 64) H 64).map u32T).map V.t) true false), (8208, .live 1 ((k256.map u32T).map V.t) true true), (12288, .live 1 (((addW H (rounds (sched B 64) H 64) t).map u32T).map V.t) true false), (16400, .live 1 (((padL bs).map byteT).map V.t) true false)]) ?_ (fun t ht => ?_)
             · refine Weak.rd id ?_ ?_ rfl
               all_goals simp (disch := omega) only [go_sem, seval, id, addW]
             · have ha : (addW H (rounds (sched B 64) H 64) t).length = 8 := by rw [addW_length, hl]
               by_cases hlt4 : t < 8
               · simp (disch := omega) only [go_sem, seval, ac_ref1_Sum256_L3, hr, ha]
                 repeat refine And.intro rfl ?_
                 refine ⟨hlt4, Weak.rd id ?_ ?_ rfl⟩
                 all_goals simp (disch := omega) only [go_sem, seval, id, addW]
               · have e : t = 8 := by omega
                 subst e
                 simp (disch := omega) only [go_sem, seval, ac_ref1_Sum256_L3]
                 refine ⟨hlt, Weak.rd id ?_ ?_ rfl⟩
                 all_goals simp (disch := omega) only [go_sem, seval, id, hN, hH, hB, comp256]
                 omega
   · have e : k = (padL bs).length / 64 := by omega
     subst e
     have e2 : 64 * ((padL bs).length / 64) = (padL bs).length := by omega
     have ht : List.take 8 (hN comp256 iv256 (padL bs) ((padL bs).length / 64)) = hN comp256 iv256 (padL bs) ((padL bs).length / 64) := List.take_of_length_le (by omega)
     simp (disch := omega) only [go_sem, seval, ac_ref1_Sum256_L0, e2, h5, spread_eq, hl, ht, sum256, sumL]
end Go.Eng
end
section
set_option maxRecDepth 20000
set_option maxHeartbeats 8000000
namespace Go.Eng
def ct_rotl1 : Ct where
 α := UInt32 × Nat
 as x := [.t (u32T x.1), .t (.int .u64 x.2)]
 ins _ := []
 pre x := 0 < x.2 ∧ x.2 < 32
 r x := .t (u32T (rotr x.1 (32 - x.2)))
 outs _ := []
 inj := by
   rintro ⟨a, b⟩ ⟨c, d⟩ h _
   simp [u32T_eq, Int.natCast_inj] at h
   obtain ⟨rfl, rfl⟩ := h
   exact ⟨rfl, rfl⟩
theorem rotl1_eq {x : UInt32} {n : Nat} (h : 0 < n ∧ n < 32) : ct_rotl1.fs [.t (u32T x), .t (.int .u64 (no_index (@OfNat.ofNat Int n _)))] [] = some (.t (u32T (rotr x (32 - n))), []) := ct_rotl1.eq (x, n) h
theorem w_ref1_Sum1 (tab : Tab) (gl : Gl) (n2 n3 n4 n5 : Nat) (h2 : tab.look n2 = some ct_pad.fs) (h3 : tab.look n3 = some ct_word.fs) (h4 : tab.look n4 = some ct_rotl1.fs) (h5 : tab.look n5 = some ct_spread.fs)
   (bs : List UInt8) (hb : bs.length < 1000000000) :
   (ac_ref1_Sum1 n2 n3 n4 n5).wp tab gl (zipF 0 [.t (.sl (bs.map byteT))]) (zipF 0 []) (resF [] [(2, none)] 0 (fun r o => r = .sl 0 0 20 ∧ o = [.live 1 (((sum1 bs).map byteT).map V.t) true false])) := by
 have hp := padL_length bs
 have hm := padL_mod bs
 have hz : padZ bs.length < 64 := by unfold padZ; omega
 simp (disch := omega) only [go_sem, seval, ac_ref1_Sum1, h2, pad_eq]
 refine loop_upto ((padL bs).length / 64) (fun k => [(3, .sl 8192 0 5), (4, .sl 12304 0 (padL bs).length), (5, .t (.int .i64 ((64 * k : Nat) : Int)))])
   (fun k => [(8192, .live 1 (((hN comp1 iv1 (padL bs) k).map u32T).map V.t) true false), (12304, .live 1 (((padL bs).map byteT).map V.t) true false)]) ?_ (fun k hk => ?_)
 · refine Weak.rd id ?_ ?_ rfl
   all_goals simp (disch := omega) only [go_sem, seval, id, hN, iv1, Nat.mul_zero, List.map_cons, List.map_nil]
 · have hl : (hN comp1 iv1 (padL bs) k).length = 5 := h1_length
   by_cases hlt : k < (padL bs).length / 64
   · generalize hH : hN comp1 iv1 (padL bs) k = H at hl ⊢
     generalize hB : List.take 64 (List.drop (64 * k) (padL bs)) = B
     have hBl : B.length = 64 := by rw [← hB]; simp only [List.length_take, List.length_drop]; omega
     simp (disch := omega) only [go_sem, seval, ac_ref1_Sum1_L0]
     refine loop_upto 80 (fun t => [(7, .t (.int .i64 t)), (6, .ref 28672 0 0), (3, .sl 8192 0 5), (4, .sl 12304 0 (padL bs).length), (5, .t (.int .i64 ((64 * k : Nat) : Int)))])
       (fun t => [(28672, .live 1 (((sched1 B t).map u32T).map V.t) true true), (8192, .live 1 ((H.map u32T).map V.t) true false), (12304, .live 1 (((padL bs).map byteT).map V.t) true false)]) ?_ (fun t ht => ?_)
     · refine Weak.rd id ?_ ?_ rfl
       all_goals simp (disch := omega) only [go_sem, seval, id, sched1]
     · have hs : (sched1 B t).length = 80 := sched1_length
       by_cases hlt2 : t < 80
       · by_cases h16 : t < 16
         · simp (disch := omega) only [go_sem, seval, ac_ref1_Sum1_L1, h3, word_eq, hs, hB]
           repeat refine And.intro rfl ?_
           refine ⟨hlt2, Weak.rd id ?_ ?_ rfl⟩
           all_goals simp (disch := omega) only [go_sem, seval, id, sched1, if_pos h16]
         · simp (config := { maxSteps := 2000000 }) (disch := (first | omega | (simp only [lens, lenm]; omega))) only [go_sem, seval, ac_ref1_Sum1_L1, h4, rotl1_eq, hs]
           repeat refine And.intro rfl ?_
           refine ⟨hlt2, Weak.rd id ?_ ?_ rfl⟩
           all_goals simp (disch := omega) only [go_sem, seval, id, sched1, if_neg h16]
       · have e : t = 80 := by omega
         subst e
         simp (disch := omega) only [go_sem, seval, ac_ref1_Sum1_L1, hl]
         repeat refine And.intro rfl ?_
         refine loop_upto 80 (fun t => [(13, .t (.int .i64 t)), (6, .ref 28672 0 0), (3, .sl 8192 0 5), (4, .sl 12304 0 (padL bs).length), (5, .t (.int .i64 ((64 * k : Nat) : Int))),
             (8, .t (u32T ((rounds1 (sched1 B 80) H t).getD 0 0))), (9, .t (u32T ((rounds1 (sched1 B 80) H t).getD 1 0))), (10, .t (u32T ((rounds1 (sched1 B 80) H t).getD 2 0))), (11, .t (u32T ((rounds1 (sched1 B 80) H t).getD 3 0))), (12, .t (u32T ((rounds1 (sched1 B 80) H t).getD 4 0)))])
           (fun _ => [(28672, .live 1 (((sched1 B 80).map u32T).map V.t) true true), (8192, .live 1 ((H.map u32T).map V.t) true false), (12304, .live 1 (((padL bs).map byteT).map V.t) true false)]) ?_ (fun t ht => ?_)
         · refine Weak.rd id ?_ ?_ rfl
           all_goals simp (disch := omega) only [go_sem, seval, id, rounds1]
         · by_cases hlt3 : t < 80
           · by_cases h20 : t < 20
             · simp (config := { maxSteps := 2000000 }) (disch := (first | omega | (simp only [lens, lenm]; omega))) only [go_sem, seval, ac_ref1_Sum1_L2, h4, rotl1_eq, hs]
               repeat refine And.intro rfl ?_
               refine ⟨hlt3, Weak.rd id ?_ ?_ rfl⟩
               all_goals simp (disch := omega) only [go_sem, seval, id, rounds1, rnd1, f1, k1, if_pos h20, List.getD_cons_zero, List.getD_cons_succ]
             · by_cases h40 : t < 40
               · simp (config := { maxSteps := 2000000 }) (disch := (first | omega | (simp only [lens, lenm]; omega))) only [go_sem, seval, ac_ref1_Sum1_L2, h4, rotl1_eq, hs]
                 repeat refine And.intro rfl ?_
                 refine ⟨hlt3, Weak.rd id ?_ ?_ rfl⟩
                 all_goals simp (disch := omega) only [go_sem, seval, id, rounds1, rnd1, f1, k1, if_neg h20, if_pos h40, List.getD_cons_zero, List.getD_cons_succ]
               · by_cases h60 : t < 60
                 · simp (config := { maxSteps := 2000000 }) (disch := (first | omega | (simp only [lens, lenm]; omega))) only [go_sem, seval, ac_ref1_Sum1_L2, h4, rotl1_eq, hs]
                   repeat refine And.intro rfl ?_
                   refine ⟨hlt3, Weak.rd id ?_ ?_ rfl⟩
                   all_goals simp (disch := omega) only [go_sem, seval, id, rounds1, rnd1, f1, k1, if_neg h20, if_neg h40, if_pos h60, List.getD_cons_zero, List.getD_cons_succ]
                 · simp (config := { maxSteps := 2000000 }) (disch := (first | omega | (simp only [lens, lenm]; omega))) only [go_sem, seval, ac_ref1_Sum1_L2, h4, rotl1_eq, hs]
                   repeat refine And.intro rfl ?_
                   refine ⟨hlt3, Weak.rd id ?_ ?_ rfl⟩
                   all_goals simp (disch := omega) only [go_sem, seval, id, rounds1, rnd1, f1, k1, if_neg h20, if_neg h40, if_neg h60, List.getD_cons_zero, List.getD_cons_succ]
           · have e : t = 80 := by omega
             subst e
             simp (disch := omega) only [go_sem, seval, ac_ref1_Sum1_L2, hl]
             repeat refine And.intro rfl ?_
             refine ⟨hlt, Weak.rd (fun i => if i = 8192 then 110992 else i) ?_ ?_ rfl⟩
             all_goals simp (disch := omega) only [go_sem, seval, hN, hH, hB, comp1]
             omega
   · have e : k = (padL bs).length / 64 := by omega
     subst e
     have e2 : 64 * ((padL bs).length / 64) = (padL bs).length := by omega
     have ht : List.take 5 (hN comp1 iv1 (padL bs) ((padL bs).length / 64)) = hN comp1 iv1 (padL bs) ((padL bs).length / 64) := List.take_of_length_le (by omega)
     simp (disch := omega) only [go_sem, seval, ac_ref1_Sum1_L0, e2, h5, spread_eq, hl, ht, sum1, sumL]
end Go.Eng
end
section
set_option maxRecDepth 20000
set_option maxHeartbeats 8000000
namespace Go.Eng
def szA (a : Nat) : Nat := if a = 0 then 20 else if a = 1 then 32 else 0
def sumA (a : Nat) (bs : List UInt8) : List UInt8 := if a = 0 then sum1 bs else if a = 1 then sum256 bs else []
theorem sumL_length {comp : List UInt32 → List UInt8 → List UInt32} {iv : List UInt32} {bs : List UInt8} {n : Nat} (hc : ∀ h b, h.length = n → (comp h b).length = n) (hi : iv.length = n) : (sumL comp iv bs).length = 4 * n := by
 have : ∀ k p, (hN comp iv p k).length = n := by
   intro k p
   induction k with
   | zero => exact hi
   | succ k ih => exact hc _ _ ih
 rw [sumL, spreadL_length, this]
theorem sum256_length {bs : List UInt8} : (sum256 bs).length = 32 := sumL_length (n := 8) (fun h b e => by rw [comp256_length, e]) rfl
theorem sum1_length {bs : List UInt8} : (sum1 bs).length = 20 := sumL_length (n := 5) (fun h b _ => rfl) rfl
theorem sumA_length {a : Nat} {bs : List UInt8} : (sumA a bs).length = szA a := by
 unfold sumA szA
 split
 · exact sum1_length
 · split
   · exact sum256_length
   · rfl
theorem w_ref1_Copy (tab : Tab) (gl : Gl) (bs : List UInt8) (hb : bs.length < 1000000000) : ac_ref1_Copy.wp tab gl (zipF 0 [.t (.sl (bs.map byteT))]) (zipF 0 []) (resF [] [(2, none)] 0 (fun r o => r = .sl 0 0 bs.length ∧ o = [.live 1 ((bs.map byteT).map V.t) true false])) := by
 simp (disch := omega) only [go_sem, seval, ac_ref1_Copy]
def ct_sum (n : Nat) (f : List UInt8 → List UInt8) : Ct where
 α := List UInt8
 as x := [.t (.sl (x.map byteT))]
 ins _ := []
 pre x := x.length < 1000000000
 r _ := .sl 0 0 n
 outs x := [.live 1 (((f x).map byteT).map V.t) true false]
 inj := by
   intro a b h _
   simp [mapB_inj] at h
   subst h; exact ⟨rfl, rfl⟩
theorem sum_eq {n : Nat} {f : List UInt8 → List UInt8} {bs : List UInt8} (h : bs.length < 1000000000) : (ct_sum n f).fs [.t (.sl (bs.map byteT))] [] = some (.sl 0 0 n, [.live 1 (((f bs).map byteT).map V.t) true false]) := (ct_sum n f).eq bs h
theorem w_ref1_Sum (tab : Tab) (gl : Gl) (n1 n2 : Nat) (h1 : tab.look n1 = some (ct_sum 20 sum1).fs) (h2 : tab.look n2 = some (ct_sum 32 sum256).fs) (a : Nat) (ha : a < 2) (bs : List UInt8) (hb : bs.length < 1000000000) :
   (ac_ref1_Sum n1 n2).wp tab gl (zipF 0 [.t (.int .i64 a), .t (.sl (bs.map byteT))]) (zipF 0 []) (resF [] [(4, none)] 0 (fun r o => r = .sl 0 0 (szA a) ∧ o = [.live 1 (((sumA a bs).map byteT).map V.t) true false])) := by
 rcases (show a = 0 ∨ a = 1 by omega) with rfl | rfl
 · simp (disch := omega) only [go_sem, seval, ac_ref1_Sum, h1, sum_eq, szA, sumA]
 · simp (disch := omega) only [go_sem, seval, ac_ref1_Sum, h2, sum_eq, szA, sumA]
def be32 (n : Nat) : List UInt8 := [UInt8.ofNat (n / 2 ^ 24), UInt8.ofNat (n / 2 ^ 16), UInt8.ofNat (n / 2 ^ 8), UInt8.ofNat n]
def frameL (tag : Nat) (fs : List (List UInt8)) : List UInt8 := UInt8.ofNat tag :: fs.flatMap fun f => be32 f.length ++ f
theorem frameL_take {tag : Nat} {fs : List (List UInt8)} {k : Nat} (h : k < fs.length) : frameL tag (fs.take (k + 1)) = frameL tag (fs.take k) ++ be32 (fs.getD k []).length ++ fs.getD k [] := by
 rw [take_s (d := []) h]; simp [frameL]
theorem frameL_le {tag : Nat} {fs : List (List UInt8)} {k : Nat} : (frameL tag (fs.take k)).length ≤ (frameL tag fs).length := by
 have : frameL tag fs = frameL tag (fs.take k) ++ (fs.drop k).flatMap fun f => be32 f.length ++ f := by
   simp only [frameL, List.cons_append, ← List.flatMap_append, List.take_append_drop]
 rw [this, List.length_append]; omega
theorem frameL_ge {tag : Nat} {fs : List (List UInt8)} : 4 * fs.length + 1 ≤ (frameL tag fs).length := by
 simp only [frameL, List.length_cons]
 have : 4 * fs.length ≤ (fs.flatMap fun f => be32 f.length ++ f).length := by
   induction fs with
   | nil => simp
   | cons f r ih =>
     have h4 : ∀ n, (be32 n).length = 4 := fun _ => rfl
     simp only [List.flatMap_cons, List.length_append, List.length_cons, h4]; omega
 omega
theorem w_digest_Frame (tab : Tab) (gl : Gl) (tag : Nat) (ht : tag < 256) (fs : List (List UInt8)) (hb : (frameL tag fs).length < 1000000000) : ac_digest_Frame.wp tab gl (zipF 0 [.t (.int .i64 tag), .t (.sl (fs.map bsT))]) (zipF 0 []) (resF [] [(4, none)] 0 (fun r o => r = .sl 0 0 (frameL tag fs).length ∧ o = [.live 1 (((frameL tag fs).map byteT).map V.t) true false])) := by
 simp (disch := omega) only [go_sem, seval, ac_digest_Frame]
 have hge := frameL_ge (tag := tag) (fs := fs)
 refine loop_upto fs.length (fun k => [(5, .sl 8224 0 (frameL tag (fs.take k)).length), (12, V.t (T.sl (List.map bsT fs))), (13, .t (.int .i64 fs.length)), (14, .t (.int .i64 k))]) (fun k => [(8224, .live 1 (((frameL tag (fs.take k)).map byteT).map V.t) true false)]) ?_ (fun k hk => ?_)
 · refine Weak.rd id ?_ ?_ rfl
   all_goals simp (disch := omega) only [go_sem, seval, id, frameL, List.flatMap_nil, List.map_cons, List.map_nil]
 · have h0 := frameL_le (tag := tag) (fs := fs) (k := k)
   by_cases hlt : k < fs.length
   · have h1 := frameL_le (tag := tag) (fs := fs) (k := k + 1)
     rw [frameL_take hlt, List.length_append, List.length_append] at h1
     have h2 : (be32 (fs.getD k []).length).length = 4 := rfl
     simp (disch := omega) only [go_sem, seval, ac_digest_Frame_L0]
     refine ⟨hlt, Weak.rd (fun _ => 32800) ?_ ?_ rfl⟩
     all_goals simp (disch := omega) only [go_sem, seval, frameL_take, be32]
     simp only [List.append_assoc, List.cons_append, List.nil_append]
   · have e : k = fs.length := by omega
     subst e
     simp (disch := omega) only [go_sem, seval, ac_digest_Frame_L0, List.take_length]
theorem w_ref1_Same (tab : Tab) (gl : Gl) (a b : List UInt8) (ha : a.length < 1000000000) (hb : b.length < 1000000000) : ac_ref1_Same.wp tab gl (zipF 0 [.t (.sl (a.map byteT)), .t (.sl (b.map byteT))]) (zipF 0 []) (resW [(4, none)] 0 (fun r o => r = .t (.bool (decide (a = b))) ∧ o = [])) := by
 by_cases hl : a.length = b.length
 · simp (disch := omega) only [go_sem, seval, ac_ref1_Same]
   refine loop_uptoP a.length (fun i => a.take i = b.take i) (fun k => [(5, .t (.int .i64 k)), (0, .t (.sl (a.map byteT))), (1, .t (.sl (b.map byteT)))]) (fun _ => []) rfl ?_ (fun k hk hP => ?_)
   · refine Weak.rd id ?_ ?_ rfl
     all_goals simp (disch := omega) only [go_sem, seval, id]
   · by_cases hlt : k < a.length
     · by_cases he : a.getD k 0 = b.getD k 0
       · simp (disch := omega) only [go_sem, seval, ac_ref1_Same_L0, he]
         refine ⟨rfl, hlt, ?_, Weak.rd id ?_ ?_ rfl⟩
         · rw [take_s (d := 0) hlt, take_s (d := 0) (by omega), hP, he]
         all_goals simp (disch := omega) only [go_sem, seval, id]
       · have hne : ¬ a = b := fun h => he (by rw [h])
         simp (disch := omega) only [go_sem, seval, ac_ref1_Same_L0, he, hne]
         rfl
     · have e : k = a.length := by omega
       subst e
       rw [List.take_length, hl, List.take_length] at hP
       simp (disch := omega) only [go_sem, seval, ac_ref1_Same_L0, hP]
 · have hne : ¬ a = b := fun h => hl (by rw [h])
   simp (disch := omega) only [go_sem, seval, ac_ref1_Same, hne]
end Go.Eng
end
section
set_option maxRecDepth 20000
set_option maxHeartbeats 8000000
namespace Go.Eng
def ct_same : Ct where
 α := List UInt8 × List UInt8
 as x := [.t (.sl (x.1.map byteT)), .t (.sl (x.2.map byteT))]
 ins _ := []
 pre x := x.1.length < 1000000000 ∧ x.2.length < 1000000000
 r x := .t (.bool (decide (x.1 = x.2)))
 outs _ := []
 inj := by
   rintro ⟨a, b⟩ ⟨c, d⟩ h _
   simp [mapB_inj] at h
   obtain ⟨rfl, rfl⟩ := h
   exact ⟨rfl, rfl⟩
theorem same_eq {a b : List UInt8} (h : a.length < 1000000000 ∧ b.length < 1000000000) : ct_same.fs [.t (.sl (a.map byteT)), .t (.sl (b.map byteT))] [] = some (.t (.bool (decide (a = b))), []) := ct_same.eq (a, b) h
def modL (l : List (List UInt8)) : Prop := l.length < 1000000000 ∧ ∀ x ∈ l, x.length < 1000000000
theorem modL_get {l : List (List UInt8)} (h : modL l) (i : Nat) : (l.getD i []).length < 1000000000 := by
 by_cases hi : i < l.length
 · have : l.getD i [] = l[i] := by simp [List.getD, hi]
   rw [this]; exact h.2 _ (List.getElem_mem hi)
 · simp [List.getD, List.getElem?_eq_none (Nat.le_of_not_lt hi)]
theorem w_ref1_Lists (tab : Tab) (gl : Gl) (n1 : Nat) (h1 : tab.look n1 = some ct_same.fs) (a b : List (List UInt8)) (ha : modL a) (hb : modL b) : (ac_ref1_Lists n1).wp tab gl (zipF 0 [.t (.sl (a.map bsT)), .t (.sl (b.map bsT))]) (zipF 0 []) (resW [(4, none)] 0 (fun r o => r = .t (.bool (decide (a = b))) ∧ o = [])) := by
 have hal := ha.1
 have hbl := hb.1
 by_cases hl : a.length = b.length
 · simp (disch := omega) only [go_sem, seval, ac_ref1_Lists]
   refine loop_uptoP a.length (fun i => a.take i = b.take i) (fun k => [(5, .t (.int .i64 k)), (0, .t (.sl (a.map bsT))), (1, .t (.sl (b.map bsT)))]) (fun _ => []) rfl ?_ (fun k hk hP => ?_)
   · refine Weak.rd id ?_ ?_ rfl
     all_goals simp (disch := omega) only [go_sem, seval, id]
   · have m1 := modL_get ha k
     have m2 := modL_get hb k
     by_cases hlt : k < a.length
     · by_cases he : a.getD k [] = b.getD k []
       · simp (disch := omega) only [go_sem, seval, ac_ref1_Lists_L0, h1, same_eq, he]
         refine ⟨rfl, hlt, ?_, Weak.rd id ?_ ?_ rfl⟩
         · rw [take_s (d := []) hlt, take_s (d := []) (by omega), hP, he]
         all_goals simp (disch := omega) only [go_sem, seval, id]
       · have hne : ¬ a = b := fun h => he (by rw [h])
         simp (disch := omega) only [go_sem, seval, ac_ref1_Lists_L0, h1, same_eq, he, hne]
         rfl
     · have e : k = a.length := by omega
       subst e
       rw [List.take_length, hl, List.take_length] at hP
       simp (disch := omega) only [go_sem, seval, ac_ref1_Lists_L0, hP]
 · have hne : ¬ a = b := fun h => hl (by rw [h])
   simp (disch := omega) only [go_sem, seval, ac_ref1_Lists, hne]
theorem w_ref1_Collide (tab : Tab) (gl : Gl) (n1 n2 : Nat) (h1 : tab.look n1 = some ct_same.fs) (h2 : tab.look n2 = some (ct_sum 32 sum256).fs) (a b : List UInt8) (ha : a.length < 1000000000) (hb : b.length < 1000000000) :
   (ac_ref1_Collide n1 n2).wp tab gl (zipF 0 [.t (.sl (a.map byteT)), .t (.sl (b.map byteT)), .t (.int .i64 32)]) (zipF 0 []) (resW [(6, none)] 0 (fun r o => r = .t (.bool (!decide (a = b) && decide (sum256 a = sum256 b))) ∧ o = [])) := by
 have ht : ∀ x, List.take 32 (sum256 x) = sum256 x := fun x => List.take_of_length_le (by rw [sum256_length]; omega)
 have hl : ∀ x, (sum256 x).length = 32 := fun x => sum256_length
 have la := hl a
 have lb := hl b
 by_cases h : a = b
 · simp (disch := omega) only [go_sem, seval, ac_ref1_Collide, h1, h2, same_eq, sum_eq, h]
   rfl
 · simp (disch := omega) only [go_sem, seval, ac_ref1_Collide, h1, h2, same_eq, sum_eq, h, ht, hl]
   rfl
def ct_frame : Ct where
 α := Nat × List (List UInt8)
 as x := [.t (.int .i64 x.1), .t (.sl (x.2.map bsT))]
 ins _ := []
 pre x := x.1 < 256 ∧ (frameL x.1 x.2).length < 1000000000
 r x := .sl 0 0 (frameL x.1 x.2).length
 outs x := [.live 1 (((frameL x.1 x.2).map byteT).map V.t) true false]
 inj := by
   rintro ⟨a, b⟩ ⟨c, d⟩ h _
   simp [mapBs_inj, Int.natCast_inj] at h
   obtain ⟨rfl, rfl⟩ := h
   exact ⟨rfl, rfl⟩
theorem frame_eq {t : Nat} {fs : List (List UInt8)} (h : t < 256 ∧ (frameL t fs).length < 1000000000) : ct_frame.fs [.t (.int .i64 t), .t (.sl (fs.map bsT))] [] = some (.sl 0 0 (frameL t fs).length, [.live 1 (((frameL t fs).map byteT).map V.t) true false]) := ct_frame.eq (t, fs) h
def hashL (t : Nat) (fs : List (List UInt8)) : List UInt8 := sum256 (frameL t fs)
def ct_sumA : Ct where
 α := Nat × List UInt8
 as x := [.t (.int .i64 x.1), .t (.sl (x.2.map byteT))]
 ins _ := []
 pre x := x.1 < 2 ∧ x.2.length < 1000000000
 r x := .sl 0 0 (szA x.1)
 outs x := [.live 1 (((sumA x.1 x.2).map byteT).map V.t) true false]
 inj := by
   rintro ⟨a, b⟩ ⟨c, d⟩ h _
   simp [mapB_inj, Int.natCast_inj] at h
   obtain ⟨rfl, rfl⟩ := h
   exact ⟨rfl, rfl⟩
theorem sumA_eq0 {bs : List UInt8} (h : bs.length < 1000000000) : ct_sumA.fs [.t (.int .i64 0), .t (.sl (bs.map byteT))] [] = some (.sl 0 0 20, [.live 1 (((sum1 bs).map byteT).map V.t) true false]) := ct_sumA.eq (0, bs) ⟨by simp, h⟩
theorem sumA_eq1 {bs : List UInt8} (h : bs.length < 1000000000) : ct_sumA.fs [.t (.int .i64 1), .t (.sl (bs.map byteT))] [] = some (.sl 0 0 32, [.live 1 (((sum256 bs).map byteT).map V.t) true false]) := ct_sumA.eq (1, bs) ⟨by simp, h⟩
theorem w_digest_Hash (tab : Tab) (gl : Gl) (n1 n2 : Nat) (h1 : tab.look n1 = some ct_frame.fs) (h2 : tab.look n2 = some ct_sumA.fs) (t : Nat) (fs : List (List UInt8)) (ht : t < 256) (hb : (frameL t fs).length < 1000000000) :
   (ac_digest_Hash n1 n2).wp tab gl (zipF 0 [.t (.int .i64 t), .t (.sl (fs.map bsT))]) (zipF 0 []) (resF [] [(4, none)] 0 (fun r o => r = .sl 0 0 32 ∧ o = [.live 1 (((hashL t fs).map byteT).map V.t) true false])) := by
 simp (disch := omega) only [go_sem, seval, ac_digest_Hash, h1, h2, frame_eq, sumA_eq1, hashL]
theorem w_digest_Sum (tab : Tab) (gl : Gl) (n1 n2 n3 n4 : Nat) (h1 : tab.look n1 = some ct_pad.fs) (h2 : tab.look n2 = some (ct_comp 5 comp1).fs) (h3 : tab.look n3 = some ct_spread.fs) (h4 : tab.look n4 = some (ct_comp 8 comp256).fs) (a : Nat) (ha : a < 2) (bs : List UInt8) (hb : bs.length < 1000000000) :
   (ac_digest_Sum n1 n2 n3 n4).wp tab gl (zipF 0 [.t (.int .i64 a), .t (.sl (bs.map byteT))]) (zipF 0 []) (resF [] [(4, none)] 0 (fun r o => r = .sl 0 0 (szA a) ∧ o = [.live 1 (((sumA a bs).map byteT).map V.t) true false])) := by
 rcases (show a = 0 ∨ a = 1 by omega) with rfl | rfl
 · exact w_digest_Sum_1 tab gl n1 n2 n3 n4 h1 h3 h2 bs hb
 · exact w_digest_Sum_256 tab gl n1 n2 n3 n4 h1 h3 h4 bs hb
end Go.Eng
end
section
namespace Go.Eng
def ac_wire_Uint_L0 : AC :=
 (.seq
 (.seq
 (rG 24576 [mv 20 8,bN 21 .geq 20 0])
 (.cond (.tmp 21)
 .skip
 (.exit 0)))
 (.seq
 (.block 1
 (rG 32768 [mv 24 7,mv 25 2,oO 26 (.conv .u64) [.tmp 25],mv 27 8,oO 28 (.bin .mul) [.cst (.t (.int .i64 8)), .tmp 27],oO 29 (.conv .u64) [.tmp 28],bT 30 .shr 26 29,oO 31 (.conv .u8) [.tmp 30],oO 32 (.bslice 1 1 (.t (byteT 0)) [0]) [.tmp 31],oO 33 (.append 1 1) [.tmp 24, .tmp 32],mv 7 33]))
 (rG 28672 [mv 22 8,bN 23 .sub 22 1,mv 8 23])))
def ac_wire_Uint : AC :=
 (.seq
 (rG 4096 [mC 6 .nil])
 (.seq
 (rG 8192 [mv 9 0,oO 10 (.append 1 1) [.cst .nil, .tmp 9],mv 7 10])
 (.seq
 (.seq
 (rG 12288 [mv 11 1,bN 12 .lss 11 1,mv 13 12,mF 14 1 13,oF 15 13 (.bin .gtr) [.tmp 14, .cst (.t (.int .i64 8))],oO 16 .pick [.tmp 13, .cst (.t (.bool true)), .tmp 15]])
 (.cond (.tmp 16)
 (.seq
 (rG 16384 [mv 17 7,mv 6 17])
 .ret)
 .skip))
 (.seq
 (.seq
 (rG 20480 [mv 18 1,bN 19 .sub 18 1,mv 8 19])
 (.block 0
 (.loop ac_wire_Uint_L0)))
 (.seq
 (rG 36864 [mv 34 7,mv 6 34])
 .ret)))))
def hints_wire_Uint : List (Nat × List Nat) := []
def ac_ref3_Uint_L0 : AC :=
 (.seq
 (.seq
 (rG 24576 [mv 21 8,bN 22 .geq 21 0])
 (.cond (.tmp 22)
 .skip
 (.exit 0)))
 (.seq
 (.block 1
 (rG 32768 [mv 25 7,mv 26 2,oO 27 (.conv .u64) [.tmp 26],mv 28 8,oO 29 (.conv .u64) [.tmp 28],oO 30 (.bin .mul) [.cst (.t (.int .u64 8)), .tmp 29],bT 31 .shr 27 30,oO 32 (.conv .u8) [.tmp 31],oO 33 (.bslice 1 1 (.t (byteT 0)) [0]) [.tmp 32],oO 34 (.append 1 1) [.tmp 25, .tmp 33],mv 7 34]))
 (rG 28672 [mv 23 8,bN 24 .sub 23 1,mv 8 24])))
def ac_ref3_Uint : AC :=
 (.seq
 (rG 4096 [mC 6 .nil])
 (.seq
 (rG 8192 [oO 9 (.bslice 1 0 (.t (byteT 0)) []) [],mv 10 0,oO 11 (.append 1 1) [.tmp 9, .tmp 10],mv 7 11])
 (.seq
 (.seq
 (rG 12288 [mv 12 1,bN 13 .lss 12 1,mv 14 13,mF 15 1 14,oF 16 14 (.bin .gtr) [.tmp 15, .cst (.t (.int .i64 8))],oO 17 .pick [.tmp 14, .cst (.t (.bool true)), .tmp 16]])
 (.cond (.tmp 17)
 (.seq
 (rG 16384 [mv 18 7,mv 6 18])
 .ret)
 .skip))
 (.seq
 (.seq
 (rG 20480 [mv 19 1,bN 20 .sub 19 1,mv 8 20])
 (.block 0
 (.loop ac_ref3_Uint_L0)))
 (.seq
 (rG 36864 [mv 35 7,mv 6 35])
 .ret)))))
def hints_ref3_Uint : List (Nat × List Nat) := []
def ac_draw_Mod : AC :=
 (.seq
 (rG 4096 [mC 4 (.t (.int .i64 0))])
 (.seq
 (.seq
 (rG 8192 [mv 6 1,bN 7 .lss 6 1])
 (.cond (.tmp 7)
 (.seq
 (rG 12288 [mC 4 (.t (.int .i64 0))])
 .ret)
 .skip))
 (.seq
 (rG 16384 [mv 8 0,mv 9 1,bT 10 .rem 8 9,mv 5 10])
 (.seq
 (.seq
 (rG 20480 [mv 11 5,bN 12 .lss 11 0])
 (.cond (.tmp 12)
 (rG 24576 [mv 13 5,mv 14 1,bT 15 .add 13 14,mv 5 15])
 .skip))
 (.seq
 (rG 28672 [mv 16 5,mv 4 16])
 .ret)))))
def hints_draw_Mod : List (Nat × List Nat) := []
def ac_bytes_Repeat_L0 : AC :=
 (.seq
 (.seq
 (rG 77824 [mv 61 10,mv 62 7,bT 63 .lss 61 62])
 (.cond (.tmp 63)
 .skip
 (.exit 0)))
 (.block 1
 (.seq
 (rG 81920 [mv 64 10,mv 65 8,oO 66 .min [.tmp 64, .tmp 65],mv 11 66])
 (.reg 86016 (some [0, 0, 0, 6, 0, 0, 48, 126, 255, 511]) [mv 67 10,mv 68 9,mv 69 10,oO 70 (.slice 1 true false false) [.tmp 68, .tmp 69],mv 71 9,mv 72 11,oO 73 (.slice 1 false true false) [.tmp 71, .tmp 72],oO 74 (.copy 1) [.tmp 70, .tmp 73],bT 75 .add 67 74,mv 10 75]))))
def ac_bytes_Repeat (n_bits_Mul n_bytealg_MakeNoZero : Nat) : AC :=
 (.seq
 (rG 4096 [mC 4 .nil])
 (.seq
 (.seq
 (rG 8192 [mv 12 1,bN 13 .eql 12 0])
 (.cond (.tmp 13)
 (.seq
 (rG 12288 [oO 14 (.bslice 1 0 (.t (byteT 0)) []) [],mv 4 14])
 .ret)
 .skip))
 (.seq
 (.seq
 (rG 16384 [mv 15 1,bN 16 .lss 15 0])
 (.cond (.tmp 16)
 (rG 20480 [oO 17 .bad [],⟨none, (.op .bad), [], none⟩])
 .skip))
 (.seq
 (rG 24576 [mv 19 0,oO 20 .len [.tmp 19],oO 21 (.conv .u64) [.tmp 20],mv 22 1,oO 23 (.conv .u64) [.tmp 22],cL 24 n_bits_Mul false [.tmp 21, .tmp 23],mv 18 24,oO 25 (.extract 0) [.tmp 18],oO 26 (.extract 1) [.tmp 18],mv 5 25,mv 6 26])
 (.seq
 (.seq
 (rG 28672 [mv 27 5,oO 28 (.bin .gtr) [.tmp 27, .cst (.t (.int .u64 0))],mv 29 28,mF 30 6 29,oF 31 29 (.bin .gtr) [.tmp 30, .cst (.t (.int .u64 9223372036854775807))],oO 32 .pick [.tmp 29, .cst (.t (.bool true)), .tmp 31]])
 (.cond (.tmp 32)
 (rG 32768 [oO 33 .bad [],⟨none, (.op .bad), [], none⟩])
 .skip))
 (.seq
 (rG 36864 [mv 34 6,oO 35 (.conv .i64) [.tmp 34],mv 7 35])
 (.seq
 (.seq
 (rG 40960 [mv 36 0,oO 37 .len [.tmp 36],bN 38 .eql 37 0])
 (.cond (.tmp 38)
 (.seq
 (rG 45056 [oO 39 (.bslice 1 0 (.t (byteT 0)) []) [],mv 4 39])
 .ret)
 .skip))
 (.seq
 (rG 49152 [mv 40 7,mv 8 40])
 (.seq
 (.seq
 (rG 53248 [mv 41 8,bN 42 .gtr 41 8192])
 (.cond (.tmp 42)
 (.seq
 (rG 57344 [mv 43 0,oO 44 .len [.tmp 43],oO 45 (.bin .quo) [.cst (.t (.int .i64 8192)), .tmp 44],mv 46 0,oO 47 .len [.tmp 46],bT 48 .mul 45 47,mv 8 48])
 (.seq
 (rG 61440 [mv 49 8,bN 50 .eql 49 0])
 (.cond (.tmp 50)
 (rG 65536 [mv 51 0,oO 52 .len [.tmp 51],mv 8 52])
 .skip)))
 .skip))
 (.seq
 (rG 69632 [mv 53 7,cL 54 n_bytealg_MakeNoZero false [.tmp 53],mv 55 7,mv 56 7,oO 57 (.slice 1 false true true) [.tmp 54, .tmp 55, .tmp 56],mv 9 57])
 (.seq
 (rG 73728 [mv 58 9,mv 59 0,oO 60 (.copy 1) [.tmp 58, .tmp 59],mv 10 60])
 (.seq
 (.block 0
 (.loop ac_bytes_Repeat_L0))
 (.seq
 (rG 90112 [mv 76 9,mv 4 76])
 .ret)))))))))))))
def hints_bytes_Repeat : List (Nat × List Nat) := []
def ac_bits_Mul (n_bits_Mul32 n_bits_Mul64 : Nat) : AC :=
 (.seq
 (rG 4096 [mC 4 (.t (.int .u64 0)),mC 5 (.t (.int .u64 0))])
 (.seq
 (.cond (.cst (.t (.bool false)))
 (.seq
 (rG 8192 [mv 11 0,oO 12 (.conv .u32) [.tmp 11],mv 13 1,oO 14 (.conv .u32) [.tmp 13],cL 15 n_bits_Mul32 false [.tmp 12, .tmp 14],mv 10 15,oO 16 (.extract 0) [.tmp 10],oO 17 (.extract 1) [.tmp 10],mv 6 16,mv 7 17])
 (.seq
 (rG 12288 [mv 18 6,oO 19 (.conv .u64) [.tmp 18],mv 20 7,oO 21 (.conv .u64) [.tmp 20],mv 4 19,mv 5 21])
 .ret))
 .skip)
 (.seq
 (rG 16384 [mv 23 0,mv 24 1,cL 25 n_bits_Mul64 false [.tmp 23, .tmp 24],mv 22 25,oO 26 (.extract 0) [.tmp 22],oO 27 (.extract 1) [.tmp 22],mv 8 26,mv 9 27])
 (.seq
 (rG 20480 [mv 28 8,mv 29 9,mv 4 28,mv 5 29])
 .ret))))
def hints_bits_Mul : List (Nat × List Nat) := []
def ac_bits_Mul64 : AC :=
 (.seq
 (rG 4096 [mC 4 (.t (.int .u64 0)),mC 5 (.t (.int .u64 0))])
 (.seq
 (rG 8192 [mv 14 0,oO 15 (.bin .and) [.tmp 14, .cst (.t (.int .u64 4294967295))],mv 6 15])
 (.seq
 (rG 12288 [mv 16 0,oO 17 (.bin .shr) [.tmp 16, .cst (.t (.int .u64 32))],mv 7 17])
 (.seq
 (rG 16384 [mv 18 1,oO 19 (.bin .and) [.tmp 18, .cst (.t (.int .u64 4294967295))],mv 8 19])
 (.seq
 (rG 20480 [mv 20 1,oO 21 (.bin .shr) [.tmp 20, .cst (.t (.int .u64 32))],mv 9 21])
 (.seq
 (rG 24576 [mv 22 6,mv 23 8,bT 24 .mul 22 23,mv 10 24])
 (.seq
 (rG 28672 [mv 25 7,mv 26 8,bT 27 .mul 25 26,mv 28 10,oO 29 (.bin .shr) [.tmp 28, .cst (.t (.int .u64 32))],bT 30 .add 27 29,mv 11 30])
 (.seq
 (rG 32768 [mv 31 11,oO 32 (.bin .and) [.tmp 31, .cst (.t (.int .u64 4294967295))],mv 12 32])
 (.seq
 (rG 36864 [mv 33 11,oO 34 (.bin .shr) [.tmp 33, .cst (.t (.int .u64 32))],mv 13 34])
 (.seq
 (rG 40960 [mv 35 12,mv 36 6,mv 37 9,bT 38 .mul 36 37,bT 39 .add 35 38,mv 12 39])
 (.seq
 (rG 45056 [mv 40 7,mv 41 9,bT 42 .mul 40 41,mv 43 13,bT 44 .add 42 43,mv 45 12,oO 46 (.bin .shr) [.tmp 45, .cst (.t (.int .u64 32))],bT 47 .add 44 46,mv 4 47])
 (.seq
 (rG 49152 [mv 48 0,mv 49 1,bT 50 .mul 48 49,mv 5 50])
 .ret))))))))))))
def hints_bits_Mul64 : List (Nat × List Nat) := []
end Go.Eng
end
section
set_option maxRecDepth 20000
set_option maxHeartbeats 8000000
namespace Go.Eng
def m64 (n : Int) : Nat := (n % 18446744073709551616).toNat
def beI (size : Nat) (n : Int) (k : Nat) : List UInt8 := (List.range k).map fun i => UInt8.ofNat (m64 n / 2 ^ (8 * (size - 1 - i)))
theorem beI_zero {size : Nat} {n : Int} : beI size n 0 = [] := rfl
theorem beI_length {size : Nat} {n : Int} {k : Nat} : (beI size n k).length = k := by simp [beI]
theorem beI_succ {size : Nat} {n : Int} {k : Nat} : beI size n (k + 1) = beI size n k ++ [UInt8.ofNat (m64 n / 2 ^ (8 * (size - 1 - k)))] := by simp [beI, List.range_succ]
theorem m64_wrap {n : Int} : IntKind.u64.wrap n = (m64 n : Int) := by rw [wrap_u64, m64]; omega
theorem w_wire_Uint (tab : Tab) (gl : Gl) (b : List UInt8) (size : Nat) (n : Int) (hb : b.length < 1000000000) (hs : 1 ≤ size ∧ size ≤ 8) : ac_wire_Uint.wp tab gl (zipF 0 [.t (.sl (b.map byteT)), .t (.int .i64 size), .t (.int .i64 n)]) (zipF 0 []) (resF [] [(6, none)] 0 (fun r o => r = .sl 0 0 (b.length + size) ∧ o = [.live 1 (((b ++ beI size n size).map byteT).map V.t) true false])) := by
 have hw := m64_wrap (n := n)
 simp (disch := omega) only [go_sem, seval, ac_wire_Uint]
 refine loop_upto size (fun k => [(2, .t (.int .i64 n)), (7, .sl 8208 0 (b.length + k)), (8, .t (.int .i64 ((size : Int) - 1 - k)))]) (fun k => [(8208, .live 1 (((b ++ beI size n k).map byteT).map V.t) true false)]) ?_ (fun k hk => ?_)
 · refine Weak.rd id ?_ ?_ rfl
   all_goals simp (disch := omega) only [go_sem, seval, id, beI_zero, List.append_nil]
   all_goals omega
 · have hl : (beI size n k).length = k := beI_length
   by_cases hlt : k < size
   · simp (disch := omega) only [go_sem, seval, ac_wire_Uint_L0, hl, hw]
     refine ⟨hlt, Weak.rd (fun _ => 32912) ?_ ?_ rfl⟩
     all_goals simp (disch := omega) only [go_sem, seval, beI_succ, List.append_assoc, Nat.add_assoc]
     all_goals first | omega | rfl
   · have e : k = size := by omega
     subst e
     simp (disch := omega) only [go_sem, seval, ac_wire_Uint_L0, hl]
theorem w_ref3_Uint (tab : Tab) (gl : Gl) (b : List UInt8) (size : Nat) (n : Int) (hb : b.length < 1000000000) (hs : 1 ≤ size ∧ size ≤ 8) : ac_ref3_Uint.wp tab gl (zipF 0 [.t (.sl (b.map byteT)), .t (.int .i64 size), .t (.int .i64 n)]) (zipF 0 []) (resF [] [(6, none)] 0 (fun r o => r = .sl 0 0 (b.length + size) ∧ o = [.live 1 (((b ++ beI size n size).map byteT).map V.t) true false])) := by
 have hw := m64_wrap (n := n)
 simp (disch := omega) only [go_sem, seval, ac_ref3_Uint]
 refine loop_upto size (fun k => [(2, .t (.int .i64 n)), (7, .sl 8224 0 (b.length + k)), (8, .t (.int .i64 ((size : Int) - 1 - k)))]) (fun k => [(8224, .live 1 (((b ++ beI size n k).map byteT).map V.t) true false)]) ?_ (fun k hk => ?_)
 · refine Weak.rd id ?_ ?_ rfl
   all_goals simp (disch := omega) only [go_sem, seval, id, beI_zero, List.append_nil]
   all_goals omega
 · have hl : (beI size n k).length = k := beI_length
   by_cases hlt : k < size
   · simp (disch := omega) only [go_sem, seval, ac_ref3_Uint_L0, hl, hw]
     refine ⟨hlt, Weak.rd (fun _ => 32912) ?_ ?_ rfl⟩
     all_goals simp (disch := omega) only [go_sem, seval, beI_succ, List.append_assoc, Nat.add_assoc]
     all_goals first | omega | rfl
   · have e : k = size := by omega
     subst e
     simp (disch := omega) only [go_sem, seval, ac_ref3_Uint_L0, hl]
abbrev Rd := List UInt8 × Nat × Int
end Go.Eng
end
section
set_option maxRecDepth 20000
set_option maxHeartbeats 8000000
namespace Go.Eng
def beV (bs : List UInt8) : Nat := bs.foldl (fun n x => 256 * n + x.toNat) 0
def rdUint (s : Rd) (k : Nat) : Int × Rd :=
 if s.2.2 ≠ 0 then (0, s) else if s.1.length < s.2.1 + k then (0, (s.1, s.2.1, 2))
 else if 9223372036854775808 ≤ beV ((s.1.drop s.2.1).take k) then (0, (s.1, s.2.1, 4)) else (beV ((s.1.drop s.2.1).take k), (s.1, s.2.1 + k, 0))
end Go.Eng
end
section
set_option maxRecDepth 20000
set_option maxHeartbeats 8000000
namespace Go.Eng
def modI (n m : Int) : Int := if m < 1 then 0 else n % m
theorem w_draw_Mod (tab : Tab) (gl : Gl) (n m : Int) (hn : -9223372036854775808 ≤ n ∧ n < 9223372036854775808) (hm : -9223372036854775808 ≤ m ∧ m < 9223372036854775808) : ac_draw_Mod.wp tab gl (zipF 0 [.t (.int .i64 n), .t (.int .i64 m)]) (zipF 0 []) (resW [(4, none)] 0 (fun r o => r = .t (.int .i64 (modI n m)) ∧ o = [])) := by
 by_cases h1 : m < 1
 · simp (disch := omega) only [go_sem, seval, ac_draw_Mod, modI, h1]
 · have ht : n.tmod m = n % m ∨ n.tmod m = n % m - m := by
     rcases Int.lt_or_le n 0 with h | h
     · by_cases hz : n % m = 0
       · left
         rw [Int.tmod_eq_emod]; simp [hz, Int.dvd_of_emod_eq_zero hz]
       · right
         rw [Int.tmod_eq_emod]
         have : ¬ m ∣ n := fun hd => hz (Int.emod_eq_zero_of_dvd hd)
         rw [if_neg (by omega)]; omega
     · left; exact Int.tmod_eq_emod_of_nonneg h
   have p1 := Int.emod_nonneg n (b := m) (by omega)
   have p2 := Int.emod_lt_of_pos n (b := m) (by omega)
   rcases ht with ht | ht
   · simp (disch := omega) only [go_sem, seval, ac_draw_Mod, modI, h1, ht]
   · simp (disch := omega) only [go_sem, seval, ac_draw_Mod, modI, h1, ht]
     omega
end Go.Eng
end
section
namespace Go.Eng
def ac_registers_active_L0 : AC :=
 (.seq
 (rG 16384 [bT 9 .lss 8 7])
 (.seq
 (.cond (.tmp 9)
 .skip
 (.exit 0))
 (.seq
 (.block 1
 (.seq
 (rG 20480 [mv 10 8,mv 4 10])
 (.seq
 (rG 24576 [mv 11 4,bN 12 .lss 11 2,mv 13 12,oG 14 13 (.faddr 0) [.tmp 1],oG 15 13 (.load 1 false) [.tmp 14],mG 16 4 13,oG 17 13 (.iaddr 1) [.tmp 15, .tmp 16],oG 18 13 (.load 1 false) [.tmp 17],oG 19 13 .len [.tmp 18],oG 20 13 (.bin .eql) [.tmp 19, .cst (.t (.int .i64 16))],oO 21 .pick [.tmp 13, .tmp 20, .cst (.t (.bool false))]])
 (.cond (.tmp 21)
 (rG 28672 [mv 22 3,mv 23 4,oO 24 (.conv .u64) [.tmp 23],oO 25 (.bin .shl) [.cst (.t (.int .i64 1)), .tmp 24],bT 26 .or 22 25,mv 3 26])
 .skip))))
 (rG 32768 [bN 27 .add 8 1,mv 8 27]))))
def ac_registers_active : AC :=
 (.seq
 (rG 4096 [oO 1 .box [.tmp 0],mC 2 (.t (.int .i64 0))])
 (.seq
 (rG 8192 [mC 3 (.t (.int .i64 0))])
 (.seq
 (.seq
 (rG 12288 [oO 5 (.faddr 0) [.tmp 1],oO 6 (.load 1 false) [.tmp 5],oO 7 .len [.tmp 6],mC 8 (.t (.int .i64 0))])
 (.block 0
 (.loop ac_registers_active_L0)))
 (.seq
 (rG 36864 [mv 28 3,mv 2 28])
 .ret))))
def hints_registers_active : List (Nat × List Nat) := []
def ac_registers_on (n_registers_active : Nat) : AC :=
 (.seq
 (rG 4096 [oO 2 .box [.tmp 0],mC 4 (.t (.bool false))])
 (.seq
 (rG 8192 [oO 5 (.load 2 true) [.tmp 2],cL 6 n_registers_active false [.tmp 5],mv 7 1,oO 8 (.conv .u64) [.tmp 7],bT 9 .shr 6 8,bN 10 .and 9 1,bN 11 .eql 10 1,mv 4 11])
 .ret))
def hints_registers_on : List (Nat × List Nat) := []
def ac_registers_twin_L1 : AC :=
 (.seq
 (rG 32768 [bT 22 .lss 21 20])
 (.seq
 (.cond (.tmp 22)
 .skip
 (.exit 2))
 (.seq
 (.block 3
 (.seq
 (rG 36864 [oO 23 (.iaddr 1) [.tmp 19, .tmp 21],oO 24 (.load 1 false) [.tmp 23],mv 8 24])
 (rG 40960 [mv 25 6,mv 26 8,oO 27 (.append 1 1) [.cst .nil, .tmp 26],oO 28 (.bslice 1 1 .nil [0]) [.tmp 27],oO 29 (.append 1 24) [.tmp 25, .tmp 28],mv 6 29])))
 (rG 45056 [bN 30 .add 21 1,mv 21 30]))))
def ac_registers_twin_L0 : AC :=
 (.seq
 (rG 16384 [bT 16 .lss 15 14])
 (.seq
 (.cond (.tmp 16)
 .skip
 (.exit 0))
 (.seq
 (.block 1
 (.seq
 (rG 20480 [oO 17 (.iaddr 1) [.tmp 13, .tmp 15],oO 18 (.load 1 false) [.tmp 17],mv 5 18])
 (.seq
 (rG 24576 [mC 6 .nil])
 (.seq
 (.seq
 (rG 28672 [mv 19 5,oO 20 .len [.tmp 19],mC 21 (.t (.int .i64 0))])
 (.block 2
 (.loop ac_registers_twin_L1)))
 (rG 49152 [oO 31 (.faddr 0) [.tmp 3],oO 32 (.load 1 false) [.tmp 31],mv 33 6,oO 34 (.bslice 1 1 .nil [0]) [.tmp 33],oO 35 (.append 1 24) [.tmp 32, .tmp 34],oO 36 (.faddr 0) [.tmp 3],oS 1 36 35])))))
 (rG 53248 [bN 37 .add 15 1,mv 15 37]))))
def ac_registers_twin : AC :=
 (.seq
 (rG 4096 [oO 1 .box [.tmp 0],oO 2 (.new 2 [(.agg [.nil, (.t (.int .i64 0))])]) []])
 (.seq
 (rG 8192 [oO 9 (.faddr 1) [.tmp 1],oO 10 (.load 1 false) [.tmp 9],oO 11 (.build [.nil, (.t (.int .i64 0))] [(1, 1)]) [.tmp 10],oO 3 (.new 2 [(.agg [.nil, (.t (.int .i64 0))])]) [],oS 2 3 11])
 (.seq
 (.seq
 (rG 12288 [oO 12 (.faddr 0) [.tmp 1],oO 13 (.load 1 false) [.tmp 12],oO 14 .len [.tmp 13],mC 15 (.t (.int .i64 0))])
 (.block 0
 (.loop ac_registers_twin_L0)))
 (.seq
 (rG 57344 [oO 38 (.load 2 true) [.tmp 3],oS 2 2 38])
 .ret))))
def hints_registers_twin : List (Nat × List Nat) := []
def ac_registers_fill (n_bytes_Repeat : Nat) : AC :=
 (.seq
 (rG 4096 [mC 4 .nil])
 (.seq
 (rG 8192 [mv 5 1,oO 6 (.bslice 1 1 (.t (byteT 0)) [0]) [.tmp 5],mv 7 0,cL 8 n_bytes_Repeat false [.tmp 6, .tmp 7],mv 4 8])
 .ret))
def hints_registers_fill : List (Nat × List Nat) := []
def ac_registers_index : AC :=
 (.seq
 (rG 4096 [mC 2 (.t (.bool false))])
 (.seq
 (rG 8192 [mv 3 0,bN 4 .geq 3 0,mv 5 4,mG 6 0 5,oG 7 5 (.bin .lss) [.tmp 6, .cst (.t (.int .i64 16))],oO 8 .pick [.tmp 5, .tmp 7, .cst (.t (.bool false))],mv 2 8])
 .ret))
def hints_registers_index : List (Nat × List Nat) := []
def ac_registers_New_L1 (n_digest_Size n_registers_fill : Nat) : AC :=
 (.seq
 (.seq
 (rG 40960 [mv 15 6,bN 16 .lss 15 16,mv 17 16,mG 18 0 17,mG 19 4 17,oG 20 17 (.conv .u64) [.tmp 19],oG 21 17 (.bin .shr) [.tmp 18, .tmp 20],oG 22 17 (.bin .and) [.tmp 21, .cst (.t (.int .i64 1))],oG 23 17 (.bin .eql) [.tmp 22, .cst (.t (.int .i64 1))],oO 24 .pick [.tmp 17, .tmp 23, .cst (.t (.bool false))]])
 (.cond (.tmp 24)
 .skip
 (.exit 2)))
 (.seq
 (.block 3
 (.seq
 (rG 49152 [mC 7 (.t (byteT 0))])
 (.seq
 (.seq
 (rG 53248 [mv 27 6,bN 28 .geq 27 12])
 (.cond (.tmp 28)
 (rG 57344 [mC 7 (.t (byteT 255))])
 .skip))
 (rG 61440 [mv 29 5,mv 30 4,cL 31 n_digest_Size false [.tmp 30],mv 32 7,cL 33 n_registers_fill false [.tmp 31, .tmp 32],oO 34 (.bslice 1 1 .nil [0]) [.tmp 33],oO 35 (.append 1 24) [.tmp 29, .tmp 34],mv 5 35]))))
 (rG 45056 [mv 25 6,bN 26 .add 25 1,mv 6 26])))
def ac_registers_New_L0 (n_digest_Size n_registers_fill : Nat) : AC :=
 (.seq
 (rG 24576 [bN 13 .lss 12 2])
 (.seq
 (.cond (.tmp 13)
 .skip
 (.exit 0))
 (.seq
 (.block 1
 (.seq
 (rG 28672 [mv 14 12,mv 4 14])
 (.seq
 (rG 32768 [mC 5 .nil])
 (.seq
 (.seq
 (rG 36864 [mC 6 (.t (.int .i64 0))])
 (.block 2
 (.loop (ac_registers_New_L1 n_digest_Size n_registers_fill))))
 (rG 65536 [oO 36 (.faddr 0) [.tmp 3],oO 37 (.load 1 false) [.tmp 36],mv 38 5,oO 39 (.bslice 1 1 .nil [0]) [.tmp 38],oO 40 (.append 1 24) [.tmp 37, .tmp 39],oO 41 (.faddr 0) [.tmp 3],oS 1 41 40])))))
 (rG 69632 [bN 42 .add 12 1,mv 12 42]))))
def ac_registers_New (n_digest_Size n_registers_fill : Nat) : AC :=
 (.seq
 (rG 4096 [oO 2 (.new 2 [(.agg [.nil, (.t (.int .i64 0))])]) []])
 (.seq
 (.seq
 (rG 8192 [mv 8 0,bN 9 .and 8 3,bN 10 .eql 9 0])
 (.cond (.tmp 10)
 (.seq
 (rG 12288 [oO 11 (.build [.nil, (.t (.int .i64 0))] []) [],oS 2 2 11])
 .ret)
 .skip))
 (.seq
 (rG 16384 [oO 3 (.new 2 [(.agg [.nil, (.t (.int .i64 0))])]) []])
 (.seq
 (.seq
 (rG 20480 [mC 12 (.t (.int .i64 0))])
 (.block 0
 (.loop (ac_registers_New_L0 n_digest_Size n_registers_fill))))
 (.seq
 (rG 73728 [oO 43 (.load 2 true) [.tmp 3],oS 2 2 43])
 .ret)))))
def hints_registers_New : List (Nat × List Nat) := []
def ac_registers_Value (n_registers_index n_registers_on : Nat) : AC :=
 (.seq
 (rG 4096 [oO 3 .box [.tmp 0],mC 6 .nil,mC 7 (.t (.int .i64 0))])
 (.seq
 (.seq
 (rG 8192 [mv 8 1,bN 9 .lss 8 0,mv 10 9,mF 11 1 10,oF 12 10 (.bin .geq) [.tmp 11, .cst (.t (.int .i64 2))],oO 13 .pick [.tmp 10, .cst (.t (.bool true)), .tmp 12],mv 14 13,mF 15 2 14,cF 16 14 n_registers_index false [.tmp 15],oF 17 14 (.un .not) [.tmp 16],oO 18 .pick [.tmp 14, .cst (.t (.bool true)), .tmp 17]])
 (.cond (.tmp 18)
 (.seq
 (rG 12288 [mC 6 .nil,mC 7 (.t (.int .i64 1))])
 .ret)
 .skip))
 (.seq
 (.seq
 (rG 16384 [oO 19 (.load 2 true) [.tmp 3],mv 20 1,cL 21 n_registers_on false [.tmp 19, .tmp 20],oO 22 (.un .not) [.tmp 21]])
 (.cond (.tmp 22)
 (.seq
 (rG 20480 [mC 6 .nil,mC 7 (.t (.int .i64 27))])
 .ret)
 .skip))
 (.seq
 (rG 24576 [oO 23 (.faddr 0) [.tmp 3],oO 24 (.load 1 false) [.tmp 23],mv 25 1,oO 26 (.iaddr 1) [.tmp 24, .tmp 25],oO 27 (.load 1 false) [.tmp 26],mv 28 2,oO 29 (.iaddr 1) [.tmp 27, .tmp 28],oO 30 (.load 1 false) [.tmp 29],oO 31 (.append 1 1) [.cst .nil, .tmp 30],mv 6 31,mC 7 (.t (.int .i64 0))])
 .ret))))
def hints_registers_Value : List (Nat × List Nat) := []
def ac_registers_least : AC :=
 (.seq
 (rG 4096 [mC 4 (.t (.int .i64 0))])
 (.seq
 (.block 0
 (.seq
 (rG 8192 [mv 6 1,mv 7 6,mG 8 0 7,oG 9 7 (.bin .lss) [.tmp 8, .cst (.t (.int .i64 12))],oO 10 .pick [.tmp 7, .tmp 9, .cst (.t (.bool false))],mv 5 10])
 (.cond (.tmp 5)
 (.seq
 (rG 12288 [mC 4 (.t (.int .i64 5))])
 .ret)
 (.seq
 (rG 16384 [mv 12 0,bN 13 .eql 12 14,mv 11 13])
 (.cond (.tmp 11)
 (.seq
 (.seq
 (rG 20480 [mv 14 1])
 (.cond (.tmp 14)
 (.seq
 (rG 24576 [mC 4 (.t (.int .i64 3))])
 .ret)
 .skip))
 (.seq
 (rG 28672 [mC 4 (.t (.int .i64 2))])
 .ret))
 (.seq
 (rG 32768 [mv 16 0,bN 17 .eql 16 15,mv 15 17])
 (.cond (.tmp 15)
 (.seq
 (.seq
 (rG 36864 [mv 18 1])
 (.cond (.tmp 18)
 (.seq
 (rG 40960 [mC 4 (.t (.int .i64 4))])
 .ret)
 .skip))
 (.seq
 (rG 45056 [mC 4 (.t (.int .i64 3))])
 .ret))
 .skip)))))))
 (.seq
 (rG 49152 [mC 4 (.t (.int .i64 0))])
 .ret)))
def hints_registers_least : List (Nat × List Nat) := []
def ac_registers_Extend_L0 (n_registers_on : Nat) : AC :=
 (.seq
 (rG 28672 [bT 41 .lss 40 39])
 (.seq
 (.cond (.tmp 41)
 .skip
 (.exit 0))
 (.seq
 (.block 1
 (.seq
 (rG 32768 [mv 42 40,oO 43 (.iaddr 1) [.tmp 38, .tmp 40],oO 44 (.load 1 false) [.tmp 43],mv 10 42,mv 11 44])
 (.seq
 (rG 36864 [oO 45 (.load 2 true) [.tmp 4],mv 46 10,cL 47 n_registers_on false [.tmp 45, .tmp 46],oO 48 (.un .not) [.tmp 47],mv 49 48,mG 50 11 49,oG 51 49 .len [.tmp 50],oG 52 49 (.bin .gtr) [.tmp 51, .cst (.t (.int .i64 0))],oO 53 .pick [.tmp 49, .tmp 52, .cst (.t (.bool false))]])
 (.cond (.tmp 53)
 (.seq
 (rG 40960 [oO 54 (.build [.nil, (.t (.int .i64 0))] []) [],oS 2 8 54,mC 9 (.t (.int .i64 27))])
 .ret)
 .skip))))
 (rG 45056 [bN 55 .add 40 1,mv 40 55]))))
def ac_registers_Extend_L1 (n_registers_on n_digest_Size : Nat) : AC :=
 (.seq
 (rG 53248 [bT 59 .lss 58 57])
 (.seq
 (.cond (.tmp 59)
 .skip
 (.exit 2))
 (.seq
 (.block 3
 (.seq
 (rG 57344 [mv 60 58,oO 61 (.iaddr 1) [.tmp 56, .tmp 58],oO 62 (.load 1 false) [.tmp 61],mv 12 60,mv 13 62])
 (.seq
 (rG 61440 [oO 63 (.load 2 true) [.tmp 4],mv 64 12,cL 65 n_registers_on false [.tmp 63, .tmp 64],mv 66 65,mG 67 13 66,oG 68 66 .len [.tmp 67],mG 69 12 66,cG 70 66 n_digest_Size false [.tmp 69],oG 71 66 (.bin .neq) [.tmp 68, .tmp 70],oO 72 .pick [.tmp 66, .tmp 71, .cst (.t (.bool false))]])
 (.cond (.tmp 72)
 (.seq
 (rG 65536 [oO 73 (.build [.nil, (.t (.int .i64 0))] []) [],oS 2 8 73,mC 9 (.t (.int .i64 24))])
 .ret)
 .skip))))
 (rG 69632 [bN 74 .add 58 1,mv 58 74]))))
def ac_registers_Extend_L2 (n_registers_on n_digest_Sum : Nat) : AC :=
 (.seq
 (rG 81920 [bT 81 .lss 80 79])
 (.seq
 (.cond (.tmp 81)
 .skip
 (.exit 4))
 (.seq
 (.block 5
 (.seq
 (rG 86016 [mv 82 80,mv 15 82])
 (.seq
 (rG 90112 [oO 83 (.load 2 true) [.tmp 4],mv 84 15,cL 85 n_registers_on false [.tmp 83, .tmp 84]])
 (.cond (.tmp 85)
 (.reg 94208 (some [0, 1, 0, 7, 15, 0, 0, 0, 128, 0, 896, 1920, 0, 8064, 16256, 32640, 0, 0, 196608, 458752, 1048448, 2097088, 4194303, 8388607]) [oO 86 (.faddr 0) [.tmp 14],oO 87 (.load 1 false) [.tmp 86],mv 88 15,oO 89 (.iaddr 1) [.tmp 87, .tmp 88],oO 90 (.load 1 false) [.tmp 89],mv 91 2,mv 92 15,oO 93 (.faddr 0) [.tmp 4],oO 94 (.load 1 false) [.tmp 93],mv 95 15,oO 96 (.iaddr 1) [.tmp 94, .tmp 95],oO 97 (.load 1 false) [.tmp 96],mv 98 2,oO 99 (.iaddr 1) [.tmp 97, .tmp 98],oO 100 (.load 1 false) [.tmp 99],oO 101 (.append 1 1) [.cst .nil, .tmp 100],mv 102 3,mv 103 15,oO 104 (.iaddr 1) [.tmp 102, .tmp 103],oO 105 (.load 1 false) [.tmp 104],oO 106 (.append 1 1) [.tmp 101, .tmp 105],cL 107 n_digest_Sum false [.tmp 92, .tmp 106],oO 108 (.iaddr 1) [.tmp 90, .tmp 91],oS 1 108 107])
 .skip))))
 (rG 98304 [bN 109 .add 80 1,mv 80 109]))))
def ac_registers_Extend (n_registers_index n_registers_least n_registers_on n_digest_Size n_registers_twin n_digest_Sum : Nat) : AC :=
 (.seq
 (rG 4096 [oO 4 .box [.tmp 0],oO 8 (.new 2 [(.agg [.nil, (.t (.int .i64 0))])]) [],mC 9 (.t (.int .i64 0))])
 (.seq
 (.seq
 (rG 8192 [mv 16 1,bN 17 .lss 16 0,mv 18 17,mF 19 1 18,oF 20 18 (.bin .gtr) [.tmp 19, .cst (.t (.int .i64 4))],oO 21 .pick [.tmp 18, .cst (.t (.bool true)), .tmp 20],mv 22 21,mF 23 2 22,cF 24 22 n_registers_index false [.tmp 23],oF 25 22 (.un .not) [.tmp 24],oO 26 .pick [.tmp 22, .cst (.t (.bool true)), .tmp 25],mv 27 26,mF 28 3 27,oF 29 27 .len [.tmp 28],oF 30 27 (.bin .neq) [.tmp 29, .cst (.t (.int .i64 2))],oO 31 .pick [.tmp 27, .cst (.t (.bool true)), .tmp 30]])
 (.cond (.tmp 31)
 (.seq
 (rG 12288 [oO 32 (.build [.nil, (.t (.int .i64 0))] []) [],oS 2 8 32,mC 9 (.t (.int .i64 1))])
 .ret)
 .skip))
 (.seq
 (.seq
 (rG 16384 [mv 33 1,mv 34 2,cL 35 n_registers_least false [.tmp 34, .cst (.t (.bool false))],bT 36 .lss 33 35])
 (.cond (.tmp 36)
 (.seq
 (rG 20480 [oO 37 (.build [.nil, (.t (.int .i64 0))] []) [],oS 2 8 37,mC 9 (.t (.int .i64 13))])
 .ret)
 .skip))
 (.seq
 (.seq
 (rG 24576 [mv 38 3,oO 39 .len [.tmp 38],mC 40 (.t (.int .i64 0))])
 (.block 0
 (.loop (ac_registers_Extend_L0 n_registers_on))))
 (.seq
 (.seq
 (rG 49152 [mv 56 3,oO 57 .len [.tmp 56],mC 58 (.t (.int .i64 0))])
 (.block 2
 (.loop (ac_registers_Extend_L1 n_registers_on n_digest_Size))))
 (.seq
 (rG 73728 [oO 75 (.load 2 true) [.tmp 4],cL 76 n_registers_twin true [.tmp 75],oO 14 (.new 2 [(.agg [.nil, (.t (.int .i64 0))])]) [],oS 2 14 76])
 (.seq
 (.seq
 (rG 77824 [oO 77 (.faddr 0) [.tmp 14],oO 78 (.load 1 false) [.tmp 77],oO 79 .len [.tmp 78],mC 80 (.t (.int .i64 0))])
 (.block 4
 (.loop (ac_registers_Extend_L2 n_registers_on n_digest_Sum))))
 (.seq
 (rG 102400 [oO 110 (.faddr 1) [.tmp 14],oO 111 (.load 1 false) [.tmp 110],bN 112 .add 111 1,oO 113 (.faddr 1) [.tmp 14],oS 1 113 112])
 (.seq
 (rG 106496 [oO 114 (.load 2 true) [.tmp 14],oS 2 8 114,mC 9 (.t (.int .i64 0))])
 .ret)))))))))
def hints_registers_Extend : List (Nat × List Nat) := [(17, [1])]
def ac_registers_Digest_L0 (n_wire_Uint : Nat) : AC :=
 (.seq
 (rG 16384 [bN 15 .lss 14 2])
 (.seq
 (.cond (.tmp 15)
 .skip
 (.exit 0))
 (.seq
 (.block 1
 (.seq
 (rG 20480 [oO 16 (.index 2 1 false) [.tmp 13, .tmp 14],mv 9 16])
 (.seq
 (.seq
 (rG 24576 [mv 17 9,bN 18 .lss 17 0,mv 19 18,mF 20 9 19,oF 21 19 (.bin .gtr) [.tmp 20, .cst (.t (.int .i64 65535))],oO 22 .pick [.tmp 19, .cst (.t (.bool true)), .tmp 21]])
 (.cond (.tmp 22)
 (.seq
 (rG 28672 [mC 4 .nil,mC 5 (.t (.int .i64 1))])
 .ret)
 .skip))
 (rG 32768 [mv 23 6,mv 24 9,cL 25 n_wire_Uint false [.tmp 23, .cst (.t (.int .i64 2)), .tmp 24],mv 6 25]))))
 (rG 36864 [bN 26 .add 14 1,mv 14 26]))))
def ac_registers_Digest_L2 : AC :=
 (.seq
 (rG 65536 [bN 41 .lss 40 16])
 (.seq
 (.cond (.tmp 41)
 .skip
 (.exit 4))
 (.seq
 (.block 5
 (.seq
 (rG 69632 [mv 42 40,mv 12 42])
 (.seq
 (rG 73728 [mv 43 11,mv 44 12,oO 45 (.conv .u64) [.tmp 44],bT 46 .shr 43 45,bN 47 .and 46 1,bN 48 .eql 47 1])
 (.cond (.tmp 48)
 (rG 77824 [mv 49 7,oO 50 (.faddr 0) [.tmp 2],oO 51 (.load 1 false) [.tmp 50],mv 52 10,oO 53 (.iaddr 1) [.tmp 51, .tmp 52],oO 54 (.load 1 false) [.tmp 53],mv 55 12,oO 56 (.iaddr 1) [.tmp 54, .tmp 55],oO 57 (.load 1 false) [.tmp 56],oO 58 (.append 1 1) [.tmp 49, .tmp 57],mv 7 58])
 .skip))))
 (rG 81920 [bN 59 .add 40 1,mv 40 59]))))
def ac_registers_Digest_L1 (n_registers_on : Nat) : AC :=
 (.seq
 (rG 45056 [bN 29 .lss 28 2])
 (.seq
 (.cond (.tmp 29)
 .skip
 (.exit 2))
 (.seq
 (.block 3
 (.seq
 (rG 49152 [mv 30 28,oO 31 (.index 2 1 false) [.tmp 27, .tmp 28],mv 10 30,mv 11 31])
 (.seq
 (.seq
 (rG 53248 [mv 32 11,bN 33 .neq 32 0,mv 34 33,oG 35 34 (.load 2 true) [.tmp 2],mG 36 10 34,cG 37 34 n_registers_on false [.tmp 35, .tmp 36],oG 38 34 (.un .not) [.tmp 37],oO 39 .pick [.tmp 34, .tmp 38, .cst (.t (.bool false))]])
 (.cond (.tmp 39)
 (.seq
 (rG 57344 [mC 4 .nil,mC 5 (.t (.int .i64 27))])
 .ret)
 .skip))
 (.seq
 (rG 61440 [mC 40 (.t (.int .i64 0))])
 (.block 4
 (.loop ac_registers_Digest_L2))))))
 (rG 86016 [bN 60 .add 28 1,mv 28 60]))))
def ac_registers_Digest (n_wire_Uint n_registers_on n_digest_Hash : Nat) : AC :=
 (.seq
 (rG 4096 [oO 2 .box [.tmp 0],oO 3 .boxArr [.tmp 1],mC 4 .nil,mC 5 (.t (.int .i64 0))])
 (.seq
 (rG 8192 [mC 6 .nil,mC 7 .nil])
 (.seq
 (.seq
 (rG 12288 [oO 13 (.load 2 true) [.tmp 3],mC 14 (.t (.int .i64 0))])
 (.block 0
 (.loop (ac_registers_Digest_L0 n_wire_Uint))))
 (.seq
 (.seq
 (rG 40960 [oO 27 (.load 2 true) [.tmp 3],mC 28 (.t (.int .i64 0))])
 (.block 2
 (.loop (ac_registers_Digest_L1 n_registers_on))))
 (.seq
 (rG 90112 [mv 61 6,mv 62 7,oO 63 (.bslice 1 2 .nil [0, 1]) [.tmp 61, .tmp 62],cL 64 n_digest_Hash false [.cst (.t (.int .i64 5)), .tmp 63],mv 4 64,mC 5 (.t (.int .i64 0))])
 .ret)))))
def hints_registers_Digest : List (Nat × List Nat) := []
def ac_ref8_fill_L0 : AC :=
 (.seq
 (.seq
 (rG 16384 [mv 9 6,mv 10 0,bT 11 .lss 9 10])
 (.cond (.tmp 11)
 .skip
 (.exit 0)))
 (.seq
 (.block 1
 (rG 24576 [mv 14 5,mv 15 6,mv 16 1,oO 17 (.iaddr 1) [.tmp 14, .tmp 15],oS 1 17 16]))
 (rG 20480 [mv 12 6,bN 13 .add 12 1,mv 6 13])))
def ac_ref8_fill : AC :=
 (.seq
 (rG 4096 [mC 4 .nil])
 (.seq
 (rG 8192 [mv 7 0,oO 8 (.mkslice 1 1 (.t (byteT 0))) [.tmp 7, .tmp 7],mv 5 8])
 (.seq
 (.seq
 (rG 12288 [mC 6 (.t (.int .i64 0))])
 (.block 0
 (.loop ac_ref8_fill_L0)))
 (.seq
 (rG 28672 [mv 18 5,mv 4 18])
 .ret))))
def hints_ref8_fill : List (Nat × List Nat) := []
def ac_ref8_initial (n_ref1_Size n_ref8_fill : Nat) : AC :=
 (.seq
 (rG 4096 [mC 4 .nil])
 (.seq
 (.seq
 (rG 8192 [mv 5 1,bN 6 .geq 5 12])
 (.cond (.tmp 6)
 (.seq
 (rG 12288 [mv 7 0,cL 8 n_ref1_Size false [.tmp 7],cL 9 n_ref8_fill false [.tmp 8, .cst (.t (byteT 255))],mv 4 9])
 .ret)
 .skip))
 (.seq
 (rG 16384 [mv 10 0,cL 11 n_ref1_Size false [.tmp 10],cL 12 n_ref8_fill false [.tmp 11, .cst (.t (byteT 0))],mv 4 12])
 .ret)))
def hints_ref8_initial : List (Nat × List Nat) := []
def ac_ref8_New_L1 (n_ref8_initial : Nat) : AC :=
 (.seq
 (.seq
 (rG 40960 [mv 16 6,bN 17 .lss 16 16,mv 18 17,mG 19 0 18,mG 20 4 18,oG 21 18 (.conv .u64) [.tmp 20],oG 22 18 (.bin .shr) [.tmp 19, .tmp 21],oG 23 18 (.bin .and) [.tmp 22, .cst (.t (.int .i64 1))],oG 24 18 (.bin .eql) [.tmp 23, .cst (.t (.int .i64 1))],oO 25 .pick [.tmp 18, .tmp 24, .cst (.t (.bool false))]])
 (.cond (.tmp 25)
 .skip
 (.exit 2)))
 (.seq
 (.block 3
 (rG 49152 [mv 28 5,mv 29 4,mv 30 6,cL 31 n_ref8_initial false [.tmp 29, .tmp 30],oO 32 (.bslice 1 1 .nil [0]) [.tmp 31],oO 33 (.append 1 24) [.tmp 28, .tmp 32],mv 5 33]))
 (rG 45056 [mv 26 6,bN 27 .add 26 1,mv 6 27])))
def ac_ref8_New_L0 (n_ref8_initial : Nat) : AC :=
 (.seq
 (.seq
 (rG 24576 [mv 12 4,bN 13 .lss 12 2])
 (.cond (.tmp 13)
 .skip
 (.exit 0)))
 (.seq
 (.block 1
 (.seq
 (rG 32768 [mC 5 .nil])
 (.seq
 (.seq
 (rG 36864 [mC 6 (.t (.int .i64 0))])
 (.block 2
 (.loop (ac_ref8_New_L1 n_ref8_initial))))
 (rG 53248 [oO 34 (.faddr 0) [.tmp 3],oO 35 (.load 1 false) [.tmp 34],mv 36 5,oO 37 (.bslice 1 1 .nil [0]) [.tmp 36],oO 38 (.append 1 24) [.tmp 35, .tmp 37],oO 39 (.faddr 0) [.tmp 3],oS 1 39 38]))))
 (rG 28672 [mv 14 4,bN 15 .add 14 1,mv 4 15])))
def ac_ref8_New (n_ref8_initial : Nat) : AC :=
 (.seq
 (rG 4096 [oO 2 (.new 2 [(.agg [.nil, (.t (.int .i64 0))])]) []])
 (.seq
 (rG 8192 [oO 7 (.build [.nil, (.t (.int .i64 0))] []) [],oO 3 (.new 2 [(.agg [.nil, (.t (.int .i64 0))])]) [],oS 2 3 7])
 (.seq
 (.seq
 (rG 12288 [mv 8 0,bN 9 .and 8 3,bN 10 .eql 9 0])
 (.cond (.tmp 10)
 (.seq
 (rG 16384 [oO 11 (.load 2 true) [.tmp 3],oS 2 2 11])
 .ret)
 .skip))
 (.seq
 (.seq
 (rG 20480 [mC 4 (.t (.int .i64 0))])
 (.block 0
 (.loop (ac_ref8_New_L0 n_ref8_initial))))
 (.seq
 (rG 57344 [oO 40 (.load 2 true) [.tmp 3],oS 2 2 40])
 .ret)))))
def hints_ref8_New : List (Nat × List Nat) := []
def ac_ref8_Active : AC :=
 (.seq
 (rG 4096 [oO 2 .box [.tmp 0],mC 4 (.t (.bool false))])
 (.seq
 (rG 8192 [mv 5 1,oO 6 (.faddr 0) [.tmp 2],oO 7 (.load 1 false) [.tmp 6],oO 8 .len [.tmp 7],bT 9 .lss 5 8,mv 10 9,oG 11 10 (.faddr 0) [.tmp 2],oG 12 10 (.load 1 false) [.tmp 11],mG 13 1 10,oG 14 10 (.iaddr 1) [.tmp 12, .tmp 13],oG 15 10 (.load 1 false) [.tmp 14],oG 16 10 .len [.tmp 15],oG 17 10 (.bin .gtr) [.tmp 16, .cst (.t (.int .i64 0))],oO 18 .pick [.tmp 10, .tmp 17, .cst (.t (.bool false))],mv 4 18])
 .ret))
def hints_ref8_Active : List (Nat × List Nat) := []
def ac_ref8_Copy_L1 (n_ref1_Copy : Nat) : AC :=
 (.seq
 (.seq
 (rG 32768 [mv 17 6,oO 18 (.faddr 0) [.tmp 1],oO 19 (.load 1 false) [.tmp 18],mv 20 4,oO 21 (.iaddr 1) [.tmp 19, .tmp 20],oO 22 (.load 1 false) [.tmp 21],oO 23 .len [.tmp 22],bT 24 .lss 17 23])
 (.cond (.tmp 24)
 .skip
 (.exit 2)))
 (.seq
 (.block 3
 (rG 40960 [mv 27 5,oO 28 (.faddr 0) [.tmp 1],oO 29 (.load 1 false) [.tmp 28],mv 30 4,oO 31 (.iaddr 1) [.tmp 29, .tmp 30],oO 32 (.load 1 false) [.tmp 31],mv 33 6,oO 34 (.iaddr 1) [.tmp 32, .tmp 33],oO 35 (.load 1 false) [.tmp 34],cL 36 n_ref1_Copy false [.tmp 35],oO 37 (.bslice 1 1 .nil [0]) [.tmp 36],oO 38 (.append 1 24) [.tmp 27, .tmp 37],mv 5 38]))
 (rG 36864 [mv 25 6,bN 26 .add 25 1,mv 6 26])))
def ac_ref8_Copy_L0 (n_ref1_Copy : Nat) : AC :=
 (.seq
 (.seq
 (rG 16384 [mv 10 4,oO 11 (.faddr 0) [.tmp 1],oO 12 (.load 1 false) [.tmp 11],oO 13 .len [.tmp 12],bT 14 .lss 10 13])
 (.cond (.tmp 14)
 .skip
 (.exit 0)))
 (.seq
 (.block 1
 (.seq
 (rG 24576 [mC 5 .nil])
 (.seq
 (.seq
 (rG 28672 [mC 6 (.t (.int .i64 0))])
 (.block 2
 (.loop (ac_ref8_Copy_L1 n_ref1_Copy))))
 (rG 45056 [oO 39 (.faddr 0) [.tmp 3],oO 40 (.load 1 false) [.tmp 39],mv 41 5,oO 42 (.bslice 1 1 .nil [0]) [.tmp 41],oO 43 (.append 1 24) [.tmp 40, .tmp 42],oO 44 (.faddr 0) [.tmp 3],oS 1 44 43]))))
 (rG 20480 [mv 15 4,bN 16 .add 15 1,mv 4 16])))
def ac_ref8_Copy (n_ref1_Copy : Nat) : AC :=
 (.seq
 (rG 4096 [oO 1 .box [.tmp 0],oO 2 (.new 2 [(.agg [.nil, (.t (.int .i64 0))])]) []])
 (.seq
 (rG 8192 [oO 7 (.faddr 1) [.tmp 1],oO 8 (.load 1 false) [.tmp 7],oO 9 (.build [.nil, (.t (.int .i64 0))] [(1, 1)]) [.tmp 8],oO 3 (.new 2 [(.agg [.nil, (.t (.int .i64 0))])]) [],oS 2 3 9])
 (.seq
 (.seq
 (rG 12288 [mC 4 (.t (.int .i64 0))])
 (.block 0
 (.loop (ac_ref8_Copy_L0 n_ref1_Copy))))
 (.seq
 (rG 49152 [oO 45 (.load 2 true) [.tmp 3],oS 2 2 45])
 .ret))))
def hints_ref8_Copy : List (Nat × List Nat) := []
def ac_ref8_Same_L0 (n_ref8_Active n_ref1_Lists : Nat) : AC :=
 (.seq
 (.seq
 (rG 20480 [mv 11 5,bN 12 .lss 11 2])
 (.cond (.tmp 12)
 .skip
 (.exit 0)))
 (.seq
 (.block 1
 (.seq
 (.reg 28672 (some [0, 0, 3, 0, 0, 31, 63, 127, 255, 255, 1023, 2047, 4095, 8191, 4095, 32767, 65535, 4095, 135167, 4095, 921599, 1970175, 4194303, 8388607, 16777215, 33554431]) [oO 15 (.load 2 true) [.tmp 2],mv 16 5,cL 17 n_ref8_Active false [.tmp 15, .tmp 16],oO 18 (.load 2 true) [.tmp 3],mv 19 5,cL 20 n_ref8_Active false [.tmp 18, .tmp 19],oO 21 (.beq true) [.tmp 17, .tmp 20],mv 22 21,oF 23 22 (.load 2 true) [.tmp 2],mF 24 5 22,cF 25 22 n_ref8_Active false [.tmp 23, .tmp 24],mF 26 25 22,oG 27 26 (.faddr 0) [.tmp 2],oG 28 26 (.load 1 false) [.tmp 27],mG 29 5 26,oG 30 26 (.iaddr 1) [.tmp 28, .tmp 29],oG 31 26 (.load 1 false) [.tmp 30],oG 32 26 (.faddr 0) [.tmp 3],oG 33 26 (.load 1 false) [.tmp 32],mG 34 5 26,oG 35 26 (.iaddr 1) [.tmp 33, .tmp 34],oG 36 26 (.load 1 false) [.tmp 35],cG 37 26 n_ref1_Lists false [.tmp 31, .tmp 36],oG 38 26 (.un .not) [.tmp 37],oF 39 22 .pick [.tmp 26, .tmp 38, .cst (.t (.bool false))],oO 40 .pick [.tmp 22, .cst (.t (.bool true)), .tmp 39]])
 (.cond (.tmp 40)
 (.seq
 (rG 32768 [mC 4 (.t (.bool false))])
 .ret)
 .skip)))
 (rG 24576 [mv 13 5,bN 14 .add 13 1,mv 5 14])))
def ac_ref8_Same (n_ref8_Active n_ref1_Lists : Nat) : AC :=
 (.seq
 (rG 4096 [oO 2 .box [.tmp 0],oO 3 .box [.tmp 1],mC 4 (.t (.bool false))])
 (.seq
 (.seq
 (rG 8192 [oO 6 (.faddr 1) [.tmp 2],oO 7 (.load 1 false) [.tmp 6],oO 8 (.faddr 1) [.tmp 3],oO 9 (.load 1 false) [.tmp 8],bT 10 .neq 7 9])
 (.cond (.tmp 10)
 (.seq
 (rG 12288 [mC 4 (.t (.bool false))])
 .ret)
 .skip))
 (.seq
 (.seq
 (rG 16384 [mC 5 (.t (.int .i64 0))])
 (.block 0
 (.loop (ac_ref8_Same_L0 n_ref8_Active n_ref1_Lists))))
 (.seq
 (rG 36864 [oO 41 (.faddr 0) [.tmp 2],oO 42 (.load 1 false) [.tmp 41],oO 43 .len [.tmp 42],bN 44 .leq 43 2,mv 45 44,oG 46 45 (.faddr 0) [.tmp 3],oG 47 45 (.load 1 false) [.tmp 46],oG 48 45 .len [.tmp 47],oG 49 45 (.bin .leq) [.tmp 48, .cst (.t (.int .i64 2))],oO 50 .pick [.tmp 45, .tmp 49, .cst (.t (.bool false))],mv 4 50])
 .ret))))
def hints_ref8_Same : List (Nat × List Nat) := []
def ac_ref8_Least : AC :=
 (.seq
 (rG 4096 [mC 4 (.t (.int .i64 0))])
 (.seq
 (.block 0
 (.seq
 (rG 8192 [mv 6 1,mv 7 6,mG 8 0 7,oG 9 7 (.bin .lss) [.tmp 8, .cst (.t (.int .i64 12))],oO 10 .pick [.tmp 7, .tmp 9, .cst (.t (.bool false))],mv 5 10])
 (.cond (.tmp 5)
 (.seq
 (rG 12288 [mC 4 (.t (.int .i64 (-1)))])
 .ret)
 (.seq
 (rG 16384 [mv 12 0,bN 13 .eql 12 14,mv 14 13,mG 15 1 14,oO 16 .pick [.tmp 14, .tmp 15, .cst (.t (.bool false))],mv 11 16])
 (.cond (.tmp 11)
 (.seq
 (rG 20480 [mC 4 (.t (.int .i64 3))])
 .ret)
 (.seq
 (rG 24576 [mv 18 0,bN 19 .eql 18 15,mv 20 19,mG 21 1 20,oO 22 .pick [.tmp 20, .tmp 21, .cst (.t (.bool false))],mv 17 22])
 (.cond (.tmp 17)
 (.seq
 (rG 28672 [mC 4 (.t (.int .i64 4))])
 .ret)
 (.seq
 (rG 32768 [mv 24 0,bN 25 .eql 24 14,mv 23 25])
 (.cond (.tmp 23)
 (.seq
 (rG 36864 [mC 4 (.t (.int .i64 2))])
 .ret)
 (.seq
 (rG 40960 [mv 27 0,bN 28 .eql 27 15,mv 26 28])
 (.cond (.tmp 26)
 (.seq
 (rG 45056 [mC 4 (.t (.int .i64 3))])
 .ret)
 .skip)))))))))))
 (.seq
 (rG 49152 [mC 4 (.t (.int .i64 0))])
 .ret)))
def hints_ref8_Least : List (Nat × List Nat) := []
def ac_ref8_Extend_L0 (n_ref8_Active : Nat) : AC :=
 (.seq
 (.seq
 (rG 28672 [mv 39 10,bN 40 .lss 39 2])
 (.cond (.tmp 40)
 .skip
 (.exit 0)))
 (.seq
 (.block 1
 (.seq
 (rG 36864 [oO 43 (.load 2 true) [.tmp 4],mv 44 10,cL 45 n_ref8_Active false [.tmp 43, .tmp 44],oO 46 (.un .not) [.tmp 45],mv 47 46,mG 48 3 47,mG 49 10 47,oG 50 47 (.iaddr 1) [.tmp 48, .tmp 49],oG 51 47 (.load 1 false) [.tmp 50],oG 52 47 .len [.tmp 51],oG 53 47 (.bin .gtr) [.tmp 52, .cst (.t (.int .i64 0))],oO 54 .pick [.tmp 47, .tmp 53, .cst (.t (.bool false))]])
 (.cond (.tmp 54)
 (.seq
 (rG 40960 [oO 55 (.build [.nil, (.t (.int .i64 0))] []) [],oS 2 8 55,mC 9 (.t (.int .i64 27))])
 .ret)
 .skip)))
 (rG 32768 [mv 41 10,bN 42 .add 41 1,mv 10 42])))
def ac_ref8_Extend_L1 (n_ref8_Active n_ref1_Size : Nat) : AC :=
 (.seq
 (.seq
 (rG 49152 [mv 56 11,bN 57 .lss 56 2])
 (.cond (.tmp 57)
 .skip
 (.exit 2)))
 (.seq
 (.block 3
 (.seq
 (.reg 57344 (some [0, 0, 3, 7, 15, 15, 63, 127, 255, 15, 527, 2047, 4095]) [oO 60 (.load 2 true) [.tmp 4],mv 61 11,cL 62 n_ref8_Active false [.tmp 60, .tmp 61],mv 63 62,mG 64 3 63,mG 65 11 63,oG 66 63 (.iaddr 1) [.tmp 64, .tmp 65],oG 67 63 (.load 1 false) [.tmp 66],oG 68 63 .len [.tmp 67],mG 69 11 63,cG 70 63 n_ref1_Size false [.tmp 69],oG 71 63 (.bin .neq) [.tmp 68, .tmp 70],oO 72 .pick [.tmp 63, .tmp 71, .cst (.t (.bool false))]])
 (.cond (.tmp 72)
 (.seq
 (rG 61440 [oO 73 (.build [.nil, (.t (.int .i64 0))] []) [],oS 2 8 73,mC 9 (.t (.int .i64 24))])
 .ret)
 .skip)))
 (rG 53248 [mv 58 11,bN 59 .add 58 1,mv 11 59])))
def ac_ref8_Extend_L2 (n_ref8_Active n_ref1_Copy n_ref1_Sum : Nat) : AC :=
 (.seq
 (.seq
 (rG 73728 [mv 76 13,bN 77 .lss 76 2])
 (.cond (.tmp 77)
 .skip
 (.exit 4)))
 (.seq
 (.block 5
 (.seq
 (rG 81920 [oO 80 (.load 2 true) [.tmp 4],mv 81 13,cL 82 n_ref8_Active false [.tmp 80, .tmp 81]])
 (.cond (.tmp 82)
 (.reg 86016 (some [0, 1, 0, 7, 15, 0, 0, 0, 128, 0, 896, 1920, 0, 8064, 16256, 32640, 0, 0, 196608, 458752, 1048448, 2097088, 4194303, 8388607]) [oO 83 (.faddr 0) [.tmp 12],oO 84 (.load 1 false) [.tmp 83],mv 85 13,oO 86 (.iaddr 1) [.tmp 84, .tmp 85],oO 87 (.load 1 false) [.tmp 86],mv 88 2,mv 89 13,oO 90 (.faddr 0) [.tmp 4],oO 91 (.load 1 false) [.tmp 90],mv 92 13,oO 93 (.iaddr 1) [.tmp 91, .tmp 92],oO 94 (.load 1 false) [.tmp 93],mv 95 2,oO 96 (.iaddr 1) [.tmp 94, .tmp 95],oO 97 (.load 1 false) [.tmp 96],cL 98 n_ref1_Copy false [.tmp 97],mv 99 3,mv 100 13,oO 101 (.iaddr 1) [.tmp 99, .tmp 100],oO 102 (.load 1 false) [.tmp 101],oO 103 (.append 1 1) [.tmp 98, .tmp 102],cL 104 n_ref1_Sum false [.tmp 89, .tmp 103],oO 105 (.iaddr 1) [.tmp 87, .tmp 88],oS 1 105 104])
 .skip)))
 (rG 77824 [mv 78 13,bN 79 .add 78 1,mv 13 79])))
def ac_ref8_Extend (n_ref8_Least n_ref8_Active n_ref1_Size n_ref8_Copy n_ref1_Copy n_ref1_Sum : Nat) : AC :=
 (.seq
 (rG 4096 [oO 4 .box [.tmp 0],oO 8 (.new 2 [(.agg [.nil, (.t (.int .i64 0))])]) [],mC 9 (.t (.int .i64 0))])
 (.seq
 (.seq
 (rG 8192 [mv 14 1,bN 15 .lss 14 0,mv 16 15,mF 17 1 16,oF 18 16 (.bin .gtr) [.tmp 17, .cst (.t (.int .i64 4))],oO 19 .pick [.tmp 16, .cst (.t (.bool true)), .tmp 18],mv 20 19,mF 21 2 20,oF 22 20 (.bin .lss) [.tmp 21, .cst (.t (.int .i64 0))],oO 23 .pick [.tmp 20, .cst (.t (.bool true)), .tmp 22],mv 24 23,mF 25 2 24,oF 26 24 (.bin .geq) [.tmp 25, .cst (.t (.int .i64 16))],oO 27 .pick [.tmp 24, .cst (.t (.bool true)), .tmp 26],mv 28 27,mF 29 3 28,oF 30 28 .len [.tmp 29],oF 31 28 (.bin .neq) [.tmp 30, .cst (.t (.int .i64 2))],oO 32 .pick [.tmp 28, .cst (.t (.bool true)), .tmp 31]])
 (.cond (.tmp 32)
 (.seq
 (rG 12288 [oO 33 (.build [.nil, (.t (.int .i64 0))] []) [],oS 2 8 33,mC 9 (.t (.int .i64 1))])
 .ret)
 .skip))
 (.seq
 (.seq
 (rG 16384 [mv 34 1,mv 35 2,cL 36 n_ref8_Least false [.tmp 35, .cst (.t (.bool false))],bT 37 .lss 34 36])
 (.cond (.tmp 37)
 (.seq
 (rG 20480 [oO 38 (.build [.nil, (.t (.int .i64 0))] []) [],oS 2 8 38,mC 9 (.t (.int .i64 13))])
 .ret)
 .skip))
 (.seq
 (.seq
 (rG 24576 [mC 10 (.t (.int .i64 0))])
 (.block 0
 (.loop (ac_ref8_Extend_L0 n_ref8_Active))))
 (.seq
 (.seq
 (rG 45056 [mC 11 (.t (.int .i64 0))])
 (.block 2
 (.loop (ac_ref8_Extend_L1 n_ref8_Active n_ref1_Size))))
 (.seq
 (rG 65536 [oO 74 (.load 2 true) [.tmp 4],cL 75 n_ref8_Copy true [.tmp 74],oO 12 (.new 2 [(.agg [.nil, (.t (.int .i64 0))])]) [],oS 2 12 75])
 (.seq
 (.seq
 (rG 69632 [mC 13 (.t (.int .i64 0))])
 (.block 4
 (.loop (ac_ref8_Extend_L2 n_ref8_Active n_ref1_Copy n_ref1_Sum))))
 (.seq
 (rG 90112 [oO 106 (.faddr 1) [.tmp 12],oO 107 (.load 1 false) [.tmp 106],bN 108 .add 107 1,oO 109 (.faddr 1) [.tmp 12],oS 1 109 108])
 (.seq
 (rG 94208 [oO 110 (.load 2 true) [.tmp 12],oS 2 8 110,mC 9 (.t (.int .i64 0))])
 .ret)))))))))
def hints_ref8_Extend : List (Nat × List Nat) := [(15, [1])]
end Go.Eng
end
section
set_option maxRecDepth 20000
set_option maxHeartbeats 8000000
namespace Go.Eng
theorem w_bits_Mul64 (tab : Tab) (gl : Gl) (n : Int) (hn : n = 20 ∨ n = 32) : ac_bits_Mul64.wp tab gl (zipF 0 [.t (.int .u64 1), .t (.int .u64 n)]) (zipF 0 []) (resW [(4, none), (5, none)] 0 (fun r o => r = .tup [.t (.int .u64 0), .t (.int .u64 n)] ∧ o = [])) := by
 rcases hn with rfl | rfl
 · simp (disch := omega) only [go_sem, seval, ac_bits_Mul64, BitVec.reduceOfInt, BitVec.reduceAnd, BitVec.reduceToNat, Int.reduceFDiv]
 · simp (disch := omega) only [go_sem, seval, ac_bits_Mul64, BitVec.reduceOfInt, BitVec.reduceAnd, BitVec.reduceToNat, Int.reduceFDiv]
def ct_mul64 : Ct where
 α := Int
 as x := [.t (.int .u64 1), .t (.int .u64 x)]
 ins _ := []
 pre x := x = 20 ∨ x = 32
 r x := .tup [.t (.int .u64 0), .t (.int .u64 x)]
 outs _ := []
 inj := by
   intro a b h _
   simp at h
   subst h; exact ⟨rfl, rfl⟩
theorem mul64_eq {n : Int} (h : n = 20 ∨ n = 32) : ct_mul64.fs [.t (.int .u64 1), .t (.int .u64 n)] [] = some (.tup [.t (.int .u64 0), .t (.int .u64 n)], []) := ct_mul64.eq n h
theorem w_bits_Mul (tab : Tab) (gl : Gl) (n1 n2 : Nat) (h2 : tab.look n2 = some ct_mul64.fs) (n : Int) (hn : n = 20 ∨ n = 32) : (ac_bits_Mul n1 n2).wp tab gl (zipF 0 [.t (.int .u64 1), .t (.int .u64 n)]) (zipF 0 []) (resW [(4, none), (5, none)] 0 (fun r o => r = .tup [.t (.int .u64 0), .t (.int .u64 n)] ∧ o = [])) := by
 simp (disch := omega) only [go_sem, seval, ac_bits_Mul, h2, mul64_eq]
def ct_mnz : Ct where
 α := Int
 as x := [.t (.int .i64 x)]
 ins _ := []
 pre x := x = 20 ∨ x = 32
 r x := .sl 0 0 x.toNat
 outs _ := [.live 1 [] true false]
 inj := by
   intro a b h _
   simp at h
   subst h; exact ⟨rfl, rfl⟩
theorem mnz_eq {n : Int} (h : n = 20 ∨ n = 32) : ct_mnz.fs [.t (.int .i64 n)] [] = some (.sl 0 0 n.toNat, [.live 1 [] true false]) := ct_mnz.eq n h
theorem setRange_end {α : Type} {l xs : List α} : setRange l l.length xs = l ++ xs := by simp [setRange]
theorem w_bytes_Repeat (tab : Tab) (gl : Gl) (n1 n2 : Nat) (h1 : tab.look n1 = some ct_mul64.fs) (h2 : tab.look n2 = some ct_mnz.fs) (x : UInt8) (n : Nat) (hn : n = 20 ∨ n = 32) :
   (ac_bytes_Repeat n1 n2).wp tab gl (zipF 0 [.t (.sl ([x].map byteT)), .t (.int .i64 n)]) (zipF 0 []) (resF [] [(4, none)] 0 (fun r o => r = .sl 0 0 n ∧ o = [.live 1 (((List.replicate n x).map byteT).map V.t) true false])) := by
 have hn2 : (n : Int) = 20 ∨ (n : Int) = 32 := by omega
 have ht1 : ∀ v : V, List.take n [v] = [v] := fun v => List.take_of_length_le (by simp only [List.length_cons, List.length_nil]; omega)
 simp (disch := omega) only [go_sem, seval, ac_bytes_Repeat, h1, h2, mul64_eq, mnz_eq, ht1]
 refine loop_rule (ι := { p : Nat // 1 ≤ p ∧ p ≤ n }) (fun p => ([(7, .t (.int .i64 n)), (8, .t (.int .i64 n)), (9, .sl 69648 0 n), (10, .t (.int .i64 p.1))], [(69648, .live 1 (((List.replicate p.1 x).map byteT).map V.t) true false)])) (fun p => n - p.1) ⟨1, by omega⟩ ?_ (fun p => ?_)
 · refine Weak.rd id ?_ ?_ rfl
   all_goals simp (disch := omega) only [go_sem, seval, id, List.map_cons, List.map_nil]
 · obtain ⟨p, hp1, hp2⟩ := p
   by_cases hlt : p < n
   · have hse : ∀ xs, setRange (List.map V.t (List.map byteT (List.replicate p x))) p xs = List.map V.t (List.map byteT (List.replicate p x)) ++ xs := by
       intro xs
       have := setRange_end (l := List.map V.t (List.map byteT (List.replicate p x))) (xs := xs)
       simpa using this
     have hm : (if (n : Int) < (p : Int) then (n : Int) else (p : Int)) = p := if_neg (by omega)
     by_cases hd : p ≤ n - p
     · simp (disch := omega) only [go_sem, seval, ac_bytes_Repeat_L0, hse, List.take_replicate, hm]
       refine ⟨rfl, ⟨p + p, by omega⟩, by simp only; omega, Weak.rd id ?_ ?_ rfl⟩
       all_goals simp (disch := omega) only [go_sem, seval, id, List.replicate_append_replicate]
     · simp (disch := omega) only [go_sem, seval, ac_bytes_Repeat_L0, hse, List.take_replicate, hm]
       refine ⟨rfl, ⟨p + (n - p), by omega⟩, by simp only; omega, Weak.rd id ?_ ?_ rfl⟩
       all_goals simp (disch := omega) only [go_sem, seval, id, List.replicate_append_replicate]
   · have e : p = n := by omega
     subst e
     simp (disch := omega) only [go_sem, seval, ac_bytes_Repeat_L0]
def ct_repeat : Ct where
 α := UInt8 × Nat
 as x := [.t (.sl ([x.1].map byteT)), .t (.int .i64 x.2)]
 ins _ := []
 pre x := x.2 = 20 ∨ x.2 = 32
 r x := .sl 0 0 x.2
 outs x := [.live 1 (((List.replicate x.2 x.1).map byteT).map V.t) true false]
 inj := by
   rintro ⟨a, b⟩ ⟨c, d⟩ h _
   simp [byteT_eq, Int.natCast_inj] at h
   obtain ⟨rfl, rfl⟩ := h
   exact ⟨rfl, rfl⟩
theorem repeat_eq {x : UInt8} {n : Nat} (h : n = 20 ∨ n = 32) : ct_repeat.fs [.t (.sl [byteT x]), .t (.int .i64 n)] [] = some (.sl 0 0 n, [.live 1 (((List.replicate n x).map byteT).map V.t) true false]) := ct_repeat.eq (x, n) h
theorem w_registers_fill (tab : Tab) (gl : Gl) (n1 : Nat) (h1 : tab.look n1 = some ct_repeat.fs) (x : UInt8) (n : Nat) (hn : n = 20 ∨ n = 32) : (ac_registers_fill n1).wp tab gl (zipF 0 [.t (.int .i64 n), .t (byteT x)]) (zipF 0 []) (resF [] [(4, none)] 0 (fun r o => r = .sl 0 0 n ∧ o = [.live 1 (((List.replicate n x).map byteT).map V.t) true false])) := by
 simp (disch := omega) only [go_sem, seval, ac_registers_fill, h1, repeat_eq]
theorem set_fill {α : Type} {x d : α} {n k : Nat} (h : k < n) : (List.replicate k x ++ List.replicate (n - k) d).set k x = List.replicate (k + 1) x ++ List.replicate (n - (k + 1)) d := by
 rw [show n - k = (n - (k + 1)) + 1 by omega, List.replicate_succ, List.set_append_right _ _ (by simp)]
 simp [List.replicate_succ']
theorem w_ref8_fill (tab : Tab) (gl : Gl) (x : UInt8) (n : Nat) (hn : n < 1000000000) : ac_ref8_fill.wp tab gl (zipF 0 [.t (.int .i64 n), .t (byteT x)]) (zipF 0 []) (resF [] [(4, none)] 0 (fun r o => r = .sl 0 0 n ∧ o = [.live 1 (((List.replicate n x).map byteT).map V.t) true false])) := by
 simp (disch := omega) only [go_sem, seval, ac_ref8_fill]
 refine loop_upto n (fun k => [(0, .t (.int .i64 n)), (1, .t (byteT x)), (5, .sl 8208 0 n), (6, .t (.int .i64 k))]) (fun k => [(8208, .live 1 (((List.replicate k x ++ List.replicate (n - k) 0).map byteT).map V.t) true false)]) ?_ (fun k hk => ?_)
 · refine Weak.rd id ?_ ?_ rfl
   all_goals simp (disch := omega) only [go_sem, seval, id]
 · by_cases hlt : k < n
   · simp (config := { maxSteps := 2000000 }) (disch := (first | omega | (simp only [lens, lenm]; omega))) only [go_sem, seval, ac_ref8_fill_L0]
     refine ⟨hlt, Weak.rd id ?_ ?_ rfl⟩
     all_goals simp (disch := omega) only [go_sem, seval, id, set_fill hlt]
   · have e : k = n := by omega
     subst e
     simp (disch := omega) only [go_sem, seval, ac_ref8_fill_L0, Nat.sub_self, List.append_nil]
end Go.Eng
end
section
set_option maxRecDepth 20000
set_option maxHeartbeats 8000000
namespace Go.Eng
abbrev Bank := List (List UInt8)
def bankT (b : Bank) : T := .sl (b.map bsT)
def regT (bk : List Bank) (u : Int) : T := .agg [.sl (bk.map bankT), .int .i64 u]
theorem bankT_def {b : Bank} : bankT b = .sl (b.map bsT) := Eq.trans (Eq.refl _) rfl
theorem regT_def {bk : List Bank} {u : Int} : regT bk u = .agg [.sl (bk.map bankT), .int .i64 u] := Eq.trans (Eq.refl _) rfl
attribute [go_sem] bankT_def regT_def
def bkOk (b : Bank) : Prop := b.length = 0 ∨ b.length = 16
def actM (b0 b1 : Bank) : Int := (if b0.length = 16 then 1 else 0) + (if b1.length = 16 then 2 else 0)
theorem w_registers_active0 (tab : Tab) (gl : Gl) (u : Int) : ac_registers_active.wp tab gl (zipF 0 [.t (regT [] u)]) (zipF 0 []) (resW [(2, none)] 0 (fun r o => r = .t (.int .i64 0) ∧ o = [])) := by
 simp (disch := omega) only [go_sem, seval, ac_registers_active, List.map_nil, List.map_cons]
 refine loop_fuel 1 ?_
 simp (disch := omega) only [go_sem, seval, loopN_succ, ac_registers_active_L0]
theorem w_registers_active2 (tab : Tab) (gl : Gl) (b0 b1 : Bank) (h0 : b0.length < 1000000000) (h1 : b1.length < 1000000000) (u : Int) : ac_registers_active.wp tab gl (zipF 0 [.t (regT [b0, b1] u)]) (zipF 0 []) (resW [(2, none)] 0 (fun r o => r = .t (.int .i64 (actM b0 b1)) ∧ o = [])) := by
 simp (disch := omega) only [go_sem, seval, ac_registers_active, List.map_nil, List.map_cons]
 refine loop_fuel 3 ?_
 by_cases e0 : b0.length = 16
 · by_cases e1 : b1.length = 16
   · simp (disch := omega) only [go_sem, seval, loopN_succ, ac_registers_active_L0, actM, e0, e1, BitVec.reduceOfInt, BitVec.reduceOr, BitVec.reduceToNat]
   · simp (disch := omega) only [go_sem, seval, loopN_succ, ac_registers_active_L0, actM, e0, e1, BitVec.reduceOfInt, BitVec.reduceOr, BitVec.reduceToNat]
 · by_cases e1 : b1.length = 16
   · simp (disch := omega) only [go_sem, seval, loopN_succ, ac_registers_active_L0, actM, e0, e1, BitVec.reduceOfInt, BitVec.reduceOr, BitVec.reduceToNat]
   · simp (disch := omega) only [go_sem, seval, loopN_succ, ac_registers_active_L0, actM, e0, e1, BitVec.reduceOfInt, BitVec.reduceOr, BitVec.reduceToNat]
inductive RK : List Bank → Prop
 | nil : RK []
 | two (b0 b1 : Bank) (h0 : bkOk b0) (h1 : bkOk b1) : RK [b0, b1]
def actI : List Bank → Int
 | [b0, b1] => actM b0 b1
 | _ => 0
theorem bankT_inj {a b : Bank} (h : bankT a = bankT b) : a = b := by
 simpa [bankT, mapBs_inj] using h
theorem regT_inj {a b : List Bank} {u v : Int} (h : regT a u = regT b v) : a = b ∧ u = v := by
 simp only [regT, T.agg.injEq, List.cons.injEq, T.sl.injEq, T.int.injEq, true_and, and_true] at h
 exact ⟨map_inj' (fun _ _ => bankT_inj) h.1, h.2⟩
def ct_active : Ct where
 α := List Bank × Int
 as x := [.t (regT x.1 x.2)]
 ins _ := []
 pre x := RK x.1
 r x := .t (.int .i64 (actI x.1))
 outs _ := []
 inj := by
   rintro ⟨a, u⟩ ⟨b, v⟩ h _
   simp only [List.cons.injEq, V.t.injEq, and_true] at h
   obtain ⟨rfl, rfl⟩ := regT_inj h
   exact ⟨rfl, rfl⟩
theorem active_eq {bk : List Bank} {u : Int} (h : RK bk) : ct_active.fs [.t (.agg [.sl (bk.map bankT), .int .i64 u])] [] = some (.t (.int .i64 (actI bk)), []) := ct_active.eq (bk, u) h
def onB (bk : List Bank) (a : Nat) : Bool := decide ((bk.getD a []).length = 16)
theorem w_registers_on (tab : Tab) (gl : Gl) (n1 : Nat) (h1 : tab.look n1 = some ct_active.fs) (bk : List Bank) (u : Int) (hk : RK bk) (a : Nat) (ha : a < 2) : (ac_registers_on n1).wp tab gl (zipF 0 [.t (regT bk u), .t (.int .i64 a)]) (zipF 0 []) (resW [(4, none)] 0 (fun r o => r = .t (.bool (onB bk a)) ∧ o = [])) := by
 have he := active_eq (u := u) hk
 have hv : actI bk = 0 ∨ actI bk = 1 ∨ actI bk = 2 ∨ actI bk = 3 := by
   cases hk with
   | nil => left; rfl
   | two b0 b1 h0 h1 => simp only [actI, actM]; split <;> split <;> simp
 have hon : onB bk a = decide ((actI bk).toNat / 2 ^ a % 2 = 1) := by
   cases hk with
   | nil =>
     rcases (show a = 0 ∨ a = 1 by omega) with rfl | rfl <;> simp [onB, actI]
   | two b0 b1 h0 h1 =>
     rcases (show a = 0 ∨ a = 1 by omega) with rfl | rfl
     · simp only [onB, actI, actM, List.getD_cons_zero]; split <;> split <;> simp_all
     · simp only [onB, actI, actM, List.getD_cons_succ, List.getD_cons_zero]; split <;> split <;> simp_all
 rw [hon]
 rcases (show a = 0 ∨ a = 1 by omega) with rfl | rfl <;> rcases hv with hv | hv | hv | hv <;> rw [hv] at he <;> simp only [hv]
 all_goals simp (disch := omega) only [go_sem, seval, ac_registers_on, h1, he, Int.reduceFDiv, Int.reduceToNat, Nat.reduceDiv, Nat.reduceMod, Int.reduceBEq]
theorem w_registers_index (tab : Tab) (gl : Gl) (i : Int) : ac_registers_index.wp tab gl (zipF 0 [.t (.int .i64 i)]) (zipF 0 []) (resW [(2, none)] 0 (fun r o => r = .t (.bool (decide (0 ≤ i ∧ i < 16))) ∧ o = [])) := by
 by_cases h : 0 ≤ i
 · by_cases h2 : i < 16
   · simp (disch := omega) only [go_sem, seval, ac_registers_index, h, h2]
   · simp (disch := omega) only [go_sem, seval, ac_registers_index, h, h2]
 · simp (disch := omega) only [go_sem, seval, ac_registers_index, h]
def leastI (i : Int) (reset : Bool) : Int := if reset = true ∧ i < 12 then 5 else if i = 14 then (if reset then 3 else 2) else if i = 15 then (if reset then 4 else 3) else 0
theorem w_registers_least (tab : Tab) (gl : Gl) (i : Int) (rs : Bool) : ac_registers_least.wp tab gl (zipF 0 [.t (.int .i64 i), .t (.bool rs)]) (zipF 0 []) (resW [(4, none)] 0 (fun r o => r = .t (.int .i64 (leastI i rs)) ∧ o = [])) := by
 cases rs <;> by_cases h12 : i < 12 <;> by_cases h14 : i = 14 <;> by_cases h15 : i = 15
 all_goals try omega
 all_goals simp (disch := omega) only [go_sem, seval, ac_registers_least, leastI, h12, h14, h15]
theorem w_ref8_Least (tab : Tab) (gl : Gl) (i : Int) (rs : Bool) : ac_ref8_Least.wp tab gl (zipF 0 [.t (.int .i64 i), .t (.bool rs)]) (zipF 0 []) (resW [(4, none)] 0 (fun r o => r = .t (.int .i64 (if leastI i rs = 5 then -1 else leastI i rs)) ∧ o = [])) := by
 cases rs <;> by_cases h12 : i < 12 <;> by_cases h14 : i = 14 <;> by_cases h15 : i = 15
 all_goals try omega
 all_goals simp (disch := omega) only [go_sem, seval, ac_ref8_Least, leastI, h12, h14, h15]
def actB (bk : List Bank) (a : Nat) : Bool := decide (a < bk.length) && decide (0 < (bk.getD a []).length)
theorem w_ref8_Active (tab : Tab) (gl : Gl) (bk : List Bank) (u : Int) (a : Nat) (ha : a < 1000000000) (hb : bk.length < 1000000000) (hm : ∀ b ∈ bk, b.length < 1000000000) : ac_ref8_Active.wp tab gl (zipF 0 [.t (regT bk u), .t (.int .i64 a)]) (zipF 0 []) (resW [(4, none)] 0 (fun r o => r = .t (.bool (actB bk a)) ∧ o = [])) := by
 by_cases h : a < bk.length
 · have hg : bk[a]? = some (bk.getD a []) := by simp [List.getD, h]
   have hl : (bk.getD a []).length < 1000000000 := by
     have : bk.getD a [] = bk[a] := by simp [List.getD, h]
     rw [this]; exact hm _ (List.getElem_mem h)
   by_cases h0 : 0 < (bk.getD a []).length
   · simp (disch := omega) only [go_sem, seval, ac_ref8_Active, actB, h, hg, h0]
   · simp (disch := omega) only [go_sem, seval, ac_ref8_Active, actB, h, hg, h0]
 · simp (disch := omega) only [go_sem, seval, ac_ref8_Active, actB, h]
end Go.Eng
end
section
set_option maxRecDepth 20000
set_option maxHeartbeats 8000000
namespace Go.Eng
theorem w_registers_twin0 (tab : Tab) (gl : Gl) (u : Int) : ac_registers_twin.wp tab gl (zipF 0 [.t (regT [] u)]) (zipF 0 []) (resF [] [(2, some (2, true))] 0 (fun r o => r = .agg [.nil, .t (.int .i64 u)] ∧ o = [])) := by
 simp (disch := omega) only [go_sem, seval, ac_registers_twin, List.map_nil, Int.natCast_zero]
 refine loop_fuel 1 ?_
 simp (disch := omega) only [go_sem, seval, loopN_succ, ac_registers_twin_L0]
theorem w_registers_twin2 (tab : Tab) (gl : Gl) (b0 b1 : Bank) (u : Int) (m0 : modL b0) (m1 : modL b1) : ac_registers_twin.wp tab gl (zipF 0 [.t (regT [b0, b1] u)]) (zipF 0 []) (resF [] [(2, some (2, true))] 0 (fun r o => r = .agg [.sl 0 0 2, .t (.int .i64 u)] ∧ o = [.live 1 [.sl 1 0 b0.length, .sl 2 0 b1.length] true false, .live 1 ((b0.map bsT).map V.t) true false, .live 1 ((b1.map bsT).map V.t) true false])) := by
 simp (disch := omega) only [go_sem, seval, ac_registers_twin, List.map_nil, List.map_cons]
 have hl0 := m0.1
 have hl1 := m1.1
 refine loop_upto 2 (fun k => match k with | 0 => [(2, .ref 4112 0 0), (3, .ref 8240 0 0), (15, .t (.int .i64 0)), (13, .t (T.sl [T.sl (List.map bsT b0), T.sl (List.map bsT b1)])), (14, .t (.int .i64 2))] | 1 => [(2, .ref 4112 0 0), (3, .ref 8240 0 0), (15, .t (.int .i64 1)), (13, .t (T.sl [T.sl (List.map bsT b0), T.sl (List.map bsT b1)])), (14, .t (.int .i64 2))] | _ => [(2, .ref 4112 0 0), (3, .ref 8240 0 0), (15, .t (.int .i64 2)), (13, .t (T.sl [T.sl (List.map bsT b0), T.sl (List.map bsT b1)])), (14, .t (.int .i64 2))]) (fun k => match k with | 0 => [(8240, .live 2 [.agg [.nil, .t (.int .i64 u)]] true true), (4112, .live 2 [.agg [.nil, .t (.int .i64 0)]] true true)] | 1 => [(8240, .live 2 [.agg [.sl 9000 0 1, .t (.int .i64 u)]] true true), (9000, .live 1 [.sl 9001 0 b0.length] true false), (9001, .live 1 ((b0.map bsT).map V.t) true false), (4112, .live 2 [.agg [.nil, .t (.int .i64 0)]] true true)] | _ => [(8240, .live 2 [.agg [.sl 9000 0 2, .t (.int .i64 u)]] true true), (9000, .live 1 [.sl 9001 0 b0.length, .sl 9002 0 b1.length] true false), (9001, .live 1 ((b0.map bsT).map V.t) true false), (9002, .live 1 ((b1.map bsT).map V.t) true false), (4112, .live 2 [.agg [.nil, .t (.int .i64 0)]] true true)]) ?_ (fun k hk => ?_)
 · refine Weak.rd id ?_ ?_ rfl
   all_goals simp (disch := omega) only [go_sem, seval, id]
 · rcases (show k = 0 ∨ k = 1 ∨ k = 2 by omega) with rfl | rfl | rfl
   · simp (disch := omega) only [go_sem, seval, ac_registers_twin_L0]
     refine loop_upto b0.length (fun i => [(2, .ref 4112 0 0), (3, .ref 8240 0 0), (15, .t (.int .i64 0)), (13, .t (T.sl [T.sl (List.map bsT b0), T.sl (List.map bsT b1)])), (14, .t (.int .i64 2)), (6, .sl 9100 0 i), (21, .t (.int .i64 (i : Nat))), (19, .t (.sl (b0.map bsT))), (20, .t (.int .i64 b0.length))]) (fun i => [(9100, .live 1 (((b0.take i).map bsT).map V.t) true false), (8240, .live 2 [.agg [.nil, .t (.int .i64 u)]] true true), (4112, .live 2 [.agg [.nil, .t (.int .i64 0)]] true true)]) ?_ (fun i hi => ?_)
     · refine Weak.cv0 (hv := [(9100, .live 1 [] true false)]) (ho := [(8240, .live 2 [.agg [.nil, .t (.int .i64 u)]] true true), (4112, .live 2 [.agg [.nil, .t (.int .i64 0)]] true true)]) id ?_ ?_ rfl rfl
       all_goals simp (disch := omega) only [go_sem, seval, id, List.map_cons, List.map_nil]
     · have hm := modL_get m0 i
       by_cases hlt : i < b0.length
       · simp (disch := omega) only [go_sem, seval, ac_registers_twin_L1]
         refine ⟨hlt, Weak.cv (hv := []) [40992] (fun j => if j = 9100 then 41024 else j) ?_ rfl⟩
         simp (disch := omega) only [go_sem, seval, take_s (d := []) hlt]
         rfl
       · have e : i = b0.length := by omega
         subst e
         simp (disch := omega) only [go_sem, seval, ac_registers_twin_L1]
         refine Weak.rd (fun j => if j = 9000 then 49216 else if j = 9001 then 9100 else j) ?_ ?_ rfl
         all_goals simp (disch := omega) only [go_sem, seval]
   · simp (disch := omega) only [go_sem, seval, ac_registers_twin_L0]
     refine loop_upto b1.length (fun i => [(2, .ref 4112 0 0), (3, .ref 8240 0 0), (15, .t (.int .i64 1)), (13, .t (T.sl [T.sl (List.map bsT b0), T.sl (List.map bsT b1)])), (14, .t (.int .i64 2)), (6, .sl 9100 0 i), (21, .t (.int .i64 (i : Nat))), (19, .t (.sl (b1.map bsT))), (20, .t (.int .i64 b1.length))]) (fun i => [(9100, .live 1 (((b1.take i).map bsT).map V.t) true false), (8240, .live 2 [.agg [.sl 9000 0 1, .t (.int .i64 u)]] true true), (9000, .live 1 [.sl 9001 0 b0.length] true false), (9001, .live 1 ((b0.map bsT).map V.t) true false), (4112, .live 2 [.agg [.nil, .t (.int .i64 0)]] true true)]) ?_ (fun i hi => ?_)
     · refine Weak.cv0 (hv := [(9100, .live 1 [] true false)]) (ho := [(8240, .live 2 [.agg [.sl 9000 0 1, .t (.int .i64 u)]] true true), (9000, .live 1 [.sl 9001 0 b0.length] true false), (9001, .live 1 ((b0.map bsT).map V.t) true false), (4112, .live 2 [.agg [.nil, .t (.int .i64 0)]] true true)]) id ?_ ?_ rfl rfl
       all_goals simp (disch := omega) only [go_sem, seval, id, List.map_cons, List.map_nil]
     · have hm := modL_get m1 i
       by_cases hlt : i < b1.length
       · simp (disch := omega) only [go_sem, seval, ac_registers_twin_L1]
         refine ⟨hlt, Weak.cv (hv := []) [40992] (fun j => if j = 9100 then 41024 else j) ?_ rfl⟩
         simp (disch := omega) only [go_sem, seval, take_s (d := []) hlt]
         rfl
       · have e : i = b1.length := by omega
         subst e
         simp (disch := omega) only [go_sem, seval, ac_registers_twin_L1]
         refine Weak.rd (fun j => if j = 9000 then 49216 else if j = 9002 then 9100 else j) ?_ ?_ rfl
         all_goals simp (disch := omega) only [go_sem, seval]
   · simp (disch := omega) only [go_sem, seval, ac_registers_twin_L0]
theorem w_ref8_Copy0 (tab : Tab) (gl : Gl) (n1 : Nat) (u : Int) : (ac_ref8_Copy n1).wp tab gl (zipF 0 [.t (regT [] u)]) (zipF 0 []) (resF [] [(2, some (2, true))] 0 (fun r o => r = .agg [.nil, .t (.int .i64 u)] ∧ o = [])) := by
 simp (disch := omega) only [go_sem, seval, ac_ref8_Copy, List.map_nil]
 refine loop_fuel 1 ?_
 simp (disch := omega) only [go_sem, seval, loopN_succ, ac_ref8_Copy_L0]
def ct_copy : Ct where
 α := List UInt8
 as x := [.t (.sl (x.map byteT))]
 ins _ := []
 pre x := x.length < 1000000000
 r x := .sl 0 0 x.length
 outs x := [.live 1 ((x.map byteT).map V.t) true false]
 inj := by
   intro a b h _
   simp [mapB_inj] at h
   subst h; exact ⟨rfl, rfl⟩
theorem copy_eq {bs : List UInt8} (h : bs.length < 1000000000) : ct_copy.fs [.t (.sl (bs.map byteT))] [] = some (.sl 0 0 bs.length, [.live 1 ((bs.map byteT).map V.t) true false]) := ct_copy.eq bs h
theorem w_ref8_Copy2 (tab : Tab) (gl : Gl) (n1 : Nat) (h1 : tab.look n1 = some ct_copy.fs) (b0 b1 : Bank) (u : Int) (m0 : modL b0) (m1 : modL b1) : (ac_ref8_Copy n1).wp tab gl (zipF 0 [.t (regT [b0, b1] u)]) (zipF 0 []) (resF [] [(2, some (2, true))] 0 (fun r o => r = .agg [.sl 0 0 2, .t (.int .i64 u)] ∧ o = [.live 1 [.sl 1 0 b0.length, .sl 2 0 b1.length] true false, .live 1 ((b0.map bsT).map V.t) true false, .live 1 ((b1.map bsT).map V.t) true false])) := by
 simp (disch := omega) only [go_sem, seval, ac_ref8_Copy, List.map_nil, List.map_cons]
 have hl0 := m0.1
 have hl1 := m1.1
 refine loop_upto 2 (fun k => match k with | 0 => [(2, .ref 4112 0 0), (3, .ref 8240 0 0), (4, .t (.int .i64 0)), (1, .ref 4096 0 0)] | 1 => [(2, .ref 4112 0 0), (3, .ref 8240 0 0), (4, .t (.int .i64 1)), (1, .ref 4096 0 0)] | _ => [(2, .ref 4112 0 0), (3, .ref 8240 0 0), (4, .t (.int .i64 2)), (1, .ref 4096 0 0)]) (fun k => match k with | 0 => [(8240, .live 2 [.agg [.nil, .t (.int .i64 u)]] true true), (4112, .live 2 [.agg [.nil, .t (.int .i64 0)]] true true), (4096, .live 2 [.t (.agg [T.sl [T.sl (List.map bsT b0), T.sl (List.map bsT b1)], .int .i64 u])] true true)] | 1 => [(8240, .live 2 [.agg [.sl 9000 0 1, .t (.int .i64 u)]] true true), (9000, .live 1 [.sl 9001 0 b0.length] true false), (9001, .live 1 ((b0.map bsT).map V.t) true false), (4112, .live 2 [.agg [.nil, .t (.int .i64 0)]] true true), (4096, .live 2 [.t (.agg [T.sl [T.sl (List.map bsT b0), T.sl (List.map bsT b1)], .int .i64 u])] true true)] | _ => [(8240, .live 2 [.agg [.sl 9000 0 2, .t (.int .i64 u)]] true true), (9000, .live 1 [.sl 9001 0 b0.length, .sl 9002 0 b1.length] true false), (9001, .live 1 ((b0.map bsT).map V.t) true false), (9002, .live 1 ((b1.map bsT).map V.t) true false), (4112, .live 2 [.agg [.nil, .t (.int .i64 0)]] true true), (4096, .live 2 [.t (.agg [T.sl [T.sl (List.map bsT b0), T.sl (List.map bsT b1)], .int .i64 u])] true true)]) ?_ (fun k hk => ?_)
 · refine Weak.rd id ?_ ?_ rfl
   all_goals simp (disch := omega) only [go_sem, seval, id]
 · rcases (show k = 0 ∨ k = 1 ∨ k = 2 by omega) with rfl | rfl | rfl
   · simp (disch := omega) only [go_sem, seval, ac_ref8_Copy_L0, h1, copy_eq]
     refine loop_upto b0.length (fun i => [(2, .ref 4112 0 0), (3, .ref 8240 0 0), (4, .t (.int .i64 0)), (1, .ref 4096 0 0), (5, .sl 9100 0 i), (6, .t (.int .i64 (i : Nat)))]) (fun i => [(9100, .live 1 (((b0.take i).map bsT).map V.t) true false), (8240, .live 2 [.agg [.nil, .t (.int .i64 u)]] true true), (4112, .live 2 [.agg [.nil, .t (.int .i64 0)]] true true), (4096, .live 2 [.t (.agg [T.sl [T.sl (List.map bsT b0), T.sl (List.map bsT b1)], .int .i64 u])] true true)]) ?_ (fun i hi => ?_)
     · refine Weak.cv0 (hv := [(9100, .live 1 [] true false)]) (ho := [(8240, .live 2 [.agg [.nil, .t (.int .i64 u)]] true true), (4112, .live 2 [.agg [.nil, .t (.int .i64 0)]] true true), (4096, .live 2 [.t (.agg [T.sl [T.sl (List.map bsT b0), T.sl (List.map bsT b1)], .int .i64 u])] true true)]) id ?_ ?_ rfl rfl
       all_goals simp (disch := omega) only [go_sem, seval, id, List.map_cons, List.map_nil]
     · have hm := modL_get m0 i
       by_cases hlt : i < b0.length
       · simp (disch := omega) only [go_sem, seval, ac_ref8_Copy_L1, h1, copy_eq]
         refine ⟨hlt, Weak.cv (hv := []) [41104] (fun j => if j = 9100 then 41136 else j) ?_ rfl⟩
         simp (disch := omega) only [go_sem, seval, take_s (d := []) hlt]
         rfl
       · have e : i = b0.length := by omega
         subst e
         simp (disch := omega) only [go_sem, seval, ac_ref8_Copy_L1, h1, copy_eq]
         refine Weak.rd (fun j => if j = 9000 then 45120 else if j = 9001 then 9100 else j) ?_ ?_ rfl
         all_goals simp (disch := omega) only [go_sem, seval]
   · simp (disch := omega) only [go_sem, seval, ac_ref8_Copy_L0, h1, copy_eq]
     refine loop_upto b1.length (fun i => [(2, .ref 4112 0 0), (3, .ref 8240 0 0), (4, .t (.int .i64 1)), (1, .ref 4096 0 0), (5, .sl 9100 0 i), (6, .t (.int .i64 (i : Nat)))]) (fun i => [(9100, .live 1 (((b1.take i).map bsT).map V.t) true false), (8240, .live 2 [.agg [.sl 9000 0 1, .t (.int .i64 u)]] true true), (9000, .live 1 [.sl 9001 0 b0.length] true false), (9001, .live 1 ((b0.map bsT).map V.t) true false), (4112, .live 2 [.agg [.nil, .t (.int .i64 0)]] true true), (4096, .live 2 [.t (.agg [T.sl [T.sl (List.map bsT b0), T.sl (List.map bsT b1)], .int .i64 u])] true true)]) ?_ (fun i hi => ?_)
     · refine Weak.cv0 (hv := [(9100, .live 1 [] true false)]) (ho := [(8240, .live 2 [.agg [.sl 9000 0 1, .t (.int .i64 u)]] true true), (9000, .live 1 [.sl 9001 0 b0.length] true false), (9001, .live 1 ((b0.map bsT).map V.t) true false), (4112, .live 2 [.agg [.nil, .t (.int .i64 0)]] true true), (4096, .live 2 [.t (.agg [T.sl [T.sl (List.map bsT b0), T.sl (List.map bsT b1)], .int .i64 u])] true true)]) id ?_ ?_ rfl rfl
       all_goals simp (disch := omega) only [go_sem, seval, id, List.map_cons, List.map_nil]
     · have hm := modL_get m1 i
       by_cases hlt : i < b1.length
       · simp (disch := omega) only [go_sem, seval, ac_ref8_Copy_L1, h1, copy_eq]
         refine ⟨hlt, Weak.cv (hv := []) [41104] (fun j => if j = 9100 then 41136 else j) ?_ rfl⟩
         simp (disch := omega) only [go_sem, seval, take_s (d := []) hlt]
         rfl
       · have e : i = b1.length := by omega
         subst e
         simp (disch := omega) only [go_sem, seval, ac_ref8_Copy_L1, h1, copy_eq]
         refine Weak.rd (fun j => if j = 9000 then 45120 else if j = 9002 then 9100 else j) ?_ ?_ rfl
         all_goals simp (disch := omega) only [go_sem, seval]
   · simp (disch := omega) only [go_sem, seval, ac_ref8_Copy_L0, h1, copy_eq]
def twR (bk : List Bank) (u : Int) : V := match bk with
 | [_, _] => .agg [.sl 0 0 2, .t (.int .i64 u)]
 | _ => .agg [.nil, .t (.int .i64 u)]
def twO (bk : List Bank) : List Ob := match bk with
 | [b0, b1] => [.live 1 [.sl 1 0 b0.length, .sl 2 0 b1.length] true false, .live 1 ((b0.map bsT).map V.t) true false, .live 1 ((b1.map bsT).map V.t) true false]
 | _ => []
def RM (bk : List Bank) : Prop := RK bk ∧ ∀ b ∈ bk, modL b
def ct_twin : Ct where
 α := List Bank × Int
 as x := [.t (regT x.1 x.2)]
 ins _ := []
 pre x := RM x.1
 r x := twR x.1 x.2
 outs x := twO x.1
 inj := by
   rintro ⟨a, u⟩ ⟨b, v⟩ h _
   simp only [List.cons.injEq, V.t.injEq, and_true] at h
   obtain ⟨rfl, rfl⟩ := regT_inj h
   exact ⟨rfl, rfl⟩
theorem twin_eq0 {u : Int} : ct_twin.fs [.t (.agg [.sl [], .int .i64 u])] [] = some (.agg [.nil, .t (.int .i64 u)], []) := ct_twin.eq ([], u) ⟨.nil, by simp⟩
theorem twin_eq2 {b0 b1 : Bank} {u : Int} (h : RM [b0, b1]) : ct_twin.fs [.t (.agg [.sl [.sl (b0.map bsT), .sl (b1.map bsT)], .int .i64 u])] [] =
   some (.agg [.sl 0 0 2, .t (.int .i64 u)], [.live 1 [.sl 1 0 b0.length, .sl 2 0 b1.length] true false, .live 1 ((b0.map bsT).map V.t) true false, .live 1 ((b1.map bsT).map V.t) true false]) := ct_twin.eq ([b0, b1], u) h
end Go.Eng
end
section
set_option maxRecDepth 20000
set_option maxHeartbeats 16000000
namespace Go.Eng
def newV (i : Nat) : UInt8 := if 12 ≤ i then 255 else 0
theorem newV_a {i : Nat} (h : i < 12) : newV i = 0 := if_neg (by omega)
theorem newV_b {i : Nat} (h : ¬ i < 12) : newV i = 255 := if_pos (by omega)
def newB (a : Nat) : Bank := (List.range 16).map fun i => List.replicate (szA a) (newV i)
theorem newB_take {a i : Nat} (h : i < 16) : (newB a).take (i + 1) = (newB a).take i ++ [List.replicate (szA a) (newV i)] := by
 rw [take_s (d := []) (by simp [newB]; omega)]
 congr 2
 simp [newB, List.getD, h]
theorem newB_all {a : Nat} : (newB a).take 16 = newB a := List.take_of_length_le (by simp [newB])
theorem newB_length {a : Nat} : List.length (newB a) = 16 := by simp [newB]
def newBk (s : Int) : List Bank := if s % 4 = 0 then [] else [if s % 2 = 1 then newB 0 else [], if s / 2 % 2 = 1 then newB 1 else []]
theorem newBk_of {s : Int} (h : ¬ s % 4 = 0) : newBk s = [if s % 2 = 1 then newB 0 else [], if s / 2 % 2 = 1 then newB 1 else []] := if_neg h
def ct_size : Ct where
 α := Int
 as x := [.t (.int .i64 x)]
 ins _ := []
 pre _ := True
 r x := .t (.int .i64 (if x = 0 then 20 else if x = 1 then 32 else 0))
 outs _ := []
 inj := by
   intro a b h _
   simp at h
   subst h; exact ⟨rfl, rfl⟩
theorem size_eq0 : ct_size.fs [.t (.int .i64 0)] [] = some (.t (.int .i64 20), []) := ct_size.eq (0 : Int) trivial
theorem size_eq1 : ct_size.fs [.t (.int .i64 1)] [] = some (.t (.int .i64 32), []) := ct_size.eq (1 : Int) trivial
def ct_fill : Ct where
 α := Nat × UInt8
 as x := [.t (.int .i64 x.1), .t (byteT x.2)]
 ins _ := []
 pre x := x.1 = 20 ∨ x.1 = 32
 r x := .sl 0 0 x.1
 outs x := [.live 1 (((List.replicate x.1 x.2).map byteT).map V.t) true false]
 inj := by
   rintro ⟨a, b⟩ ⟨c, d⟩ h _
   simp [byteT_eq, Int.natCast_inj] at h
   obtain ⟨rfl, rfl⟩ := h
   exact ⟨rfl, rfl⟩
theorem fill_eq20 {x : UInt8} : ct_fill.fs [.t (.int .i64 20), .t (byteT x)] [] = some (.sl 0 0 20, [.live 1 (((List.replicate 20 x).map byteT).map V.t) true false]) := ct_fill.eq (20, x) (.inl rfl)
theorem fill_eq32 {x : UInt8} : ct_fill.fs [.t (.int .i64 32), .t (byteT x)] [] = some (.sl 0 0 32, [.live 1 (((List.replicate 32 x).map byteT).map V.t) true false]) := ct_fill.eq (32, x) (.inr rfl)
theorem w_ref8_initial (tab : Tab) (gl : Gl) (n1 n2 : Nat) (h1 : tab.look n1 = some ct_size.fs) (h2 : tab.look n2 = some ct_fill.fs) (a : Nat) (ha : a < 2) (i : Nat) : (ac_ref8_initial n1 n2).wp tab gl (zipF 0 [.t (.int .i64 a), .t (.int .i64 i)]) (zipF 0 []) (resF [] [(4, none)] 0 (fun r o => r = .sl 0 0 (szA a) ∧ o = [.live 1 (((List.replicate (szA a) (newV i)).map byteT).map V.t) true false])) := by
 rcases (show a = 0 ∨ a = 1 by omega) with rfl | rfl <;> by_cases hi : i < 12
 all_goals simp (disch := omega) only [go_sem, ↓reduceIte, Nat.reduceAdd, Nat.reduceEqDiff, Nat.reduceLeDiff, reduceCtorEq, ac_ref8_initial, h1, h2, size_eq0, size_eq1, fill_eq20, fill_eq32, szA]
 all_goals first | rw [newV_a hi] | rw [newV_b hi]
def ct_init : Ct where
 α := Nat × Nat
 as x := [.t (.int .i64 x.1), .t (.int .i64 x.2)]
 ins _ := []
 pre x := x.1 < 2
 r x := .sl 0 0 (szA x.1)
 outs x := [.live 1 (((List.replicate (szA x.1) (newV x.2)).map byteT).map V.t) true false]
 inj := by
   rintro ⟨a, b⟩ ⟨c, d⟩ h _
   simp [Int.natCast_inj] at h
   obtain ⟨rfl, rfl⟩ := h
   exact ⟨rfl, rfl⟩
theorem init_eq0 {i : Nat} : ct_init.fs [.t (.int .i64 0), .t (.int .i64 i)] [] = some (.sl 0 0 20, [.live 1 (((List.replicate 20 (newV i)).map byteT).map V.t) true false]) := ct_init.eq (0, i) (by simp [ct_init])
theorem init_eq1 {i : Nat} : ct_init.fs [.t (.int .i64 1), .t (.int .i64 i)] [] = some (.sl 0 0 32, [.live 1 (((List.replicate 32 (newV i)).map byteT).map V.t) true false]) := ct_init.eq (1, i) (by simp [ct_init])
theorem w_registers_New0 (tab : Tab) (gl : Gl) (n1 n2 : Nat) (s : Int) (h3 : s % 4 = 0) : (ac_registers_New n1 n2).wp tab gl (zipF 0 [.t (.int .i64 s)]) (zipF 0 []) (resF [] [(2, some (2, true))] 0 (fun r o => r = .agg [.nil, .t (.int .i64 0)] ∧ o = [])) := by
 simp (disch := omega) only [go_sem, ↓reduceIte, Nat.reduceAdd, Nat.reduceEqDiff, Nat.reduceLeDiff, reduceCtorEq, ac_registers_New, h3]
theorem w_ref8_New0 (tab : Tab) (gl : Gl) (n1 : Nat) (s : Int) (h3 : s % 4 = 0) : (ac_ref8_New n1).wp tab gl (zipF 0 [.t (.int .i64 s)]) (zipF 0 []) (resF [] [(2, some (2, true))] 0 (fun r o => r = .agg [.nil, .t (.int .i64 0)] ∧ o = [])) := by
 simp (disch := omega) only [go_sem, ↓reduceIte, Nat.reduceAdd, Nat.reduceEqDiff, Nat.reduceLeDiff, reduceCtorEq, ac_ref8_New, h3]
theorem w_registers_New (tab : Tab) (gl : Gl) (n1 n2 : Nat) (h1 : tab.look n1 = some ct_size.fs) (h2 : tab.look n2 = some ct_fill.fs) (s : Int) (h3 : ¬ s % 4 = 0) : (ac_registers_New n1 n2).wp tab gl (zipF 0 [.t (.int .i64 s)]) (zipF 0 []) (resF [] [(2, some (2, true))] 0 (fun r o => r = twR (newBk s) 0 ∧ o = twO (newBk s))) := by
 have h4 : (s % 4 == 0) = false := by simpa using h3
 have hf1 : s.fdiv 1 = s := Int.fdiv_one s
 have hf2 : s.fdiv 2 = s / 2 := Int.fdiv_eq_ediv_of_nonneg s (by omega)
 have hc0 : s % 2 = 0 ∨ s % 2 = 1 := by omega
 have hc1 : s / 2 % 2 = 0 ∨ s / 2 % 2 = 1 := by omega
 rcases hc0 with c0 | c0 <;> rcases hc1 with c1 | c1
 · exact absurd (by omega) h3
 · rw [newBk_of h3, if_neg (by omega), if_pos (by omega)]
   simp (disch := omega) only [go_sem, ↓reduceIte, Nat.reduceAdd, Nat.reduceEqDiff, reduceCtorEq, ac_registers_New, h4, hf1, hf2]
   refine loop_upto 2 (fun k => match k with | 0 => [(0, .t (.int .i64 s)), (2, .ref 4096 0 0), (3, .ref 16384 0 0), (12, .t (.int .i64 0))] | 1 => [(0, .t (.int .i64 s)), (2, .ref 4096 0 0), (3, .ref 16384 0 0), (12, .t (.int .i64 1))] | _ => [(0, .t (.int .i64 s)), (2, .ref 4096 0 0), (3, .ref 16384 0 0), (12, .t (.int .i64 2))]) (fun k => match k with | 0 => [(16384, .live 2 [.agg [.nil, .t (.int .i64 0)]] true true), (4096, .live 2 [.agg [.nil, .t (.int .i64 0)]] true true)] | 1 => [(16384, .live 2 [.agg [.sl 9000 0 1, .t (.int .i64 0)]] true true), (9000, .live 1 [.sl 9001 0 0] true false), (9001, .live 1 ((([] : Bank).map bsT).map V.t) true false), (4096, .live 2 [.agg [.nil, .t (.int .i64 0)]] true true)] | _ => [(16384, .live 2 [.agg [.sl 9000 0 2, .t (.int .i64 0)]] true true), (9000, .live 1 [.sl 9001 0 0, .sl 9002 0 16] true false), (9001, .live 1 ((([] : Bank).map bsT).map V.t) true false), (9002, .live 1 (((newB 1 : Bank).map bsT).map V.t) true false), (4096, .live 2 [.agg [.nil, .t (.int .i64 0)]] true true)]) ?_ (fun k hk => ?_)
   · refine Weak.rd id ?_ ?_ rfl
     all_goals simp (disch := omega) only [go_sem, ↓reduceIte, Nat.reduceEqDiff, Nat.reduceBEq, reduceCtorEq, id]
   · rcases (show k = 0 ∨ k = 1 ∨ k = 2 by omega) with rfl | rfl | rfl
     · simp (disch := omega) only [go_sem, ↓reduceIte, Nat.reduceAdd, Nat.reduceEqDiff, Int.reduceLT, reduceCtorEq, ac_registers_New_L0, c0, c1, newB_length, h1, h2, size_eq0, size_eq1, fill_eq20, fill_eq32, hf1, hf2]
       refine loop_fuel 1 ?_
       simp (disch := omega) only [go_sem, ↓reduceIte, Nat.reduceAdd, Nat.reduceEqDiff, Nat.reduceLT, Nat.reduceLeDiff, Int.reduceLT, Int.reduceAdd, reduceCtorEq, Int.reducePow, loopN_succ, ac_registers_New_L1, c0, c1, newB_length, h1, h2, size_eq0, size_eq1, fill_eq20, fill_eq32, hf1, hf2]
       refine Weak.trans (fs' := [(0, .t (.int .i64 s)), (2, .ref 4096 0 0), (3, .ref 16384 0 0), (12, .t (.int .i64 1))]) (Weak.cv0 (hv := [(9001, .live 1 [] true false)]) (ho := [(16384, .live 2 [.agg [.sl 9000 0 1, .t (.int .i64 0)]] true true), (9000, .live 1 [.sl 9001 0 0] true false), (4096, .live 2 [.agg [.nil, .t (.int .i64 0)]] true true)]) (fun j => if j = 9000 then 65600 else j) ?_ ?_ rfl rfl) (Weak.rd id ?_ ?_ rfl)
       all_goals simp (disch := omega) only [go_sem, ↓reduceIte, Nat.reduceAdd, Nat.reduceEqDiff, Nat.reduceBEq, reduceCtorEq, List.map_cons, List.map_nil, id]
     · simp (disch := omega) only [go_sem, ↓reduceIte, Nat.reduceAdd, Nat.reduceEqDiff, Int.reduceLT, reduceCtorEq, ac_registers_New_L0, c0, c1, newB_length, h1, h2, size_eq0, size_eq1, fill_eq20, fill_eq32, hf1, hf2]
       refine loop_upto 16 (fun i => [(0, .t (.int .i64 s)), (2, .ref 4096 0 0), (3, .ref 16384 0 0), (12, .t (.int .i64 1)), (4, .t (.int .i64 1)), (5, .sl 9100 0 i), (6, .t (.int .i64 (i : Nat)))]) (fun i => [(9100, .live 1 ((((newB 1).take i).map bsT).map V.t) true false), (16384, .live 2 [.agg [.sl 9000 0 1, .t (.int .i64 0)]] true true), (9000, .live 1 [.sl 9001 0 0] true false), (9001, .live 1 ((([] : Bank).map bsT).map V.t) true false), (4096, .live 2 [.agg [.nil, .t (.int .i64 0)]] true true)]) ?_ (fun i hi => ?_)
       · refine Weak.cv0 (hv := [(9100, .live 1 [] true false)]) (ho := [(16384, .live 2 [.agg [.sl 9000 0 1, .t (.int .i64 0)]] true true), (9000, .live 1 [.sl 9001 0 0] true false), (9001, .live 1 ((([] : Bank).map bsT).map V.t) true false), (4096, .live 2 [.agg [.nil, .t (.int .i64 0)]] true true)]) id ?_ ?_ rfl rfl
         all_goals simp (disch := omega) only [go_sem, ↓reduceIte, Nat.reduceAdd, Nat.reduceEqDiff, Nat.reduceBEq, reduceCtorEq, List.map_cons, List.map_nil, id]
       · by_cases hlt : i < 16
         · by_cases h12 : i < 12
           · simp (disch := omega) only [go_sem, ↓reduceIte, Nat.reduceAdd, Nat.reduceEqDiff, Nat.reduceLT, Nat.reduceLeDiff, Int.reduceLT, reduceCtorEq, Int.reducePow, ac_registers_New_L1, c0, c1, newB_length, h1, h2, size_eq0, size_eq1, fill_eq20, fill_eq32, hf1, hf2]
             refine ⟨hlt, Weak.cv (hv := []) [61504] (fun j => if j = 9100 then 61536 else j) ?_ rfl⟩
             simp (disch := omega) only [go_sem, ↓reduceIte, Nat.reduceAdd, Nat.reduceEqDiff, Nat.reduceLeDiff, Nat.reduceBEq, reduceCtorEq, newB_take hlt, szA, List.take_replicate, Nat.min_self, newV_a h12]
             rfl
           · simp (disch := omega) only [go_sem, ↓reduceIte, Nat.reduceAdd, Nat.reduceEqDiff, Nat.reduceLT, Nat.reduceLeDiff, Int.reduceLT, reduceCtorEq, Int.reducePow, ac_registers_New_L1, c0, c1, newB_length, h1, h2, size_eq0, size_eq1, fill_eq20, fill_eq32, hf1, hf2]
             refine ⟨hlt, Weak.cv (hv := []) [61504] (fun j => if j = 9100 then 61536 else j) ?_ rfl⟩
             simp (disch := omega) only [go_sem, ↓reduceIte, Nat.reduceAdd, Nat.reduceEqDiff, Nat.reduceLeDiff, Nat.reduceBEq, reduceCtorEq, newB_take hlt, szA, List.take_replicate, Nat.min_self, newV_b h12]
             rfl
         · have e : i = 16 := by omega
           subst e
           simp (disch := omega) only [go_sem, ↓reduceIte, Nat.reduceAdd, Nat.reduceEqDiff, Nat.reduceMul, Nat.reduceLT, Nat.reduceLeDiff, Int.reduceLT, Int.reduceAdd, reduceCtorEq, ac_registers_New_L1, c0, c1, newB_length, h1, h2, size_eq0, size_eq1, fill_eq20, fill_eq32, hf1, hf2]
           refine Weak.rd (fun j => if j = 9000 then 65600 else if j = 9002 then 9100 else j) ?_ ?_ rfl
           all_goals simp (disch := omega) only [go_sem, ↓reduceIte, Nat.reduceAdd, Nat.reduceEqDiff, Nat.reduceBEq, reduceCtorEq, newB_all]
     · simp (disch := omega) only [go_sem, ↓reduceIte, Nat.reduceAdd, Nat.reduceEqDiff, Nat.reduceLeDiff, Nat.reduceBEq, Int.reduceLT, reduceCtorEq, ac_registers_New_L0, c0, c1, newB_length, h1, h2, size_eq0, size_eq1, fill_eq20, fill_eq32, hf1, hf2]
       exact ⟨rfl, rfl⟩
 · rw [newBk_of h3, if_pos (by omega), if_neg (by omega)]
   simp (disch := omega) only [go_sem, ↓reduceIte, Nat.reduceAdd, Nat.reduceEqDiff, reduceCtorEq, ac_registers_New, h4, hf1, hf2]
   refine loop_upto 2 (fun k => match k with | 0 => [(0, .t (.int .i64 s)), (2, .ref 4096 0 0), (3, .ref 16384 0 0), (12, .t (.int .i64 0))] | 1 => [(0, .t (.int .i64 s)), (2, .ref 4096 0 0), (3, .ref 16384 0 0), (12, .t (.int .i64 1))] | _ => [(0, .t (.int .i64 s)), (2, .ref 4096 0 0), (3, .ref 16384 0 0), (12, .t (.int .i64 2))]) (fun k => match k with | 0 => [(16384, .live 2 [.agg [.nil, .t (.int .i64 0)]] true true), (4096, .live 2 [.agg [.nil, .t (.int .i64 0)]] true true)] | 1 => [(16384, .live 2 [.agg [.sl 9000 0 1, .t (.int .i64 0)]] true true), (9000, .live 1 [.sl 9001 0 16] true false), (9001, .live 1 (((newB 0 : Bank).map bsT).map V.t) true false), (4096, .live 2 [.agg [.nil, .t (.int .i64 0)]] true true)] | _ => [(16384, .live 2 [.agg [.sl 9000 0 2, .t (.int .i64 0)]] true true), (9000, .live 1 [.sl 9001 0 16, .sl 9002 0 0] true false), (9001, .live 1 (((newB 0 : Bank).map bsT).map V.t) true false), (9002, .live 1 ((([] : Bank).map bsT).map V.t) true false), (4096, .live 2 [.agg [.nil, .t (.int .i64 0)]] true true)]) ?_ (fun k hk => ?_)
   · refine Weak.rd id ?_ ?_ rfl
     all_goals simp (disch := omega) only [go_sem, ↓reduceIte, Nat.reduceEqDiff, Nat.reduceBEq, reduceCtorEq, id]
   · rcases (show k = 0 ∨ k = 1 ∨ k = 2 by omega) with rfl | rfl | rfl
     · simp (disch := omega) only [go_sem, ↓reduceIte, Nat.reduceAdd, Nat.reduceEqDiff, Int.reduceLT, reduceCtorEq, ac_registers_New_L0, c0, c1, newB_length, h1, h2, size_eq0, size_eq1, fill_eq20, fill_eq32, hf1, hf2]
       refine loop_upto 16 (fun i => [(0, .t (.int .i64 s)), (2, .ref 4096 0 0), (3, .ref 16384 0 0), (12, .t (.int .i64 0)), (4, .t (.int .i64 0)), (5, .sl 9100 0 i), (6, .t (.int .i64 (i : Nat)))]) (fun i => [(9100, .live 1 ((((newB 0).take i).map bsT).map V.t) true false), (16384, .live 2 [.agg [.nil, .t (.int .i64 0)]] true true), (4096, .live 2 [.agg [.nil, .t (.int .i64 0)]] true true)]) ?_ (fun i hi => ?_)
       · refine Weak.cv0 (hv := [(9100, .live 1 [] true false)]) (ho := [(16384, .live 2 [.agg [.nil, .t (.int .i64 0)]] true true), (4096, .live 2 [.agg [.nil, .t (.int .i64 0)]] true true)]) id ?_ ?_ rfl rfl
         all_goals simp (disch := omega) only [go_sem, ↓reduceIte, Nat.reduceEqDiff, Nat.reduceBEq, reduceCtorEq, List.map_cons, List.map_nil, id]
       · by_cases hlt : i < 16
         · by_cases h12 : i < 12
           · simp (disch := omega) only [go_sem, ↓reduceIte, Nat.reduceAdd, Nat.reduceEqDiff, Nat.reduceLT, Nat.reduceLeDiff, Int.reduceLT, reduceCtorEq, Int.reducePow, ac_registers_New_L1, c0, c1, newB_length, h1, h2, size_eq0, size_eq1, fill_eq20, fill_eq32, hf1, hf2]
             refine ⟨hlt, Weak.cv (hv := []) [61504] (fun j => if j = 9100 then 61536 else j) ?_ rfl⟩
             simp (disch := omega) only [go_sem, ↓reduceIte, Nat.reduceAdd, Nat.reduceEqDiff, Nat.reduceLeDiff, Nat.reduceBEq, reduceCtorEq, newB_take hlt, szA, List.take_replicate, Nat.min_self, newV_a h12]
             rfl
           · simp (disch := omega) only [go_sem, ↓reduceIte, Nat.reduceAdd, Nat.reduceEqDiff, Nat.reduceLT, Nat.reduceLeDiff, Int.reduceLT, reduceCtorEq, Int.reducePow, ac_registers_New_L1, c0, c1, newB_length, h1, h2, size_eq0, size_eq1, fill_eq20, fill_eq32, hf1, hf2]
             refine ⟨hlt, Weak.cv (hv := []) [61504] (fun j => if j = 9100 then 61536 else j) ?_ rfl⟩
             simp (disch := omega) only [go_sem, ↓reduceIte, Nat.reduceAdd, Nat.reduceEqDiff, Nat.reduceLeDiff, Nat.reduceBEq, reduceCtorEq, newB_take hlt, szA, List.take_replicate, Nat.min_self, newV_b h12]
             rfl
         · have e : i = 16 := by omega
           subst e
           simp (disch := omega) only [go_sem, ↓reduceIte, Nat.reduceAdd, Nat.reduceEqDiff, Nat.reduceLT, Nat.reduceLeDiff, Int.reduceLT, Int.reduceAdd, reduceCtorEq, ac_registers_New_L1, c0, c1, newB_length, h1, h2, size_eq0, size_eq1, fill_eq20, fill_eq32, hf1, hf2]
           refine Weak.rd (fun j => if j = 9000 then 65600 else if j = 9001 then 9100 else j) ?_ ?_ rfl
           all_goals simp (disch := omega) only [go_sem, ↓reduceIte, Nat.reduceAdd, Nat.reduceEqDiff, Nat.reduceBEq, reduceCtorEq, newB_all]
     · simp (disch := omega) only [go_sem, ↓reduceIte, Nat.reduceAdd, Nat.reduceEqDiff, Int.reduceLT, reduceCtorEq, ac_registers_New_L0, c0, c1, newB_length, h1, h2, size_eq0, size_eq1, fill_eq20, fill_eq32, hf1, hf2]
       refine loop_fuel 1 ?_
       simp (disch := omega) only [go_sem, ↓reduceIte, Nat.reduceAdd, Nat.reduceEqDiff, Nat.reduceMul, Nat.reduceLT, Nat.reduceLeDiff, Int.reduceLT, Int.reduceAdd, reduceCtorEq, Int.reducePow, loopN_succ, ac_registers_New_L1, c0, c1, newB_length, h1, h2, size_eq0, size_eq1, fill_eq20, fill_eq32, hf1, hf2]
       refine Weak.trans (fs' := [(0, .t (.int .i64 s)), (2, .ref 4096 0 0), (3, .ref 16384 0 0), (12, .t (.int .i64 2))]) (Weak.cv0 (hv := [(9002, .live 1 [] true false)]) (ho := [(16384, .live 2 [.agg [.sl 9000 0 2, .t (.int .i64 0)]] true true), (9000, .live 1 [.sl 9001 0 16, .sl 9002 0 0] true false), (9001, .live 1 (((newB 0 : Bank).map bsT).map V.t) true false), (4096, .live 2 [.agg [.nil, .t (.int .i64 0)]] true true)]) (fun j => if j = 9000 then 65600 else j) ?_ ?_ rfl rfl) (Weak.rd id ?_ ?_ rfl)
       all_goals simp (disch := omega) only [go_sem, ↓reduceIte, Nat.reduceAdd, Nat.reduceEqDiff, Nat.reduceBEq, reduceCtorEq, List.map_cons, List.map_nil, id]
     · simp (disch := omega) only [go_sem, ↓reduceIte, Nat.reduceAdd, Nat.reduceEqDiff, Nat.reduceLeDiff, Nat.reduceBEq, Int.reduceLT, reduceCtorEq, ac_registers_New_L0, c0, c1, newB_length, h1, h2, size_eq0, size_eq1, fill_eq20, fill_eq32, hf1, hf2]
       exact ⟨rfl, rfl⟩
 · rw [newBk_of h3, if_pos (by omega), if_pos (by omega)]
   simp (disch := omega) only [go_sem, ↓reduceIte, Nat.reduceAdd, Nat.reduceEqDiff, reduceCtorEq, ac_registers_New, h4, hf1, hf2]
   refine loop_upto 2 (fun k => match k with | 0 => [(0, .t (.int .i64 s)), (2, .ref 4096 0 0), (3, .ref 16384 0 0), (12, .t (.int .i64 0))] | 1 => [(0, .t (.int .i64 s)), (2, .ref 4096 0 0), (3, .ref 16384 0 0), (12, .t (.int .i64 1))] | _ => [(0, .t (.int .i64 s)), (2, .ref 4096 0 0), (3, .ref 16384 0 0), (12, .t (.int .i64 2))]) (fun k => match k with | 0 => [(16384, .live 2 [.agg [.nil, .t (.int .i64 0)]] true true), (4096, .live 2 [.agg [.nil, .t (.int .i64 0)]] true true)] | 1 => [(16384, .live 2 [.agg [.sl 9000 0 1, .t (.int .i64 0)]] true true), (9000, .live 1 [.sl 9001 0 16] true false), (9001, .live 1 (((newB 0 : Bank).map bsT).map V.t) true false), (4096, .live 2 [.agg [.nil, .t (.int .i64 0)]] true true)] | _ => [(16384, .live 2 [.agg [.sl 9000 0 2, .t (.int .i64 0)]] true true), (9000, .live 1 [.sl 9001 0 16, .sl 9002 0 16] true false), (9001, .live 1 (((newB 0 : Bank).map bsT).map V.t) true false), (9002, .live 1 (((newB 1 : Bank).map bsT).map V.t) true false), (4096, .live 2 [.agg [.nil, .t (.int .i64 0)]] true true)]) ?_ (fun k hk => ?_)
   · refine Weak.rd id ?_ ?_ rfl
     all_goals simp (disch := omega) only [go_sem, ↓reduceIte, Nat.reduceEqDiff, Nat.reduceBEq, reduceCtorEq, id]
   · rcases (show k = 0 ∨ k = 1 ∨ k = 2 by omega) with rfl | rfl | rfl
     · simp (disch := omega) only [go_sem, ↓reduceIte, Nat.reduceAdd, Nat.reduceEqDiff, Int.reduceLT, reduceCtorEq, ac_registers_New_L0, c0, c1, newB_length, h1, h2, size_eq0, size_eq1, fill_eq20, fill_eq32, hf1, hf2]
       refine loop_upto 16 (fun i => [(0, .t (.int .i64 s)), (2, .ref 4096 0 0), (3, .ref 16384 0 0), (12, .t (.int .i64 0)), (4, .t (.int .i64 0)), (5, .sl 9100 0 i), (6, .t (.int .i64 (i : Nat)))]) (fun i => [(9100, .live 1 ((((newB 0).take i).map bsT).map V.t) true false), (16384, .live 2 [.agg [.nil, .t (.int .i64 0)]] true true), (4096, .live 2 [.agg [.nil, .t (.int .i64 0)]] true true)]) ?_ (fun i hi => ?_)
       · refine Weak.cv0 (hv := [(9100, .live 1 [] true false)]) (ho := [(16384, .live 2 [.agg [.nil, .t (.int .i64 0)]] true true), (4096, .live 2 [.agg [.nil, .t (.int .i64 0)]] true true)]) id ?_ ?_ rfl rfl
         all_goals simp (disch := omega) only [go_sem, ↓reduceIte, Nat.reduceEqDiff, Nat.reduceBEq, reduceCtorEq, List.map_cons, List.map_nil, id]
       · by_cases hlt : i < 16
         · by_cases h12 : i < 12
           · simp (disch := omega) only [go_sem, ↓reduceIte, Nat.reduceAdd, Nat.reduceEqDiff, Nat.reduceLT, Nat.reduceLeDiff, Int.reduceLT, reduceCtorEq, Int.reducePow, ac_registers_New_L1, c0, c1, newB_length, h1, h2, size_eq0, size_eq1, fill_eq20, fill_eq32, hf1, hf2]
             refine ⟨hlt, Weak.cv (hv := []) [61504] (fun j => if j = 9100 then 61536 else j) ?_ rfl⟩
             simp (disch := omega) only [go_sem, ↓reduceIte, Nat.reduceAdd, Nat.reduceEqDiff, Nat.reduceLeDiff, Nat.reduceBEq, reduceCtorEq, newB_take hlt, szA, List.take_replicate, Nat.min_self, newV_a h12]
             rfl
           · simp (disch := omega) only [go_sem, ↓reduceIte, Nat.reduceAdd, Nat.reduceEqDiff, Nat.reduceLT, Nat.reduceLeDiff, Int.reduceLT, reduceCtorEq, Int.reducePow, ac_registers_New_L1, c0, c1, newB_length, h1, h2, size_eq0, size_eq1, fill_eq20, fill_eq32, hf1, hf2]
             refine ⟨hlt, Weak.cv (hv := []) [61504] (fun j => if j = 9100 then 61536 else j) ?_ rfl⟩
             simp (disch := omega) only [go_sem, ↓reduceIte, Nat.reduceAdd, Nat.reduceEqDiff, Nat.reduceLeDiff, Nat.reduceBEq, reduceCtorEq, newB_take hlt, szA, List.take_replicate, Nat.min_self, newV_b h12]
             rfl
         · have e : i = 16 := by omega
           subst e
           simp (disch := omega) only [go_sem, ↓reduceIte, Nat.reduceAdd, Nat.reduceEqDiff, Nat.reduceLT, Nat.reduceLeDiff, Int.reduceLT, Int.reduceAdd, reduceCtorEq, ac_registers_New_L1, c0, c1, newB_length, h1, h2, size_eq0, size_eq1, fill_eq20, fill_eq32, hf1, hf2]
           refine Weak.rd (fun j => if j = 9000 then 65600 else if j = 9001 then 9100 else j) ?_ ?_ rfl
           all_goals simp (disch := omega) only [go_sem, ↓reduceIte, Nat.reduceAdd, Nat.reduceEqDiff, Nat.reduceBEq, reduceCtorEq, newB_all]
     · simp (disch := omega) only [go_sem, ↓reduceIte, Nat.reduceAdd, Nat.reduceEqDiff, Int.reduceLT, reduceCtorEq, ac_registers_New_L0, c0, c1, newB_length, h1, h2, size_eq0, size_eq1, fill_eq20, fill_eq32, hf1, hf2]
       refine loop_upto 16 (fun i => [(0, .t (.int .i64 s)), (2, .ref 4096 0 0), (3, .ref 16384 0 0), (12, .t (.int .i64 1)), (4, .t (.int .i64 1)), (5, .sl 9100 0 i), (6, .t (.int .i64 (i : Nat)))]) (fun i => [(9100, .live 1 ((((newB 1).take i).map bsT).map V.t) true false), (16384, .live 2 [.agg [.sl 9000 0 1, .t (.int .i64 0)]] true true), (9000, .live 1 [.sl 9001 0 16] true false), (9001, .live 1 (((newB 0 : Bank).map bsT).map V.t) true false), (4096, .live 2 [.agg [.nil, .t (.int .i64 0)]] true true)]) ?_ (fun i hi => ?_)
       · refine Weak.cv0 (hv := [(9100, .live 1 [] true false)]) (ho := [(16384, .live 2 [.agg [.sl 9000 0 1, .t (.int .i64 0)]] true true), (9000, .live 1 [.sl 9001 0 16] true false), (9001, .live 1 (((newB 0 : Bank).map bsT).map V.t) true false), (4096, .live 2 [.agg [.nil, .t (.int .i64 0)]] true true)]) id ?_ ?_ rfl rfl
         all_goals simp (disch := omega) only [go_sem, ↓reduceIte, Nat.reduceAdd, Nat.reduceEqDiff, Nat.reduceBEq, reduceCtorEq, List.map_cons, List.map_nil, id]
       · by_cases hlt : i < 16
         · by_cases h12 : i < 12
           · simp (disch := omega) only [go_sem, ↓reduceIte, Nat.reduceAdd, Nat.reduceEqDiff, Nat.reduceLT, Nat.reduceLeDiff, Int.reduceLT, reduceCtorEq, Int.reducePow, ac_registers_New_L1, c0, c1, newB_length, h1, h2, size_eq0, size_eq1, fill_eq20, fill_eq32, hf1, hf2]
             refine ⟨hlt, Weak.cv (hv := []) [61504] (fun j => if j = 9100 then 61536 else j) ?_ rfl⟩
             simp (disch := omega) only [go_sem, ↓reduceIte, Nat.reduceAdd, Nat.reduceEqDiff, Nat.reduceLeDiff, Nat.reduceBEq, reduceCtorEq, newB_take hlt, szA, List.take_replicate, Nat.min_self, newV_a h12]
             rfl
           · simp (disch := omega) only [go_sem, ↓reduceIte, Nat.reduceAdd, Nat.reduceEqDiff, Nat.reduceLT, Nat.reduceLeDiff, Int.reduceLT, reduceCtorEq, Int.reducePow, ac_registers_New_L1, c0, c1, newB_length, h1, h2, size_eq0, size_eq1, fill_eq20, fill_eq32, hf1, hf2]
             refine ⟨hlt, Weak.cv (hv := []) [61504] (fun j => if j = 9100 then 61536 else j) ?_ rfl⟩
             simp (disch := omega) only [go_sem, ↓reduceIte, Nat.reduceAdd, Nat.reduceEqDiff, Nat.reduceLeDiff, Nat.reduceBEq, reduceCtorEq, newB_take hlt, szA, List.take_replicate, Nat.min_self, newV_b h12]
             rfl
         · have e : i = 16 := by omega
           subst e
           simp (disch := omega) only [go_sem, ↓reduceIte, Nat.reduceAdd, Nat.reduceEqDiff, Nat.reduceMul, Nat.reduceLT, Nat.reduceLeDiff, Int.reduceLT, Int.reduceAdd, reduceCtorEq, ac_registers_New_L1, c0, c1, newB_length, h1, h2, size_eq0, size_eq1, fill_eq20, fill_eq32, hf1, hf2]
           refine Weak.rd (fun j => if j = 9000 then 65600 else if j = 9002 then 9100 else j) ?_ ?_ rfl
           all_goals simp (disch := omega) only [go_sem, ↓reduceIte, Nat.reduceAdd, Nat.reduceEqDiff, Nat.reduceBEq, reduceCtorEq, newB_all]
     · simp (disch := omega) only [go_sem, ↓reduceIte, Nat.reduceAdd, Nat.reduceEqDiff, Nat.reduceLeDiff, Nat.reduceBEq, Int.reduceLT, reduceCtorEq, ac_registers_New_L0, c0, c1, newB_length, h1, h2, size_eq0, size_eq1, fill_eq20, fill_eq32, hf1, hf2]
       exact ⟨rfl, rfl⟩
theorem w_ref8_New (tab : Tab) (gl : Gl) (n1 : Nat) (h1 : tab.look n1 = some ct_init.fs) (s : Int) (h3 : ¬ s % 4 = 0) : (ac_ref8_New n1).wp tab gl (zipF 0 [.t (.int .i64 s)]) (zipF 0 []) (resF [] [(2, some (2, true))] 0 (fun r o => r = twR (newBk s) 0 ∧ o = twO (newBk s))) := by
 have h4 : (s % 4 == 0) = false := by simpa using h3
 have hf1 : s.fdiv 1 = s := Int.fdiv_one s
 have hf2 : s.fdiv 2 = s / 2 := Int.fdiv_eq_ediv_of_nonneg s (by omega)
 have hc0 : s % 2 = 0 ∨ s % 2 = 1 := by omega
 have hc1 : s / 2 % 2 = 0 ∨ s / 2 % 2 = 1 := by omega
 rcases hc0 with c0 | c0 <;> rcases hc1 with c1 | c1
 · exact absurd (by omega) h3
 · rw [newBk_of h3, if_neg (by omega), if_pos (by omega)]
   simp (disch := omega) only [go_sem, ↓reduceIte, Nat.reduceAdd, Nat.reduceEqDiff, Nat.reduceLeDiff, reduceCtorEq, ac_ref8_New, h4, hf1, hf2]
   refine loop_upto 2 (fun k => match k with | 0 => [(0, .t (.int .i64 s)), (2, .ref 4096 0 0), (3, .ref 8208 0 0), (4, .t (.int .i64 0))] | 1 => [(0, .t (.int .i64 s)), (2, .ref 4096 0 0), (3, .ref 8208 0 0), (4, .t (.int .i64 1))] | _ => [(0, .t (.int .i64 s)), (2, .ref 4096 0 0), (3, .ref 8208 0 0), (4, .t (.int .i64 2))]) (fun k => match k with | 0 => [(8208, .live 2 [.agg [.nil, .t (.int .i64 0)]] true true), (4096, .live 2 [.agg [.nil, .t (.int .i64 0)]] true true)] | 1 => [(8208, .live 2 [.agg [.sl 9000 0 1, .t (.int .i64 0)]] true true), (9000, .live 1 [.sl 9001 0 0] true false), (9001, .live 1 ((([] : Bank).map bsT).map V.t) true false), (4096, .live 2 [.agg [.nil, .t (.int .i64 0)]] true true)] | _ => [(8208, .live 2 [.agg [.sl 9000 0 2, .t (.int .i64 0)]] true true), (9000, .live 1 [.sl 9001 0 0, .sl 9002 0 16] true false), (9001, .live 1 ((([] : Bank).map bsT).map V.t) true false), (9002, .live 1 (((newB 1 : Bank).map bsT).map V.t) true false), (4096, .live 2 [.agg [.nil, .t (.int .i64 0)]] true true)]) ?_ (fun k hk => ?_)
   · refine Weak.rd id ?_ ?_ rfl
     all_goals simp (disch := omega) only [go_sem, ↓reduceIte, Nat.reduceEqDiff, Nat.reduceBEq, reduceCtorEq, id]
   · rcases (show k = 0 ∨ k = 1 ∨ k = 2 by omega) with rfl | rfl | rfl
     · simp (disch := omega) only [go_sem, ↓reduceIte, Nat.reduceAdd, Nat.reduceEqDiff, Int.reduceLT, reduceCtorEq, ac_ref8_New_L0, c0, c1, newB_length, h1, init_eq0, init_eq1, hf1, hf2]
       refine loop_fuel 1 ?_
       simp (disch := omega) only [go_sem, ↓reduceIte, Nat.reduceAdd, Nat.reduceEqDiff, Nat.reduceLT, Nat.reduceLeDiff, Int.reduceLT, Int.reduceAdd, reduceCtorEq, Int.reducePow, loopN_succ, ac_ref8_New_L1, c0, c1, newB_length, h1, init_eq0, init_eq1, hf1, hf2]
       refine Weak.trans (fs' := [(0, .t (.int .i64 s)), (2, .ref 4096 0 0), (3, .ref 8208 0 0), (4, .t (.int .i64 1))]) (Weak.cv0 (hv := [(9001, .live 1 [] true false)]) (ho := [(8208, .live 2 [.agg [.sl 9000 0 1, .t (.int .i64 0)]] true true), (9000, .live 1 [.sl 9001 0 0] true false), (4096, .live 2 [.agg [.nil, .t (.int .i64 0)]] true true)]) (fun j => if j = 9000 then 53312 else j) ?_ ?_ rfl rfl) (Weak.rd id ?_ ?_ rfl)
       all_goals simp (disch := omega) only [go_sem, ↓reduceIte, Nat.reduceAdd, Nat.reduceEqDiff, Nat.reduceBEq, reduceCtorEq, List.map_cons, List.map_nil, id]
     · simp (disch := omega) only [go_sem, ↓reduceIte, Nat.reduceAdd, Nat.reduceEqDiff, Int.reduceLT, reduceCtorEq, ac_ref8_New_L0, c0, c1, newB_length, h1, init_eq0, init_eq1, hf1, hf2]
       refine loop_upto 16 (fun i => [(0, .t (.int .i64 s)), (2, .ref 4096 0 0), (3, .ref 8208 0 0), (4, .t (.int .i64 1)), (5, .sl 9100 0 i), (6, .t (.int .i64 (i : Nat)))]) (fun i => [(9100, .live 1 ((((newB 1).take i).map bsT).map V.t) true false), (8208, .live 2 [.agg [.sl 9000 0 1, .t (.int .i64 0)]] true true), (9000, .live 1 [.sl 9001 0 0] true false), (9001, .live 1 ((([] : Bank).map bsT).map V.t) true false), (4096, .live 2 [.agg [.nil, .t (.int .i64 0)]] true true)]) ?_ (fun i hi => ?_)
       · refine Weak.cv0 (hv := [(9100, .live 1 [] true false)]) (ho := [(8208, .live 2 [.agg [.sl 9000 0 1, .t (.int .i64 0)]] true true), (9000, .live 1 [.sl 9001 0 0] true false), (9001, .live 1 ((([] : Bank).map bsT).map V.t) true false), (4096, .live 2 [.agg [.nil, .t (.int .i64 0)]] true true)]) id ?_ ?_ rfl rfl
         all_goals simp (disch := omega) only [go_sem, ↓reduceIte, Nat.reduceAdd, Nat.reduceEqDiff, Nat.reduceBEq, reduceCtorEq, List.map_cons, List.map_nil, id]
       · by_cases hlt : i < 16
         · simp (disch := omega) only [go_sem, ↓reduceIte, Nat.reduceAdd, Nat.reduceEqDiff, Nat.reduceLT, Nat.reduceLeDiff, Int.reduceLT, reduceCtorEq, Int.reducePow, ac_ref8_New_L1, c0, c1, newB_length, h1, init_eq0, init_eq1, hf1, hf2]
           refine ⟨hlt, Weak.cv (hv := []) [49200] (fun j => if j = 9100 then 49232 else j) ?_ rfl⟩
           simp (disch := omega) only [go_sem, ↓reduceIte, Nat.reduceAdd, Nat.reduceEqDiff, Nat.reduceLeDiff, Nat.reduceBEq, reduceCtorEq, newB_take hlt, szA, List.take_replicate, Nat.min_self]
           rfl
         · have e : i = 16 := by omega
           subst e
           simp (disch := omega) only [go_sem, ↓reduceIte, Nat.reduceAdd, Nat.reduceEqDiff, Nat.reduceMul, Nat.reduceLT, Nat.reduceLeDiff, Int.reduceLT, Int.reduceAdd, reduceCtorEq, ac_ref8_New_L1, c0, c1, newB_length, h1, init_eq0, init_eq1, hf1, hf2]
           refine Weak.rd (fun j => if j = 9000 then 53312 else if j = 9002 then 9100 else j) ?_ ?_ rfl
           all_goals simp (disch := omega) only [go_sem, ↓reduceIte, Nat.reduceAdd, Nat.reduceEqDiff, Nat.reduceBEq, reduceCtorEq, newB_all]
     · simp (disch := omega) only [go_sem, ↓reduceIte, Nat.reduceAdd, Nat.reduceEqDiff, Nat.reduceLeDiff, Nat.reduceBEq, Int.reduceLT, reduceCtorEq, ac_ref8_New_L0, c0, c1, newB_length, h1, init_eq0, init_eq1, hf1, hf2]
       exact ⟨rfl, rfl⟩
 · rw [newBk_of h3, if_pos (by omega), if_neg (by omega)]
   simp (disch := omega) only [go_sem, ↓reduceIte, Nat.reduceAdd, Nat.reduceEqDiff, Nat.reduceLeDiff, reduceCtorEq, ac_ref8_New, h4, hf1, hf2]
   refine loop_upto 2 (fun k => match k with | 0 => [(0, .t (.int .i64 s)), (2, .ref 4096 0 0), (3, .ref 8208 0 0), (4, .t (.int .i64 0))] | 1 => [(0, .t (.int .i64 s)), (2, .ref 4096 0 0), (3, .ref 8208 0 0), (4, .t (.int .i64 1))] | _ => [(0, .t (.int .i64 s)), (2, .ref 4096 0 0), (3, .ref 8208 0 0), (4, .t (.int .i64 2))]) (fun k => match k with | 0 => [(8208, .live 2 [.agg [.nil, .t (.int .i64 0)]] true true), (4096, .live 2 [.agg [.nil, .t (.int .i64 0)]] true true)] | 1 => [(8208, .live 2 [.agg [.sl 9000 0 1, .t (.int .i64 0)]] true true), (9000, .live 1 [.sl 9001 0 16] true false), (9001, .live 1 (((newB 0 : Bank).map bsT).map V.t) true false), (4096, .live 2 [.agg [.nil, .t (.int .i64 0)]] true true)] | _ => [(8208, .live 2 [.agg [.sl 9000 0 2, .t (.int .i64 0)]] true true), (9000, .live 1 [.sl 9001 0 16, .sl 9002 0 0] true false), (9001, .live 1 (((newB 0 : Bank).map bsT).map V.t) true false), (9002, .live 1 ((([] : Bank).map bsT).map V.t) true false), (4096, .live 2 [.agg [.nil, .t (.int .i64 0)]] true true)]) ?_ (fun k hk => ?_)
   · refine Weak.rd id ?_ ?_ rfl
     all_goals simp (disch := omega) only [go_sem, ↓reduceIte, Nat.reduceEqDiff, Nat.reduceBEq, reduceCtorEq, id]
   · rcases (show k = 0 ∨ k = 1 ∨ k = 2 by omega) with rfl | rfl | rfl
     · simp (disch := omega) only [go_sem, ↓reduceIte, Nat.reduceAdd, Nat.reduceEqDiff, Int.reduceLT, reduceCtorEq, ac_ref8_New_L0, c0, c1, newB_length, h1, init_eq0, init_eq1, hf1, hf2]
       refine loop_upto 16 (fun i => [(0, .t (.int .i64 s)), (2, .ref 4096 0 0), (3, .ref 8208 0 0), (4, .t (.int .i64 0)), (5, .sl 9100 0 i), (6, .t (.int .i64 (i : Nat)))]) (fun i => [(9100, .live 1 ((((newB 0).take i).map bsT).map V.t) true false), (8208, .live 2 [.agg [.nil, .t (.int .i64 0)]] true true), (4096, .live 2 [.agg [.nil, .t (.int .i64 0)]] true true)]) ?_ (fun i hi => ?_)
       · refine Weak.cv0 (hv := [(9100, .live 1 [] true false)]) (ho := [(8208, .live 2 [.agg [.nil, .t (.int .i64 0)]] true true), (4096, .live 2 [.agg [.nil, .t (.int .i64 0)]] true true)]) id ?_ ?_ rfl rfl
         all_goals simp (disch := omega) only [go_sem, ↓reduceIte, Nat.reduceEqDiff, Nat.reduceBEq, reduceCtorEq, List.map_cons, List.map_nil, id]
       · by_cases hlt : i < 16
         · simp (disch := omega) only [go_sem, ↓reduceIte, Nat.reduceAdd, Nat.reduceEqDiff, Nat.reduceLT, Nat.reduceLeDiff, Int.reduceLT, reduceCtorEq, Int.reducePow, ac_ref8_New_L1, c0, c1, newB_length, h1, init_eq0, init_eq1, hf1, hf2]
           refine ⟨hlt, Weak.cv (hv := []) [49200] (fun j => if j = 9100 then 49232 else j) ?_ rfl⟩
           simp (disch := omega) only [go_sem, ↓reduceIte, Nat.reduceAdd, Nat.reduceEqDiff, Nat.reduceLeDiff, Nat.reduceBEq, reduceCtorEq, newB_take hlt, szA, List.take_replicate, Nat.min_self]
           rfl
         · have e : i = 16 := by omega
           subst e
           simp (disch := omega) only [go_sem, ↓reduceIte, Nat.reduceAdd, Nat.reduceEqDiff, Nat.reduceLT, Nat.reduceLeDiff, Int.reduceLT, Int.reduceAdd, reduceCtorEq, ac_ref8_New_L1, c0, c1, newB_length, h1, init_eq0, init_eq1, hf1, hf2]
           refine Weak.rd (fun j => if j = 9000 then 53312 else if j = 9001 then 9100 else j) ?_ ?_ rfl
           all_goals simp (disch := omega) only [go_sem, ↓reduceIte, Nat.reduceAdd, Nat.reduceEqDiff, Nat.reduceBEq, reduceCtorEq, newB_all]
     · simp (disch := omega) only [go_sem, ↓reduceIte, Nat.reduceAdd, Nat.reduceEqDiff, Int.reduceLT, reduceCtorEq, ac_ref8_New_L0, c0, c1, newB_length, h1, init_eq0, init_eq1, hf1, hf2]
       refine loop_fuel 1 ?_
       simp (disch := omega) only [go_sem, ↓reduceIte, Nat.reduceAdd, Nat.reduceEqDiff, Nat.reduceMul, Nat.reduceLT, Nat.reduceLeDiff, Int.reduceLT, Int.reduceAdd, reduceCtorEq, Int.reducePow, loopN_succ, ac_ref8_New_L1, c0, c1, newB_length, h1, init_eq0, init_eq1, hf1, hf2]
       refine Weak.trans (fs' := [(0, .t (.int .i64 s)), (2, .ref 4096 0 0), (3, .ref 8208 0 0), (4, .t (.int .i64 2))]) (Weak.cv0 (hv := [(9002, .live 1 [] true false)]) (ho := [(8208, .live 2 [.agg [.sl 9000 0 2, .t (.int .i64 0)]] true true), (9000, .live 1 [.sl 9001 0 16, .sl 9002 0 0] true false), (9001, .live 1 (((newB 0 : Bank).map bsT).map V.t) true false), (4096, .live 2 [.agg [.nil, .t (.int .i64 0)]] true true)]) (fun j => if j = 9000 then 53312 else j) ?_ ?_ rfl rfl) (Weak.rd id ?_ ?_ rfl)
       all_goals simp (disch := omega) only [go_sem, ↓reduceIte, Nat.reduceAdd, Nat.reduceEqDiff, Nat.reduceBEq, reduceCtorEq, List.map_cons, List.map_nil, id]
     · simp (disch := omega) only [go_sem, ↓reduceIte, Nat.reduceAdd, Nat.reduceEqDiff, Nat.reduceLeDiff, Nat.reduceBEq, Int.reduceLT, reduceCtorEq, ac_ref8_New_L0, c0, c1, newB_length, h1, init_eq0, init_eq1, hf1, hf2]
       exact ⟨rfl, rfl⟩
 · rw [newBk_of h3, if_pos (by omega), if_pos (by omega)]
   simp (disch := omega) only [go_sem, ↓reduceIte, Nat.reduceAdd, Nat.reduceEqDiff, Nat.reduceLeDiff, reduceCtorEq, ac_ref8_New, h4, hf1, hf2]
   refine loop_upto 2 (fun k => match k with | 0 => [(0, .t (.int .i64 s)), (2, .ref 4096 0 0), (3, .ref 8208 0 0), (4, .t (.int .i64 0))] | 1 => [(0, .t (.int .i64 s)), (2, .ref 4096 0 0), (3, .ref 8208 0 0), (4, .t (.int .i64 1))] | _ => [(0, .t (.int .i64 s)), (2, .ref 4096 0 0), (3, .ref 8208 0 0), (4, .t (.int .i64 2))]) (fun k => match k with | 0 => [(8208, .live 2 [.agg [.nil, .t (.int .i64 0)]] true true), (4096, .live 2 [.agg [.nil, .t (.int .i64 0)]] true true)] | 1 => [(8208, .live 2 [.agg [.sl 9000 0 1, .t (.int .i64 0)]] true true), (9000, .live 1 [.sl 9001 0 16] true false), (9001, .live 1 (((newB 0 : Bank).map bsT).map V.t) true false), (4096, .live 2 [.agg [.nil, .t (.int .i64 0)]] true true)] | _ => [(8208, .live 2 [.agg [.sl 9000 0 2, .t (.int .i64 0)]] true true), (9000, .live 1 [.sl 9001 0 16, .sl 9002 0 16] true false), (9001, .live 1 (((newB 0 : Bank).map bsT).map V.t) true false), (9002, .live 1 (((newB 1 : Bank).map bsT).map V.t) true false), (4096, .live 2 [.agg [.nil, .t (.int .i64 0)]] true true)]) ?_ (fun k hk => ?_)
   · refine Weak.rd id ?_ ?_ rfl
     all_goals simp (disch := omega) only [go_sem, ↓reduceIte, Nat.reduceEqDiff, Nat.reduceBEq, reduceCtorEq, id]
   · rcases (show k = 0 ∨ k = 1 ∨ k = 2 by omega) with rfl | rfl | rfl
     · simp (disch := omega) only [go_sem, ↓reduceIte, Nat.reduceAdd, Nat.reduceEqDiff, Int.reduceLT, reduceCtorEq, ac_ref8_New_L0, c0, c1, newB_length, h1, init_eq0, init_eq1, hf1, hf2]
       refine loop_upto 16 (fun i => [(0, .t (.int .i64 s)), (2, .ref 4096 0 0), (3, .ref 8208 0 0), (4, .t (.int .i64 0)), (5, .sl 9100 0 i), (6, .t (.int .i64 (i : Nat)))]) (fun i => [(9100, .live 1 ((((newB 0).take i).map bsT).map V.t) true false), (8208, .live 2 [.agg [.nil, .t (.int .i64 0)]] true true), (4096, .live 2 [.agg [.nil, .t (.int .i64 0)]] true true)]) ?_ (fun i hi => ?_)
       · refine Weak.cv0 (hv := [(9100, .live 1 [] true false)]) (ho := [(8208, .live 2 [.agg [.nil, .t (.int .i64 0)]] true true), (4096, .live 2 [.agg [.nil, .t (.int .i64 0)]] true true)]) id ?_ ?_ rfl rfl
         all_goals simp (disch := omega) only [go_sem, ↓reduceIte, Nat.reduceEqDiff, Nat.reduceBEq, reduceCtorEq, List.map_cons, List.map_nil, id]
       · by_cases hlt : i < 16
         · simp (disch := omega) only [go_sem, ↓reduceIte, Nat.reduceAdd, Nat.reduceEqDiff, Nat.reduceLT, Nat.reduceLeDiff, Int.reduceLT, reduceCtorEq, Int.reducePow, ac_ref8_New_L1, c0, c1, newB_length, h1, init_eq0, init_eq1, hf1, hf2]
           refine ⟨hlt, Weak.cv (hv := []) [49200] (fun j => if j = 9100 then 49232 else j) ?_ rfl⟩
           simp (disch := omega) only [go_sem, ↓reduceIte, Nat.reduceAdd, Nat.reduceEqDiff, Nat.reduceLeDiff, Nat.reduceBEq, reduceCtorEq, newB_take hlt, szA, List.take_replicate, Nat.min_self]
           rfl
         · have e : i = 16 := by omega
           subst e
           simp (disch := omega) only [go_sem, ↓reduceIte, Nat.reduceAdd, Nat.reduceEqDiff, Nat.reduceLT, Nat.reduceLeDiff, Int.reduceLT, Int.reduceAdd, reduceCtorEq, ac_ref8_New_L1, c0, c1, newB_length, h1, init_eq0, init_eq1, hf1, hf2]
           refine Weak.rd (fun j => if j = 9000 then 53312 else if j = 9001 then 9100 else j) ?_ ?_ rfl
           all_goals simp (disch := omega) only [go_sem, ↓reduceIte, Nat.reduceAdd, Nat.reduceEqDiff, Nat.reduceBEq, reduceCtorEq, newB_all]
     · simp (disch := omega) only [go_sem, ↓reduceIte, Nat.reduceAdd, Nat.reduceEqDiff, Int.reduceLT, reduceCtorEq, ac_ref8_New_L0, c0, c1, newB_length, h1, init_eq0, init_eq1, hf1, hf2]
       refine loop_upto 16 (fun i => [(0, .t (.int .i64 s)), (2, .ref 4096 0 0), (3, .ref 8208 0 0), (4, .t (.int .i64 1)), (5, .sl 9100 0 i), (6, .t (.int .i64 (i : Nat)))]) (fun i => [(9100, .live 1 ((((newB 1).take i).map bsT).map V.t) true false), (8208, .live 2 [.agg [.sl 9000 0 1, .t (.int .i64 0)]] true true), (9000, .live 1 [.sl 9001 0 16] true false), (9001, .live 1 (((newB 0 : Bank).map bsT).map V.t) true false), (4096, .live 2 [.agg [.nil, .t (.int .i64 0)]] true true)]) ?_ (fun i hi => ?_)
       · refine Weak.cv0 (hv := [(9100, .live 1 [] true false)]) (ho := [(8208, .live 2 [.agg [.sl 9000 0 1, .t (.int .i64 0)]] true true), (9000, .live 1 [.sl 9001 0 16] true false), (9001, .live 1 (((newB 0 : Bank).map bsT).map V.t) true false), (4096, .live 2 [.agg [.nil, .t (.int .i64 0)]] true true)]) id ?_ ?_ rfl rfl
         all_goals simp (disch := omega) only [go_sem, ↓reduceIte, Nat.reduceAdd, Nat.reduceEqDiff, Nat.reduceBEq, reduceCtorEq, List.map_cons, List.map_nil, id]
       · by_cases hlt : i < 16
         · simp (disch := omega) only [go_sem, ↓reduceIte, Nat.reduceAdd, Nat.reduceEqDiff, Nat.reduceLT, Nat.reduceLeDiff, Int.reduceLT, reduceCtorEq, Int.reducePow, ac_ref8_New_L1, c0, c1, newB_length, h1, init_eq0, init_eq1, hf1, hf2]
           refine ⟨hlt, Weak.cv (hv := []) [49200] (fun j => if j = 9100 then 49232 else j) ?_ rfl⟩
           simp (disch := omega) only [go_sem, ↓reduceIte, Nat.reduceAdd, Nat.reduceEqDiff, Nat.reduceLeDiff, Nat.reduceBEq, reduceCtorEq, newB_take hlt, szA, List.take_replicate, Nat.min_self]
           rfl
         · have e : i = 16 := by omega
           subst e
           simp (disch := omega) only [go_sem, ↓reduceIte, Nat.reduceAdd, Nat.reduceEqDiff, Nat.reduceMul, Nat.reduceLT, Nat.reduceLeDiff, Int.reduceLT, Int.reduceAdd, reduceCtorEq, ac_ref8_New_L1, c0, c1, newB_length, h1, init_eq0, init_eq1, hf1, hf2]
           refine Weak.rd (fun j => if j = 9000 then 53312 else if j = 9002 then 9100 else j) ?_ ?_ rfl
           all_goals simp (disch := omega) only [go_sem, ↓reduceIte, Nat.reduceAdd, Nat.reduceEqDiff, Nat.reduceBEq, reduceCtorEq, newB_all]
     · simp (disch := omega) only [go_sem, ↓reduceIte, Nat.reduceAdd, Nat.reduceEqDiff, Nat.reduceLeDiff, Nat.reduceBEq, Int.reduceLT, reduceCtorEq, ac_ref8_New_L0, c0, c1, newB_length, h1, init_eq0, init_eq1, hf1, hf2]
       exact ⟨rfl, rfl⟩
end Go.Eng
end
section
set_option maxRecDepth 20000
set_option maxHeartbeats 16000000
namespace Go.Eng
def ct_index : Ct where
 α := Int
 as x := [.t (.int .i64 x)]
 ins _ := []
 pre _ := True
 r x := .t (.bool (decide ((0 : Int) ≤ x ∧ x < (16 : Int))))
 outs _ := []
 inj := by
   intro a b h _
   simp at h
   subst h; exact ⟨rfl, rfl⟩
theorem index_t {i : Int} (h : 0 ≤ i ∧ i < 16) : ct_index.fs [.t (.int .i64 i)] [] = some (.t (.bool true), []) := by
 refine (ct_index.eq i trivial).trans ?_
 simp [ct_index, h]
theorem index_f {i : Int} (h : ¬ (0 ≤ i ∧ i < 16)) : ct_index.fs [.t (.int .i64 i)] [] = some (.t (.bool false), []) := by
 refine (ct_index.eq i trivial).trans ?_
 simp only [ct_index, decide_eq_false h]
def ct_on : Ct where
 α := List Bank × Int × Nat
 as x := [.t (regT x.1 x.2.1), .t (.int .i64 x.2.2)]
 ins _ := []
 pre x := RK x.1 ∧ x.2.2 < 2
 r x := .t (.bool (onB x.1 x.2.2))
 outs _ := []
 inj := by
   rintro ⟨a, u, i⟩ ⟨b, v, j⟩ h _
   simp only [List.cons.injEq, V.t.injEq, T.int.injEq, true_and, and_true, Int.natCast_inj] at h
   obtain ⟨h1, rfl⟩ := h
   obtain ⟨rfl, rfl⟩ := regT_inj h1
   exact ⟨rfl, rfl⟩
theorem on_eq {bk : List Bank} {u : Int} {a : Nat} (hk : RK bk) (h : a < 2) : ct_on.fs [.t (.agg [.sl (bk.map bankT), .int .i64 u]), .t (.int .i64 a)] [] = some (.t (.bool (onB bk a)), []) := ct_on.eq (bk, u, a) ⟨hk, h⟩
theorem on_eq0 {b0 b1 : Bank} {u : Int} (hk : RK [b0, b1]) : ct_on.fs [.t (.agg [.sl [.sl (b0.map bsT), .sl (b1.map bsT)], .int .i64 u]), .t (.int .i64 0)] [] = some (.t (.bool (decide (b0.length = 16))), []) := ct_on.eq ([b0, b1], u, 0) ⟨hk, by show 0 < 2; omega⟩
theorem on_eq1 {b0 b1 : Bank} {u : Int} (hk : RK [b0, b1]) : ct_on.fs [.t (.agg [.sl [.sl (b0.map bsT), .sl (b1.map bsT)], .int .i64 u]), .t (.int .i64 1)] [] = some (.t (.bool (decide (b1.length = 16))), []) := ct_on.eq ([b0, b1], u, 1) ⟨hk, by show 1 < 2; omega⟩
theorem on_eqn {u : Int} {a : Nat} (h : a < 2) : ct_on.fs [.t (.agg [.sl [], .int .i64 u]), .t (.int .i64 a)] [] = some (.t (.bool false), []) := by
 refine (ct_on.eq ([], u, a) ⟨.nil, h⟩).trans ?_
 simp [ct_on, onB]
def ct_actv : Ct where
 α := List Bank × Int × Nat
 as x := [.t (regT x.1 x.2.1), .t (.int .i64 x.2.2)]
 ins _ := []
 pre x := RK x.1 ∧ x.2.2 < 1000000000
 r x := .t (.bool (actB x.1 x.2.2))
 outs _ := []
 inj := by
   rintro ⟨a, u, i⟩ ⟨b, v, j⟩ h _
   simp only [List.cons.injEq, V.t.injEq, T.int.injEq, true_and, and_true, Int.natCast_inj] at h
   obtain ⟨h1, rfl⟩ := h
   obtain ⟨rfl, rfl⟩ := regT_inj h1
   exact ⟨rfl, rfl⟩
theorem RK.on {bk : List Bank} (h : RK bk) (a : Nat) : actB bk a = onB bk a := by
 cases h with
 | nil => simp [actB, onB]
 | two b0 b1 h0 h1 =>
   have key : ∀ b : Bank, bkOk b → decide (0 < List.length b) = decide (List.length b = 16) := by
     intro b hb
     rcases hb with h | h <;> simp [h]
   match a with
   | 0 => simpa [actB, onB] using key b0 h0
   | 1 => simpa [actB, onB] using key b1 h1
   | a + 2 => simp [actB, onB]
theorem actv_eq {bk : List Bank} {u : Int} {a : Nat} (hk : RK bk) (h : a < 1000000000) : ct_actv.fs [.t (.agg [.sl (bk.map bankT), .int .i64 u]), .t (.int .i64 a)] [] = some (.t (.bool (onB bk a)), []) := by
 refine (ct_actv.eq (bk, u, a) ⟨hk, h⟩).trans ?_
 simp only [ct_actv, hk.on]
theorem actv_eq0 {b0 b1 : Bank} {u : Int} (hk : RK [b0, b1]) : ct_actv.fs [.t (.agg [.sl [.sl (b0.map bsT), .sl (b1.map bsT)], .int .i64 u]), .t (.int .i64 0)] [] = some (.t (.bool (decide (b0.length = 16))), []) := by
 refine (ct_actv.eq ([b0, b1], u, 0) ⟨hk, by show 0 < 1000000000; omega⟩).trans ?_
 simp only [ct_actv, hk.on]; rfl
theorem actv_eq1 {b0 b1 : Bank} {u : Int} (hk : RK [b0, b1]) : ct_actv.fs [.t (.agg [.sl [.sl (b0.map bsT), .sl (b1.map bsT)], .int .i64 u]), .t (.int .i64 1)] [] = some (.t (.bool (decide (b1.length = 16))), []) := by
 refine (ct_actv.eq ([b0, b1], u, 1) ⟨hk, by show 1 < 1000000000; omega⟩).trans ?_
 simp only [ct_actv, hk.on]; rfl
def valL (bk : List Bank) (a i : Nat) : List UInt8 := (bk.getD a []).getD i []
def badR (bank i : Int) : Prop := bank < 0 ∨ 2 ≤ bank ∨ i < 0 ∨ 16 ≤ i
instance (bank i : Int) : Decidable (badR bank i) := by unfold badR; infer_instance
def valR (bk : List Bank) (bank i : Int) : V := if badR bank i then .tup [.nil, .t (.int .i64 1)] else if onB bk bank.toNat then .tup [.sl 0 0 (valL bk bank.toNat i.toNat).length, .t (.int .i64 0)] else .tup [.nil, .t (.int .i64 27)]
def valO (bk : List Bank) (bank i : Int) : List Ob := if badR bank i then [] else if onB bk bank.toNat then [.live 1 (((valL bk bank.toNat i.toNat).map byteT).map V.t) true false] else []
theorem RM.val {bk : List Bank} (h : RM bk) (a i : Nat) : (valL bk a i).length < 1000000000 := by
 by_cases ha : a < bk.length
 · have e : bk.getD a [] = bk[a] := by simp [List.getD, ha]
   unfold valL
   rw [e]
   exact modL_get (h.2 _ (List.getElem_mem ha)) i
 · have e : bk.getD a [] = [] := by simp [List.getD, List.getElem?_eq_none (Nat.le_of_not_lt ha)]
   unfold valL
   rw [e]; simp
theorem RK.len {bk : List Bank} (h : RK bk) {a : Nat} (ho : onB bk a = true) : a < bk.length := by
 simp only [onB, decide_eq_true_eq] at ho
 rcases Nat.lt_or_ge a bk.length with h1 | h1
 · exact h1
 · rw [List.getD, List.getElem?_eq_none h1] at ho; simp at ho
theorem w_registers_Value (tab : Tab) (gl : Gl) (n1 n2 : Nat) (h1 : tab.look n1 = some ct_index.fs) (h2 : tab.look n2 = some ct_on.fs) (bk : List Bank) (u bank i : Int) (hk : RM bk) :
   (ac_registers_Value n1 n2).wp tab gl (zipF 0 [.t (regT bk u), .t (.int .i64 bank), .t (.int .i64 i)]) (zipF 0 []) (resF [] [(6, none), (7, none)] 0 (fun r o => r = valR bk bank i ∧ o = valO bk bank i)) := by
 by_cases hb : badR bank i
 · rw [valR, valO, if_pos hb, if_pos hb]
   by_cases b1 : bank < 0
   · simp (disch := omega) only [go_sem, seval, ac_registers_Value, b1]
   · by_cases b2 : 2 ≤ bank
     · simp (disch := omega) only [go_sem, seval, ac_registers_Value, b1]
     · have hi : ¬ (0 ≤ i ∧ i < 16) := by unfold badR at hb; omega
       simp (disch := omega) only [go_sem, seval, ac_registers_Value, b1, h1, index_f]
 · rw [valR, valO, if_neg hb, if_neg hb]
   unfold badR at hb
   obtain ⟨a, rfl⟩ := Int.eq_ofNat_of_zero_le (show 0 ≤ bank by omega)
   obtain ⟨k, rfl⟩ := Int.eq_ofNat_of_zero_le (show 0 ≤ i by omega)
   have hon := on_eq (u := u) (a := a) hk.1 (by omega)
   by_cases ho : onB bk a = true
   · have hl := hk.1.len ho
     have hv := hk.val a k
     have hl2 : (bk.getD a []).length = 16 := by simpa [onB] using ho
     rw [ho] at hon
     unfold valL at hv
     simp (disch := omega) only [go_sem, seval, ac_registers_Value, h1, h2, index_t, hon, ho, valL]
   · have ho' : onB bk a = false := by simpa using ho
     rw [ho'] at hon
     simp (disch := omega) only [go_sem, seval, ac_registers_Value, h1, h2, index_t, hon, ho']
end Go.Eng
end
section
set_option maxRecDepth 20000
set_option maxHeartbeats 16000000
namespace Go.Eng
def ct_least : Ct where
 α := Int × Bool
 as x := [.t (.int .i64 x.1), .t (.bool x.2)]
 ins _ := []
 pre _ := True
 r x := .t (.int .i64 (leastI x.1 x.2))
 outs _ := []
 inj := by
   rintro ⟨a, b⟩ ⟨c, d⟩ h _
   simp at h
   obtain ⟨rfl, rfl⟩ := h; exact ⟨rfl, rfl⟩
theorem least_eq {i : Int} {rs : Bool} : ct_least.fs [.t (.int .i64 i), .t (.bool rs)] [] = some (.t (.int .i64 (leastI i rs)), []) := ct_least.eq (i, rs) trivial
def ct_rleast : Ct where
 α := Int × Bool
 as x := [.t (.int .i64 x.1), .t (.bool x.2)]
 ins _ := []
 pre _ := True
 r x := .t (.int .i64 (if leastI x.1 x.2 = 5 then -1 else leastI x.1 x.2))
 outs _ := []
 inj := by
   rintro ⟨a, b⟩ ⟨c, d⟩ h _
   simp at h
   obtain ⟨rfl, rfl⟩ := h; exact ⟨rfl, rfl⟩
theorem rleast_eq {i : Int} {rs : Bool} : ct_rleast.fs [.t (.int .i64 i), .t (.bool rs)] [] = some (.t (.int .i64 (if leastI i rs = 5 then -1 else leastI i rs)), []) := ct_rleast.eq (i, rs) trivial
end Go.Eng
end
section
set_option maxRecDepth 20000
set_option maxHeartbeats 64000000
namespace Go.Eng
def extE (l0 l1 : Nat) (loc i : Int) (nd k0 k1 : Nat) : Int :=
 if loc < 0 ∨ 4 < loc ∨ i < 0 ∨ 16 ≤ i ∨ nd ≠ 2 then 1 else if loc < leastI i false then 13
 else if (l0 ≠ 16 ∧ 0 < k0) ∨ (l1 ≠ 16 ∧ 0 < k1) then 27 else if (l0 = 16 ∧ k0 ≠ 20) ∨ (l1 = 16 ∧ k1 ≠ 32) then 24 else 0
def ext1 (a : Nat) (b : Bank) (i : Nat) (d : List UInt8) : Bank := if List.length b = 16 then b.set i (sumA a (b.getD i [] ++ d)) else b
theorem ext1_length {a : Nat} {b : Bank} {i : Nat} {d : List UInt8} : List.length (ext1 a b i d) = List.length b := by
 unfold ext1; split <;> simp
def extBk (bk : List Bank) (i : Nat) (ds : List (List UInt8)) : List Bank := match bk with
 | [b0, b1] => [ext1 0 b0 i (ds.getD 0 []), ext1 1 b1 i (ds.getD 1 [])]
 | bk => bk
def extEr (bk : List Bank) (loc i : Int) (ds : List (List UInt8)) : Int := extE (bk.getD 0 []).length (bk.getD 1 []).length loc i ds.length (ds.getD 0 []).length (ds.getD 1 []).length
def extR (bk : List Bank) (u loc i : Int) (ds : List (List UInt8)) : V :=
 if extE (bk.getD 0 []).length (bk.getD 1 []).length loc i ds.length (ds.getD 0 []).length (ds.getD 1 []).length = 0 then .tup [.t (regT (extBk bk i.toNat ds) (u + 1)), .t (.int .i64 0)]
 else .tup [.t (regT [] 0), .t (.int .i64 (extE (bk.getD 0 []).length (bk.getD 1 []).length loc i ds.length (ds.getD 0 []).length (ds.getD 1 []).length))]
theorem sumA0 {x : List UInt8} : sumA 0 x = sum1 x := rfl
theorem sumA1 {x : List UInt8} : sumA 1 x = sum256 x := rfl
theorem take_sum1 {x : List UInt8} : List.take 20 (sum1 x) = sum1 x := List.take_of_length_le (by rw [sum1_length]; exact Nat.le_refl _)
theorem take_sum256 {x : List UInt8} : List.take 32 (sum256 x) = sum256 x := List.take_of_length_le (by rw [sum256_length]; exact Nat.le_refl _)
theorem w_registers_Extend2 (tab : Tab) (gl : Gl) (n1 n2 n3 n4 n5 n6 : Nat) (h1 : tab.look n1 = some ct_index.fs) (h2 : tab.look n2 = some ct_least.fs) (h3 : tab.look n3 = some ct_on.fs) (h4 : tab.look n4 = some ct_size.fs) (h5 : tab.look n5 = some ct_twin.fs) (h6 : tab.look n6 = some ct_sumA.fs)
   (b0 b1 : Bank) (u loc : Int) (n : Nat) (d0 d1 : List UInt8) (hu : 0 ≤ u ∧ u < 1000000000) (hk : RM [b0, b1]) (hv0 : (b0.getD n []).length ≤ 64) (hv1 : (b1.getD n []).length ≤ 64) (hd : d0.length < 9223372036854775808 ∧ d1.length < 9223372036854775808) (e1 : ¬(loc < 0 ∨ 4 < loc ∨ 16 ≤ n)) (e2 : ¬ loc < leastI n false) :
   (ac_registers_Extend n1 n2 n3 n4 n5 n6).wp tab gl (zipF 0 [.t (regT [b0, b1] u), .t (.int .i64 loc), .t (.int .i64 n), .t (.sl [bsT d0, bsT d1])]) (zipF 0 []) (resW [(8, some (2, true)), (9, none)] 0 (fun r o => r = extR [b0, b1] u loc n [d0, d1] ∧ o = [])) := by
 have gg : bkOk b0 ∧ bkOk b1 := by
   obtain ⟨hrk, _⟩ := hk
   cases hrk with
   | two _ _ h0 h1 => exact ⟨h0, h1⟩
 obtain ⟨g0, g1⟩ := gg
 simp (disch := omega) only [go_sem, seval, ac_registers_Extend, h1, index_t, h2, least_eq, List.map_nil, List.map_cons]
 refine loopW_weak (fs' := [(2, .t (.int .i64 (n : Nat))), (3, .t (.sl [bsT d0, bsT d1])), (4, .ref 4096 0 0), (8, .ref 4112 0 0), (38, .t (.sl [bsT d0, bsT d1])), (39, .t (.int .i64 2)), (40, .t (.int .i64 0))]) (hs' := [(4112, .live 2 [.agg [.nil, .t (.int .i64 0)]] true true), (4096, .live 2 [.t (regT [b0, b1] u)] true true)]) (Weak.rd id ?_ ?_ rfl) ?_
 · simp (disch := omega) only [go_sem, seval, id]
 · simp (disch := omega) only [go_sem, seval, id]
 rcases g0 with z0 | z0 <;> rcases g1 with z1 | z1
 · have zz : True := trivial
   by_cases p2 : 0 < d0.length
   · have zz : True := trivial
     have hE : extE 0 0 loc n 2 d0.length d1.length = 27 := by unfold extE; rw [if_neg (by omega), if_neg (by omega), if_pos (by omega)]
     refine loop_fuel 3 ?_
     simp (disch := omega) only [go_sem, seval, loopN_succ, ac_registers_Extend_L0, h3, on_eq0 hk.1, on_eq1 hk.1, h4, size_eq0, size_eq1, h5, twin_eq2 hk, h6, sumA_eq0, sumA_eq1, z0, z1, hE, List.map_nil, extR, extEr, List.getD_cons_zero, List.getD_cons_succ, List.length_cons, List.length_nil]
     all_goals repeat refine And.intro rfl ?_
     all_goals rfl
   · have zz : True := trivial
     by_cases p1 : 0 < d1.length
     · have zz : True := trivial
       have hE : extE 0 0 loc n 2 d0.length d1.length = 27 := by unfold extE; rw [if_neg (by omega), if_neg (by omega), if_pos (by omega)]
       refine loop_fuel 3 ?_
       simp (disch := omega) only [go_sem, seval, loopN_succ, ac_registers_Extend_L0, h3, on_eq0 hk.1, on_eq1 hk.1, h4, size_eq0, size_eq1, h5, twin_eq2 hk, h6, sumA_eq0, sumA_eq1, z0, z1, hE, List.map_nil, extR, extEr, List.getD_cons_zero, List.getD_cons_succ, List.length_cons, List.length_nil]
       all_goals repeat refine And.intro rfl ?_
       all_goals rfl
     · have zz : True := trivial
       refine loop_fuel 3 ?_
       simp (disch := omega) only [go_sem, seval, loopN_succ, ac_registers_Extend_L0, h3, on_eq0 hk.1, on_eq1 hk.1, h4, size_eq0, size_eq1, h5, twin_eq2 hk, h6, sumA_eq0, sumA_eq1, z0, z1]
       all_goals repeat refine And.intro rfl ?_
       refine loopW_weak (fs' := [(2, .t (.int .i64 (n : Nat))), (3, .t (.sl [bsT d0, bsT d1])), (4, .ref 4096 0 0), (8, .ref 4112 0 0), (56, .t (.sl [bsT d0, bsT d1])), (57, .t (.int .i64 2)), (58, .t (.int .i64 0))]) (hs' := [(4112, .live 2 [.agg [.nil, .t (.int .i64 0)]] true true), (4096, .live 2 [.t (regT [b0, b1] u)] true true)]) (Weak.rd id ?_ ?_ rfl) ?_
       · simp (disch := omega) only [go_sem, seval, id]
       · simp (disch := omega) only [go_sem, seval, id]
       have hE : extE 0 0 loc n 2 d0.length d1.length = 0 := by unfold extE; rw [if_neg (by omega), if_neg (by omega), if_neg (by omega), if_neg (by omega)]
       refine loop_fuel 3 ?_
       simp (disch := omega) only [go_sem, seval, loopN_succ, ac_registers_Extend_L1, h3, on_eq0 hk.1, on_eq1 hk.1, h4, size_eq0, size_eq1, h5, twin_eq2 hk, h6, sumA_eq0, sumA_eq1, z0, z1]
       all_goals repeat refine And.intro rfl ?_
       refine loop_upto 2 (fun k => match k with | 0 => [(2, .t (.int .i64 (n : Nat))), (3, .t (.sl [bsT d0, bsT d1])), (4, .ref 4096 0 0), (8, .ref 4112 0 0), (14, .ref 73760 0 0), (79, .t (.int .i64 2)), (80, .t (.int .i64 0))] | 1 => [(2, .t (.int .i64 (n : Nat))), (3, .t (.sl [bsT d0, bsT d1])), (4, .ref 4096 0 0), (8, .ref 4112 0 0), (14, .ref 73760 0 0), (79, .t (.int .i64 2)), (80, .t (.int .i64 1))] | _ => [(2, .t (.int .i64 (n : Nat))), (3, .t (.sl [bsT d0, bsT d1])), (4, .ref 4096 0 0), (8, .ref 4112 0 0), (14, .ref 73760 0 0), (79, .t (.int .i64 2)), (80, .t (.int .i64 2))]) (fun k => match k with | 0 => [(73760, .live 2 [.agg [.sl 73744 0 2, .t (.int .i64 u)]] true true), (73746, .live 1 (((b1).map bsT).map V.t) true false), (73745, .live 1 (((b0).map bsT).map V.t) true false), (73744, .live 1 [.sl 73745 0 0, .sl 73746 0 0] true false), (4112, .live 2 [.agg [.nil, .t (.int .i64 0)]] true true), (4096, .live 2 [.t (regT [b0, b1] u)] true true)] | 1 => [(73760, .live 2 [.agg [.sl 73744 0 2, .t (.int .i64 u)]] true true), (73746, .live 1 (((b1).map bsT).map V.t) true false), (73745, .live 1 (((ext1 0 b0 n d0).map bsT).map V.t) true false), (73744, .live 1 [.sl 73745 0 0, .sl 73746 0 0] true false), (4112, .live 2 [.agg [.nil, .t (.int .i64 0)]] true true), (4096, .live 2 [.t (regT [b0, b1] u)] true true)] | _ => [(73760, .live 2 [.agg [.sl 73744 0 2, .t (.int .i64 u)]] true true), (73746, .live 1 (((ext1 1 b1 n d1).map bsT).map V.t) true false), (73745, .live 1 (((ext1 0 b0 n d0).map bsT).map V.t) true false), (73744, .live 1 [.sl 73745 0 0, .sl 73746 0 0] true false), (4112, .live 2 [.agg [.nil, .t (.int .i64 0)]] true true), (4096, .live 2 [.t (regT [b0, b1] u)] true true)]) ?_ (fun k hk2 => ?_)
       · refine Weak.rd id ?_ ?_ rfl
         all_goals simp (disch := omega) only [go_sem, seval, id, z0, z1]
       · rcases (show k = 0 ∨ k = 1 ∨ k = 2 by omega) with rfl | rfl | rfl
         · have q := List.take_of_length_le (show (b0.getD n [] ++ d0).length ≤ (List.getD b0 n []).length + d0.length by rw [List.length_append]; exact Nat.le_refl _)
           simp (disch := omega) only [go_sem, seval, ac_registers_Extend_L2, h3, on_eq0 hk.1, on_eq1 hk.1, h4, size_eq0, size_eq1, h5, twin_eq2 hk, h6, sumA_eq0, sumA_eq1, z0, z1, ext1_length, q]
           refine Weak.rd id ?_ ?_ rfl
           all_goals simp (disch := omega) only [go_sem, seval, id, ext1, z0, z1]
         · have q := List.take_of_length_le (show (b1.getD n [] ++ d1).length ≤ (List.getD b1 n []).length + d1.length by rw [List.length_append]; exact Nat.le_refl _)
           simp (disch := omega) only [go_sem, seval, ac_registers_Extend_L2, h3, on_eq0 hk.1, on_eq1 hk.1, h4, size_eq0, size_eq1, h5, twin_eq2 hk, h6, sumA_eq0, sumA_eq1, z0, z1, ext1_length, q]
           refine Weak.rd id ?_ ?_ rfl
           all_goals simp (disch := omega) only [go_sem, seval, id, ext1, z0, z1]
         · have t0 : List.take 0 (ext1 0 b0 n d0) = ext1 0 b0 n d0 := List.take_of_length_le (by rw [ext1_length, z0]; exact Nat.le_refl _)
           have t1 : List.take 0 (ext1 1 b1 n d1) = ext1 1 b1 n d1 := List.take_of_length_le (by rw [ext1_length, z1]; exact Nat.le_refl _)
           have y0 : ext1 0 b0 n d0 = [] := List.eq_nil_of_length_eq_zero (by rw [ext1_length, z0])
           have y1 : ext1 1 b1 n d1 = [] := List.eq_nil_of_length_eq_zero (by rw [ext1_length, z1])
           simp (disch := omega) only [go_sem, seval, ac_registers_Extend_L2, ext1_length, t0, t1, z0, z1, hE, extBk, Int.toNat_natCast, List.map_cons, List.map_nil, y0, y1, extR, extEr, List.getD_cons_zero, List.getD_cons_succ, List.length_cons, List.length_nil]
 · have zz : True := trivial
   by_cases p1 : 0 < d0.length
   · have zz : True := trivial
     have hE : extE 0 16 loc n 2 d0.length d1.length = 27 := by unfold extE; rw [if_neg (by omega), if_neg (by omega), if_pos (by omega)]
     refine loop_fuel 3 ?_
     simp (disch := omega) only [go_sem, seval, loopN_succ, ac_registers_Extend_L0, h3, on_eq0 hk.1, on_eq1 hk.1, h4, size_eq0, size_eq1, h5, twin_eq2 hk, h6, sumA_eq0, sumA_eq1, z0, z1, hE, List.map_nil, extR, extEr, List.getD_cons_zero, List.getD_cons_succ, List.length_cons, List.length_nil]
     all_goals repeat refine And.intro rfl ?_
     all_goals rfl
   · have zz : True := trivial
     refine loop_fuel 3 ?_
     simp (disch := omega) only [go_sem, seval, loopN_succ, ac_registers_Extend_L0, h3, on_eq0 hk.1, on_eq1 hk.1, h4, size_eq0, size_eq1, h5, twin_eq2 hk, h6, sumA_eq0, sumA_eq1, z0, z1]
     all_goals repeat refine And.intro rfl ?_
     refine loopW_weak (fs' := [(2, .t (.int .i64 (n : Nat))), (3, .t (.sl [bsT d0, bsT d1])), (4, .ref 4096 0 0), (8, .ref 4112 0 0), (56, .t (.sl [bsT d0, bsT d1])), (57, .t (.int .i64 2)), (58, .t (.int .i64 0))]) (hs' := [(4112, .live 2 [.agg [.nil, .t (.int .i64 0)]] true true), (4096, .live 2 [.t (regT [b0, b1] u)] true true)]) (Weak.rd id ?_ ?_ rfl) ?_
     · simp (disch := omega) only [go_sem, seval, id]
     · simp (disch := omega) only [go_sem, seval, id]
     by_cases q1 : d1.length ≠ 32
     · have zz : True := trivial
       have hE : extE 0 16 loc n 2 d0.length d1.length = 24 := by unfold extE; rw [if_neg (by omega), if_neg (by omega), if_neg (by omega), if_pos (by omega)]
       refine loop_fuel 3 ?_
       simp (disch := omega) only [go_sem, seval, loopN_succ, ac_registers_Extend_L1, h3, on_eq0 hk.1, on_eq1 hk.1, h4, size_eq0, size_eq1, h5, twin_eq2 hk, h6, sumA_eq0, sumA_eq1, z0, z1, hE, List.map_nil, extR, extEr, List.getD_cons_zero, List.getD_cons_succ, List.length_cons, List.length_nil]
       all_goals repeat refine And.intro rfl ?_
       all_goals rfl
     · have zz : True := trivial
       have hE : extE 0 16 loc n 2 d0.length d1.length = 0 := by unfold extE; rw [if_neg (by omega), if_neg (by omega), if_neg (by omega), if_neg (by omega)]
       refine loop_fuel 3 ?_
       simp (disch := omega) only [go_sem, seval, loopN_succ, ac_registers_Extend_L1, h3, on_eq0 hk.1, on_eq1 hk.1, h4, size_eq0, size_eq1, h5, twin_eq2 hk, h6, sumA_eq0, sumA_eq1, z0, z1]
       all_goals repeat refine And.intro rfl ?_
       refine loop_upto 2 (fun k => match k with | 0 => [(2, .t (.int .i64 (n : Nat))), (3, .t (.sl [bsT d0, bsT d1])), (4, .ref 4096 0 0), (8, .ref 4112 0 0), (14, .ref 73760 0 0), (79, .t (.int .i64 2)), (80, .t (.int .i64 0))] | 1 => [(2, .t (.int .i64 (n : Nat))), (3, .t (.sl [bsT d0, bsT d1])), (4, .ref 4096 0 0), (8, .ref 4112 0 0), (14, .ref 73760 0 0), (79, .t (.int .i64 2)), (80, .t (.int .i64 1))] | _ => [(2, .t (.int .i64 (n : Nat))), (3, .t (.sl [bsT d0, bsT d1])), (4, .ref 4096 0 0), (8, .ref 4112 0 0), (14, .ref 73760 0 0), (79, .t (.int .i64 2)), (80, .t (.int .i64 2))]) (fun k => match k with | 0 => [(73760, .live 2 [.agg [.sl 73744 0 2, .t (.int .i64 u)]] true true), (73746, .live 1 (((b1).map bsT).map V.t) true false), (73745, .live 1 (((b0).map bsT).map V.t) true false), (73744, .live 1 [.sl 73745 0 0, .sl 73746 0 16] true false), (4112, .live 2 [.agg [.nil, .t (.int .i64 0)]] true true), (4096, .live 2 [.t (regT [b0, b1] u)] true true)] | 1 => [(73760, .live 2 [.agg [.sl 73744 0 2, .t (.int .i64 u)]] true true), (73746, .live 1 (((b1).map bsT).map V.t) true false), (73745, .live 1 (((ext1 0 b0 n d0).map bsT).map V.t) true false), (73744, .live 1 [.sl 73745 0 0, .sl 73746 0 16] true false), (4112, .live 2 [.agg [.nil, .t (.int .i64 0)]] true true), (4096, .live 2 [.t (regT [b0, b1] u)] true true)] | _ => [(73760, .live 2 [.agg [.sl 73744 0 2, .t (.int .i64 u)]] true true), (73746, .live 1 (((ext1 1 b1 n d1).map bsT).map V.t) true false), (73745, .live 1 (((ext1 0 b0 n d0).map bsT).map V.t) true false), (73744, .live 1 [.sl 73745 0 0, .sl 73746 0 16] true false), (4112, .live 2 [.agg [.nil, .t (.int .i64 0)]] true true), (4096, .live 2 [.t (regT [b0, b1] u)] true true)]) ?_ (fun k hk2 => ?_)
       · refine Weak.rd id ?_ ?_ rfl
         all_goals simp (disch := omega) only [go_sem, seval, id, z0, z1]
       · rcases (show k = 0 ∨ k = 1 ∨ k = 2 by omega) with rfl | rfl | rfl
         · have q := List.take_of_length_le (show (b0.getD n [] ++ d0).length ≤ (List.getD b0 n []).length + d0.length by rw [List.length_append]; exact Nat.le_refl _)
           simp (disch := omega) only [go_sem, seval, ac_registers_Extend_L2, h3, on_eq0 hk.1, on_eq1 hk.1, h4, size_eq0, size_eq1, h5, twin_eq2 hk, h6, sumA_eq0, sumA_eq1, z0, z1, ext1_length, q]
           refine Weak.rd id ?_ ?_ rfl
           all_goals simp (disch := omega) only [go_sem, seval, id, ext1, z0, z1]
         · have q := List.take_of_length_le (show (b1.getD n [] ++ d1).length ≤ (List.getD b1 n []).length + d1.length by rw [List.length_append]; exact Nat.le_refl _)
           simp (config := { maxSteps := 2000000 }) (disch := (first | omega | (simp only [lens, lenm]; omega))) only [go_sem, seval, ac_registers_Extend_L2, h3, on_eq0 hk.1, on_eq1 hk.1, h4, size_eq0, size_eq1, h5, twin_eq2 hk, h6, sumA_eq0, sumA_eq1, z0, z1, ext1_length, q]
           repeat refine And.intro rfl ?_
           refine Weak.cv (hv := []) [94544] id ?_ rfl
           simp (config := { maxSteps := 2000000 }) (disch := (first | omega | (simp only [lens, lenm]; omega))) only [go_sem, seval, id, ext1, z0, z1, take_sum1, take_sum256, sumA0, sumA1, sum1_length, sum256_length]
           all_goals rfl
         · have t0 : List.take 0 (ext1 0 b0 n d0) = ext1 0 b0 n d0 := List.take_of_length_le (by rw [ext1_length, z0]; exact Nat.le_refl _)
           have t1 : List.take 16 (ext1 1 b1 n d1) = ext1 1 b1 n d1 := List.take_of_length_le (by rw [ext1_length, z1]; exact Nat.le_refl _)
           have y0 : ext1 0 b0 n d0 = [] := List.eq_nil_of_length_eq_zero (by rw [ext1_length, z0])
           simp (disch := omega) only [go_sem, seval, ac_registers_Extend_L2, ext1_length, t0, t1, z0, z1, hE, extBk, Int.toNat_natCast, List.map_cons, List.map_nil, y0, extR, extEr, List.getD_cons_zero, List.getD_cons_succ, List.length_cons, List.length_nil]
 · have zz : True := trivial
   by_cases p1 : 0 < d1.length
   · have zz : True := trivial
     have hE : extE 16 0 loc n 2 d0.length d1.length = 27 := by unfold extE; rw [if_neg (by omega), if_neg (by omega), if_pos (by omega)]
     refine loop_fuel 3 ?_
     simp (disch := omega) only [go_sem, seval, loopN_succ, ac_registers_Extend_L0, h3, on_eq0 hk.1, on_eq1 hk.1, h4, size_eq0, size_eq1, h5, twin_eq2 hk, h6, sumA_eq0, sumA_eq1, z0, z1, hE, List.map_nil, extR, extEr, List.getD_cons_zero, List.getD_cons_succ, List.length_cons, List.length_nil]
     all_goals repeat refine And.intro rfl ?_
     all_goals rfl
   · have zz : True := trivial
     refine loop_fuel 3 ?_
     simp (disch := omega) only [go_sem, seval, loopN_succ, ac_registers_Extend_L0, h3, on_eq0 hk.1, on_eq1 hk.1, h4, size_eq0, size_eq1, h5, twin_eq2 hk, h6, sumA_eq0, sumA_eq1, z0, z1]
     all_goals repeat refine And.intro rfl ?_
     refine loopW_weak (fs' := [(2, .t (.int .i64 (n : Nat))), (3, .t (.sl [bsT d0, bsT d1])), (4, .ref 4096 0 0), (8, .ref 4112 0 0), (56, .t (.sl [bsT d0, bsT d1])), (57, .t (.int .i64 2)), (58, .t (.int .i64 0))]) (hs' := [(4112, .live 2 [.agg [.nil, .t (.int .i64 0)]] true true), (4096, .live 2 [.t (regT [b0, b1] u)] true true)]) (Weak.rd id ?_ ?_ rfl) ?_
     · simp (disch := omega) only [go_sem, seval, id]
     · simp (disch := omega) only [go_sem, seval, id]
     by_cases q1 : d0.length ≠ 20
     · have zz : True := trivial
       have hE : extE 16 0 loc n 2 d0.length d1.length = 24 := by unfold extE; rw [if_neg (by omega), if_neg (by omega), if_neg (by omega), if_pos (by omega)]
       refine loop_fuel 3 ?_
       simp (disch := omega) only [go_sem, seval, loopN_succ, ac_registers_Extend_L1, h3, on_eq0 hk.1, on_eq1 hk.1, h4, size_eq0, size_eq1, h5, twin_eq2 hk, h6, sumA_eq0, sumA_eq1, z0, z1, hE, List.map_nil, extR, extEr, List.getD_cons_zero, List.getD_cons_succ, List.length_cons, List.length_nil]
       all_goals repeat refine And.intro rfl ?_
       all_goals rfl
     · have zz : True := trivial
       have hE : extE 16 0 loc n 2 d0.length d1.length = 0 := by unfold extE; rw [if_neg (by omega), if_neg (by omega), if_neg (by omega), if_neg (by omega)]
       refine loop_fuel 3 ?_
       simp (disch := omega) only [go_sem, seval, loopN_succ, ac_registers_Extend_L1, h3, on_eq0 hk.1, on_eq1 hk.1, h4, size_eq0, size_eq1, h5, twin_eq2 hk, h6, sumA_eq0, sumA_eq1, z0, z1]
       all_goals repeat refine And.intro rfl ?_
       refine loop_upto 2 (fun k => match k with | 0 => [(2, .t (.int .i64 (n : Nat))), (3, .t (.sl [bsT d0, bsT d1])), (4, .ref 4096 0 0), (8, .ref 4112 0 0), (14, .ref 73760 0 0), (79, .t (.int .i64 2)), (80, .t (.int .i64 0))] | 1 => [(2, .t (.int .i64 (n : Nat))), (3, .t (.sl [bsT d0, bsT d1])), (4, .ref 4096 0 0), (8, .ref 4112 0 0), (14, .ref 73760 0 0), (79, .t (.int .i64 2)), (80, .t (.int .i64 1))] | _ => [(2, .t (.int .i64 (n : Nat))), (3, .t (.sl [bsT d0, bsT d1])), (4, .ref 4096 0 0), (8, .ref 4112 0 0), (14, .ref 73760 0 0), (79, .t (.int .i64 2)), (80, .t (.int .i64 2))]) (fun k => match k with | 0 => [(73760, .live 2 [.agg [.sl 73744 0 2, .t (.int .i64 u)]] true true), (73746, .live 1 (((b1).map bsT).map V.t) true false), (73745, .live 1 (((b0).map bsT).map V.t) true false), (73744, .live 1 [.sl 73745 0 16, .sl 73746 0 0] true false), (4112, .live 2 [.agg [.nil, .t (.int .i64 0)]] true true), (4096, .live 2 [.t (regT [b0, b1] u)] true true)] | 1 => [(73760, .live 2 [.agg [.sl 73744 0 2, .t (.int .i64 u)]] true true), (73746, .live 1 (((b1).map bsT).map V.t) true false), (73745, .live 1 (((ext1 0 b0 n d0).map bsT).map V.t) true false), (73744, .live 1 [.sl 73745 0 16, .sl 73746 0 0] true false), (4112, .live 2 [.agg [.nil, .t (.int .i64 0)]] true true), (4096, .live 2 [.t (regT [b0, b1] u)] true true)] | _ => [(73760, .live 2 [.agg [.sl 73744 0 2, .t (.int .i64 u)]] true true), (73746, .live 1 (((ext1 1 b1 n d1).map bsT).map V.t) true false), (73745, .live 1 (((ext1 0 b0 n d0).map bsT).map V.t) true false), (73744, .live 1 [.sl 73745 0 16, .sl 73746 0 0] true false), (4112, .live 2 [.agg [.nil, .t (.int .i64 0)]] true true), (4096, .live 2 [.t (regT [b0, b1] u)] true true)]) ?_ (fun k hk2 => ?_)
       · refine Weak.rd id ?_ ?_ rfl
         all_goals simp (disch := omega) only [go_sem, seval, id, z0, z1]
       · rcases (show k = 0 ∨ k = 1 ∨ k = 2 by omega) with rfl | rfl | rfl
         · have q := List.take_of_length_le (show (b0.getD n [] ++ d0).length ≤ (List.getD b0 n []).length + d0.length by rw [List.length_append]; exact Nat.le_refl _)
           simp (config := { maxSteps := 2000000 }) (disch := (first | omega | (simp only [lens, lenm]; omega))) only [go_sem, seval, ac_registers_Extend_L2, h3, on_eq0 hk.1, on_eq1 hk.1, h4, size_eq0, size_eq1, h5, twin_eq2 hk, h6, sumA_eq0, sumA_eq1, z0, z1, ext1_length, q]
           repeat refine And.intro rfl ?_
           refine Weak.cv (hv := []) [94544] id ?_ rfl
           simp (config := { maxSteps := 2000000 }) (disch := (first | omega | (simp only [lens, lenm]; omega))) only [go_sem, seval, id, ext1, z0, z1, take_sum1, take_sum256, sumA0, sumA1, sum1_length, sum256_length]
           all_goals rfl
         · have q := List.take_of_length_le (show (b1.getD n [] ++ d1).length ≤ (List.getD b1 n []).length + d1.length by rw [List.length_append]; exact Nat.le_refl _)
           simp (disch := omega) only [go_sem, seval, ac_registers_Extend_L2, h3, on_eq0 hk.1, on_eq1 hk.1, h4, size_eq0, size_eq1, h5, twin_eq2 hk, h6, sumA_eq0, sumA_eq1, z0, z1, ext1_length, q]
           refine Weak.rd id ?_ ?_ rfl
           all_goals simp (disch := omega) only [go_sem, seval, id, ext1, z0, z1]
         · have t0 : List.take 16 (ext1 0 b0 n d0) = ext1 0 b0 n d0 := List.take_of_length_le (by rw [ext1_length, z0]; exact Nat.le_refl _)
           have t1 : List.take 0 (ext1 1 b1 n d1) = ext1 1 b1 n d1 := List.take_of_length_le (by rw [ext1_length, z1]; exact Nat.le_refl _)
           have y1 : ext1 1 b1 n d1 = [] := List.eq_nil_of_length_eq_zero (by rw [ext1_length, z1])
           simp (disch := omega) only [go_sem, seval, ac_registers_Extend_L2, ext1_length, t0, t1, z0, z1, hE, extBk, Int.toNat_natCast, List.map_cons, List.map_nil, y1, extR, extEr, List.getD_cons_zero, List.getD_cons_succ, List.length_cons, List.length_nil]
 · have zz : True := trivial
   refine loop_fuel 3 ?_
   simp (disch := omega) only [go_sem, seval, loopN_succ, ac_registers_Extend_L0, h3, on_eq0 hk.1, on_eq1 hk.1, h4, size_eq0, size_eq1, h5, twin_eq2 hk, h6, sumA_eq0, sumA_eq1, z0, z1]
   all_goals repeat refine And.intro rfl ?_
   refine loopW_weak (fs' := [(2, .t (.int .i64 (n : Nat))), (3, .t (.sl [bsT d0, bsT d1])), (4, .ref 4096 0 0), (8, .ref 4112 0 0), (56, .t (.sl [bsT d0, bsT d1])), (57, .t (.int .i64 2)), (58, .t (.int .i64 0))]) (hs' := [(4112, .live 2 [.agg [.nil, .t (.int .i64 0)]] true true), (4096, .live 2 [.t (regT [b0, b1] u)] true true)]) (Weak.rd id ?_ ?_ rfl) ?_
   · simp (disch := omega) only [go_sem, seval, id]
   · simp (disch := omega) only [go_sem, seval, id]
   by_cases q2 : d0.length ≠ 20
   · have zz : True := trivial
     have hE : extE 16 16 loc n 2 d0.length d1.length = 24 := by unfold extE; rw [if_neg (by omega), if_neg (by omega), if_neg (by omega), if_pos (by omega)]
     refine loop_fuel 3 ?_
     simp (disch := omega) only [go_sem, seval, loopN_succ, ac_registers_Extend_L1, h3, on_eq0 hk.1, on_eq1 hk.1, h4, size_eq0, size_eq1, h5, twin_eq2 hk, h6, sumA_eq0, sumA_eq1, z0, z1, hE, List.map_nil, extR, extEr, List.getD_cons_zero, List.getD_cons_succ, List.length_cons, List.length_nil]
     all_goals repeat refine And.intro rfl ?_
     all_goals rfl
   · have zz : True := trivial
     by_cases q1 : d1.length ≠ 32
     · have zz : True := trivial
       have hE : extE 16 16 loc n 2 d0.length d1.length = 24 := by unfold extE; rw [if_neg (by omega), if_neg (by omega), if_neg (by omega), if_pos (by omega)]
       refine loop_fuel 3 ?_
       simp (disch := omega) only [go_sem, seval, loopN_succ, ac_registers_Extend_L1, h3, on_eq0 hk.1, on_eq1 hk.1, h4, size_eq0, size_eq1, h5, twin_eq2 hk, h6, sumA_eq0, sumA_eq1, z0, z1, hE, List.map_nil, extR, extEr, List.getD_cons_zero, List.getD_cons_succ, List.length_cons, List.length_nil]
       all_goals repeat refine And.intro rfl ?_
       all_goals rfl
     · have zz : True := trivial
       have hE : extE 16 16 loc n 2 d0.length d1.length = 0 := by unfold extE; rw [if_neg (by omega), if_neg (by omega), if_neg (by omega), if_neg (by omega)]
       refine loop_fuel 3 ?_
       simp (disch := omega) only [go_sem, seval, loopN_succ, ac_registers_Extend_L1, h3, on_eq0 hk.1, on_eq1 hk.1, h4, size_eq0, size_eq1, h5, twin_eq2 hk, h6, sumA_eq0, sumA_eq1, z0, z1]
       all_goals repeat refine And.intro rfl ?_
       refine loop_upto 2 (fun k => match k with | 0 => [(2, .t (.int .i64 (n : Nat))), (3, .t (.sl [bsT d0, bsT d1])), (4, .ref 4096 0 0), (8, .ref 4112 0 0), (14, .ref 73760 0 0), (79, .t (.int .i64 2)), (80, .t (.int .i64 0))] | 1 => [(2, .t (.int .i64 (n : Nat))), (3, .t (.sl [bsT d0, bsT d1])), (4, .ref 4096 0 0), (8, .ref 4112 0 0), (14, .ref 73760 0 0), (79, .t (.int .i64 2)), (80, .t (.int .i64 1))] | _ => [(2, .t (.int .i64 (n : Nat))), (3, .t (.sl [bsT d0, bsT d1])), (4, .ref 4096 0 0), (8, .ref 4112 0 0), (14, .ref 73760 0 0), (79, .t (.int .i64 2)), (80, .t (.int .i64 2))]) (fun k => match k with | 0 => [(73760, .live 2 [.agg [.sl 73744 0 2, .t (.int .i64 u)]] true true), (73746, .live 1 (((b1).map bsT).map V.t) true false), (73745, .live 1 (((b0).map bsT).map V.t) true false), (73744, .live 1 [.sl 73745 0 16, .sl 73746 0 16] true false), (4112, .live 2 [.agg [.nil, .t (.int .i64 0)]] true true), (4096, .live 2 [.t (regT [b0, b1] u)] true true)] | 1 => [(73760, .live 2 [.agg [.sl 73744 0 2, .t (.int .i64 u)]] true true), (73746, .live 1 (((b1).map bsT).map V.t) true false), (73745, .live 1 (((ext1 0 b0 n d0).map bsT).map V.t) true false), (73744, .live 1 [.sl 73745 0 16, .sl 73746 0 16] true false), (4112, .live 2 [.agg [.nil, .t (.int .i64 0)]] true true), (4096, .live 2 [.t (regT [b0, b1] u)] true true)] | _ => [(73760, .live 2 [.agg [.sl 73744 0 2, .t (.int .i64 u)]] true true), (73746, .live 1 (((ext1 1 b1 n d1).map bsT).map V.t) true false), (73745, .live 1 (((ext1 0 b0 n d0).map bsT).map V.t) true false), (73744, .live 1 [.sl 73745 0 16, .sl 73746 0 16] true false), (4112, .live 2 [.agg [.nil, .t (.int .i64 0)]] true true), (4096, .live 2 [.t (regT [b0, b1] u)] true true)]) ?_ (fun k hk2 => ?_)
       · refine Weak.rd id ?_ ?_ rfl
         all_goals simp (disch := omega) only [go_sem, seval, id, z0, z1]
       · rcases (show k = 0 ∨ k = 1 ∨ k = 2 by omega) with rfl | rfl | rfl
         · have q := List.take_of_length_le (show (b0.getD n [] ++ d0).length ≤ (List.getD b0 n []).length + d0.length by rw [List.length_append]; exact Nat.le_refl _)
           simp (config := { maxSteps := 2000000 }) (disch := (first | omega | (simp only [lens, lenm]; omega))) only [go_sem, seval, ac_registers_Extend_L2, h3, on_eq0 hk.1, on_eq1 hk.1, h4, size_eq0, size_eq1, h5, twin_eq2 hk, h6, sumA_eq0, sumA_eq1, z0, z1, ext1_length, q]
           repeat refine And.intro rfl ?_
           refine Weak.cv (hv := []) [94544] id ?_ rfl
           simp (config := { maxSteps := 2000000 }) (disch := (first | omega | (simp only [lens, lenm]; omega))) only [go_sem, seval, id, ext1, z0, z1, take_sum1, take_sum256, sumA0, sumA1, sum1_length, sum256_length]
           all_goals rfl
         · have q := List.take_of_length_le (show (b1.getD n [] ++ d1).length ≤ (List.getD b1 n []).length + d1.length by rw [List.length_append]; exact Nat.le_refl _)
           simp (config := { maxSteps := 2000000 }) (disch := (first | omega | (simp only [lens, lenm]; omega))) only [go_sem, seval, ac_registers_Extend_L2, h3, on_eq0 hk.1, on_eq1 hk.1, h4, size_eq0, size_eq1, h5, twin_eq2 hk, h6, sumA_eq0, sumA_eq1, z0, z1, ext1_length, q]
           repeat refine And.intro rfl ?_
           refine Weak.cv (hv := []) [94544] id ?_ rfl
           simp (config := { maxSteps := 2000000 }) (disch := (first | omega | (simp only [lens, lenm]; omega))) only [go_sem, seval, id, ext1, z0, z1, take_sum1, take_sum256, sumA0, sumA1, sum1_length, sum256_length]
           all_goals rfl
         · have t0 : List.take 16 (ext1 0 b0 n d0) = ext1 0 b0 n d0 := List.take_of_length_le (by rw [ext1_length, z0]; exact Nat.le_refl _)
           have t1 : List.take 16 (ext1 1 b1 n d1) = ext1 1 b1 n d1 := List.take_of_length_le (by rw [ext1_length, z1]; exact Nat.le_refl _)
           simp (disch := omega) only [go_sem, seval, ac_registers_Extend_L2, ext1_length, t0, t1, z0, z1, hE, extBk, Int.toNat_natCast, List.map_cons, List.map_nil, extR, extEr, List.getD_cons_zero, List.getD_cons_succ, List.length_cons, List.length_nil]
end Go.Eng
end
