/- My own text: an abstract machine, its walks over the functions reached, and their tie to the program. -/
import Derived.Test.YtpeekafhlgkjdaaDoorI3
import Derived.Conc.MuLone
import Derived.Lib.OthersKept
import Derived.Laws.RangeAny
import Derived.Lib.ItoaNum
import Derived.Lib.LaidTab
import Derived.Sort.Grow
import Derived.Deep.Draws
import Derived.KernelRfl
import Derived.Lib.MakeNoZero
import Derived.Laws.Externs
import Derived.WideKeyArgs
import Derived.Handed
import Derived.OpenShut
import Derived.RowKit
import Derived.ProofKit
import Derived.LaidMore
import Derived.MakeChecks
import Derived.Stop.Joined
import Derived.Lib.BytesEntry
set_option linter.unusedSimpArgs false
set_option linter.unusedVariables false
section
set_option maxRecDepth 20000
set_option maxHeartbeats 64000000
namespace Go.Eng
abbrev Im := Int × List UInt8 × Int × List UInt8
def imT (x : Im) : T := .agg [.int .i64 x.1, strT x.2.1, .int .i64 x.2.2.1, .sl (x.2.2.2.map byteT)]
theorem imT_def {a v : Int} {s p : List UInt8} : imT (a, s, v, p) = .agg [.int .i64 a, strT s, .int .i64 v, .sl (p.map byteT)] := Eq.trans (Eq.refl _) rfl
theorem imT_inj {e f : Im} (h : imT e = imT f) : e = f := by
 obtain ⟨a, b, c, d⟩ := e
 obtain ⟨a', b', c', d'⟩ := f
 simp only [imT_def, T.agg.injEq, List.cons.injEq, T.int.injEq, T.sl.injEq, true_and, and_true, strT_inj, mapB_inj] at h
 obtain ⟨rfl, rfl, rfl, rfl⟩ := h
 rfl
def imM (x : Im) : Prop := x.2.1.length ≤ 9223372036854775807 ∧ x.2.2.2.length < 1000000000 ∧ rI x.1 ∧ rI x.2.2.1
def okN (c : UInt8) : Bool := (!decide (c.toNat < 97) && !decide (c.toNat > 122)) || ((!decide (c.toNat < 48) && !decide (c.toNat > 57)) || decide (c = 45))
def nameB (s : List UInt8) : Bool := (!decide (s.length < 1) && !decide (12 < s.length)) && s.all okN
def lnS (out : List (List UInt8)) (line : List UInt8) : List UInt8 → List (List UInt8)
 | [] => if 0 < line.length then [] else out
 | c :: r => if c = 10 then (if line.length = 0 ∨ 4 ≤ out.length then [] else lnS (out ++ [line]) [] r) else if okC c = true then lnS out (line ++ [c]) r else []
def lnL (p : List UInt8) : List (List UInt8) := lnS [] [] p
def badI (r v : Int) : Prop := r < 1 ∨ 4 < r ∨ v < 0 ∨ 1000000 < v
instance {r v : Int} : Decidable (badI r v) := by unfold badI; infer_instance
def chkI (x : Im) : Int := if badI x.1 x.2.2.1 then 1 else if nameB x.2.1 = false then 43 else if 64 < x.2.2.2.length then 4 else if x.1 = 4 ∧ (lnL x.2.2.2).length = 0 then 40 else 0
def encI (x : Im) : List UInt8 := blL (blL (beI 1 x.1 1 ++ beI 4 x.2.2.1 4) x.2.1) x.2.2.2
def encI' (x : Im) : List UInt8 := if chkI x = 0 then encI x else []
def regI (r : Int) : Int := if r = 1 then 0 else if r = 2 then 4 else if r = 3 then 8 else if r = 4 then 9 else -1
def decL : Nat → Nat → List UInt8
 | 0, n => [UInt8.ofNat (48 + n)]
 | k + 1, n => if n < 10 then [UInt8.ofNat (48 + n)] else decL k (n / 10) ++ [UInt8.ofNat (48 + n % 10)]
def numL (n : Nat) : List UInt8 := decL 7 n
def labL (s : List UInt8) (n : Nat) : List UInt8 := s ++ [32] ++ numL n
def digI (x : Im) (act : Int) (a : Nat) : List UInt8 := if 0 < (encI' x).length ∧ act / 2 ^ a % 2 = 1 then sumA a (encI' x) else []
def ofI (x : Im) (act : Int) : Ev := if chkI x ≠ 0 ∨ x.1 = 4 then (0, 0, [], []) else (regI x.1, 1, [digI x act 0, digI x act 1], labL x.2.1 x.2.2.1.toNat)
def chF (pre : List Im) : List Im → Int
 | [] => if pre.any (fun y => decide (y.1 = 1)) && pre.any (fun y => decide (y.1 = 3)) then 0 else 40
 | x :: r => if chkI x ≠ 0 then chkI x else if pre ≠ [] ∧ x.1 < (pre.getLastD (0, [], 0, [])).1 then 41 else if pre.any (fun y => decide (y.1 = x.1) && decide (y.2.1 = x.2.1)) then 42 else chF (pre ++ [x]) r
theorem lnS_len {p : List UInt8} : ∀ {out : List (List UInt8)} {line : List UInt8}, out.length ≤ 4 → (lnS out line p).length ≤ 4 := by
 induction p with
 | nil => intro out line h; unfold lnS; split <;> simp_all
 | cons c r ih =>
   intro out line h
   unfold lnS
   split
   · split
     · simp
     · rename_i hq
       exact ih (by simp; omega)
   · split
     · exact ih h
     · simp
theorem lnL_len {p : List UInt8} : (lnL p).length ≤ 4 := lnS_len (by simp)
theorem decL_len : ∀ {k n : Nat}, 1 ≤ (decL k n).length ∧ (decL k n).length ≤ k + 1
 | 0, n => by simp [decL]
 | k + 1, n => by
   unfold decL
   split
   · simp
   · have := decL_len (k := k) (n := n / 10)
     simp; omega
def nmL (i : Nat) : List UInt8 := match i with
 | 0 => [97]
 | 1 => [103, 114, 117, 98]
 | 2 => [108, 105, 110, 117, 120]
 | 3 => [110, 101, 116, 45, 48]
 | _ => [116, 119, 101, 108, 118, 101, 45, 98, 121, 116, 101, 115]
def payN : Nat → Cd → List UInt8 → List UInt8 × Cd
 | 0, c, b => (b, c)
 | k + 1, c, b => payN k (nx c 6).2 (b ++ lineL (nx c 6).1 ++ [10])
def payG (c : Cd) : List UInt8 × Cd := payN (1 + (nx c 4).1) (nx c 4).2 []
def vrG (c : Cd) : Int × Cd := if (nx (nx c 5).2 9).1 = 8 then ((1000000 - ((nx (nx (nx c 5).2 9).2 3).1 : Int)), (nx (nx (nx c 5).2 9).2 3).2) else (((nx c 5).1 : Int), (nx (nx c 5).2 9).2)
def byN : Nat → Cd → List UInt8 → List UInt8 × Cd
 | 0, c, b => (b, c)
 | k + 1, c, b => byN k (nx c 256).2 (b ++ [UInt8.ofNat (nx c 256).1])
def plG (c : Cd) (role : Int) : List UInt8 × Cd := if role = 4 then payG c else byN (nx c 7).1 (nx c 7).2 []
def imG (c : Cd) (role : Int) : Im × Cd := ((role, nmL (nx c 5).1, (vrG (nx c 5).2).1, (plG (vrG (nx c 5).2).2 role).1), (plG (vrG (nx c 5).2).2 role).2)
theorem okC10 {c : UInt8} (h : okC c = true) : c ≠ 10 := by rintro rfl; revert h; decide
theorem lnS_app {s r : List UInt8} {out : List (List UInt8)} : ∀ {l : List UInt8}, s.all okC = true → lnS out l (s ++ r) = lnS out (l ++ s) r := by
 induction s with
 | nil => intro l _; simp
 | cons c s ih =>
   intro l h
   simp only [List.all_cons, Bool.and_eq_true] at h
   rw [List.cons_append, lnS, if_neg (okC10 h.1), if_pos h.1, ih h.2]; simp
theorem lnS_nl {r l : List UInt8} {out : List (List UInt8)} (h1 : 0 < l.length) (h2 : out.length < 4) : lnS out l (10 :: r) = lnS (out ++ [l]) [] r := by
 rw [lnS, if_pos rfl, if_neg (by omega)]
theorem lineL_ok {i : Nat} : (lineL i).all okC = true := by unfold lineL; split <;> decide
theorem payN_ok : ∀ {k : Nat} {c : Cd} {b : List UInt8} {out : List (List UInt8)}, (∀ r, lnS [] [] (b ++ r) = lnS out [] r) → out.length + k ≤ 4 → (lnL (payN k c b).1).length = out.length + k ∧ (payN k c b).1.length ≤ b.length + 9 * k
 | 0, c, b, out, h, hk => by
   have := h []
   rw [List.append_nil] at this
   refine ⟨?_, by simp [payN]⟩
   show (lnS [] [] b).length = _
   rw [this]; simp [lnS]
 | k + 1, c, b, out, h, hk => by
   have hl := lineL_len (i := (nx c 6).1)
   have := payN_ok (k := k) (c := (nx c 6).2) (b := b ++ lineL (nx c 6).1 ++ [10]) (out := out ++ [lineL (nx c 6).1]) (fun r => by
     rw [List.append_assoc, List.append_assoc, h, lnS_app lineL_ok]
     exact lnS_nl hl.1 (by omega)) (by simp; omega)
   simp only [List.length_append, List.length_cons, List.length_nil] at this
   refine ⟨by unfold payN; omega, ?_⟩
   unfold payN
   omega
theorem payG_ok {c : Cd} : 1 ≤ (lnL (payG c).1).length ∧ (payG c).1.length ≤ 36 := by
 have hn := nx_lt (c := c) (n := 4) (by omega)
 have := payN_ok (k := 1 + (nx c 4).1) (c := (nx c 4).2) (b := []) (out := []) (fun r => rfl) (by simp; omega)
 simp only [List.length_nil] at this
 unfold payG
 omega
theorem payN_cd : ∀ {k : Nat} {c : Cd} {b : List UInt8}, cdOk c → cdOk (payN k c b).2
 | 0, _, _, h => h
 | k + 1, _, _, h => payN_cd (k := k) (nx_ok h)
theorem byN_len : ∀ {k : Nat} {c : Cd} {b : List UInt8}, (byN k c b).1.length = b.length + k
 | 0, _, _ => rfl
 | k + 1, c, b => by
   have := byN_len (k := k) (c := (nx c 256).2) (b := b ++ [UInt8.ofNat (nx c 256).1])
   unfold byN
   rw [this]; simp; omega
theorem plG_len {c : Cd} {r : Int} : (plG c r).1.length ≤ 36 := by
 unfold plG
 split
 · exact payG_ok.2
 · have := nx_lt (c := c) (n := 7) (by omega)
   rw [byN_len]; simp; omega
theorem vrG_le {c : Cd} : 0 ≤ (vrG c).1 ∧ (vrG c).1 ≤ 1000000 := by
 unfold vrG
 split
 · have := nx_lt (c := (nx (nx c 5).2 9).2) (n := 3) (by omega)
   simp only; omega
 · have := nx_lt (c := c) (n := 5) (by omega)
   simp only; omega
theorem nmL_ok {i : Nat} : nameB (nmL i) = true := by unfold nmL; split <;> decide
theorem imG_role {c : Cd} {r : Int} : (imG c r).1.1 = r := rfl
theorem imG_ok {c : Cd} {r : Int} (hr : 1 ≤ r ∧ r ≤ 4) : chkI (imG c r).1 = 0 := by
 have hv := vrG_le (c := (nx c 5).2)
 have hl := plG_len (c := (vrG (nx c 5).2).2) (r := r)
 unfold chkI imG
 simp only
 rw [if_neg (by unfold badI; omega), nmL_ok, if_neg (by decide), if_neg (by omega), if_neg]
 rintro ⟨rfl, h⟩
 have hp := payG_ok (c := (vrG (nx c 5).2).2)
 have e : (plG (vrG (nx c 5).2).2 4).1 = (payG (vrG (nx c 5).2).2).1 := by unfold plG; rw [if_pos rfl]
 rw [e] at h
 omega
theorem chkI_good {x : Im} (h : chkI x = 0) : (1 ≤ x.1 ∧ x.1 ≤ 4) ∧ (0 ≤ x.2.2.1 ∧ x.2.2.1 ≤ 1000000) ∧ nameB x.2.1 = true ∧ x.2.2.2.length ≤ 64 ∧ (x.1 = 4 → 1 ≤ (lnL x.2.2.2).length) := by
 unfold chkI at h
 split at h
 · simp at h
 · rename_i h1
   split at h
   · simp at h
   · rename_i h2
     split at h
     · simp at h
     · rename_i h3
       split at h
       · simp at h
       · rename_i h4
         unfold badI at h1
         refine ⟨by omega, by omega, by simpa using h2, by omega, fun h5 => ?_⟩
         by_cases h6 : (lnL x.2.2.2).length = 0
         · exact absurd ⟨h5, h6⟩ h4
         · omega
theorem nameB_len {s : List UInt8} (h : nameB s = true) : 1 ≤ s.length ∧ s.length ≤ 12 := by
 unfold nameB at h
 simp only [Bool.and_eq_true, Bool.not_eq_true', decide_eq_false_iff_not] at h
 omega
theorem chkI_m {x : Im} (h : chkI x = 0) : imM x := by
 obtain ⟨h1, h2, h3, h4, h5⟩ := chkI_good h
 have h6 := nameB_len h3
 exact ⟨by omega, by omega, by unfold rI; omega, by unfold rI; omega⟩
def chP (l : List Im) : Prop := ∀ r, chF [] (l ++ r) = chF l r
structure ChO (r : Int) (l : List Im) : Prop where
 p : chP l
 ok : ∀ x ∈ l, chkI x = 0
 le : ∀ x ∈ l, x.1 ≤ r
theorem ChO.up {r q : Int} {l : List Im} (h : ChO r l) (hq : r ≤ q) : ChO q l := ⟨h.p, h.ok, fun x hx => by have := h.le x hx; omega⟩
def evV (act : Int) (e : Ev) : Prop := chkE e act = 0 ∧ evM e
theorem digI_len {x : Im} {act : Int} {a : Nat} (h : chkI x = 0) : (digI x act a).length = wantL 1 act a := by
 have he : 0 < (encI' x).length := by
   unfold encI'
   rw [if_pos h]
   unfold encI
   rw [blL_len]; omega
 unfold digI wantL
 by_cases hb : act / 2 ^ a % 2 = 1
 · rw [if_pos ⟨he, hb⟩, if_pos ⟨by decide, hb⟩]; exact sumA_length
 · rw [if_neg (fun h => hb h.2), if_neg (fun h => hb h.2)]; rfl
theorem labL_len {s : List UInt8} {n : Nat} : (labL s n).length ≤ s.length + 9 := by
 have := decL_len (k := 7) (n := n)
 unfold labL numL
 simp only [List.length_append, List.length_cons, List.length_nil]; omega
theorem regI_le {r : Int} (h : 1 ≤ r ∧ r ≤ 3) : 0 ≤ regI r ∧ regI r ≤ 11 := by
 unfold regI
 split
 · omega
 · split
   · omega
   · split <;> omega
theorem ofI_ok {x : Im} {act : Int} (ha : 1 ≤ act ∧ act ≤ 3) (h : chkI x = 0) (h4 : x.1 ≠ 4) : evV act (ofI x act) := by
 obtain ⟨h1, h2, h3, _, _⟩ := chkI_good h
 have h6 := nameB_len h3
 have h7 := labL_len (s := x.2.1) (n := x.2.2.1.toNat)
 have h8 := regI_le (r := x.1) (by omega)
 have d0 := digI_len (act := act) (a := 0) h
 have d1 := digI_len (act := act) (a := 1) h
 have w0 := wantL_le (k := 1) (act := act) (a := 0)
 have w1 := wantL_le (k := 1) (act := act) (a := 1)
 unfold ofI
 rw [if_neg (by omega)]
 refine ⟨?_, ⟨by simp, fun y hy => ?_⟩, by simp only; omega⟩
 · unfold chkE
   simp only
   rw [if_neg (by unfold badE; omega), if_neg (by omega), if_pos]
   rw [fitE_two, d0, d1, decide_eq_true rfl, decide_eq_true rfl]; rfl
 · simp only [List.mem_cons, List.not_mem_nil, or_false] at hy
   rcases hy with rfl | rfl <;> omega
end Go.Eng
end
section
namespace Go.Eng
def ac_draw_names : AC :=
 (.seq
 (rG 4096 [oO 0 (.new 1 [(.t (strT [])), (.t (strT [])), (.t (strT [])), (.t (strT [])), (.t (strT []))]) []])
 (.seq
 (rG 8192 [oO 1 (.build [(.t (strT [])), (.t (strT [])), (.t (strT [])), (.t (strT [])), (.t (strT []))] [(0, 1), (1, 1), (2, 1), (3, 1), (4, 1)]) [.cst (.t (strT [97])), .cst (.t (strT [103, 114, 117, 98])), .cst (.t (strT [108, 105, 110, 117, 120])), .cst (.t (strT [110, 101, 116, 45, 48])), .cst (.t (strT [116, 119, 101, 108, 118, 101, 45, 98, 121, 116, 101, 115]))],oS 5 0 1])
 .ret))
def hints_draw_names : List (Nat × List Nat) := []
def ac_draw_Codes_Payload_L0 (n_draw_Codes_Line : Nat) : AC :=
 (.seq
 (.seq
 (rG 16384 [mv 8 4,bN 9 .gtr 8 0])
 (.cond (.tmp 9)
 .skip
 (.exit 0)))
 (.seq
 (.block 1
 (rG 24576 [mv 12 3,mv 13 0,cL 14 n_draw_Codes_Line true [.tmp 13],oO 15 (.append 1 1) [.tmp 12, .tmp 14],oO 16 (.bslice 1 1 (.t (byteT 0)) [0]) [.cst (.t (byteT 10))],oO 17 (.append 1 1) [.tmp 15, .tmp 16],mv 3 17]))
 (rG 20480 [mv 10 4,bN 11 .sub 10 1,mv 4 11])))
def ac_draw_Codes_Payload (n_draw_Codes_Next n_draw_Codes_Line : Nat) : AC :=
 (.seq
 (rG 4096 [mC 2 .nil])
 (.seq
 (rG 8192 [mC 3 .nil])
 (.seq
 (.seq
 (rG 12288 [mv 5 0,cL 6 n_draw_Codes_Next true [.tmp 5, .cst (.t (.int .i64 4))],oO 7 (.bin .add) [.cst (.t (.int .i64 1)), .tmp 6],mv 4 7])
 (.block 0
 (.loop (ac_draw_Codes_Payload_L0 n_draw_Codes_Line))))
 (.seq
 (rG 28672 [mv 18 3,mv 2 18])
 .ret))))
def hints_draw_Codes_Payload : List (Nat × List Nat) := [(2, [1]), (5, [2])]
def ac_draw_Codes_Image_L0 (n_draw_Codes_Next : Nat) : AC :=
 (.seq
 (.seq
 (rG 40960 [mv 32 6,oO 33 (.faddr 3) [.tmp 5],oO 34 (.load 1 false) [.tmp 33],oO 35 .len [.tmp 34],bT 36 .lss 32 35])
 (.cond (.tmp 36)
 .skip
 (.exit 0)))
 (.seq
 (.block 1
 (.reg 49152 (some [0, 1, 0, 0, 8, 24, 63, 127]) [oO 39 (.faddr 3) [.tmp 5],oO 40 (.load 1 false) [.tmp 39],mv 41 6,mv 42 0,cL 43 n_draw_Codes_Next true [.tmp 42, .cst (.t (.int .i64 256))],oO 44 (.conv .u8) [.tmp 43],oO 45 (.iaddr 1) [.tmp 40, .tmp 41],oS 1 45 44]))
 (rG 45056 [mv 37 6,bN 38 .add 37 1,mv 6 38])))
def ac_draw_Codes_Image (n_draw_names n_draw_Codes_Next n_draw_Codes_Payload : Nat) : AC :=
 (.seq
 (rG 4096 [oO 4 (.new 4 [(.agg [(.t (.int .i64 0)), (.t (strT [])), (.t (.int .i64 0)), .nil])]) []])
 (.seq
 (.reg 8192 (some [0, 0, 0, 6, 14, 0, 46, 127, 0, 511]) [mv 7 1,cL 8 n_draw_names false [],mv 9 0,cL 10 n_draw_Codes_Next true [.tmp 9, .cst (.t (.int .i64 5))],oO 11 (.index 5 1 false) [.tmp 8, .tmp 10],mv 12 0,cL 13 n_draw_Codes_Next true [.tmp 12, .cst (.t (.int .i64 5))],oO 14 (.build [(.t (.int .i64 0)), (.t (strT [])), (.t (.int .i64 0)), .nil] [(0, 1), (1, 1), (2, 1)]) [.tmp 7, .tmp 11, .tmp 13],oO 5 (.new 4 [(.agg [(.t (.int .i64 0)), (.t (strT [])), (.t (.int .i64 0)), .nil])]) [],oS 4 5 14])
 (.seq
 (.seq
 (rG 12288 [mv 15 0,cL 16 n_draw_Codes_Next true [.tmp 15, .cst (.t (.int .i64 9))],bN 17 .eql 16 8])
 (.cond (.tmp 17)
 (rG 16384 [mv 18 0,cL 19 n_draw_Codes_Next true [.tmp 18, .cst (.t (.int .i64 3))],oO 20 (.bin .sub) [.cst (.t (.int .i64 1000000)), .tmp 19],oO 21 (.faddr 2) [.tmp 5],oS 1 21 20])
 .skip))
 (.seq
 (.seq
 (rG 20480 [mv 22 1,bN 23 .eql 22 4])
 (.cond (.tmp 23)
 (.seq
 (rG 24576 [mv 24 0,cL 25 n_draw_Codes_Payload true [.tmp 24],oO 26 (.faddr 3) [.tmp 5],oS 1 26 25])
 (.seq
 (rG 28672 [oO 27 (.load 4 true) [.tmp 5],oS 4 4 27])
 .ret))
 .skip))
 (.seq
 (rG 32768 [mv 28 0,cL 29 n_draw_Codes_Next true [.tmp 28, .cst (.t (.int .i64 7))],oO 30 (.mkslice 1 1 (.t (byteT 0))) [.tmp 29, .tmp 29],oO 31 (.faddr 3) [.tmp 5],oS 1 31 30])
 (.seq
 (.seq
 (rG 36864 [mC 6 (.t (.int .i64 0))])
 (.block 0
 (.loop (ac_draw_Codes_Image_L0 n_draw_Codes_Next))))
 (.seq
 (rG 53248 [oO 46 (.load 4 true) [.tmp 5],oS 4 4 46])
 .ret)))))))
def hints_draw_Codes_Image : List (Nat × List Nat) := [(1, [3, 6]), (2, [1]), (3, [1]), (5, [1]), (7, [1]), (11, [4])]
def ac_ref25_Name_L0 : AC :=
 (.seq
 (.seq
 (rG 20480 [mv 13 3,mv 14 0,oO 15 .slen [.tmp 14],bT 16 .lss 13 15])
 (.cond (.tmp 16)
 .skip
 (.exit 0)))
 (.seq
 (.block 1
 (.seq
 (rG 28672 [mv 19 0,mv 20 3,oO 21 .sindex [.tmp 19, .tmp 20],mv 4 21])
 (.seq
 (rG 32768 [mv 22 4,oO 23 (.bin .lss) [.tmp 22, .cst (.t (byteT 97))],mv 24 23,mF 25 4 24,oF 26 24 (.bin .gtr) [.tmp 25, .cst (.t (byteT 122))],oO 27 .pick [.tmp 24, .cst (.t (.bool true)), .tmp 26],mv 28 27,mG 29 4 28,oG 30 28 (.bin .lss) [.tmp 29, .cst (.t (byteT 48))],mG 31 30 28,mF 32 4 31,oF 33 31 (.bin .gtr) [.tmp 32, .cst (.t (byteT 57))],oG 34 28 .pick [.tmp 31, .cst (.t (.bool true)), .tmp 33],oO 35 .pick [.tmp 28, .tmp 34, .cst (.t (.bool false))],mv 36 35,mG 37 4 36,oG 38 36 (.bin .neq) [.tmp 37, .cst (.t (byteT 45))],oO 39 .pick [.tmp 36, .tmp 38, .cst (.t (.bool false))]])
 (.cond (.tmp 39)
 (.seq
 (rG 36864 [mC 2 (.t (.bool false))])
 .ret)
 .skip))))
 (rG 24576 [mv 17 3,bN 18 .add 17 1,mv 3 18])))
def ac_ref25_Name : AC :=
 (.seq
 (rG 4096 [mC 2 (.t (.bool false))])
 (.seq
 (.seq
 (rG 8192 [mv 5 0,oO 6 .slen [.tmp 5],bN 7 .lss 6 1,mv 8 7,mF 9 0 8,oF 10 8 .slen [.tmp 9],oF 11 8 (.bin .gtr) [.tmp 10, .cst (.t (.int .i64 12))],oO 12 .pick [.tmp 8, .cst (.t (.bool true)), .tmp 11]])
 (.cond (.tmp 12)
 (.seq
 (rG 12288 [mC 2 (.t (.bool false))])
 .ret)
 .skip))
 (.seq
 (.seq
 (rG 16384 [mC 3 (.t (.int .i64 0))])
 (.block 0
 (.loop ac_ref25_Name_L0)))
 (.seq
 (rG 40960 [mC 2 (.t (.bool true))])
 .ret))))
def hints_ref25_Name : List (Nat × List Nat) := []
def ac_ref25_Lines_L0 : AC :=
 (.seq
 (.seq
 (rG 20480 [mv 7 5,oO 8 (.faddr 3) [.tmp 1],oO 9 (.load 1 false) [.tmp 8],oO 10 .len [.tmp 9],bT 11 .lss 7 10])
 (.cond (.tmp 11)
 .skip
 (.exit 0)))
 (.seq
 (.block 1
 (.seq
 (rG 28672 [oO 14 (.faddr 3) [.tmp 1],oO 15 (.load 1 false) [.tmp 14],mv 16 5,oO 17 (.iaddr 1) [.tmp 15, .tmp 16],oO 18 (.load 1 false) [.tmp 17],mv 6 18])
 (.seq
 (.seq
 (rG 32768 [mv 19 6,oO 20 (.bin .eql) [.tmp 19, .cst (.t (byteT 10))]])
 (.cond (.tmp 20)
 (.seq
 (.seq
 (rG 36864 [mv 21 4,oO 22 .len [.tmp 21],bN 23 .eql 22 0,mv 24 23,mF 25 3 24,oF 26 24 .len [.tmp 25],oF 27 24 (.bin .geq) [.tmp 26, .cst (.t (.int .i64 4))],oO 28 .pick [.tmp 24, .cst (.t (.bool true)), .tmp 27]])
 (.cond (.tmp 28)
 (.seq
 (rG 40960 [mC 2 .nil])
 .ret)
 .skip))
 (.seq
 (rG 45056 [mv 29 3,mv 30 4,oO 31 (.bslice 1 1 .nil [0]) [.tmp 30],oO 32 (.append 1 24) [.tmp 29, .tmp 31],mv 3 32])
 (.seq
 (rG 49152 [mC 4 .nil])
 (.exit 1))))
 .skip))
 (.seq
 (.seq
 (rG 53248 [mv 33 6,oO 34 (.bin .lss) [.tmp 33, .cst (.t (byteT 32))],mv 35 34,mF 36 6 35,oF 37 35 (.bin .gtr) [.tmp 36, .cst (.t (byteT 126))],oO 38 .pick [.tmp 35, .cst (.t (.bool true)), .tmp 37]])
 (.cond (.tmp 38)
 (.seq
 (rG 57344 [mC 2 .nil])
 .ret)
 .skip))
 (rG 61440 [mv 39 4,mv 40 6,oO 41 (.bslice 1 1 (.t (byteT 0)) [0]) [.tmp 40],oO 42 (.append 1 1) [.tmp 39, .tmp 41],mv 4 42])))))
 (rG 24576 [mv 12 5,bN 13 .add 12 1,mv 5 13])))
def ac_ref25_Lines : AC :=
 (.seq
 (rG 4096 [oO 1 .box [.tmp 0],mC 2 .nil])
 (.seq
 (rG 8192 [mC 3 .nil])
 (.seq
 (rG 12288 [mC 4 .nil])
 (.seq
 (.seq
 (rG 16384 [mC 5 (.t (.int .i64 0))])
 (.block 0
 (.loop ac_ref25_Lines_L0)))
 (.seq
 (.seq
 (rG 65536 [mv 43 4,oO 44 .len [.tmp 43],bN 45 .gtr 44 0])
 (.cond (.tmp 45)
 (.seq
 (rG 69632 [mC 2 .nil])
 .ret)
 .skip))
 (.seq
 (rG 73728 [mv 46 3,mv 2 46])
 .ret))))))
def hints_ref25_Lines : List (Nat × List Nat) := []
def ac_ref25_Image (n_ref25_Name n_ref25_Lines : Nat) : AC :=
 (.seq
 (rG 4096 [oO 1 .box [.tmp 0],mC 2 (.t (.int .i64 0))])
 (.seq
 (.seq
 (rG 8192 [oO 3 (.faddr 0) [.tmp 1],oO 4 (.load 1 false) [.tmp 3],bN 5 .lss 4 1,mv 6 5,oF 7 6 (.faddr 0) [.tmp 1],oF 8 6 (.load 1 false) [.tmp 7],oF 9 6 (.bin .gtr) [.tmp 8, .cst (.t (.int .i64 4))],oO 10 .pick [.tmp 6, .cst (.t (.bool true)), .tmp 9],mv 11 10,oF 12 11 (.faddr 2) [.tmp 1],oF 13 11 (.load 1 false) [.tmp 12],oF 14 11 (.bin .lss) [.tmp 13, .cst (.t (.int .i64 0))],oO 15 .pick [.tmp 11, .cst (.t (.bool true)), .tmp 14],mv 16 15,oF 17 16 (.faddr 2) [.tmp 1],oF 18 16 (.load 1 false) [.tmp 17],oF 19 16 (.bin .gtr) [.tmp 18, .cst (.t (.int .i64 1000000))],oO 20 .pick [.tmp 16, .cst (.t (.bool true)), .tmp 19]])
 (.cond (.tmp 20)
 (.seq
 (rG 12288 [mC 2 (.t (.int .i64 1))])
 .ret)
 .skip))
 (.seq
 (.seq
 (rG 16384 [oO 21 (.faddr 1) [.tmp 1],oO 22 (.load 1 false) [.tmp 21],cL 23 n_ref25_Name false [.tmp 22],oO 24 (.un .not) [.tmp 23]])
 (.cond (.tmp 24)
 (.seq
 (rG 20480 [mC 2 (.t (.int .i64 43))])
 .ret)
 .skip))
 (.seq
 (.seq
 (rG 24576 [oO 25 (.faddr 3) [.tmp 1],oO 26 (.load 1 false) [.tmp 25],oO 27 .len [.tmp 26],bN 28 .gtr 27 64])
 (.cond (.tmp 28)
 (.seq
 (rG 28672 [mC 2 (.t (.int .i64 4))])
 .ret)
 .skip))
 (.seq
 (.seq
 (rG 32768 [oO 29 (.faddr 0) [.tmp 1],oO 30 (.load 1 false) [.tmp 29],bN 31 .eql 30 4,mv 32 31,oG 33 32 (.load 4 true) [.tmp 1],cG 34 32 n_ref25_Lines true [.tmp 33],oG 35 32 .len [.tmp 34],oG 36 32 (.bin .eql) [.tmp 35, .cst (.t (.int .i64 0))],oO 37 .pick [.tmp 32, .tmp 36, .cst (.t (.bool false))]])
 (.cond (.tmp 37)
 (.seq
 (rG 36864 [mC 2 (.t (.int .i64 40))])
 .ret)
 .skip))
 (.seq
 (rG 40960 [mC 2 (.t (.int .i64 0))])
 .ret))))))
def hints_ref25_Image : List (Nat × List Nat) := [(7, [5])]
def ac_ref25_EncodeImage (n_ref25_Image n_ref3_Uint n_ref3_Blob : Nat) : AC :=
 (.seq
 (rG 4096 [oO 1 .box [.tmp 0],mC 2 .nil])
 (.seq
 (.seq
 (rG 8192 [oO 4 (.load 4 true) [.tmp 1],cL 5 n_ref25_Image false [.tmp 4],bN 6 .neq 5 0])
 (.cond (.tmp 6)
 (.seq
 (rG 12288 [mC 2 .nil])
 .ret)
 .skip))
 (.seq
 (rG 16384 [oO 7 (.faddr 0) [.tmp 1],oO 8 (.load 1 false) [.tmp 7],cL 9 n_ref3_Uint false [.cst .nil, .cst (.t (.int .i64 1)), .tmp 8],mv 3 9])
 (.seq
 (rG 20480 [mv 10 3,oO 11 (.faddr 2) [.tmp 1],oO 12 (.load 1 false) [.tmp 11],cL 13 n_ref3_Uint false [.tmp 10, .cst (.t (.int .i64 4)), .tmp 12],mv 3 13])
 (.seq
 (rG 24576 [mv 14 3,oO 15 (.faddr 1) [.tmp 1],oO 16 (.load 1 false) [.tmp 15],oO 17 .s2b [.tmp 16],cL 18 n_ref3_Blob false [.tmp 14, .tmp 17],mv 3 18])
 (.seq
 (rG 28672 [mv 19 3,oO 20 (.faddr 3) [.tmp 1],oO 21 (.load 1 false) [.tmp 20],cL 22 n_ref3_Blob false [.tmp 19, .tmp 21],mv 2 22])
 .ret))))))
def hints_ref25_EncodeImage : List (Nat × List Nat) := []
def ac_ref25_Register : AC :=
 (.seq
 (rG 4096 [mC 2 (.t (.int .i64 0))])
 (.seq
 (.seq
 (rG 8192 [mv 3 0])
 (.block 0
 (.seq
 (rG 12288 [bN 5 .eql 3 1,mv 4 5])
 (.cond (.tmp 4)
 (.seq
 (rG 16384 [mC 2 (.t (.int .i64 0))])
 .ret)
 (.seq
 (rG 20480 [bN 7 .eql 3 2,mv 6 7])
 (.cond (.tmp 6)
 (.seq
 (rG 24576 [mC 2 (.t (.int .i64 4))])
 .ret)
 (.seq
 (rG 28672 [bN 9 .eql 3 3,mv 8 9])
 (.cond (.tmp 8)
 (.seq
 (rG 32768 [mC 2 (.t (.int .i64 8))])
 .ret)
 (.seq
 (rG 36864 [bN 11 .eql 3 4,mv 10 11])
 (.cond (.tmp 10)
 (.seq
 (rG 40960 [mC 2 (.t (.int .i64 9))])
 .ret)
 .skip))))))))))
 (.seq
 (rG 45056 [mC 2 (.t (.int .i64 (-1)))])
 .ret)))
def hints_ref25_Register : List (Nat × List Nat) := []
def ac_ref25_Digests_L0 (n_ref25_has n_ref1_Sum : Nat) : AC :=
 (.seq
 (.seq
 (rG 20480 [mv 11 7,bN 12 .lss 11 2])
 (.cond (.tmp 12)
 .skip
 (.exit 0)))
 (.seq
 (.block 1
 (.seq
 (rG 28672 [mv 15 6,oO 16 .len [.tmp 15],bN 17 .gtr 16 0,mv 18 17,mG 19 1 18,mG 20 7 18,cG 21 18 n_ref25_has false [.tmp 19, .tmp 20],oO 22 .pick [.tmp 18, .tmp 21, .cst (.t (.bool false))]])
 (.cond (.tmp 22)
 (rG 32768 [mv 23 5,mv 24 7,mv 25 7,mv 26 6,cL 27 n_ref1_Sum false [.tmp 25, .tmp 26],oO 28 (.iaddr 1) [.tmp 23, .tmp 24],oS 1 28 27])
 .skip)))
 (rG 24576 [mv 13 7,bN 14 .add 13 1,mv 7 14])))
def ac_ref25_Digests (n_ref25_EncodeImage n_ref25_has n_ref1_Sum : Nat) : AC :=
 (.seq
 (rG 4096 [oO 2 .box [.tmp 0],mC 4 .nil])
 (.seq
 (rG 8192 [oO 8 (.mkslice 1 24 .nil) [.cst (.t (.int .i64 2)), .cst (.t (.int .i64 2))],mv 5 8])
 (.seq
 (rG 12288 [oO 9 (.load 4 true) [.tmp 2],cL 10 n_ref25_EncodeImage true [.tmp 9],mv 6 10])
 (.seq
 (.seq
 (rG 16384 [mC 7 (.t (.int .i64 0))])
 (.block 0
 (.loop (ac_ref25_Digests_L0 n_ref25_has n_ref1_Sum))))
 (.seq
 (rG 36864 [mv 29 5,mv 4 29])
 .ret)))))
def hints_ref25_Digests : List (Nat × List Nat) := [(2, [1])]
def ac_ref25_Number (n_ref25_Number : Nat) : AC :=
 (.seq
 (rG 4096 [mC 2 .nil])
 (.seq
 (.seq
 (rG 8192 [mv 3 0,bN 4 .lss 3 10])
 (.cond (.tmp 4)
 (.seq
 (rG 12288 [mv 5 0,oO 6 (.bin .add) [.cst (.t (.int .i64 48)), .tmp 5],oO 7 (.conv .u8) [.tmp 6],oO 8 (.bslice 1 1 (.t (byteT 0)) [0]) [.tmp 7],mv 2 8])
 .ret)
 .skip))
 (.seq
 (rG 16384 [mv 9 0,bN 10 .quo 9 10,cL 11 n_ref25_Number false [.tmp 10],mv 12 0,bN 13 .rem 12 10,oO 14 (.bin .add) [.cst (.t (.int .i64 48)), .tmp 13],oO 15 (.conv .u8) [.tmp 14],oO 16 (.bslice 1 1 (.t (byteT 0)) [0]) [.tmp 15],oO 17 (.append 1 1) [.tmp 11, .tmp 16],mv 2 17])
 .ret)))
def hints_ref25_Number : List (Nat × List Nat) := []
def ac_ref25_Label (n_ref25_Number : Nat) : AC :=
 (.seq
 (rG 4096 [mC 4 .nil])
 (.seq
 (rG 8192 [mv 5 0,oO 6 .s2b [.tmp 5],oO 7 (.bslice 1 1 (.t (byteT 0)) [0]) [.cst (.t (byteT 32))],oO 8 (.append 1 1) [.tmp 6, .tmp 7],mv 9 1,cL 10 n_ref25_Number false [.tmp 9],oO 11 (.append 1 1) [.tmp 8, .tmp 10],mv 4 11])
 .ret))
def hints_ref25_Label : List (Nat × List Nat) := []
def ac_ref25_OfImage (n_ref25_Image n_ref25_Register n_ref25_Digests n_ref25_Label : Nat) : AC :=
 (.seq
 (rG 4096 [oO 2 .box [.tmp 0],oO 4 (.new 4 [(.agg [(.t (.int .i64 0)), (.t (.int .i64 0)), .nil, .nil])]) []])
 (.seq
 (.seq
 (rG 8192 [oO 5 (.load 4 true) [.tmp 2],cL 6 n_ref25_Image false [.tmp 5],bN 7 .neq 6 0,mv 8 7,oF 9 8 (.faddr 0) [.tmp 2],oF 10 8 (.load 1 false) [.tmp 9],oF 11 8 (.bin .eql) [.tmp 10, .cst (.t (.int .i64 4))],oO 12 .pick [.tmp 8, .cst (.t (.bool true)), .tmp 11]])
 (.cond (.tmp 12)
 (.seq
 (rG 12288 [oO 13 (.build [(.t (.int .i64 0)), (.t (.int .i64 0)), .nil, .nil] []) [],oS 4 4 13])
 .ret)
 .skip))
 (.seq
 (.reg 16384 (some [0, 1, 3, 0, 0, 31, 0, 64, 0, 256, 1023, 2047, 4095]) [oO 14 (.faddr 0) [.tmp 2],oO 15 (.load 1 false) [.tmp 14],cL 16 n_ref25_Register false [.tmp 15],oO 17 (.load 4 true) [.tmp 2],mv 18 1,cL 19 n_ref25_Digests true [.tmp 17, .tmp 18],oO 20 (.faddr 1) [.tmp 2],oO 21 (.load 1 false) [.tmp 20],oO 22 (.faddr 2) [.tmp 2],oO 23 (.load 1 false) [.tmp 22],cL 24 n_ref25_Label true [.tmp 21, .tmp 23],oO 25 (.build [(.t (.int .i64 0)), (.t (.int .i64 0)), .nil, .nil] [(0, 1), (1, 1), (2, 1), (3, 1)]) [.tmp 16, .cst (.t (.int .i64 1)), .tmp 19, .tmp 24],oS 4 4 25])
 .ret)))
def hints_ref25_OfImage : List (Nat × List Nat) := [(3, [5, 10])]
end Go.Eng
end
section
set_option maxRecDepth 20000
set_option maxHeartbeats 64000000
namespace Go.Eng
def ct_name : Ct where
 α := List UInt8
 as x := [.t (strT x)]
 ins _ := []
 pre x := x.length ≤ 9223372036854775807
 r x := .t (.bool (nameB x))
 outs _ := []
 inj := by
   intro a b h _
   simp only [List.cons.injEq, V.t.injEq, strT_inj, and_true] at h
   subst h; exact ⟨rfl, rfl⟩
theorem name_eq {s : List UInt8} (h : s.length ≤ 9223372036854775807) : ct_name.fs [.t (strT s)] [] = some (.t (.bool (nameB s)), []) := ct_name.eq s h
theorem allN_take {s : List UInt8} {i : Nat} (h : i < s.length) : (s.take (i + 1)).all okN = ((s.take i).all okN && okN (s.getD i 0)) := by
 rw [take_s (d := 0) h, List.all_append]; simp
theorem allN_not {s : List UInt8} {i : Nat} (h : i < s.length) (hc : okN (s.getD i 0) = false) : s.all okN = false := by
 have e : s.getD i 0 = s[i] := by simp [List.getD, h]
 rw [e] at hc
 exact Bool.eq_false_iff.2 fun ha => by
   have := List.all_eq_true.1 ha _ (List.getElem_mem h)
   rw [hc] at this; cases this
theorem w_ref25_Name (tab : Tab) (gl : Gl) (s : List UInt8) (hs : s.length ≤ 9223372036854775807) :
   ac_ref25_Name.wp tab gl (zipF 0 [.t (strT s)]) (zipF 0 []) (resW [(2, none)] 0 (fun r o => r = .t (.bool (nameB s)) ∧ o = [])) := by
 by_cases c1 : s.length < 1
 · have hr : nameB s = false := by unfold nameB; rw [decide_eq_true c1]; rfl
   simp (disch := omega) only [go_sem, ↓reduceIte, Nat.reduceAdd, Nat.reduceEqDiff, reduceCtorEq, ac_ref25_Name, c1, hr]
 by_cases c2 : 12 < s.length
 · have hr : nameB s = false := by unfold nameB; rw [decide_eq_true c2]; simp
   simp (disch := omega) only [go_sem, ↓reduceIte, Nat.reduceAdd, Nat.reduceEqDiff, reduceCtorEq, ac_ref25_Name, c1, c2, hr]
 have hr : nameB s = s.all okN := by unfold nameB; rw [decide_eq_false c1, decide_eq_false c2]; simp
 rw [hr]
 simp (disch := omega) only [go_sem, ↓reduceIte, Nat.reduceAdd, Nat.reduceEqDiff, reduceCtorEq, ac_ref25_Name, c1, c2]
 refine loop_uptoP s.length (fun i => (s.take i).all okN = true) (fun i => [(0, .t (strT s)), (3, .t (.int .i64 (i : Nat)))]) (fun _ => []) rfl ?_ (fun i hi hP => ?_)
 · refine Weak.rd id ?_ ?_ rfl
   all_goals simp (disch := omega) only [go_sem, ↓reduceIte, reduceCtorEq, id]
 · by_cases hlt : i < s.length
   · have hs := allN_take hlt
     rw [hP, Bool.true_and] at hs
     obtain ⟨c, hc⟩ : ∃ c, s.getD i 0 = c := ⟨_, rfl⟩
     cases hok : okN (s.getD i 0)
     · have hn := allN_not hlt hok
       rw [hc] at hok
       unfold okN at hok
       by_cases a1 : c.toNat < 97 <;> by_cases a2 : c.toNat > 122 <;> by_cases a3 : c.toNat < 48 <;> by_cases a4 : c.toNat > 57 <;> by_cases a5 : c = 45
       all_goals simp only [a1, a2, a3, a4, a5, decide_true, decide_false, Bool.not_true, Bool.not_false, Bool.and_true, Bool.true_and, Bool.and_false, Bool.false_and, Bool.or_true, Bool.true_or, Bool.or_false, Bool.false_or, reduceCtorEq] at hok
       all_goals have a5b : decide (c = 45) = false := decide_eq_false a5
       all_goals have a2' : (122 < c.toNat) = (c.toNat > 122) := rfl
       all_goals have a4' : (57 < c.toNat) = (c.toNat > 57) := rfl
       all_goals simp (disch := omega) only [go_sem, ↓reduceIte, Nat.reduceAdd, Nat.reduceEqDiff, reduceCtorEq, ac_ref25_Name_L0, hc, a1, a2, a3, a4, a5, a2', a4', hn]
     · rw [hc] at hok
       rw [hc, hok] at hs
       unfold okN at hok
       by_cases a1 : c.toNat < 97 <;> by_cases a2 : c.toNat > 122 <;> by_cases a3 : c.toNat < 48 <;> by_cases a4 : c.toNat > 57 <;> by_cases a5 : c = 45
       all_goals simp only [a1, a2, a3, a4, a5, decide_true, decide_false, Bool.not_true, Bool.not_false, Bool.and_true, Bool.true_and, Bool.and_false, Bool.false_and, Bool.or_true, Bool.true_or, Bool.or_false, Bool.false_or, reduceCtorEq] at hok
       all_goals have a2' : (122 < c.toNat) = (c.toNat > 122) := rfl
       all_goals have a4' : (57 < c.toNat) = (c.toNat > 57) := rfl
       all_goals simp (disch := omega) only [go_sem, ↓reduceIte, Nat.reduceAdd, Nat.reduceEqDiff, Nat.reduceLT, reduceCtorEq, ac_ref25_Name_L0, hc, a1, a2, a3, a4, a5, a2', a4']
       all_goals refine ⟨hlt, hs, Weak.rd id ?_ ?_ rfl⟩
       all_goals simp (disch := omega) only [go_sem, ↓reduceIte, reduceCtorEq, id]
   · have e : i = s.length := by omega
     subst e
     rw [List.take_length] at hP
     simp (disch := omega) only [go_sem, ↓reduceIte, Nat.reduceAdd, Nat.reduceEqDiff, reduceCtorEq, ac_ref25_Name_L0, hP]
def ct_lns : Ct where
 α := Im
 as x := [.t (imT x)]
 ins _ := []
 pre x := imM x
 r x := .t (.sl ((lnL x.2.2.2).map bsT))
 outs _ := []
 inj := by
   intro a b h _
   simp only [List.cons.injEq, V.t.injEq, and_true] at h
   cases imT_inj h
   exact ⟨rfl, rfl⟩
theorem lns_eq {a v : Int} {s p : List UInt8} (h : imM (a, s, v, p)) : ct_lns.fs [.t (.agg [.int .i64 a, strT s, .int .i64 v, .sl (p.map byteT)])] [] = some (.t (.sl ((lnL p).map bsT)), []) := ct_lns.eq (a, s, v, p) h
theorem drop_cons' {p : List UInt8} {i : Nat} (h : i < p.length) : p.drop i = p.getD i 0 :: p.drop (i + 1) := by
 rw [List.drop_eq_getElem_cons h]; simp [List.getD, h]
theorem w_ref25_Lines (tab : Tab) (gl : Gl) (x : Im) (hm : imM x) :
   ac_ref25_Lines.wp tab gl (zipF 0 [.t (imT x)]) (zipF 0 []) (resW [(2, none)] 0 (fun r o => r = .t (.sl ((lnL x.2.2.2).map bsT)) ∧ o = [])) := by
 obtain ⟨a, s, v, p⟩ := x
 have hp := hm.2.1
 simp only at hp ⊢
 simp (disch := omega) only [go_sem, ↓reduceIte, Nat.reduceAdd, ac_ref25_Lines, imT_def]
 refine loop_inv (σ := Nat × List (List UInt8) × List UInt8) (fun t => t.1 ≤ p.length ∧ lnS t.2.1 t.2.2 (p.drop t.1) = lnL p ∧ t.2.1.length ≤ 4 ∧ t.2.2.length ≤ t.1) (fun t => p.length - t.1)
   (fun t => [(1, .ref 4096 0 0), (3, .sl 9000 0 t.2.1.length), (4, .sl 9001 0 t.2.2.length), (5, .t (.int .i64 (t.1 : Nat)))])
   (fun t => [(9001, .live 1 ((t.2.2.map byteT).map V.t) true false), (9000, .live 1 ((t.2.1.map bsT).map V.t) true false), (4096, .live 4 [.t (.agg [.int .i64 a, strT s, .int .i64 v, .sl (p.map byteT)])] true true)]) (0, [], []) ⟨Nat.zero_le _, rfl, by simp, by simp⟩ ?_ ?_
 · refine Weak.cv0 (hv := [(9001, .live 1 [] true false), (9000, .live 1 [] true false)]) (ho := [(4096, .live 4 [.t (.agg [.int .i64 a, strT s, .int .i64 v, .sl (p.map byteT)])] true true)]) id ?_ ?_ rfl rfl
   all_goals simp (disch := omega) only [go_sem, ↓reduceIte, Nat.reduceEqDiff, Nat.reduceBEq, id]
 · rintro ⟨i, out, line⟩ ⟨hi, hE, ho, hl⟩
   simp only at hi hE ho hl ⊢
   by_cases hlt : i < p.length
   · rw [drop_cons' hlt] at hE
     obtain ⟨c, hc⟩ : ∃ c, p.getD i 0 = c := ⟨_, rfl⟩
     rw [hc] at hE
     by_cases c10 : c = 10
     · have hcb : decide (c = 10) = true := decide_eq_true c10
       rw [lnS, if_pos c10] at hE
       by_cases z1 : line.length = 0
       · rw [if_pos (.inl z1)] at hE
         have z1i : ((line.length : Int) == 0) = true := by simp [z1]
         rw [← hE]
         simp (disch := omega) only [go_sem, ↓reduceIte, Nat.reduceAdd, Nat.reduceEqDiff, Nat.reduceLeDiff, reduceCtorEq, ac_ref25_Lines_L0, hc, hcb, z1, List.map_nil]
       · have z1i : ((line.length : Int) == 0) = false := by simpa using (by omega : ¬ (line.length : Int) = 0)
         by_cases z2 : 4 ≤ out.length
         · rw [if_pos (.inr z2)] at hE
           rw [← hE]
           simp (disch := omega) only [go_sem, ↓reduceIte, Nat.reduceAdd, Nat.reduceEqDiff, Nat.reduceLeDiff, reduceCtorEq, ac_ref25_Lines_L0, hc, hcb, z1, z1i, z2, List.map_nil]
         · rw [if_neg (by omega)] at hE
           simp (disch := omega) only [go_sem, ↓reduceIte, Nat.reduceAdd, Nat.reduceEqDiff, Nat.reduceLT, Nat.reduceLeDiff, reduceCtorEq, ac_ref25_Lines_L0, hc, hcb, z1, z1i, z2]
           refine invG.of (i + 1, out ++ [line], []) ⟨by simp only; omega, hE, by simp; omega, by simp⟩ (by simp only; omega) ?_
           refine Weak.cv (hv := [(9001, .live 1 [] true false)]) (ho := [(9000, .live 1 (((out ++ [line]).map bsT).map V.t) true false), (4096, .live 4 [.t (.agg [.int .i64 a, strT s, .int .i64 v, .sl (p.map byteT)])] true true)]) [9001] (fun j => if j = 9000 then 45104 else j) ?_ rfl
           simp (disch := omega) only [go_sem, ↓reduceIte, Nat.reduceAdd, Nat.reduceEqDiff, Nat.reduceLeDiff, Nat.reduceBEq, id, List.map_cons, List.map_nil, List.take_length]
           rfl
     · have hcb : decide (c = 10) = false := decide_eq_false c10
       rw [lnS, if_neg c10] at hE
       cases hok : okC c
       · rw [hok, if_neg (by decide)] at hE
         rw [← hE]
         unfold okC at hok
         by_cases a1 : c.toNat < 32
         · simp (disch := omega) only [go_sem, ↓reduceIte, Nat.reduceAdd, Nat.reduceEqDiff, Nat.reduceLeDiff, reduceCtorEq, ac_ref25_Lines_L0, hc, hcb, a1, List.map_nil]
         · have a2 : 126 < c.toNat := by
             rw [decide_eq_false a1] at hok
             simpa using hok
           simp (disch := omega) only [go_sem, ↓reduceIte, Nat.reduceAdd, Nat.reduceEqDiff, Nat.reduceLeDiff, reduceCtorEq, ac_ref25_Lines_L0, hc, hcb, a1, a2, List.map_nil]
       · rw [hok, if_pos rfl] at hE
         unfold okC at hok
         simp only [Bool.and_eq_true, Bool.not_eq_true', decide_eq_false_iff_not] at hok
         obtain ⟨a1, a2⟩ := hok
         have a3 : ¬ 126 < c.toNat := a2
         simp (disch := omega) only [go_sem, ↓reduceIte, Nat.reduceAdd, Nat.reduceEqDiff, Nat.reduceLT, Nat.reduceLeDiff, reduceCtorEq, ac_ref25_Lines_L0, hc, hcb, a1, a3]
         refine invG.of (i + 1, out, line ++ [c]) ⟨by simp only; omega, hE, ho, by simp; omega⟩ (by simp only; omega) (Weak.rd (fun j => if j = 9001 then 61488 else j) ?_ ?_ rfl)
         all_goals simp (disch := omega) only [go_sem, ↓reduceIte, Nat.reduceAdd, Nat.reduceEqDiff, Nat.reduceBEq, id, List.map_cons, List.map_nil]
   · have e : p.drop i = [] := List.drop_eq_nil_of_le (by omega)
     rw [e, lnS] at hE
     by_cases z : 0 < line.length
     · rw [if_pos z] at hE
       rw [← hE]
       simp (disch := omega) only [go_sem, ↓reduceIte, Nat.reduceAdd, Nat.reduceEqDiff, Nat.reduceLeDiff, reduceCtorEq, ac_ref25_Lines_L0, z, List.map_nil]
     · rw [if_neg z] at hE
       rw [← hE]
       have z0 : line.length = 0 := by omega
       simp (disch := omega) only [go_sem, ↓reduceIte, Nat.reduceAdd, Nat.reduceEqDiff, Nat.reduceLeDiff, reduceCtorEq, ac_ref25_Lines_L0, z, z0, List.take_length]
def ct_imc : Ct where
 α := Im
 as x := [.t (imT x)]
 ins _ := []
 pre x := imM x
 r x := .t (.int .i64 (chkI x))
 outs _ := []
 inj := by
   intro a b h _
   simp only [List.cons.injEq, V.t.injEq, and_true] at h
   cases imT_inj h
   exact ⟨rfl, rfl⟩
theorem imc_eq {a v : Int} {s p : List UInt8} (h : imM (a, s, v, p)) : ct_imc.fs [.t (.agg [.int .i64 a, strT s, .int .i64 v, .sl (p.map byteT)])] [] = some (.t (.int .i64 (chkI (a, s, v, p))), []) := ct_imc.eq (a, s, v, p) h
theorem w_ref25_Image (tab : Tab) (gl : Gl) (n1 n2 : Nat) (h1 : tab.look n1 = some ct_name.fs) (h2 : tab.look n2 = some ct_lns.fs) (x : Im) (hm : imM x) :
   (ac_ref25_Image n1 n2).wp tab gl (zipF 0 [.t (imT x)]) (zipF 0 []) (resW [(2, none)] 0 (fun r o => r = .t (.int .i64 (chkI x)) ∧ o = [])) := by
 obtain ⟨a, s, v, p⟩ := x
 have hp := hm.2.1
 have hN := name_eq hm.1
 have hL := lns_eq hm
 have lL := lnL_len (p := p)
 simp only at hp hN
 have hl2 : ((lnL p).map bsT).length = (lnL p).length := List.length_map _
 by_cases hb : badI a v
 · have hr : chkI (a, s, v, p) = 1 := if_pos hb
   rw [hr]
   by_cases c1 : a < 1
   · simp (disch := omega) only [go_sem, ↓reduceIte, Nat.reduceAdd, Nat.reduceEqDiff, Nat.reduceLeDiff, ac_ref25_Image, imT_def, c1]
   by_cases c2 : 4 < a
   · simp (disch := omega) only [go_sem, ↓reduceIte, Nat.reduceAdd, Nat.reduceEqDiff, Nat.reduceLeDiff, ac_ref25_Image, imT_def, c1, c2]
   by_cases c3 : v < 0
   · simp (disch := omega) only [go_sem, ↓reduceIte, Nat.reduceAdd, Nat.reduceEqDiff, Nat.reduceLeDiff, reduceCtorEq, ac_ref25_Image, imT_def, c1, c2, c3]
   have c4 : 1000000 < v := by unfold badI at hb; omega
   simp (disch := omega) only [go_sem, ↓reduceIte, Nat.reduceAdd, Nat.reduceEqDiff, Nat.reduceLeDiff, reduceCtorEq, ac_ref25_Image, imT_def, c1, c2, c3, c4]
 · have hb' := hb
   unfold badI at hb'
   have c1 : ¬ a < 1 := by omega
   have c2 : ¬ 4 < a := by omega
   have c3 : ¬ v < 0 := by omega
   have c4 : ¬ 1000000 < v := by omega
   cases hn : nameB s
   · have hr : chkI (a, s, v, p) = 43 := by unfold chkI; rw [if_neg hb, if_pos hn]
     rw [hr]
     rw [hn] at hN
     simp (disch := omega) only [go_sem, ↓reduceIte, Nat.reduceAdd, Nat.reduceEqDiff, Nat.reduceLeDiff, reduceCtorEq, ac_ref25_Image, imT_def, c1, c2, c3, c4, h1, hN]
   · rw [hn] at hN
     have hn2 : ¬ nameB s = false := by rw [hn]; decide
     by_cases c5 : 64 < p.length
     · have hr : chkI (a, s, v, p) = 4 := by unfold chkI; rw [if_neg hb, if_neg hn2, if_pos c5]
       rw [hr]
       simp (disch := omega) only [go_sem, ↓reduceIte, Nat.reduceAdd, Nat.reduceEqDiff, Nat.reduceLeDiff, reduceCtorEq, ac_ref25_Image, imT_def, c1, c2, c3, c4, h1, hN, c5]
     · have hr : chkI (a, s, v, p) = if a = 4 ∧ (lnL p).length = 0 then 40 else 0 := by unfold chkI; rw [if_neg hb, if_neg hn2, if_neg c5]
       rw [hr]
       generalize lnL p = L at *
       by_cases c6 : a = 4
       · subst c6
         by_cases c7 : L.length = 0
         · simp (disch := omega) only [go_sem, ↓reduceIte, Nat.reduceAdd, Nat.reduceEqDiff, Nat.reduceLeDiff, Int.reduceLT, reduceCtorEq, ac_ref25_Image, imT_def, c3, c4, h1, hN, c5, h2, hL, c7]
         · have c8 : ((L.length : Int) == 0) = false := by simpa using (by omega : ¬ (L.length : Int) = 0)
           simp (disch := omega) only [go_sem, ↓reduceIte, Nat.reduceAdd, Nat.reduceEqDiff, Nat.reduceLeDiff, Int.reduceLT, reduceCtorEq, ac_ref25_Image, imT_def, c3, c4, h1, hN, c5, h2, hL, c7, c8]
       · have c8 : (a == 4) = false := by simpa using c6
         simp (disch := omega) only [go_sem, ↓reduceIte, Nat.reduceAdd, Nat.reduceEqDiff, Nat.reduceLeDiff, reduceCtorEq, ac_ref25_Image, imT_def, c1, c2, c3, c4, h1, hN, c5, c6, c8]
def ct_enI : Ct where
 α := Im
 as x := [.t (imT x)]
 ins _ := []
 pre x := imM x
 r x := .t (.sl ((encI' x).map byteT))
 outs _ := []
 inj := by
   intro a b h _
   simp only [List.cons.injEq, V.t.injEq, and_true] at h
   cases imT_inj h
   exact ⟨rfl, rfl⟩
theorem enI_eq {a v : Int} {s p : List UInt8} (h : imM (a, s, v, p)) : ct_enI.fs [.t (.agg [.int .i64 a, strT s, .int .i64 v, .sl (p.map byteT)])] [] = some (.t (.sl ((encI' (a, s, v, p)).map byteT)), []) := ct_enI.eq (a, s, v, p) h
theorem uintN {b : List UInt8} {k : Nat} {n : Int} (hb : b.length < 1000000000 ∧ 1 ≤ k ∧ k ≤ 8) : ct_uint.fs [.t (.sl (b.map byteT)), .t (.int .i64 k), .t (.int .i64 n)] [] = some (.sl 0 0 (b.length + k), [.live 1 (((b ++ beI k n k).map byteT).map V.t) true false]) := ct_uint.eq (b, k, n) hb
theorem w_ref25_EncodeImage (tab : Tab) (gl : Gl) (n1 n2 n3 : Nat) (h1 : tab.look n1 = some ct_imc.fs) (h2 : tab.look n2 = some ct_uint.fs) (h3 : tab.look n3 = some ct_blob.fs) (x : Im) (hm : imM x) :
   (ac_ref25_EncodeImage n1 n2 n3).wp tab gl (zipF 0 [.t (imT x)]) (zipF 0 []) (resW [(2, none)] 0 (fun r o => r = .t (.sl ((encI' x).map byteT)) ∧ o = [])) := by
 obtain ⟨a, s, v, p⟩ := x
 have hC := imc_eq hm
 by_cases hz : chkI (a, s, v, p) = 0
 · obtain ⟨g1, g2, g3, g4, g5⟩ := chkI_good hz
   have g6 := nameB_len g3
   simp only at g1 g2 g3 g4 g6
   have hr : encI' (a, s, v, p) = blL (blL (beI 1 a 1 ++ beI 4 v 4) s) p := if_pos hz
   rw [hr]
   rw [hz] at hC
   have u1 : ct_uint.fs [.t (.sl []), .t (.int .i64 1), .t (.int .i64 a)] [] = _ := uintN (b := []) (k := 1) (n := a) ⟨by decide, by decide, by decide⟩
   rw [List.nil_append] at u1
   have l1 : (beI 1 a 1).length = 1 := beI_len
   have u2 : ct_uint.fs [.t (.sl ((beI 1 a 1).map byteT)), .t (.int .i64 4), .t (.int .i64 v)] [] = _ := uintN (b := beI 1 a 1) (k := 4) (n := v) ⟨by rw [l1]; decide, by decide, by decide⟩
   have l2 : (beI 1 a 1 ++ beI 4 v 4).length = 5 := by rw [List.length_append, beI_len, beI_len]
   have b1 := blob_eq (b := beI 1 a 1 ++ beI 4 v 4) (x := s) ⟨by omega, by omega⟩
   have l3 : (blL (beI 1 a 1 ++ beI 4 v 4) s).length = 5 + 2 + s.length := by rw [blL_len, l2]
   have b2 := blob_eq (b := blL (beI 1 a 1 ++ beI 4 v 4) s) (x := p) ⟨by omega, by omega⟩
   have l4 : (blL (blL (beI 1 a 1 ++ beI 4 v 4) s) p).length = 5 + 2 + s.length + 2 + p.length := by rw [blL_len, l3]
   rw [l1] at u2
   rw [l2] at b1
   rw [l3] at b2
   generalize blL (blL (beI 1 a 1 ++ beI 4 v 4) s) p = B4 at *
   generalize blL (beI 1 a 1 ++ beI 4 v 4) s = B3 at *
   generalize beI 1 a 1 ++ beI 4 v 4 = B2 at *
   generalize beI 1 a 1 = B1 at *
   have t1 : List.take 1 B1 = B1 := List.take_of_length_le (by omega)
   have t2 : List.take 5 B2 = B2 := List.take_of_length_le (by omega)
   have t3 : List.take (5 + 2 + s.length) B3 = B3 := List.take_of_length_le (by omega)
   have t4 : List.take (5 + 2 + s.length + 2 + p.length) B4 = B4 := List.take_of_length_le (by omega)
   simp (disch := omega) only [go_sem, ↓reduceIte, Nat.reduceAdd, Nat.reduceEqDiff, Nat.reduceLeDiff, reduceCtorEq, ac_ref25_EncodeImage, imT_def, h1, hC, h2, u1, l1, t1, u2, l2, t2, h3, b1, l3, t3, b2, l4, t4, List.length_nil, List.map_nil, List.take_length]
 · have hr : encI' (a, s, v, p) = [] := if_neg hz
   rw [hr]
   have hz' : (chkI (a, s, v, p) != 0) = true := by simpa using hz
   simp (disch := omega) only [go_sem, ↓reduceIte, Nat.reduceAdd, Nat.reduceEqDiff, Nat.reduceLeDiff, ac_ref25_EncodeImage, imT_def, h1, hC, hz', List.map_nil]
def ct_reg : Ct where
 α := Int
 as x := [.t (.int .i64 x)]
 ins _ := []
 pre _ := True
 r x := .t (.int .i64 (regI x))
 outs _ := []
 inj := by
   intro a b h _
   simp only [List.cons.injEq, V.t.injEq, T.int.injEq, true_and, and_true] at h
   subst h; exact ⟨rfl, rfl⟩
theorem reg_eq {a : Int} : ct_reg.fs [.t (.int .i64 a)] [] = some (.t (.int .i64 (regI a)), []) := ct_reg.eq a trivial
theorem w_ref25_Register (tab : Tab) (gl : Gl) (a : Int) : ac_ref25_Register.wp tab gl (zipF 0 [.t (.int .i64 a)]) (zipF 0 []) (resW [(2, none)] 0 (fun r o => r = .t (.int .i64 (regI a)) ∧ o = [])) := by
 by_cases c1 : a = 1
 · subst c1
   simp (disch := omega) only [go_sem, ↓reduceIte, Nat.reduceAdd, Int.reduceNeg, reduceCtorEq, ac_ref25_Register, regI]
 by_cases c2 : a = 2
 · subst c2
   simp (disch := omega) only [go_sem, ↓reduceIte, Nat.reduceAdd, Nat.reduceEqDiff, Int.reduceEq, Int.reduceNeg, reduceCtorEq, ac_ref25_Register, regI]
 by_cases c3 : a = 3
 · subst c3
   simp (disch := omega) only [go_sem, ↓reduceIte, Nat.reduceAdd, Nat.reduceEqDiff, Int.reduceEq, Int.reduceNeg, reduceCtorEq, ac_ref25_Register, regI]
 by_cases c4 : a = 4
 · subst c4
   simp (disch := omega) only [go_sem, ↓reduceIte, Nat.reduceAdd, Nat.reduceEqDiff, Int.reduceEq, Int.reduceNeg, reduceCtorEq, ac_ref25_Register, regI]
 have d1 : (a == 1) = false := by simpa using c1
 have d2 : (a == 2) = false := by simpa using c2
 have d3 : (a == 3) = false := by simpa using c3
 have d4 : (a == 4) = false := by simpa using c4
 have hr : regI a = -1 := by unfold regI; rw [if_neg c1, if_neg c2, if_neg c3, if_neg c4]
 simp (disch := omega) only [go_sem, ↓reduceIte, Nat.reduceAdd, Nat.reduceEqDiff, Int.reduceNeg, reduceCtorEq, ac_ref25_Register, d1, d2, d3, d4, hr]
def ct_imd : Ct where
 α := Im × Int
 as x := [.t (imT x.1), .t (.int .i64 x.2)]
 ins _ := []
 pre x := imM x.1 ∧ 0 ≤ x.2 ∧ x.2 < 4
 r x := .t (.sl [bsT (digI x.1 x.2 0), bsT (digI x.1 x.2 1)])
 outs _ := []
 inj := by
   rintro ⟨e, a⟩ ⟨f, b⟩ h _
   simp only [List.cons.injEq, V.t.injEq, T.int.injEq, true_and, and_true] at h
   obtain ⟨h1, rfl⟩ := h
   cases imT_inj h1
   exact ⟨rfl, rfl⟩
theorem imd_eq {a v : Int} {s p : List UInt8} {act : Int} (h : imM (a, s, v, p) ∧ 0 ≤ act ∧ act < 4) : ct_imd.fs [.t (.agg [.int .i64 a, strT s, .int .i64 v, .sl (p.map byteT)]), .t (.int .i64 act)] [] = some (.t (.sl [bsT (digI (a, s, v, p) act 0), bsT (digI (a, s, v, p) act 1)]), []) := ct_imd.eq ((a, s, v, p), act) h
theorem encI_len {x : Im} (h : imM x) : (encI' x).length ≤ 100 := by
 unfold encI'
 split
 · rename_i hz
   obtain ⟨g1, g2, g3, g4, g5⟩ := chkI_good hz
   have g6 := nameB_len g3
   unfold encI
   rw [blL_len, blL_len, List.length_append, beI_len, beI_len]
   omega
 · simp
theorem w_ref25_Digests (tab : Tab) (gl : Gl) (n1 n2 n3 : Nat) (h1 : tab.look n1 = some ct_enI.fs) (h2 : tab.look n2 = some ct_has.fs) (h3 : tab.look n3 = some ct_sumA.fs) (x : Im) (act : Int) (hm : imM x) (ha : 0 ≤ act ∧ act < 4) :
   (ac_ref25_Digests n1 n2 n3).wp tab gl (zipF 0 [.t (imT x), .t (.int .i64 act)]) (zipF 0 []) (resW [(4, none)] 0 (fun r o => r = .t (.sl [bsT (digI x act 0), bsT (digI x act 1)]) ∧ o = [])) := by
 have hl := encI_len hm
 have e0 : digI x act 0 = if 0 < (encI' x).length ∧ act % 2 = 1 then sum1 (encI' x) else [] := by unfold digI; simp [sumA]
 have e1 : digI x act 1 = if 0 < (encI' x).length ∧ act / 2 % 2 = 1 then sum256 (encI' x) else [] := by unfold digI; simp [sumA]
 obtain ⟨a, s, v, p⟩ := x
 have hE := enI_eq hm
 have q0 := has_eq0 ha
 have q1 := has_eq1 ha
 generalize encI' (a, s, v, p) = B at *
 have s0 := sumA_eq0 (bs := B) (by omega)
 have s1 := sumA_eq1 (bs := B) (by omega)
 have l0 : (sum1 B).length = 20 := sum1_length
 have l1 : (sum256 B).length = 32 := sum256_length
 have t0 : List.take 20 (sum1 B) = sum1 B := take_sum1
 have t1 : List.take 32 (sum256 B) = sum256 B := take_sum256
 generalize sum1 B = S0 at *
 generalize sum256 B = S1 at *
 simp only [bsT_def]
 simp (disch := omega) only [go_sem, ↓reduceIte, Nat.reduceAdd, Nat.reduceEqDiff, Nat.reduceMul, Nat.reduceLeDiff, Int.reduceLE, ac_ref25_Digests, imT_def, h1, hE]
 repeat refine And.intro rfl ?_
 refine loop_upto 2 (fun i => [(1, .t (.int .i64 act)), (5, .sl 8192 0 2), (6, .t (.sl (B.map byteT))), (7, .t (.int .i64 (i : Nat)))])
   (fun i => [(8192, .live 1 [.t (.sl ((if 0 < i then digI (a, s, v, p) act 0 else []).map byteT)), .t (.sl ((if 1 < i then digI (a, s, v, p) act 1 else []).map byteT))] true false), (4096, .live 4 [.t (.agg [.int .i64 a, strT s, .int .i64 v, .sl (p.map byteT)])] true true)]) ?_ (fun i hi => ?_)
 · refine Weak.rd id ?_ ?_ rfl
   all_goals simp (disch := omega) only [go_sem, ↓reduceIte, Nat.reduceAdd, Nat.reduceEqDiff, Nat.reduceBEq, reduceCtorEq, id, List.map_nil, Nat.lt_irrefl, Nat.not_lt_zero]
 · rcases (show i = 0 ∨ i = 1 ∨ i = 2 by omega) with rfl | rfl | rfl
   · by_cases z : 0 < B.length
     · by_cases b0 : act % 2 = 1
       · rw [if_pos ⟨z, b0⟩] at e0
         simp (disch := omega) only [go_sem, ↓reduceIte, Nat.reduceAdd, Nat.reduceEqDiff, Nat.reduceLT, Nat.reduceLeDiff, Int.reduceLT, Int.reduceLE, Int.reduceAdd, ac_ref25_Digests_L0, h2, q0, b0, z, h3, s0, List.map_nil, Nat.lt_irrefl, Nat.not_lt_zero]
         refine Weak.cv (hv := []) [32832] id ?_ rfl
         simp (disch := omega) only [go_sem, ↓reduceIte, Nat.reduceAdd, Nat.reduceEqDiff, Nat.reduceLeDiff, Nat.reduceBEq, id, e0, l0, t0, List.map_nil]
         rfl
       · rw [if_neg (fun h => b0 h.2)] at e0
         simp (disch := omega) only [go_sem, ↓reduceIte, Nat.reduceAdd, Nat.reduceEqDiff, Nat.reduceLT, Nat.reduceLeDiff, Int.reduceLT, Int.reduceAdd, ac_ref25_Digests_L0, h2, q0, b0, z, List.map_nil, Nat.lt_irrefl, Nat.not_lt_zero]
         refine Weak.rd id ?_ ?_ rfl
         all_goals simp (disch := omega) only [go_sem, ↓reduceIte, Nat.reduceAdd, Nat.reduceEqDiff, Nat.reduceBEq, id, e0, List.map_nil, Nat.lt_irrefl]
     · rw [if_neg (fun h => z h.1)] at e0
       simp (disch := omega) only [go_sem, ↓reduceIte, Nat.reduceAdd, Nat.reduceEqDiff, Nat.reduceLT, Int.reduceLT, Int.reduceAdd, ac_ref25_Digests_L0, z, List.map_nil, Nat.lt_irrefl, Nat.not_lt_zero]
       refine Weak.rd id ?_ ?_ rfl
       all_goals simp (disch := omega) only [go_sem, ↓reduceIte, Nat.reduceAdd, Nat.reduceEqDiff, Nat.reduceBEq, id, e0, List.map_nil, Nat.lt_irrefl]
   · by_cases z : 0 < B.length
     · by_cases b0 : act / 2 % 2 = 1
       · rw [if_pos ⟨z, b0⟩] at e1
         simp (disch := omega) only [go_sem, ↓reduceIte, Nat.reduceAdd, Nat.reduceEqDiff, Nat.reduceLT, Nat.reduceLeDiff, Int.reduceLT, Int.reduceLE, Int.reduceAdd, ac_ref25_Digests_L0, h2, q1, b0, z, h3, s1, List.map_nil, Nat.lt_irrefl, Nat.not_lt_zero]
         refine Weak.cv (hv := []) [32832] id ?_ rfl
         simp (disch := omega) only [go_sem, ↓reduceIte, Nat.reduceAdd, Nat.reduceEqDiff, Nat.reduceLeDiff, Nat.reduceBEq, id, e1, l1, t1, List.map_nil]
         rfl
       · rw [if_neg (fun h => b0 h.2)] at e1
         simp (disch := omega) only [go_sem, ↓reduceIte, Nat.reduceAdd, Nat.reduceEqDiff, Nat.reduceLT, Nat.reduceLeDiff, Int.reduceLT, Int.reduceAdd, ac_ref25_Digests_L0, h2, q1, b0, z, List.map_nil, Nat.lt_irrefl, Nat.not_lt_zero]
         refine Weak.rd id ?_ ?_ rfl
         all_goals simp (disch := omega) only [go_sem, ↓reduceIte, Nat.reduceAdd, Nat.reduceEqDiff, Nat.reduceBEq, id, e1, List.map_nil, Nat.lt_irrefl]
     · rw [if_neg (fun h => z h.1)] at e1
       simp (disch := omega) only [go_sem, ↓reduceIte, Nat.reduceAdd, Nat.reduceEqDiff, Nat.reduceLT, Int.reduceLT, Int.reduceAdd, ac_ref25_Digests_L0, z, List.map_nil, Nat.lt_irrefl, Nat.not_lt_zero]
       refine Weak.rd id ?_ ?_ rfl
       all_goals simp (disch := omega) only [go_sem, ↓reduceIte, Nat.reduceAdd, Nat.reduceEqDiff, Nat.reduceBEq, id, e1, List.map_nil, Nat.lt_irrefl]
   · simp (disch := omega) only [go_sem, ↓reduceIte, Nat.reduceAdd, Nat.reduceEqDiff, Nat.reduceLT, Nat.reduceLeDiff, Int.reduceLT, ac_ref25_Digests_L0]
def ct_num (k : Nat) : Ct where
 α := Nat
 as x := [.t (.int .i64 x)]
 ins _ := []
 pre x := x < 10 ^ (k + 1) ∧ x < 1000000000
 r x := .sl 0 0 (decL k x).length
 outs x := [.live 1 (((decL k x).map byteT).map V.t) true (decide (x < 10))]
 inj := by
   intro a b h _
   simp only [List.cons.injEq, V.t.injEq, T.int.injEq, true_and, and_true, Int.natCast_inj] at h
   subst h; exact ⟨rfl, rfl⟩
theorem num_eq {k n : Nat} (h : n < 10 ^ (k + 1) ∧ n < 1000000000) : (ct_num k).fs [.t (.int .i64 n)] [] = some (.sl 0 0 (decL k n).length, [.live 1 (((decL k n).map byteT).map V.t) true (decide (n < 10))]) := (ct_num k).eq n h
theorem conv8 {m : Nat} : IntKind.u8.wrap (m : Int) = ((UInt8.ofNat m).toNat : Int) := by
 rw [wrap_u8, UInt8.toNat_ofNat']; omega
theorem w_ref25_Number0 (tab : Tab) (gl : Gl) (n1 : Nat) (n : Nat) (hn : n < 10) :
   (ac_ref25_Number n1).wp tab gl (zipF 0 [.t (.int .i64 n)]) (zipF 0 []) (resF [] [(2, none)] 0 (fun r o => r = .sl 0 0 (decL 0 n).length ∧ o = [.live 1 (((decL 0 n).map byteT).map V.t) true (decide (n < 10))])) := by
 have h1 : (n : Int) < 10 := by omega
 have e : decL 0 n = [UInt8.ofNat (48 + n)] := rfl
 rw [e, decide_eq_true hn]
 have hw : T.int .u8 (IntKind.u8.wrap ((48 : Int) + n)) = byteT (UInt8.ofNat (48 + n)) := by
   rw [show (48 : Int) + n = ((48 + n : Nat) : Int) by omega, conv8]; rfl
 simp (disch := omega) only [go_sem, ↓reduceIte, Nat.reduceAdd, Nat.reduceLT, reduceCtorEq, ac_ref25_Number, hw]
theorem w_ref25_NumberS (tab : Tab) (gl : Gl) (n1 k : Nat) (h1 : tab.look n1 = some (ct_num k).fs) (n : Nat) (hn : n < 10 ^ (k + 2)) (hn2 : n < 1000000000) (hk : k ≤ 20) :
   (ac_ref25_Number n1).wp tab gl (zipF 0 [.t (.int .i64 n)]) (zipF 0 []) (resF [] [(2, none)] 0 (fun r o => r = .sl 0 0 (decL (k + 1) n).length ∧ o = [.live 1 (((decL (k + 1) n).map byteT).map V.t) true (decide (n < 10))])) := by
 by_cases h10 : n < 10
 · have h1 : (n : Int) < 10 := by omega
   have e : decL (k + 1) n = [UInt8.ofNat (48 + n)] := if_pos h10
   rw [e, decide_eq_true h10]
   have hw : T.int .u8 (IntKind.u8.wrap ((48 : Int) + n)) = byteT (UInt8.ofNat (48 + n)) := by
     rw [show (48 : Int) + n = ((48 + n : Nat) : Int) by omega, conv8]; rfl
   simp (disch := omega) only [go_sem, ↓reduceIte, Nat.reduceAdd, Nat.reduceLT, reduceCtorEq, ac_ref25_Number, hw]
 · have h1' : ¬ (n : Int) < 10 := by omega
   have e : decL (k + 1) n = decL k (n / 10) ++ [UInt8.ofNat (48 + n % 10)] := if_neg h10
   rw [e, decide_eq_false h10]
   have hp : n / 10 < 10 ^ (k + 1) := by rw [Nat.div_lt_iff_lt_mul (by omega)]; rw [← Nat.pow_succ]; exact hn
   have hN := num_eq (k := k) (n := n / 10) ⟨hp, by omega⟩
   have hl := decL_len (k := k) (n := n / 10)
   have hw : T.int .u8 (IntKind.u8.wrap ((48 : Int) + ((n % 10 : Nat) : Int))) = byteT (UInt8.ofNat (48 + n % 10)) := by
     rw [show (48 : Int) + ((n % 10 : Nat) : Int) = ((48 + n % 10 : Nat) : Int) by omega, conv8]; rfl
   have hd : ((n : Int).tdiv 10) = ((n / 10 : Nat) : Int) := by rw [Int.tdiv_eq_ediv_of_nonneg (by omega)]; omega
   have hm : ((n : Int).tmod 10) = ((n % 10 : Nat) : Int) := by rw [Int.tmod_eq_emod_of_nonneg (by omega)]; omega
   generalize decL k (n / 10) = D at *
   generalize decide (n / 10 < 10) = fu at *
   simp (disch := omega) only [go_sem, ↓reduceIte, Nat.reduceAdd, Nat.reduceEqDiff, Nat.reduceLT, Nat.reduceLeDiff, reduceCtorEq, ac_ref25_Number, h1', hd, hm, hw, h1, hN, List.map_cons, List.map_nil]
def ct_lab : Ct where
 α := List UInt8 × Nat
 as x := [.t (strT x.1), .t (.int .i64 x.2)]
 ins _ := []
 pre x := x.1.length < 1000000 ∧ x.2 ≤ 1000000
 r x := .t (.sl ((labL x.1 x.2).map byteT))
 outs _ := []
 inj := by
   rintro ⟨a, b⟩ ⟨c, d⟩ h _
   simp only [List.cons.injEq, V.t.injEq, T.int.injEq, strT_inj, true_and, and_true, Int.natCast_inj] at h
   obtain ⟨rfl, rfl⟩ := h
   exact ⟨rfl, rfl⟩
theorem lab_eq {s : List UInt8} {n : Nat} (h : s.length < 1000000 ∧ n ≤ 1000000) : ct_lab.fs [.t (strT s), .t (.int .i64 n)] [] = some (.t (.sl ((labL s n).map byteT)), []) := ct_lab.eq (s, n) h
theorem w_ref25_Label (tab : Tab) (gl : Gl) (n1 : Nat) (h1 : tab.look n1 = some (ct_num 7).fs) (s : List UInt8) (n : Nat) (hs : s.length < 1000000) (hn : n ≤ 1000000) :
   (ac_ref25_Label n1).wp tab gl (zipF 0 [.t (strT s), .t (.int .i64 n)]) (zipF 0 []) (resW [(4, none)] 0 (fun r o => r = .t (.sl ((labL s n).map byteT)) ∧ o = [])) := by
 have hN := num_eq (k := 7) (n := n) ⟨by omega, by omega⟩
 have hl := decL_len (k := 7) (n := n)
 have e : labL s n = s ++ [32] ++ decL 7 n := rfl
 rw [e]
 generalize decL 7 n = D at *
 generalize decide (n < 10) = fu at *
 have ht : List.take (s.length + 1 + D.length) (s ++ [32] ++ D) = s ++ [32] ++ D := List.take_of_length_le (by simp; omega)
 simp (disch := omega) only [go_sem, ↓reduceIte, Nat.reduceAdd, Nat.reduceEqDiff, Nat.reduceLT, Nat.reduceLeDiff, reduceCtorEq, ac_ref25_Label, h1, hN, List.map_cons, List.map_nil, List.take_length, ht]
def ct_ofI : Ct where
 α := Im × Int
 as x := [.t (imT x.1), .t (.int .i64 x.2)]
 ins _ := []
 pre x := imM x.1 ∧ 0 ≤ x.2 ∧ x.2 < 4
 r x := .t (evT (ofI x.1 x.2))
 outs _ := []
 inj := by
   rintro ⟨e, a⟩ ⟨f, b⟩ h _
   simp only [List.cons.injEq, V.t.injEq, T.int.injEq, true_and, and_true] at h
   obtain ⟨h1, rfl⟩ := h
   cases imT_inj h1
   exact ⟨rfl, rfl⟩
theorem ofI_eq {x : Im} {act : Int} (h : imM x ∧ 0 ≤ act ∧ act < 4) : ct_ofI.fs [.t (imT x), .t (.int .i64 act)] [] = some (.t (evT (ofI x act)), []) := ct_ofI.eq (x, act) h
theorem w_ref25_OfImage (tab : Tab) (gl : Gl) (n1 n2 n3 n4 : Nat) (h1 : tab.look n1 = some ct_imc.fs) (h2 : tab.look n2 = some ct_reg.fs) (h3 : tab.look n3 = some ct_imd.fs) (h4 : tab.look n4 = some ct_lab.fs) (x : Im) (act : Int) (hm : imM x) (ha : 0 ≤ act ∧ act < 4) :
   (ac_ref25_OfImage n1 n2 n3 n4).wp tab gl (zipF 0 [.t (imT x), .t (.int .i64 act)]) (zipF 0 []) (resW [(4, some (4, true))] 0 (fun r o => r = .t (evT (ofI x act)) ∧ o = [])) := by
 obtain ⟨a, s, v, p⟩ := x
 have hC := imc_eq hm
 have hD := imd_eq (act := act) ⟨hm, ha⟩
 have hR := reg_eq (a := a)
 by_cases hz : chkI (a, s, v, p) = 0
 · obtain ⟨g1, g2, g3, g4, g5⟩ := chkI_good hz
   have g6 := nameB_len g3
   simp only at g1 g2 g3 g4 g6
   rw [hz] at hC
   by_cases c4 : a = 4
   · subst c4
     have hr : ofI (4, s, v, p) act = (0, 0, [], []) := if_pos (.inr rfl)
     rw [hr]
     simp (disch := omega) only [go_sem, ↓reduceIte, Nat.reduceAdd, Nat.reduceEqDiff, Nat.reduceLeDiff, ac_ref25_OfImage, imT_def, evT_def, h1, hC, List.map_nil]
   · have d4 : (a == 4) = false := by simpa using c4
     obtain ⟨m, rfl⟩ := Int.eq_ofNat_of_zero_le g2.1
     have hL := lab_eq (s := s) (n := m) ⟨by omega, by omega⟩
     have hr : ofI (a, s, (m : Int), p) act = (regI a, 1, [digI (a, s, (m : Int), p) act 0, digI (a, s, (m : Int), p) act 1], labL s m) := by
       unfold ofI; rw [if_neg (by simp only; omega)]; rfl
     rw [hr]
     generalize digI (a, s, (m : Int), p) act 0 = D0 at *
     generalize digI (a, s, (m : Int), p) act 1 = D1 at *
     generalize labL s m = L at *
     generalize regI a = R at *
     simp (disch := omega) only [go_sem, ↓reduceIte, Nat.reduceAdd, Nat.reduceEqDiff, Nat.reduceLeDiff, reduceCtorEq, ac_ref25_OfImage, imT_def, evT_def, h1, hC, d4, h2, hR, h3, hD, h4, hL, List.map_nil, List.map_cons]
     all_goals rfl
 · have hr : ofI (a, s, v, p) act = (0, 0, [], []) := if_pos (.inl hz)
   rw [hr]
   have hz' : (chkI (a, s, v, p) != 0) = true := by simpa using hz
   simp (disch := omega) only [go_sem, ↓reduceIte, Nat.reduceAdd, Nat.reduceEqDiff, Nat.reduceLeDiff, ac_ref25_OfImage, imT_def, evT_def, h1, hC, hz', List.map_nil]
def ct_nms : Ct where
 α := Unit
 as _ := []
 ins _ := []
 pre _ := True
 r _ := .t (.agg [strT (nmL 0), strT (nmL 1), strT (nmL 2), strT (nmL 3), strT (nmL 4)])
 outs _ := []
 inj := by intro a b _ _; exact ⟨rfl, rfl⟩
theorem nms_eq : ct_nms.fs [] [] = some (.t (.agg [strT (nmL 0), strT (nmL 1), strT (nmL 2), strT (nmL 3), strT (nmL 4)]), []) := ct_nms.eq () trivial
theorem w_draw_names (tab : Tab) (gl : Gl) : ac_draw_names.wp tab gl (zipF 0 []) (zipF 0 []) (resW [(0, some (5, true))] 0 (fun r o => r = .t (.agg [strT (nmL 0), strT (nmL 1), strT (nmL 2), strT (nmL 3), strT (nmL 4)]) ∧ o = [])) := by
 simp (disch := omega) only [go_sem, ↓reduceIte, Nat.reduceAdd, Nat.reduceEqDiff, Nat.reduceLeDiff, reduceCtorEq, ac_draw_names, nmL]
def ct_pay : Ct where
 α := Cd
 as _ := [.ref 0 0 0]
 ins x := [cdOb x]
 pre x := cdOk x
 r x := .t (.sl ((payG x).1.map byteT))
 outs x := [cdOb (payG x).2]
 inj := by
   intro s t _ h2
   simp only [List.cons.injEq, and_true] at h2
   cases cdOb_inj h2
   exact ⟨rfl, rfl⟩
theorem pay_eq {c : Cd} (h : cdOk c) : ct_pay.fs [.ref 0 0 0] [cdO c] = some (.t (.sl ((payG c).1.map byteT)), [cdO (payG c).2]) := ct_pay.eq c h
theorem w_draw_Payload (tab : Tab) (gl : Gl) (n1 n2 : Nat) (h1 : tab.look n1 = some ct_next.fs) (h2 : tab.look n2 = some ct_line.fs) (c : Cd) (hc : cdOk c) :
   (ac_draw_Codes_Payload n1 n2).wp tab gl (zipF 0 [.ref 0 0 0]) (zipF 0 [cdOb c]) (resW [(2, none)] 1 (fun r o => r = .t (.sl ((payG c).1.map byteT)) ∧ o = [cdOb (payG c).2])) := by
 have e : payG c = payN (1 + (nx c 4).1) (nx c 4).2 [] := rfl
 rw [e]
 obtain ⟨i, b, a, e, l, ok, hN⟩ := nxF 4 hc (by omega) (by omega)
 rw [show ((4 : Nat) : Int) = 4 from rfl] at hN
 rw [e]
 simp only
 obtain ⟨cb, ca⟩ := c
 generalize hP : payN (1 + i) (b, a) [] = P
 simp (disch := omega) only [go_sem, ↓reduceIte, Nat.reduceAdd, Nat.reduceSub, Nat.reduceLeDiff, reduceCtorEq, ac_draw_Codes_Payload, cdOb_eq, h1, hN]
 refine loop_inv (σ := Nat × Cd × List UInt8) (fun s => cdOk s.2.1 ∧ s.2.2.length + 9 * s.1 ≤ 100 ∧ payN s.1 s.2.1 s.2.2 = P) (fun s => s.1)
   (fun s => [(0, .ref 0 0 0), (3, .sl 9000 0 s.2.2.length), (4, .t (.int .i64 (s.1 : Nat)))]) (fun s => [(9000, .live 1 ((s.2.2.map byteT).map V.t) true false), (0, cdO s.2.1)]) (1 + i, (b, a), []) ⟨ok, by simp; omega, hP⟩ ?_ ?_
 · refine Weak.cv0 (hv := [(9000, .live 1 [] true false)]) (ho := [(0, cdO (b, a))]) id ?_ ?_ rfl rfl
   all_goals simp (disch := omega) only [go_sem, ↓reduceIte, Nat.reduceEqDiff, reduceCtorEq, id]
 · rintro ⟨k, ⟨b1, a1⟩, p⟩ ⟨ok1, hl, hp⟩
   simp only at ok1 hl hp ⊢
   cases k with
   | zero =>
     rw [← hp]
     simp (disch := omega) only [go_sem, ↓reduceIte, Nat.reduceAdd, Nat.reduceEqDiff, Nat.reduceLeDiff, Nat.reduceBEq, reduceCtorEq, ac_draw_Codes_Payload_L0, payN, cdOb_eq, List.take_length]
   | succ k =>
     have hL := line_eq ok1
     have ll := lineL_len (i := (nx (b1, a1) 6).1)
     have lok := nx_ok (n := 6) ok1
     have hp' : payN k (nx (b1, a1) 6).2 (p ++ lineL (nx (b1, a1) 6).1 ++ [10]) = P := hp
     generalize nx (b1, a1) 6 = q at *
     obtain ⟨j, b2, a2⟩ := q
     simp only [cdO] at *
     generalize lineL j = L at *
     have hkk : ((k + 1 : Nat) : Int) - 1 = k := by omega
     simp (disch := omega) only [go_sem, ↓reduceIte, Nat.reduceAdd, Nat.reduceEqDiff, Nat.reduceSub, Nat.reduceLT, Nat.reduceLeDiff, reduceCtorEq, ac_draw_Codes_Payload_L0, h2, hL, hkk, List.take_length]
     refine invG.of (k, (b2, a2), p ++ L ++ [10]) ⟨lok, by simp; omega, hp'⟩ (by simp) (Weak.rd (fun j => if j = 9000 then 24656 else j) ?_ ?_ rfl)
     all_goals simp (disch := omega) only [go_sem, ↓reduceIte, Nat.reduceAdd, Nat.reduceEqDiff, Nat.reduceBEq, reduceCtorEq, id, List.map_cons, List.map_nil, List.append_assoc]
     all_goals try omega
def ct_dim : Ct where
 α := Cd × Nat
 as x := [.ref 0 0 0, .t (.int .i64 x.2)]
 ins x := [cdOb x.1]
 pre x := cdOk x.1 ∧ 1 ≤ x.2 ∧ x.2 ≤ 4
 r x := .t (imT (imG x.1 x.2).1)
 outs x := [cdOb (imG x.1 x.2).2]
 inj := by
   rintro ⟨s, a⟩ ⟨t, c⟩ h1 h2
   simp only [List.cons.injEq, V.t.injEq, T.int.injEq, true_and, and_true, Int.natCast_inj] at h1
   simp only [List.cons.injEq, and_true] at h2
   subst h1
   cases cdOb_inj h2
   exact ⟨rfl, rfl⟩
theorem dim_eq {c : Cd} {r : Nat} (h : cdOk c ∧ 1 ≤ r ∧ r ≤ 4) : ct_dim.fs [.ref 0 0 0, .t (.int .i64 r)] [cdO c] = some (.t (imT (imG c r).1), [cdO (imG c r).2]) := ct_dim.eq (c, r) h
theorem nm_get {i : Nat} (h : i < 5) : [V.t (strT (nmL 0)), V.t (strT (nmL 1)), V.t (strT (nmL 2)), V.t (strT (nmL 3)), V.t (strT (nmL 4))][i]? = some (.t (strT (nmL i))) := by
 rcases (show i = 0 ∨ i = 1 ∨ i = 2 ∨ i = 3 ∨ i = 4 by omega) with rfl | rfl | rfl | rfl | rfl <;> rfl
theorem set_rep {d : List UInt8} {j n : Nat} {x : UInt8} (h : d.length = j) (hj : j < n) : (d ++ List.replicate (n - j) 0).set j x = d ++ [x] ++ List.replicate (n - (j + 1)) 0 := by
 rw [List.set_append_right _ _ (by omega), h, Nat.sub_self, show n - j = (n - (j + 1)) + 1 by omega, List.replicate_succ, List.set_cons_zero]
 simp
theorem w_draw_Image (tab : Tab) (gl : Gl) (n1 n2 n3 : Nat) (h1 : tab.look n1 = some ct_nms.fs) (h2 : tab.look n2 = some ct_next.fs) (h3 : tab.look n3 = some ct_pay.fs) (c : Cd) (r : Nat) (hc : cdOk c) (hr : 1 ≤ r ∧ r ≤ 4) :
   (ac_draw_Codes_Image n1 n2 n3).wp tab gl (zipF 0 [.ref 0 0 0, .t (.int .i64 r)]) (zipF 0 [cdOb c]) (resW [(4, some (4, true))] 1 (fun r' o => r' = .t (imT (imG c r).1) ∧ o = [cdOb (imG c r).2])) := by
 have hn0 := nms_eq
 obtain ⟨i, bI, aI, eI, lI, okI, hI⟩ := nxF 5 hc (by omega) (by omega)
 obtain ⟨v, bV, aV, eV, lV, okV, hV⟩ := nxF 5 okI (by omega) (by omega)
 obtain ⟨w, bW, aW, eW, lW, okW, hW⟩ := nxF 9 okV (by omega) (by omega)
 obtain ⟨bC, aC⟩ := c
 simp only [show ((5 : Nat) : Int) = 5 from rfl, show ((9 : Nat) : Int) = 9 from rfl] at hI hV hW
 have hg := nm_get lI
 by_cases w8 : w = 8
 · subst w8
   obtain ⟨j, bX, aX, eJ, lJ, okX, hJ⟩ := nxF 3 okW (by omega) (by omega)
   simp only [show ((3 : Nat) : Int) = 3 from rfl, show ((8 : Nat) : Int) = 8 from rfl] at hJ hW
   obtain ⟨U, nV⟩ : ∃ U : Nat, (1000000 : Int) - j = U := ⟨1000000 - j, by omega⟩
   have hVr : vrG (bI, aI) = ((U : Int), (bX, aX)) := by unfold vrG; rw [eV]; simp only; rw [eW]; simp only [↓reduceIte]; rw [eJ, ← nV]
   by_cases r4 : r = 4
   · subst r4
     have hP := pay_eq okX
     have okP := payN_cd (k := 1 + (nx (bX, aX) 4).1) (b := []) (nx_ok (n := 4) okX)
     have eP : (plG (bX, aX) ((4 : Nat) : Int)) = payG (bX, aX) := by unfold plG; exact if_pos rfl
     have eG : imG (bC, aC) ((4 : Nat) : Int) = ((((4 : Nat) : Int), nmL i, ((U : Int) : Int), (payG (bX, aX)).1), (payG (bX, aX)).2) := by unfold imG; rw [eI, hVr, eP]
     rw [eG]
     generalize payG (bX, aX) = q at *
     obtain ⟨L, bP, aP⟩ := q
     simp only [cdO] at hP
     simp (disch := omega) only [go_sem, ↓reduceIte, Nat.reduceAdd, Nat.reduceEqDiff, Nat.reduceSub, Nat.reduceLeDiff, reduceCtorEq, ac_draw_Codes_Image, imT_def, cdOb_eq, h1, hn0, h2, hI, hV, hW, hg, hJ, nV, h3, hP]
     all_goals rfl
   · have r4b : ((r : Int) == 4) = false := by simpa using (by omega : ¬ (r : Int) = 4)
     obtain ⟨k, bK, aK, eK, lK, okK, hK⟩ := nxF 7 okX (by omega) (by omega)
     simp only [show ((7 : Nat) : Int) = 7 from rfl] at hK
     have eP : (plG (bX, aX) (r : Int)) = byN k (bK, aK) [] := by unfold plG; rw [if_neg (by omega), eK]
     have eG : imG (bC, aC) (r : Int) = (((r : Int), nmL i, ((U : Int) : Int), (byN k (bK, aK) []).1), (byN k (bK, aK) []).2) := by unfold imG; rw [eI, hVr, eP]
     rw [eG]
     generalize hP : byN k (bK, aK) [] = P
     simp (disch := omega) only [go_sem, ↓reduceIte, Nat.reduceAdd, Nat.reduceEqDiff, Nat.reduceSub, Nat.reduceLeDiff, reduceCtorEq, ac_draw_Codes_Image, cdOb_eq, h1, hn0, h2, hI, hV, hW, hg, hJ, nV, r4b, hK]
     repeat refine And.intro rfl ?_
     refine loop_inv (σ := Nat × Cd × List UInt8) (fun s => cdOk s.2.1 ∧ s.1 ≤ k ∧ s.2.2.length = s.1 ∧ byN (k - s.1) s.2.1 s.2.2 = P) (fun s => k - s.1)
       (fun s => [(0, .ref 0 0 0), (4, .ref 4096 0 0), (5, .ref 8320 0 0), (6, .t (.int .i64 (s.1 : Nat)))])
       (fun s => [(32800, .live 1 (((s.2.2 ++ List.replicate (k - s.1) 0).map byteT).map V.t) true false), (8320, .live 4 [.agg [.t (.int .i64 (r : Int)), .t (strT (nmL i)), .t (.int .i64 (U : Int)), .sl 32800 0 k]] true true), (4096, .live 4 [.agg [.t (.int .i64 0), .t (strT []), .t (.int .i64 0), .nil]] true true), (0, cdO s.2.1)]) (0, (bK, aK), []) ⟨okK, Nat.zero_le _, rfl, hP⟩ ?_ ?_
     · refine Weak.rd id ?_ ?_ rfl
       all_goals simp (disch := omega) only [go_sem, ↓reduceIte, Nat.reduceAdd, Nat.reduceEqDiff, Nat.reduceBEq, reduceCtorEq, id, List.nil_append]
     · rintro ⟨j, ⟨b1, a1⟩, d⟩ ⟨ok1, hj, hd, hp⟩
       simp only at ok1 hj hd hp ⊢
       by_cases hlt : j < k
       · obtain ⟨x, b2, a2, e2, l2, ok2, hX⟩ := nxF 256 ok1 (by omega) (by omega)
         simp only [show ((256 : Nat) : Int) = 256 from rfl] at hX
         have hst := set_rep (x := UInt8.ofNat x) (n := k) hd hlt
         have hp' : byN (k - (j + 1)) (b2, a2) (d ++ [UInt8.ofNat x]) = P := by
           rw [show k - j = (k - (j + 1)) + 1 by omega, byN, e2] at hp
           exact hp
         have hw : T.int .u8 (IntKind.u8.wrap (x : Int)) = byteT (UInt8.ofNat x) := by rw [conv8]; rfl
         have hL : (d ++ List.replicate (k - j) 0).length = k := by simp; omega
         generalize d ++ List.replicate (k - j) 0 = D at *
         simp (disch := omega) only [go_sem, ↓reduceIte, Nat.reduceAdd, Nat.reduceEqDiff, Nat.reduceSub, Nat.reduceLeDiff, reduceCtorEq, ac_draw_Codes_Image_L0, h2, hX, hw, hL]
         repeat refine And.intro rfl ?_
         refine invG.of (j + 1, (b2, a2), d ++ [UInt8.ofNat x]) ⟨ok2, by simp only; omega, by simp; omega, hp'⟩ (by simp only; omega) (Weak.rd id ?_ ?_ rfl)
         all_goals simp (disch := omega) only [go_sem, ↓reduceIte, Nat.reduceAdd, Nat.reduceEqDiff, Nat.reduceBEq, reduceCtorEq, id, hst]
       · have e : j = k := by omega
         subst e
         rw [Nat.sub_self] at hp ⊢
         rw [← hp]
         have hb : byN 0 (b1, a1) d = (d, (b1, a1)) := rfl
         rw [hb]
         simp only [List.replicate_zero, List.append_nil]
         have ht : List.take j d = d := List.take_of_length_le (by omega)
         simp (disch := omega) only [go_sem, ↓reduceIte, Nat.reduceAdd, Nat.reduceEqDiff, Nat.reduceLeDiff, Nat.reduceBEq, reduceCtorEq, ac_draw_Codes_Image_L0, imT_def, cdOb_eq, hd, ht]
 · have w8b : ((w : Int) == 8) = false := by simpa using (by omega : ¬ (w : Int) = 8)
   have hVr : vrG (bI, aI) = ((v : Int), (bW, aW)) := by unfold vrG; rw [eV]; simp only; rw [eW]; simp only [if_neg w8]
   obtain ⟨bX, hbX⟩ : ∃ b, b = bW := ⟨_, rfl⟩
   obtain ⟨aX, haX⟩ : ∃ a, a = aW := ⟨_, rfl⟩
   rw [← hbX, ← haX] at okW hW hVr
   have okX := okW
   by_cases r4 : r = 4
   · subst r4
     have hP := pay_eq okX
     have okP := payN_cd (k := 1 + (nx (bX, aX) 4).1) (b := []) (nx_ok (n := 4) okX)
     have eP : (plG (bX, aX) ((4 : Nat) : Int)) = payG (bX, aX) := by unfold plG; exact if_pos rfl
     have eG : imG (bC, aC) ((4 : Nat) : Int) = ((((4 : Nat) : Int), nmL i, ((v : Int) : Int), (payG (bX, aX)).1), (payG (bX, aX)).2) := by unfold imG; rw [eI, hVr, eP]
     rw [eG]
     generalize payG (bX, aX) = q at *
     obtain ⟨L, bP, aP⟩ := q
     simp only [cdO] at hP
     simp (disch := omega) only [go_sem, ↓reduceIte, Nat.reduceAdd, Nat.reduceEqDiff, Nat.reduceSub, Nat.reduceLeDiff, reduceCtorEq, ac_draw_Codes_Image, imT_def, cdOb_eq, h1, hn0, h2, hI, hV, hW, hg, w8b, h3, hP]
     all_goals rfl
   · have r4b : ((r : Int) == 4) = false := by simpa using (by omega : ¬ (r : Int) = 4)
     obtain ⟨k, bK, aK, eK, lK, okK, hK⟩ := nxF 7 okX (by omega) (by omega)
     simp only [show ((7 : Nat) : Int) = 7 from rfl] at hK
     have eP : (plG (bX, aX) (r : Int)) = byN k (bK, aK) [] := by unfold plG; rw [if_neg (by omega), eK]
     have eG : imG (bC, aC) (r : Int) = (((r : Int), nmL i, ((v : Int) : Int), (byN k (bK, aK) []).1), (byN k (bK, aK) []).2) := by unfold imG; rw [eI, hVr, eP]
     rw [eG]
     generalize hP : byN k (bK, aK) [] = P
     simp (disch := omega) only [go_sem, ↓reduceIte, Nat.reduceAdd, Nat.reduceEqDiff, Nat.reduceSub, Nat.reduceLeDiff, reduceCtorEq, ac_draw_Codes_Image, cdOb_eq, h1, hn0, h2, hI, hV, hW, hg, w8b, r4b, hK]
     repeat refine And.intro rfl ?_
     refine loop_inv (σ := Nat × Cd × List UInt8) (fun s => cdOk s.2.1 ∧ s.1 ≤ k ∧ s.2.2.length = s.1 ∧ byN (k - s.1) s.2.1 s.2.2 = P) (fun s => k - s.1)
       (fun s => [(0, .ref 0 0 0), (4, .ref 4096 0 0), (5, .ref 8320 0 0), (6, .t (.int .i64 (s.1 : Nat)))])
       (fun s => [(32800, .live 1 (((s.2.2 ++ List.replicate (k - s.1) 0).map byteT).map V.t) true false), (8320, .live 4 [.agg [.t (.int .i64 (r : Int)), .t (strT (nmL i)), .t (.int .i64 (v : Int)), .sl 32800 0 k]] true true), (4096, .live 4 [.agg [.t (.int .i64 0), .t (strT []), .t (.int .i64 0), .nil]] true true), (0, cdO s.2.1)]) (0, (bK, aK), []) ⟨okK, Nat.zero_le _, rfl, hP⟩ ?_ ?_
     · refine Weak.rd id ?_ ?_ rfl
       all_goals simp (disch := omega) only [go_sem, ↓reduceIte, Nat.reduceAdd, Nat.reduceEqDiff, Nat.reduceBEq, reduceCtorEq, id, List.nil_append]
     · rintro ⟨j, ⟨b1, a1⟩, d⟩ ⟨ok1, hj, hd, hp⟩
       simp only at ok1 hj hd hp ⊢
       by_cases hlt : j < k
       · obtain ⟨x, b2, a2, e2, l2, ok2, hX⟩ := nxF 256 ok1 (by omega) (by omega)
         simp only [show ((256 : Nat) : Int) = 256 from rfl] at hX
         have hst := set_rep (x := UInt8.ofNat x) (n := k) hd hlt
         have hp' : byN (k - (j + 1)) (b2, a2) (d ++ [UInt8.ofNat x]) = P := by
           rw [show k - j = (k - (j + 1)) + 1 by omega, byN, e2] at hp
           exact hp
         have hw : T.int .u8 (IntKind.u8.wrap (x : Int)) = byteT (UInt8.ofNat x) := by rw [conv8]; rfl
         have hL : (d ++ List.replicate (k - j) 0).length = k := by simp; omega
         generalize d ++ List.replicate (k - j) 0 = D at *
         simp (disch := omega) only [go_sem, ↓reduceIte, Nat.reduceAdd, Nat.reduceEqDiff, Nat.reduceSub, Nat.reduceLeDiff, reduceCtorEq, ac_draw_Codes_Image_L0, h2, hX, hw, hL]
         repeat refine And.intro rfl ?_
         refine invG.of (j + 1, (b2, a2), d ++ [UInt8.ofNat x]) ⟨ok2, by simp only; omega, by simp; omega, hp'⟩ (by simp only; omega) (Weak.rd id ?_ ?_ rfl)
         all_goals simp (disch := omega) only [go_sem, ↓reduceIte, Nat.reduceAdd, Nat.reduceEqDiff, Nat.reduceBEq, reduceCtorEq, id, hst]
       · have e : j = k := by omega
         subst e
         rw [Nat.sub_self] at hp ⊢
         rw [← hp]
         have hb : byN 0 (b1, a1) d = (d, (b1, a1)) := rfl
         rw [hb]
         simp only [List.replicate_zero, List.append_nil]
         have ht : List.take j d = d := List.take_of_length_le (by omega)
         simp (disch := omega) only [go_sem, ↓reduceIte, Nat.reduceAdd, Nat.reduceEqDiff, Nat.reduceLeDiff, Nat.reduceBEq, reduceCtorEq, ac_draw_Codes_Image_L0, imT_def, cdOb_eq, hd, ht]
end Go.Eng
end
section
namespace Go.Eng
def ac_image_printable_L0 : AC :=
 (.seq
 (rG 12288 [bT 8 .lss 7 6])
 (.seq
 (.cond (.tmp 8)
 .skip
 (.exit 0))
 (.seq
 (.block 1
 (.seq
 (rG 16384 [oO 9 (.iaddr 1) [.tmp 5, .tmp 7],oO 10 (.load 1 false) [.tmp 9],mv 4 10])
 (.seq
 (rG 20480 [mv 11 4,oO 12 (.bin .lss) [.tmp 11, .cst (.t (byteT 32))],mv 13 12,mF 14 4 13,oF 15 13 (.bin .gtr) [.tmp 14, .cst (.t (byteT 126))],oO 16 .pick [.tmp 13, .cst (.t (.bool true)), .tmp 15]])
 (.cond (.tmp 16)
 (.seq
 (rG 24576 [mC 2 (.t (.bool false))])
 .ret)
 .skip))))
 (rG 28672 [bN 17 .add 7 1,mv 7 17]))))
def ac_image_printable : AC :=
 (.seq
 (rG 4096 [mC 2 (.t (.bool false))])
 (.seq
 (.seq
 (rG 8192 [mv 5 0,oO 6 .len [.tmp 5],mC 7 (.t (.int .i64 0))])
 (.block 0
 (.loop ac_image_printable_L0)))
 (.seq
 (rG 32768 [mC 2 (.t (.bool true))])
 .ret)))
def hints_image_printable : List (Nat × List Nat) := []
def ac_image_Lines_L0 (n_bytes_IndexByte n_image_printable : Nat) : AC :=
 (.seq
 (.seq
 (rG 16384 [mv 8 4,oO 9 .len [.tmp 8],bN 10 .gtr 9 0])
 (.cond (.tmp 10)
 .skip
 (.exit 0)))
 (.block 1
 (.seq
 (rG 20480 [mv 11 4,cL 12 n_bytes_IndexByte false [.tmp 11, .cst (.t (byteT 10))],mv 5 12])
 (.seq
 (.seq
 (rG 24576 [mv 13 5,bN 14 .lss 13 1,mv 15 14,mF 16 3 15,oF 17 15 .len [.tmp 16],oF 18 15 (.bin .eql) [.tmp 17, .cst (.t (.int .i64 4))],oO 19 .pick [.tmp 15, .cst (.t (.bool true)), .tmp 18],mv 20 19,mF 21 4 20,mF 22 5 20,oF 23 20 (.slice 1 false true false) [.tmp 21, .tmp 22],cF 24 20 n_image_printable false [.tmp 23],oF 25 20 (.un .not) [.tmp 24],oO 26 .pick [.tmp 20, .cst (.t (.bool true)), .tmp 25]])
 (.cond (.tmp 26)
 (.seq
 (rG 28672 [mC 2 .nil])
 .ret)
 .skip))
 (.seq
 (rG 32768 [mv 27 3,mv 28 4,mv 29 5,mv 30 5,oO 31 (.slice 1 false true true) [.tmp 28, .tmp 29, .tmp 30],oO 32 (.bslice 1 1 .nil [0]) [.tmp 31],oO 33 (.append 1 24) [.tmp 27, .tmp 32],mv 3 33])
 (rG 36864 [mv 34 4,mv 35 5,bN 36 .add 35 1,oO 37 (.slice 1 true false false) [.tmp 34, .tmp 36],mv 4 37]))))))
def ac_image_Lines (n_bytes_IndexByte n_image_printable : Nat) : AC :=
 (.seq
 (rG 4096 [oO 1 .box [.tmp 0],mC 2 .nil])
 (.seq
 (rG 8192 [mC 3 .nil])
 (.seq
 (.seq
 (rG 12288 [oO 6 (.faddr 3) [.tmp 1],oO 7 (.load 1 false) [.tmp 6],mv 4 7])
 (.block 0
 (.loop (ac_image_Lines_L0 n_bytes_IndexByte n_image_printable))))
 (.seq
 (rG 40960 [mv 38 3,mv 2 38])
 .ret))))
def hints_image_Lines : List (Nat × List Nat) := []
def ac_image_Check (n_image_named n_image_Lines : Nat) : AC :=
 (.seq
 (rG 4096 [oO 1 .box [.tmp 0],mC 2 (.t (.int .i64 0))])
 (.seq
 (.block 0
 (.seq
 (rG 8192 [oO 4 (.faddr 0) [.tmp 1],oO 5 (.load 1 false) [.tmp 4],bN 6 .lss 5 1,mv 7 6,oF 8 7 (.faddr 0) [.tmp 1],oF 9 7 (.load 1 false) [.tmp 8],oF 10 7 (.bin .gtr) [.tmp 9, .cst (.t (.int .i64 4))],oO 11 .pick [.tmp 7, .cst (.t (.bool true)), .tmp 10],mv 12 11,oF 13 12 (.faddr 2) [.tmp 1],oF 14 12 (.load 1 false) [.tmp 13],oF 15 12 (.bin .lss) [.tmp 14, .cst (.t (.int .i64 0))],oO 16 .pick [.tmp 12, .cst (.t (.bool true)), .tmp 15],mv 17 16,oF 18 17 (.faddr 2) [.tmp 1],oF 19 17 (.load 1 false) [.tmp 18],oF 20 17 (.bin .gtr) [.tmp 19, .cst (.t (.int .i64 1000000))],oO 21 .pick [.tmp 17, .cst (.t (.bool true)), .tmp 20],mv 3 21])
 (.cond (.tmp 3)
 (.seq
 (rG 12288 [mC 2 (.t (.int .i64 1))])
 .ret)
 (.seq
 (rG 16384 [oO 23 (.faddr 1) [.tmp 1],oO 24 (.load 1 false) [.tmp 23],cL 25 n_image_named false [.tmp 24],oO 26 (.un .not) [.tmp 25],mv 22 26])
 (.cond (.tmp 22)
 (.seq
 (rG 20480 [mC 2 (.t (.int .i64 43))])
 .ret)
 (.seq
 (rG 24576 [oO 28 (.faddr 3) [.tmp 1],oO 29 (.load 1 false) [.tmp 28],oO 30 .len [.tmp 29],bN 31 .gtr 30 64,mv 27 31])
 (.cond (.tmp 27)
 (.seq
 (rG 28672 [mC 2 (.t (.int .i64 4))])
 .ret)
 (.seq
 (rG 32768 [oO 33 (.faddr 0) [.tmp 1],oO 34 (.load 1 false) [.tmp 33],bN 35 .eql 34 4,mv 36 35,oG 37 36 (.load 4 true) [.tmp 1],cG 38 36 n_image_Lines true [.tmp 37],oG 39 36 .len [.tmp 38],oG 40 36 (.bin .eql) [.tmp 39, .cst (.t (.int .i64 0))],oO 41 .pick [.tmp 36, .tmp 40, .cst (.t (.bool false))],mv 32 41])
 (.cond (.tmp 32)
 (.seq
 (rG 36864 [mC 2 (.t (.int .i64 40))])
 .ret)
 .skip)))))))))
 (.seq
 (rG 40960 [mC 2 (.t (.int .i64 0))])
 .ret)))
def hints_image_Check : List (Nat × List Nat) := [(7, [5])]
def ac_image_Encode (n_image_Check n_wire_Uint n_wire_Blob : Nat) : AC :=
 (.seq
 (rG 4096 [oO 1 .box [.tmp 0],mC 2 .nil])
 (.seq
 (.seq
 (rG 8192 [oO 4 (.load 4 true) [.tmp 1],cL 5 n_image_Check false [.tmp 4],bN 6 .neq 5 0])
 (.cond (.tmp 6)
 (.seq
 (rG 12288 [mC 2 .nil])
 .ret)
 .skip))
 (.seq
 (rG 16384 [oO 7 (.faddr 0) [.tmp 1],oO 8 (.load 1 false) [.tmp 7],cL 9 n_wire_Uint false [.cst .nil, .cst (.t (.int .i64 1)), .tmp 8],mv 3 9])
 (.seq
 (rG 20480 [mv 10 3,oO 11 (.faddr 2) [.tmp 1],oO 12 (.load 1 false) [.tmp 11],cL 13 n_wire_Uint false [.tmp 10, .cst (.t (.int .i64 4)), .tmp 12],mv 3 13])
 (.seq
 (rG 24576 [mv 14 3,oO 15 (.faddr 1) [.tmp 1],oO 16 (.load 1 false) [.tmp 15],oO 17 .s2b [.tmp 16],cL 18 n_wire_Blob false [.tmp 14, .tmp 17],mv 3 18])
 (.seq
 (rG 28672 [mv 19 3,oO 20 (.faddr 3) [.tmp 1],oO 21 (.load 1 false) [.tmp 20],cL 22 n_wire_Blob false [.tmp 19, .tmp 21],mv 2 22])
 .ret))))))
def hints_image_Encode : List (Nat × List Nat) := []
def ac_image_Digests_L0 (n_digest_Sum : Nat) : AC :=
 (.seq
 (rG 20480 [bT 14 .lss 13 12])
 (.seq
 (.cond (.tmp 14)
 .skip
 (.exit 0))
 (.seq
 (.block 1
 (.seq
 (rG 24576 [mv 15 13,mv 7 15])
 (.seq
 (rG 28672 [mv 16 6,oO 17 .len [.tmp 16],bN 18 .gtr 17 0,mv 19 18,mG 20 1 19,mG 21 7 19,oG 22 19 (.bin .shr) [.tmp 20, .tmp 21],oG 23 19 (.bin .and) [.tmp 22, .cst (.t (.int .i64 1))],oG 24 19 (.bin .eql) [.tmp 23, .cst (.t (.int .i64 1))],oO 25 .pick [.tmp 19, .tmp 24, .cst (.t (.bool false))]])
 (.cond (.tmp 25)
 (rG 32768 [mv 26 5,mv 27 7,mv 28 7,mv 29 6,cL 30 n_digest_Sum false [.tmp 28, .tmp 29],oO 31 (.iaddr 1) [.tmp 26, .tmp 27],oS 1 31 30])
 .skip))))
 (rG 36864 [bN 32 .add 13 1,mv 13 32]))))
def ac_image_Digests (n_image_Encode n_digest_Sum : Nat) : AC :=
 (.seq
 (rG 4096 [oO 2 .box [.tmp 0],mC 4 .nil])
 (.seq
 (rG 8192 [oO 8 (.mkslice 1 24 .nil) [.cst (.t (.int .i64 2)), .cst (.t (.int .i64 2))],mv 5 8])
 (.seq
 (rG 12288 [oO 9 (.load 4 true) [.tmp 2],cL 10 n_image_Encode true [.tmp 9],mv 6 10])
 (.seq
 (.seq
 (rG 16384 [mv 11 5,oO 12 .len [.tmp 11],mC 13 (.t (.int .i64 0))])
 (.block 0
 (.loop (ac_image_Digests_L0 n_digest_Sum))))
 (.seq
 (rG 40960 [mv 33 5,mv 4 33])
 .ret)))))
def hints_image_Digests : List (Nat × List Nat) := [(2, [1])]
def ac_image_Register (g_image_measured : Nat) : AC :=
 (.seq
 (rG 4096 [mC 2 (.t (.int .i64 0))])
 (.seq
 (.seq
 (rG 8192 [mv 3 0,bN 4 .lss 3 0,mv 5 4,mF 6 0 5,oF 7 5 (.bin .geq) [.tmp 6, .cst (.t (.int .i64 5))],oO 8 .pick [.tmp 5, .cst (.t (.bool true)), .tmp 7]])
 (.cond (.tmp 8)
 (.seq
 (rG 12288 [mC 2 (.t (.int .i64 (-1)))])
 .ret)
 .skip))
 (.seq
 (rG 16384 [mv 9 0,oO 10 (.aaddr 5 1) [.glob g_image_measured, .tmp 9],oO 11 (.load 1 false) [.tmp 10],mv 2 11])
 .ret)))
def hints_image_Register : List (Nat × List Nat) := []
def ac_bytes_IndexByte (n_bytealg_IndexByte : Nat) : AC :=
 (.seq
 (rG 4096 [mC 4 (.t (.int .i64 0))])
 (.seq
 (rG 8192 [mv 5 0,mv 6 1,cL 7 n_bytealg_IndexByte false [.tmp 5, .tmp 6],mv 4 7])
 .ret))
def hints_bytes_IndexByte : List (Nat × List Nat) := []
def ac_event_OfImage (n_image_Check n_image_Register n_image_Digests n_strconv_Itoa : Nat) : AC :=
 (.seq
 (rG 4096 [oO 2 .box [.tmp 0],oO 4 (.new 4 [(.agg [(.t (.int .i64 0)), (.t (.int .i64 0)), .nil, .nil])]) []])
 (.seq
 (.seq
 (rG 8192 [oO 5 (.load 4 true) [.tmp 2],cL 6 n_image_Check false [.tmp 5],bN 7 .neq 6 0,mv 8 7,oF 9 8 (.faddr 0) [.tmp 2],oF 10 8 (.load 1 false) [.tmp 9],oF 11 8 (.bin .eql) [.tmp 10, .cst (.t (.int .i64 4))],oO 12 .pick [.tmp 8, .cst (.t (.bool true)), .tmp 11]])
 (.cond (.tmp 12)
 (.seq
 (rG 12288 [oO 13 (.build [(.t (.int .i64 0)), (.t (.int .i64 0)), .nil, .nil] []) [],oS 4 4 13])
 .ret)
 .skip))
 (.seq
 (.reg 16384 (some [0, 1, 3, 0, 0, 31, 0, 64, 192, 0, 512, 1599, 4095, 8191, 16383, 32767]) [oO 14 (.faddr 0) [.tmp 2],oO 15 (.load 1 false) [.tmp 14],cL 16 n_image_Register false [.tmp 15],oO 17 (.load 4 true) [.tmp 2],mv 18 1,cL 19 n_image_Digests true [.tmp 17, .tmp 18],oO 20 (.faddr 1) [.tmp 2],oO 21 (.load 1 false) [.tmp 20],oO 22 (.bin .add) [.tmp 21, .cst (.t (strT [32]))],oO 23 (.faddr 2) [.tmp 2],oO 24 (.load 1 false) [.tmp 23],cL 25 n_strconv_Itoa false [.tmp 24],bT 26 .add 22 25,oO 27 .s2b [.tmp 26],oO 28 (.build [(.t (.int .i64 0)), (.t (.int .i64 0)), .nil, .nil] [(0, 1), (1, 1), (2, 1), (3, 1)]) [.tmp 16, .cst (.t (.int .i64 1)), .tmp 19, .tmp 27],oS 4 4 28])
 .ret)))
def hints_event_OfImage : List (Nat × List Nat) := [(3, [5])]
def ac_law26_EventOfImage (n_law26_awake n_draw_Cut n_draw_Active n_draw_New n_draw_Mod n_draw_Codes_Image n_event_OfImage n_ref25_OfImage n_ref25_SameEvent n_event_Check n_event_Consistent n_image_Register n_image_Digests n_ref1_Lists : Nat) : AC :=
 (.seq
 (rG 4096 [oO 4 .box [.tmp 0],mC 8 (.t (.bool false))])
 (.seq
 (.seq
 (rG 8192 [cL 11 n_law26_awake false [],oO 12 (.un .not) [.tmp 11]])
 (.cond (.tmp 12)
 (.seq
 (rG 12288 [mC 8 (.t (.bool false))])
 .ret)
 .skip))
 (.seq
 (rG 16384 [oO 13 (.faddr 3) [.tmp 4],oO 14 (.load 1 false) [.tmp 13],cL 15 n_draw_Cut true [.tmp 14, .cst (.t (.int .i64 100))],oO 16 (.faddr 3) [.tmp 4],oS 1 16 15])
 (.seq
 (rG 20480 [mv 17 3,cL 18 n_draw_Active false [.tmp 17],mv 3 18])
 (.seq
 (rG 24576 [mv 19 1,cL 20 n_draw_New true [.tmp 19, .cst (.t (.int .i64 40))],mv 21 2,cL 22 n_draw_Mod false [.tmp 21, .cst (.t (.int .i64 4))],oO 23 (.bin .add) [.cst (.t (.int .i64 1)), .tmp 22],cL 24 n_draw_Codes_Image true [.tmp 20, .tmp 23],oO 9 (.new 4 [(.agg [(.t (.int .i64 0)), (.t (strT [])), (.t (.int .i64 0)), .nil])]) [],oS 4 9 24])
 (.seq
 (rG 28672 [oO 25 (.load 4 true) [.tmp 9],mv 26 3,cL 27 n_event_OfImage true [.tmp 25, .tmp 26],oO 10 (.new 4 [(.agg [(.t (.int .i64 0)), (.t (.int .i64 0)), .nil, .nil])]) [],oS 4 10 27])
 (.seq
 (.seq
 (.reg 32768 (some [0, 0, 3, 0, 0, 31, 63, 127, 255, 511, 511, 511, 3583, 8191, 16383, 32767]) [oO 28 (.load 4 true) [.tmp 4],mv 29 3,cL 30 n_event_OfImage true [.tmp 28, .tmp 29],oO 31 (.load 4 true) [.tmp 4],mv 32 3,cL 33 n_ref25_OfImage true [.tmp 31, .tmp 32],cL 34 n_ref25_SameEvent false [.tmp 30, .tmp 33],oO 35 (.un .not) [.tmp 34],mv 36 35,oF 37 36 (.load 4 true) [.tmp 10],oF 38 36 (.load 4 true) [.tmp 9],mF 39 3 36,cF 40 36 n_ref25_OfImage true [.tmp 38, .tmp 39],cF 41 36 n_ref25_SameEvent false [.tmp 37, .tmp 40],oF 42 36 (.un .not) [.tmp 41],oO 43 .pick [.tmp 36, .cst (.t (.bool true)), .tmp 42]])
 (.cond (.tmp 43)
 (.seq
 (rG 36864 [mC 8 (.t (.bool false))])
 .ret)
 .skip))
 (.seq
 (.seq
 (rG 40960 [oO 44 (.faddr 0) [.tmp 9],oO 45 (.load 1 false) [.tmp 44],bN 46 .eql 45 4])
 (.cond (.tmp 46)
 (.seq
 (rG 45056 [oO 47 (.faddr 1) [.tmp 10],oO 48 (.load 1 false) [.tmp 47],bN 49 .eql 48 0,mv 8 49])
 .ret)
 .skip))
 (.seq
 (.reg 49152 (some [0, 0, 3, 7, 15, 31, 63, 127, 255, 511, 1023, 511, 2559, 6655, 16383, 32767, 65535, 131071, 262143, 131071, 131071, 1703935, 4194303, 8388607, 16777215]) [oO 50 (.load 4 true) [.tmp 10],mv 51 3,cL 52 n_event_Check false [.tmp 50, .tmp 51],bN 53 .eql 52 0,mv 54 53,oG 55 54 (.load 4 true) [.tmp 10],cG 56 54 n_event_Consistent false [.tmp 55],oO 57 .pick [.tmp 54, .tmp 56, .cst (.t (.bool false))],mv 58 57,oG 59 58 (.faddr 0) [.tmp 10],oG 60 58 (.load 1 false) [.tmp 59],oG 61 58 (.faddr 0) [.tmp 9],oG 62 58 (.load 1 false) [.tmp 61],cG 63 58 n_image_Register false [.tmp 62],oG 64 58 (.bin .eql) [.tmp 60, .tmp 63],oO 65 .pick [.tmp 58, .tmp 64, .cst (.t (.bool false))],mv 66 65,oG 67 66 (.faddr 2) [.tmp 10],oG 68 66 (.load 1 false) [.tmp 67],oG 69 66 (.load 4 true) [.tmp 9],mG 70 3 66,cG 71 66 n_image_Digests true [.tmp 69, .tmp 70],cG 72 66 n_ref1_Lists false [.tmp 68, .tmp 71],oO 73 .pick [.tmp 66, .tmp 72, .cst (.t (.bool false))],mv 8 73])
 .ret)))))))))
def hints_law26_EventOfImage : List (Nat × List Nat) := [(3, [2]), (5, [1, 5]), (6, [2]), (7, [2, 5, 12]), (11, [21])]
end Go.Eng
end
section
set_option maxRecDepth 20000
set_option maxHeartbeats 64000000
namespace Go.Eng
def ixN (c : UInt8) : List UInt8 → Nat → Int
 | [], _ => -1
 | x :: r, n => if x = c then (n : Int) else ixN c r (n + 1)
theorem ixN_no {c : UInt8} : ∀ {b : List UInt8} {n : Nat}, c ∉ b → ixN c b n = -1
 | [], _, _ => rfl
 | x :: r, n, h => by
   rw [ixN, if_neg (fun e => h (by simp [e])), ixN_no (fun e => h (by simp [e]))]
theorem ixN_at {c : UInt8} : ∀ {p q : List UInt8} {n : Nat}, c ∉ p → ixN c (p ++ c :: q) n = ((n + p.length : Nat) : Int)
 | [], q, n, _ => by rw [List.nil_append, ixN, if_pos rfl]; rfl
 | x :: r, q, n, h => by
   rw [List.cons_append, ixN, if_neg (fun e => h (by simp [e])), ixN_at (fun e => h (by simp [e]))]
   simp only [List.length_cons]; congr 1; omega
theorem split_at {c : UInt8} : ∀ {b : List UInt8}, c ∈ b → ∃ p q, b = p ++ c :: q ∧ c ∉ p
 | [], h => by cases h
 | x :: r, h => by
   by_cases e : x = c
   · exact ⟨[], r, by rw [e]; rfl, by simp⟩
   · have : c ∈ r := by
       simp only [List.mem_cons] at h
       rcases h with h | h
       · exact absurd h.symm e
       · exact h
     obtain ⟨p, q, h1, h2⟩ := split_at this
     exact ⟨x :: p, q, by rw [h1]; rfl, by simp only [List.mem_cons, not_or]; exact ⟨fun h => e h.symm, h2⟩⟩
def ct_bix : Ct where
 α := List UInt8 × UInt8
 as x := [.t (.sl (x.1.map byteT)), .t (byteT x.2)]
 ins _ := []
 pre x := 0 < x.1.length ∧ x.1.length < 1000000000
 r x := .t (.int .i64 (ixN x.2 x.1 0))
 outs _ := []
 inj := by
   rintro ⟨a, c⟩ ⟨b, d⟩ h _
   simp only [List.cons.injEq, V.t.injEq, T.sl.injEq, mapB_inj, and_true] at h
   obtain ⟨rfl, h⟩ := h
   cases byteT_inj h
   exact ⟨rfl, rfl⟩
theorem bix_eq {b : List UInt8} {c : UInt8} (h : 0 < b.length ∧ b.length < 1000000000) : ct_bix.fs [.t (.sl (b.map byteT)), .t (byteT c)] [] = some (.t (.int .i64 (ixN c b 0)), []) := ct_bix.eq (b, c) h
theorem w_bytes_IndexByte (tab : Tab) (gl : Gl) (n1 : Nat) (h1 : tab.look n1 = some ct_bix.fs) (b : List UInt8) (c : UInt8) (h : 0 < b.length ∧ b.length < 1000000000) :
   (ac_bytes_IndexByte n1).wp tab gl (zipF 0 [.t (.sl (b.map byteT)), .t (byteT c)]) (zipF 0 []) (resW [(4, none)] 0 (fun r o => r = .t (.int .i64 (ixN c b 0)) ∧ o = [])) := by
 have hB := bix_eq (c := c) h
 simp (config := { maxSteps := 2000000 }) (disch := (first | omega | (simp only [lens, lenm]; omega))) only [go_sem, ↓reduceIte, Nat.reduceAdd, Nat.reduceEqDiff, Nat.reduceSub, Nat.reduceMul, Nat.reduceLT, Nat.reduceLeDiff, Nat.reduceBEq, Int.reduceEq, Int.reduceLT, Int.reduceLE, Int.reduceToNat, Int.reduceNeg, Int.reduceAdd, Int.reduceSub, Int.reduceMul, Int.reduceMod, Int.reduceDiv, reduceCtorEq, Nat.reducePow, Int.reducePow, ac_bytes_IndexByte, h1, hB]
def ct_ipr : Ct where
 α := List UInt8
 as x := [.t (.sl (x.map byteT))]
 ins _ := []
 pre x := x.length < 1000000000
 r x := .t (.bool (x.all okC))
 outs _ := []
 inj := by
   intro a b h _
   simp only [List.cons.injEq, V.t.injEq, T.sl.injEq, mapB_inj, and_true] at h
   subst h; exact ⟨rfl, rfl⟩
theorem ipr_eq {b : List UInt8} (h : b.length < 1000000000) : ct_ipr.fs [.t (.sl (b.map byteT))] [] = some (.t (.bool (b.all okC)), []) := ct_ipr.eq b h
theorem w_image_printable (tab : Tab) (gl : Gl) (b : List UInt8) (h : b.length < 1000000000) :
   ac_image_printable.wp tab gl (zipF 0 [.t (.sl (b.map byteT))]) (zipF 0 []) (resW [(2, none)] 0 (fun r o => r = .t (.bool (b.all okC)) ∧ o = [])) := by
 simp (config := { maxSteps := 2000000 }) (disch := (first | omega | (simp only [lens, lenm]; omega))) only [go_sem, ↓reduceIte, Nat.reduceAdd, Nat.reduceEqDiff, Nat.reduceSub, Nat.reduceMul, Nat.reduceLT, Nat.reduceLeDiff, Nat.reduceBEq, Int.reduceEq, Int.reduceLT, Int.reduceLE, Int.reduceToNat, Int.reduceNeg, Int.reduceAdd, Int.reduceSub, Int.reduceMul, Int.reduceMod, Int.reduceDiv, reduceCtorEq, Nat.reducePow, Int.reducePow, ac_image_printable]
 refine loop_uptoP b.length (fun i => (b.take i).all okC = true) (fun i => [(5, .t (.sl (b.map byteT))), (6, .t (.int .i64 b.length)), (7, .t (.int .i64 (i : Nat)))]) (fun _ => []) rfl ?_ (fun i hi hP => ?_)
 · refine Weak.rd id ?_ ?_ rfl
   all_goals simp (config := { maxSteps := 2000000 }) (disch := (first | omega | (simp only [lens, lenm]; omega))) only [go_sem, ↓reduceIte, Nat.reduceAdd, Nat.reduceEqDiff, Nat.reduceSub, Nat.reduceMul, Nat.reduceLT, Nat.reduceLeDiff, Nat.reduceBEq, Int.reduceEq, Int.reduceLT, Int.reduceLE, Int.reduceToNat, Int.reduceNeg, Int.reduceAdd, Int.reduceSub, Int.reduceMul, Int.reduceMod, Int.reduceDiv, reduceCtorEq, Nat.reducePow, Int.reducePow, id]
 · by_cases hlt : i < b.length
   · obtain ⟨c, hc⟩ : ∃ c, b.getD i 0 = c := ⟨_, rfl⟩
     have hc' : b[i]? = some c := by
       rw [← hc]; simp [List.getD, hlt]
     have hst : (b.take (i + 1)).all okC = okC c := by
       rw [List.take_add_one, hc', List.all_append, hP]; simp
     have hall : okC c = false → b.all okC = false := fun h => List.all_eq_false.2 ⟨c, List.mem_of_getElem? hc', by simp [h]⟩
     by_cases a1 : c.toNat < 32
     · have hk : okC c = false := by unfold okC; rw [decide_eq_true a1]; rfl
       rw [hall hk]
       simp (config := { maxSteps := 2000000 }) (disch := (first | omega | (simp only [lens, lenm]; omega))) only [go_sem, ↓reduceIte, Nat.reduceAdd, Nat.reduceEqDiff, Nat.reduceSub, Nat.reduceMul, Nat.reduceLT, Nat.reduceLeDiff, Nat.reduceBEq, Int.reduceEq, Int.reduceLT, Int.reduceLE, Int.reduceToNat, Int.reduceNeg, Int.reduceAdd, Int.reduceSub, Int.reduceMul, Int.reduceMod, Int.reduceDiv, reduceCtorEq, Nat.reducePow, Int.reducePow, ac_image_printable_L0, hc, a1]
     · by_cases a2 : 126 < c.toNat
       · have hk : okC c = false := by unfold okC; rw [decide_eq_true (show c.toNat > 126 from a2)]; simp
         rw [hall hk]
         simp (config := { maxSteps := 2000000 }) (disch := (first | omega | (simp only [lens, lenm]; omega))) only [go_sem, ↓reduceIte, Nat.reduceAdd, Nat.reduceEqDiff, Nat.reduceSub, Nat.reduceMul, Nat.reduceLT, Nat.reduceLeDiff, Nat.reduceBEq, Int.reduceEq, Int.reduceLT, Int.reduceLE, Int.reduceToNat, Int.reduceNeg, Int.reduceAdd, Int.reduceSub, Int.reduceMul, Int.reduceMod, Int.reduceDiv, reduceCtorEq, Nat.reducePow, Int.reducePow, ac_image_printable_L0, hc, a1, a2]
       · have hk : okC c = true := by unfold okC; rw [decide_eq_false a1, decide_eq_false (show ¬ c.toNat > 126 from a2)]; rfl
         rw [hk] at hst
         simp (config := { maxSteps := 2000000 }) (disch := (first | omega | (simp only [lens, lenm]; omega))) only [go_sem, ↓reduceIte, Nat.reduceAdd, Nat.reduceEqDiff, Nat.reduceSub, Nat.reduceMul, Nat.reduceLT, Nat.reduceLeDiff, Nat.reduceBEq, Int.reduceEq, Int.reduceLT, Int.reduceLE, Int.reduceToNat, Int.reduceNeg, Int.reduceAdd, Int.reduceSub, Int.reduceMul, Int.reduceMod, Int.reduceDiv, reduceCtorEq, Nat.reducePow, Int.reducePow, ac_image_printable_L0, hc, a1, a2]
         refine ⟨hlt, hst, Weak.rd id ?_ ?_ rfl⟩
         all_goals simp (config := { maxSteps := 2000000 }) (disch := (first | omega | (simp only [lens, lenm]; omega))) only [go_sem, ↓reduceIte, Nat.reduceAdd, Nat.reduceEqDiff, Nat.reduceSub, Nat.reduceMul, Nat.reduceLT, Nat.reduceLeDiff, Nat.reduceBEq, Int.reduceEq, Int.reduceLT, Int.reduceLE, Int.reduceToNat, Int.reduceNeg, Int.reduceAdd, Int.reduceSub, Int.reduceMul, Int.reduceMod, Int.reduceDiv, reduceCtorEq, Nat.reducePow, Int.reducePow, id]
   · have e : i = b.length := by omega
     subst e
     rw [List.take_length] at hP
     simp (config := { maxSteps := 2000000 }) (disch := (first | omega | (simp only [lens, lenm]; omega))) only [go_sem, ↓reduceIte, Nat.reduceAdd, Nat.reduceEqDiff, Nat.reduceSub, Nat.reduceMul, Nat.reduceLT, Nat.reduceLeDiff, Nat.reduceBEq, Int.reduceEq, Int.reduceLT, Int.reduceLE, Int.reduceToNat, Int.reduceNeg, Int.reduceAdd, Int.reduceSub, Int.reduceMul, Int.reduceMod, Int.reduceDiv, reduceCtorEq, Nat.reducePow, Int.reducePow, ac_image_printable_L0, hP]
theorem lnS_line {pre post : List UInt8} (hn : (10 : UInt8) ∉ pre) : ∀ {out : List (List UInt8)} {line : List UInt8}, lnS out line (pre ++ 10 :: post) = if pre.all okC = true then (if (line ++ pre).length = 0 ∨ 4 ≤ out.length then [] else lnS (out ++ [line ++ pre]) [] post) else [] := by
 induction pre with
 | nil =>
   intro out line
   rw [List.nil_append, lnS, if_pos rfl, List.append_nil]
   simp
 | cons c r ih =>
   intro out line
   have hc : ¬ c = 10 := fun e => hn (by simp [e])
   have hr : (10 : UInt8) ∉ r := fun e => hn (by simp [e])
   rw [List.cons_append, lnS, if_neg hc]
   cases hk : okC c
   · rw [if_neg (by decide)]; simp [hk]
   · rw [if_pos rfl, ih hr]; simp [hk]
theorem lnS_none {pre : List UInt8} (hn : (10 : UInt8) ∉ pre) : ∀ {out : List (List UInt8)} {line : List UInt8}, 0 < (line ++ pre).length → lnS out line pre = [] := by
 induction pre with
 | nil => intro out line h; rw [lnS, if_pos (by simpa using h)]
 | cons c r ih =>
   intro out line h
   have hc : ¬ c = 10 := fun e => hn (by simp [e])
   have hr : (10 : UInt8) ∉ r := fun e => hn (by simp [e])
   rw [lnS, if_neg hc]
   split
   · exact ih hr (by simp; omega)
   · rfl
theorem w_image_Lines (tab : Tab) (gl : Gl) (n1 n2 : Nat) (h1 : tab.look n1 = some ct_bix.fs) (h2 : tab.look n2 = some ct_ipr.fs) (x : Im) (hm : imM x) :
   (ac_image_Lines n1 n2).wp tab gl (zipF 0 [.t (imT x)]) (zipF 0 []) (resW [(2, none)] 0 (fun r o => r = .t (.sl ((lnL x.2.2.2).map bsT)) ∧ o = [])) := by
 obtain ⟨a, s, v, p⟩ := x
 have hp := hm.2.1
 simp only at hp ⊢
 simp (config := { maxSteps := 2000000 }) (disch := (first | omega | (simp only [lens, lenm]; omega))) only [go_sem, ↓reduceIte, Nat.reduceAdd, Nat.reduceEqDiff, Nat.reduceSub, Nat.reduceMul, Nat.reduceLT, Nat.reduceLeDiff, Nat.reduceBEq, Int.reduceEq, Int.reduceLT, Int.reduceLE, Int.reduceToNat, Int.reduceNeg, Int.reduceAdd, Int.reduceSub, Int.reduceMul, Int.reduceMod, Int.reduceDiv, reduceCtorEq, Nat.reducePow, Int.reducePow, ac_image_Lines, imT_def]
 refine loop_inv (σ := List UInt8 × List (List UInt8)) (fun t => t.1.length ≤ p.length ∧ lnS t.2 [] t.1 = lnL p ∧ t.2.length ≤ 4) (fun t => t.1.length)
   (fun t => [(3, .sl 9000 0 t.2.length), (4, .t (.sl (t.1.map byteT)))])
   (fun t => [(9000, .live 1 ((t.2.map bsT).map V.t) true false)]) (p, []) ⟨Nat.le_refl _, rfl, by simp⟩ ?_ ?_
 · refine Weak.cv0 (hv := [(9000, .live 1 [] true false)]) (ho := []) id ?_ ?_ rfl rfl
   all_goals simp (config := { maxSteps := 2000000 }) (disch := (first | omega | (simp only [lens, lenm]; omega))) only [go_sem, ↓reduceIte, Nat.reduceAdd, Nat.reduceEqDiff, Nat.reduceSub, Nat.reduceMul, Nat.reduceLT, Nat.reduceLeDiff, Nat.reduceBEq, Int.reduceEq, Int.reduceLT, Int.reduceLE, Int.reduceToNat, Int.reduceNeg, Int.reduceAdd, Int.reduceSub, Int.reduceMul, Int.reduceMod, Int.reduceDiv, reduceCtorEq, Nat.reducePow, Int.reducePow, id]
 · rintro ⟨rest, out⟩ ⟨hi, hE, ho⟩
   simp only at hi hE ho ⊢
   by_cases hlt : 0 < rest.length
   · have hB := bix_eq (b := rest) (c := 10) ⟨hlt, by omega⟩
     by_cases hn : (10 : UInt8) ∈ rest
     · obtain ⟨pre, post, rfl, hpre⟩ := split_at hn
       rw [ixN_at hpre, Nat.zero_add] at hB
       rw [lnS_line hpre, List.nil_append] at hE
       simp only [List.length_append, List.length_cons] at hi hlt
       have tk : List.take pre.length (pre ++ 10 :: post) = pre := List.take_left' rfl
       have dk : List.drop (pre.length + 1) (pre ++ 10 :: post) = post := by rw [List.drop_append]; simp
       have tl : (pre ++ (10 : UInt8) :: post).length = pre.length + 1 + post.length := by simp; omega
       by_cases z1 : pre.length < 1
       · have hr : lnL p = [] := by rw [← hE]; split; rw [if_pos (.inl (by omega))]; rfl
         rw [hr]
         simp (config := { maxSteps := 2000000 }) (disch := (first | omega | (simp only [lens, lenm]; omega))) only [go_sem, ↓reduceIte, Nat.reduceAdd, Nat.reduceEqDiff, Nat.reduceSub, Nat.reduceMul, Nat.reduceLT, Nat.reduceLeDiff, Nat.reduceBEq, Int.reduceEq, Int.reduceLT, Int.reduceLE, Int.reduceToNat, Int.reduceNeg, Int.reduceAdd, Int.reduceSub, Int.reduceMul, Int.reduceMod, Int.reduceDiv, reduceCtorEq, Nat.reducePow, Int.reducePow, ac_image_Lines_L0, tl, h1, hB, z1, List.map_nil]
       · by_cases z2 : out.length = 4
         · have hr : lnL p = [] := by rw [← hE]; split; rw [if_pos (.inr (by omega))]; rfl
           rw [hr]
           simp (config := { maxSteps := 2000000 }) (disch := (first | omega | (simp only [lens, lenm]; omega))) only [go_sem, ↓reduceIte, Nat.reduceAdd, Nat.reduceEqDiff, Nat.reduceSub, Nat.reduceMul, Nat.reduceLT, Nat.reduceLeDiff, Nat.reduceBEq, Int.reduceEq, Int.reduceLT, Int.reduceLE, Int.reduceToNat, Int.reduceNeg, Int.reduceAdd, Int.reduceSub, Int.reduceMul, Int.reduceMod, Int.reduceDiv, reduceCtorEq, Nat.reducePow, Int.reducePow, ac_image_Lines_L0, tl, h1, hB, z1, z2, List.map_nil]
         · have z2b : ((out.length : Int) == 4) = false := by simpa using (by omega : ¬ (out.length : Int) = 4)
           have hP := ipr_eq (b := pre) (by omega)
           cases hk : pre.all okC
           · rw [hk] at hP hE
             rw [if_neg (by decide)] at hE
             rw [← hE]
             simp (config := { maxSteps := 2000000 }) (disch := (first | omega | (simp only [lens, lenm]; omega))) only [go_sem, ↓reduceIte, Nat.reduceAdd, Nat.reduceEqDiff, Nat.reduceSub, Nat.reduceMul, Nat.reduceLT, Nat.reduceLeDiff, Nat.reduceBEq, Int.reduceEq, Int.reduceLT, Int.reduceLE, Int.reduceToNat, Int.reduceNeg, Int.reduceAdd, Int.reduceSub, Int.reduceMul, Int.reduceMod, Int.reduceDiv, reduceCtorEq, Nat.reducePow, Int.reducePow, ac_image_Lines_L0, tl, h1, hB, z1, z2, z2b, tk, h2, hP, List.map_nil]
           · rw [hk] at hP hE
             rw [if_pos rfl, if_neg (by omega)] at hE
             simp (config := { maxSteps := 2000000 }) (disch := (first | omega | (simp only [lens, lenm]; omega))) only [go_sem, ↓reduceIte, Nat.reduceAdd, Nat.reduceEqDiff, Nat.reduceSub, Nat.reduceMul, Nat.reduceLT, Nat.reduceLeDiff, Nat.reduceBEq, Int.reduceEq, Int.reduceLT, Int.reduceLE, Int.reduceToNat, Int.reduceNeg, Int.reduceAdd, Int.reduceSub, Int.reduceMul, Int.reduceMod, Int.reduceDiv, reduceCtorEq, Nat.reducePow, Int.reducePow, ac_image_Lines_L0, tl, h1, hB, z1, z2, z2b, tk, h2, hP, dk]
             refine invG.of (post, out ++ [pre]) ⟨by simp only; omega, hE, by simp; omega⟩ (by simp only; omega) ?_
             refine Weak.cv (hv := []) (ho := [(9000, .live 1 (((out ++ [pre]).map bsT).map V.t) true false)]) [] (fun j => if j = 9000 then 32864 else j) ?_ rfl
             simp (config := { maxSteps := 2000000 }) (disch := (first | omega | (simp only [lens, lenm]; omega))) only [go_sem, ↓reduceIte, Nat.reduceAdd, Nat.reduceEqDiff, Nat.reduceSub, Nat.reduceMul, Nat.reduceLT, Nat.reduceLeDiff, Nat.reduceBEq, Int.reduceEq, Int.reduceLT, Int.reduceLE, Int.reduceToNat, Int.reduceNeg, Int.reduceAdd, Int.reduceSub, Int.reduceMul, Int.reduceMod, Int.reduceDiv, reduceCtorEq, Nat.reducePow, Int.reducePow, id, List.map_cons, List.map_nil, List.take_length]
             rfl
     · rw [ixN_no hn] at hB
       rw [lnS_none hn (by simpa using hlt)] at hE
       rw [← hE]
       simp (config := { maxSteps := 2000000 }) (disch := (first | omega | (simp only [lens, lenm]; omega))) only [go_sem, ↓reduceIte, Nat.reduceAdd, Nat.reduceEqDiff, Nat.reduceSub, Nat.reduceMul, Nat.reduceLT, Nat.reduceLeDiff, Nat.reduceBEq, Int.reduceEq, Int.reduceLT, Int.reduceLE, Int.reduceToNat, Int.reduceNeg, Int.reduceAdd, Int.reduceSub, Int.reduceMul, Int.reduceMod, Int.reduceDiv, reduceCtorEq, Nat.reducePow, Int.reducePow, ac_image_Lines_L0, h1, hB, List.map_nil]
   · have e : rest = [] := List.length_eq_zero_iff.1 (by omega)
     subst e
     rw [lnS, if_neg (by simp)] at hE
     rw [← hE]
     simp (config := { maxSteps := 2000000 }) (disch := (first | omega | (simp only [lens, lenm]; omega))) only [go_sem, ↓reduceIte, Nat.reduceAdd, Nat.reduceEqDiff, Nat.reduceSub, Nat.reduceMul, Nat.reduceLT, Nat.reduceLeDiff, Nat.reduceBEq, Int.reduceEq, Int.reduceLT, Int.reduceLE, Int.reduceToNat, Int.reduceNeg, Int.reduceAdd, Int.reduceSub, Int.reduceMul, Int.reduceMod, Int.reduceDiv, reduceCtorEq, Nat.reducePow, Int.reducePow, ac_image_Lines_L0, List.take_length]
theorem w_image_Check (tab : Tab) (gl : Gl) (n1 n2 : Nat) (h1 : tab.look n1 = some ct_name.fs) (h2 : tab.look n2 = some ct_lns.fs) (x : Im) (hm : imM x) :
   (ac_image_Check n1 n2).wp tab gl (zipF 0 [.t (imT x)]) (zipF 0 []) (resW [(2, none)] 0 (fun r o => r = .t (.int .i64 (chkI x)) ∧ o = [])) := by
 obtain ⟨a, s, v, p⟩ := x
 have hp := hm.2.1
 have hN := name_eq hm.1
 have hL := lns_eq hm
 have lL := lnL_len (p := p)
 simp only at hp hN
 have hl2 : ((lnL p).map bsT).length = (lnL p).length := List.length_map _
 by_cases hb : badI a v
 · have hr : chkI (a, s, v, p) = 1 := if_pos hb
   rw [hr]
   by_cases c1 : a < 1
   · simp (config := { maxSteps := 2000000 }) (disch := (first | omega | (simp only [lens, lenm]; omega))) only [go_sem, ↓reduceIte, Nat.reduceAdd, Nat.reduceEqDiff, Nat.reduceSub, Nat.reduceMul, Nat.reduceLT, Nat.reduceLeDiff, Nat.reduceBEq, Int.reduceEq, Int.reduceLT, Int.reduceLE, Int.reduceToNat, Int.reduceNeg, Int.reduceAdd, Int.reduceSub, Int.reduceMul, Int.reduceMod, Int.reduceDiv, reduceCtorEq, Nat.reducePow, Int.reducePow, ac_image_Check, imT_def, c1]
   by_cases c2 : 4 < a
   · simp (config := { maxSteps := 2000000 }) (disch := (first | omega | (simp only [lens, lenm]; omega))) only [go_sem, ↓reduceIte, Nat.reduceAdd, Nat.reduceEqDiff, Nat.reduceSub, Nat.reduceMul, Nat.reduceLT, Nat.reduceLeDiff, Nat.reduceBEq, Int.reduceEq, Int.reduceLT, Int.reduceLE, Int.reduceToNat, Int.reduceNeg, Int.reduceAdd, Int.reduceSub, Int.reduceMul, Int.reduceMod, Int.reduceDiv, reduceCtorEq, Nat.reducePow, Int.reducePow, ac_image_Check, imT_def, c1, c2]
   by_cases c3 : v < 0
   · simp (config := { maxSteps := 2000000 }) (disch := (first | omega | (simp only [lens, lenm]; omega))) only [go_sem, ↓reduceIte, Nat.reduceAdd, Nat.reduceEqDiff, Nat.reduceSub, Nat.reduceMul, Nat.reduceLT, Nat.reduceLeDiff, Nat.reduceBEq, Int.reduceEq, Int.reduceLT, Int.reduceLE, Int.reduceToNat, Int.reduceNeg, Int.reduceAdd, Int.reduceSub, Int.reduceMul, Int.reduceMod, Int.reduceDiv, reduceCtorEq, Nat.reducePow, Int.reducePow, ac_image_Check, imT_def, c1, c2, c3]
   have c4 : 1000000 < v := by unfold badI at hb; omega
   simp (config := { maxSteps := 2000000 }) (disch := (first | omega | (simp only [lens, lenm]; omega))) only [go_sem, ↓reduceIte, Nat.reduceAdd, Nat.reduceEqDiff, Nat.reduceSub, Nat.reduceMul, Nat.reduceLT, Nat.reduceLeDiff, Nat.reduceBEq, Int.reduceEq, Int.reduceLT, Int.reduceLE, Int.reduceToNat, Int.reduceNeg, Int.reduceAdd, Int.reduceSub, Int.reduceMul, Int.reduceMod, Int.reduceDiv, reduceCtorEq, Nat.reducePow, Int.reducePow, ac_image_Check, imT_def, c1, c2, c3, c4]
 · have hb' := hb
   unfold badI at hb'
   have c1 : ¬ a < 1 := by omega
   have c2 : ¬ 4 < a := by omega
   have c3 : ¬ v < 0 := by omega
   have c4 : ¬ 1000000 < v := by omega
   cases hn : nameB s
   · have hr : chkI (a, s, v, p) = 43 := by unfold chkI; rw [if_neg hb, if_pos hn]
     rw [hr]
     rw [hn] at hN
     simp (config := { maxSteps := 2000000 }) (disch := (first | omega | (simp only [lens, lenm]; omega))) only [go_sem, ↓reduceIte, Nat.reduceAdd, Nat.reduceEqDiff, Nat.reduceSub, Nat.reduceMul, Nat.reduceLT, Nat.reduceLeDiff, Nat.reduceBEq, Int.reduceEq, Int.reduceLT, Int.reduceLE, Int.reduceToNat, Int.reduceNeg, Int.reduceAdd, Int.reduceSub, Int.reduceMul, Int.reduceMod, Int.reduceDiv, reduceCtorEq, Nat.reducePow, Int.reducePow, ac_image_Check, imT_def, c1, c2, c3, c4, h1, hN]
   · rw [hn] at hN
     have hn2 : ¬ nameB s = false := by rw [hn]; decide
     by_cases c5 : 64 < p.length
     · have hr : chkI (a, s, v, p) = 4 := by unfold chkI; rw [if_neg hb, if_neg hn2, if_pos c5]
       rw [hr]
       simp (config := { maxSteps := 2000000 }) (disch := (first | omega | (simp only [lens, lenm]; omega))) only [go_sem, ↓reduceIte, Nat.reduceAdd, Nat.reduceEqDiff, Nat.reduceSub, Nat.reduceMul, Nat.reduceLT, Nat.reduceLeDiff, Nat.reduceBEq, Int.reduceEq, Int.reduceLT, Int.reduceLE, Int.reduceToNat, Int.reduceNeg, Int.reduceAdd, Int.reduceSub, Int.reduceMul, Int.reduceMod, Int.reduceDiv, reduceCtorEq, Nat.reducePow, Int.reducePow, ac_image_Check, imT_def, c1, c2, c3, c4, h1, hN, c5]
     · have hr : chkI (a, s, v, p) = if a = 4 ∧ (lnL p).length = 0 then 40 else 0 := by unfold chkI; rw [if_neg hb, if_neg hn2, if_neg c5]
       rw [hr]
       generalize lnL p = L at *
       by_cases c6 : a = 4
       · subst c6
         by_cases c7 : L.length = 0
         · simp (config := { maxSteps := 2000000 }) (disch := (first | omega | (simp only [lens, lenm]; omega))) only [go_sem, ↓reduceIte, Nat.reduceAdd, Nat.reduceEqDiff, Nat.reduceSub, Nat.reduceMul, Nat.reduceLT, Nat.reduceLeDiff, Nat.reduceBEq, Int.reduceEq, Int.reduceLT, Int.reduceLE, Int.reduceToNat, Int.reduceNeg, Int.reduceAdd, Int.reduceSub, Int.reduceMul, Int.reduceMod, Int.reduceDiv, reduceCtorEq, Nat.reducePow, Int.reducePow, ac_image_Check, imT_def, c3, c4, h1, hN, c5, h2, hL, c7]
         · have c8 : ((L.length : Int) == 0) = false := by simpa using (by omega : ¬ (L.length : Int) = 0)
           simp (config := { maxSteps := 2000000 }) (disch := (first | omega | (simp only [lens, lenm]; omega))) only [go_sem, ↓reduceIte, Nat.reduceAdd, Nat.reduceEqDiff, Nat.reduceSub, Nat.reduceMul, Nat.reduceLT, Nat.reduceLeDiff, Nat.reduceBEq, Int.reduceEq, Int.reduceLT, Int.reduceLE, Int.reduceToNat, Int.reduceNeg, Int.reduceAdd, Int.reduceSub, Int.reduceMul, Int.reduceMod, Int.reduceDiv, reduceCtorEq, Nat.reducePow, Int.reducePow, ac_image_Check, imT_def, c3, c4, h1, hN, c5, h2, hL, c7, c8]
       · have c8 : (a == 4) = false := by simpa using c6
         simp (config := { maxSteps := 2000000 }) (disch := (first | omega | (simp only [lens, lenm]; omega))) only [go_sem, ↓reduceIte, Nat.reduceAdd, Nat.reduceEqDiff, Nat.reduceSub, Nat.reduceMul, Nat.reduceLT, Nat.reduceLeDiff, Nat.reduceBEq, Int.reduceEq, Int.reduceLT, Int.reduceLE, Int.reduceToNat, Int.reduceNeg, Int.reduceAdd, Int.reduceSub, Int.reduceMul, Int.reduceMod, Int.reduceDiv, reduceCtorEq, Nat.reducePow, Int.reducePow, ac_image_Check, imT_def, c1, c2, c3, c4, h1, hN, c5, c6, c8]
theorem w_image_Encode (tab : Tab) (gl : Gl) (n1 n2 n3 : Nat) (h1 : tab.look n1 = some ct_imc.fs) (h2 : tab.look n2 = some ct_uint.fs) (h3 : tab.look n3 = some ct_blob.fs) (x : Im) (hm : imM x) :
   (ac_image_Encode n1 n2 n3).wp tab gl (zipF 0 [.t (imT x)]) (zipF 0 []) (resW [(2, none)] 0 (fun r o => r = .t (.sl ((encI' x).map byteT)) ∧ o = [])) := by
 obtain ⟨a, s, v, p⟩ := x
 have hC := imc_eq hm
 by_cases hz : chkI (a, s, v, p) = 0
 · obtain ⟨g1, g2, g3, g4, g5⟩ := chkI_good hz
   have g6 := nameB_len g3
   simp only at g1 g2 g3 g4 g6
   have hr : encI' (a, s, v, p) = blL (blL (beI 1 a 1 ++ beI 4 v 4) s) p := if_pos hz
   rw [hr]
   rw [hz] at hC
   have u1 : ct_uint.fs [.t (.sl []), .t (.int .i64 1), .t (.int .i64 a)] [] = _ := uintN (b := []) (k := 1) (n := a) ⟨by decide, by decide, by decide⟩
   rw [List.nil_append] at u1
   have l1 : (beI 1 a 1).length = 1 := beI_len
   have u2 : ct_uint.fs [.t (.sl ((beI 1 a 1).map byteT)), .t (.int .i64 4), .t (.int .i64 v)] [] = _ := uintN (b := beI 1 a 1) (k := 4) (n := v) ⟨by rw [l1]; decide, by decide, by decide⟩
   have l2 : (beI 1 a 1 ++ beI 4 v 4).length = 5 := by rw [List.length_append, beI_len, beI_len]
   have b1 := blob_eq (b := beI 1 a 1 ++ beI 4 v 4) (x := s) ⟨by omega, by omega⟩
   have l3 : (blL (beI 1 a 1 ++ beI 4 v 4) s).length = 5 + 2 + s.length := by rw [blL_len, l2]
   have b2 := blob_eq (b := blL (beI 1 a 1 ++ beI 4 v 4) s) (x := p) ⟨by omega, by omega⟩
   have l4 : (blL (blL (beI 1 a 1 ++ beI 4 v 4) s) p).length = 5 + 2 + s.length + 2 + p.length := by rw [blL_len, l3]
   rw [l1] at u2
   rw [l2] at b1
   rw [l3] at b2
   generalize blL (blL (beI 1 a 1 ++ beI 4 v 4) s) p = B4 at *
   generalize blL (beI 1 a 1 ++ beI 4 v 4) s = B3 at *
   generalize beI 1 a 1 ++ beI 4 v 4 = B2 at *
   generalize beI 1 a 1 = B1 at *
   have t1 : List.take 1 B1 = B1 := List.take_of_length_le (by omega)
   have t2 : List.take 5 B2 = B2 := List.take_of_length_le (by omega)
   have t3 : List.take (5 + 2 + s.length) B3 = B3 := List.take_of_length_le (by omega)
   have t4 : List.take (5 + 2 + s.length + 2 + p.length) B4 = B4 := List.take_of_length_le (by omega)
   simp (config := { maxSteps := 2000000 }) (disch := (first | omega | (simp only [lens, lenm]; omega))) only [go_sem, ↓reduceIte, Nat.reduceAdd, Nat.reduceEqDiff, Nat.reduceSub, Nat.reduceMul, Nat.reduceLT, Nat.reduceLeDiff, Nat.reduceBEq, Int.reduceEq, Int.reduceLT, Int.reduceLE, Int.reduceToNat, Int.reduceNeg, Int.reduceAdd, Int.reduceSub, Int.reduceMul, Int.reduceMod, Int.reduceDiv, reduceCtorEq, Nat.reducePow, Int.reducePow, ac_image_Encode, imT_def, h1, hC, h2, u1, l1, t1, u2, l2, t2, h3, b1, l3, t3, b2, l4, t4, List.length_nil, List.map_nil, List.take_length]
 · have hr : encI' (a, s, v, p) = [] := if_neg hz
   rw [hr]
   have hz' : (chkI (a, s, v, p) != 0) = true := by simpa using hz
   simp (config := { maxSteps := 2000000 }) (disch := (first | omega | (simp only [lens, lenm]; omega))) only [go_sem, ↓reduceIte, Nat.reduceAdd, Nat.reduceEqDiff, Nat.reduceSub, Nat.reduceMul, Nat.reduceLT, Nat.reduceLeDiff, Nat.reduceBEq, Int.reduceEq, Int.reduceLT, Int.reduceLE, Int.reduceToNat, Int.reduceNeg, Int.reduceAdd, Int.reduceSub, Int.reduceMul, Int.reduceMod, Int.reduceDiv, reduceCtorEq, Nat.reducePow, Int.reducePow, ac_image_Encode, imT_def, h1, hC, hz', List.map_nil]
theorem w_image_Digests (tab : Tab) (gl : Gl) (n1 n2 : Nat) (h1 : tab.look n1 = some ct_enI.fs) (h3 : tab.look n2 = some ct_sumA.fs) (x : Im) (act : Int) (hm : imM x) (ha : 0 ≤ act ∧ act < 4) :
   (ac_image_Digests n1 n2).wp tab gl (zipF 0 [.t (imT x), .t (.int .i64 act)]) (zipF 0 []) (resW [(4, none)] 0 (fun r o => r = .t (.sl [bsT (digI x act 0), bsT (digI x act 1)]) ∧ o = [])) := by
 have hl := encI_len hm
 have e0 : digI x act 0 = if 0 < (encI' x).length ∧ act % 2 = 1 then sum1 (encI' x) else [] := by unfold digI; simp [sumA]
 have e1 : digI x act 1 = if 0 < (encI' x).length ∧ act / 2 % 2 = 1 then sum256 (encI' x) else [] := by unfold digI; simp [sumA]
 obtain ⟨a, s, v, p⟩ := x
 have hE := enI_eq hm
 generalize encI' (a, s, v, p) = B at *
 have s0 := sumA_eq0 (bs := B) (by omega)
 have s1 := sumA_eq1 (bs := B) (by omega)
 have l0 : (sum1 B).length = 20 := sum1_length
 have l1 : (sum256 B).length = 32 := sum256_length
 have t0 : List.take 20 (sum1 B) = sum1 B := take_sum1
 have t1 : List.take 32 (sum256 B) = sum256 B := take_sum256
 generalize sum1 B = S0 at *
 generalize sum256 B = S1 at *
 simp only [bsT_def]
 simp (config := { maxSteps := 2000000 }) (disch := (first | omega | (simp only [lens, lenm]; omega))) only [go_sem, ↓reduceIte, Nat.reduceAdd, Nat.reduceEqDiff, Nat.reduceSub, Nat.reduceMul, Nat.reduceLT, Nat.reduceLeDiff, Nat.reduceBEq, Int.reduceEq, Int.reduceLT, Int.reduceLE, Int.reduceToNat, Int.reduceNeg, Int.reduceAdd, Int.reduceSub, Int.reduceMul, Int.reduceMod, Int.reduceDiv, reduceCtorEq, Nat.reducePow, Int.reducePow, ac_image_Digests, imT_def, h1, hE]
 repeat refine And.intro rfl ?_
 refine loop_upto 2 (fun i => [(1, .t (.int .i64 act)), (5, .sl 8192 0 2), (6, .t (.sl (B.map byteT))), (12, .t (.int .i64 2)), (13, .t (.int .i64 (i : Nat)))])
   (fun i => [(8192, .live 1 [.t (.sl ((if 0 < i then digI (a, s, v, p) act 0 else []).map byteT)), .t (.sl ((if 1 < i then digI (a, s, v, p) act 1 else []).map byteT))] true false)]) ?_ (fun i hi => ?_)
 · refine Weak.rd id ?_ ?_ rfl
   all_goals simp (config := { maxSteps := 2000000 }) (disch := (first | omega | (simp only [lens, lenm]; omega))) only [go_sem, ↓reduceIte, Nat.reduceAdd, Nat.reduceEqDiff, Nat.reduceSub, Nat.reduceMul, Nat.reduceLT, Nat.reduceLeDiff, Nat.reduceBEq, Int.reduceEq, Int.reduceLT, Int.reduceLE, Int.reduceToNat, Int.reduceNeg, Int.reduceAdd, Int.reduceSub, Int.reduceMul, Int.reduceMod, Int.reduceDiv, reduceCtorEq, Nat.reducePow, Int.reducePow, id, List.map_nil, Nat.lt_irrefl, Nat.not_lt_zero]
 · have f0 : Int.fdiv act 1 = act := by rw [Int.fdiv_eq_ediv_of_nonneg _ (by decide), Int.ediv_one]
   have f1 : Int.fdiv act 2 = act / 2 := Int.fdiv_eq_ediv_of_nonneg _ (by decide)
   rcases (show i = 0 ∨ i = 1 ∨ i = 2 by omega) with rfl | rfl | rfl
   · by_cases z : 0 < B.length
     · by_cases b0 : act % 2 = 1
       · rw [if_pos ⟨z, b0⟩] at e0
         have q : (act % 2 == 1) = true := by simpa using b0
         simp (config := { maxSteps := 2000000 }) (disch := (first | omega | (simp only [lens, lenm]; omega))) only [go_sem, ↓reduceIte, Nat.reduceAdd, Nat.reduceEqDiff, Nat.reduceSub, Nat.reduceMul, Nat.reduceLT, Nat.reduceLeDiff, Nat.reduceBEq, Int.reduceEq, Int.reduceLT, Int.reduceLE, Int.reduceToNat, Int.reduceNeg, Int.reduceAdd, Int.reduceSub, Int.reduceMul, Int.reduceMod, Int.reduceDiv, reduceCtorEq, Nat.reducePow, Int.reducePow, ac_image_Digests_L0, f0, q, z, h3, s0, List.map_nil, Nat.lt_irrefl, Nat.not_lt_zero]
         refine Weak.cv (hv := []) [32832] id ?_ rfl
         simp (config := { maxSteps := 2000000 }) (disch := (first | omega | (simp only [lens, lenm]; omega))) only [go_sem, ↓reduceIte, Nat.reduceAdd, Nat.reduceEqDiff, Nat.reduceSub, Nat.reduceMul, Nat.reduceLT, Nat.reduceLeDiff, Nat.reduceBEq, Int.reduceEq, Int.reduceLT, Int.reduceLE, Int.reduceToNat, Int.reduceNeg, Int.reduceAdd, Int.reduceSub, Int.reduceMul, Int.reduceMod, Int.reduceDiv, reduceCtorEq, Nat.reducePow, Int.reducePow, id, e0, l0, t0, List.map_nil]
         rfl
       · rw [if_neg (fun h => b0 h.2)] at e0
         have q : (act % 2 == 1) = false := by simpa using b0
         simp (config := { maxSteps := 2000000 }) (disch := (first | omega | (simp only [lens, lenm]; omega))) only [go_sem, ↓reduceIte, Nat.reduceAdd, Nat.reduceEqDiff, Nat.reduceSub, Nat.reduceMul, Nat.reduceLT, Nat.reduceLeDiff, Nat.reduceBEq, Int.reduceEq, Int.reduceLT, Int.reduceLE, Int.reduceToNat, Int.reduceNeg, Int.reduceAdd, Int.reduceSub, Int.reduceMul, Int.reduceMod, Int.reduceDiv, reduceCtorEq, Nat.reducePow, Int.reducePow, ac_image_Digests_L0, f0, q, z, List.map_nil, Nat.lt_irrefl, Nat.not_lt_zero]
         refine Weak.rd id ?_ ?_ rfl
         all_goals simp (config := { maxSteps := 2000000 }) (disch := (first | omega | (simp only [lens, lenm]; omega))) only [go_sem, ↓reduceIte, Nat.reduceAdd, Nat.reduceEqDiff, Nat.reduceSub, Nat.reduceMul, Nat.reduceLT, Nat.reduceLeDiff, Nat.reduceBEq, Int.reduceEq, Int.reduceLT, Int.reduceLE, Int.reduceToNat, Int.reduceNeg, Int.reduceAdd, Int.reduceSub, Int.reduceMul, Int.reduceMod, Int.reduceDiv, reduceCtorEq, Nat.reducePow, Int.reducePow, id, e0, List.map_nil, Nat.lt_irrefl]
     · rw [if_neg (fun h => z h.1)] at e0
       simp (config := { maxSteps := 2000000 }) (disch := (first | omega | (simp only [lens, lenm]; omega))) only [go_sem, ↓reduceIte, Nat.reduceAdd, Nat.reduceEqDiff, Nat.reduceSub, Nat.reduceMul, Nat.reduceLT, Nat.reduceLeDiff, Nat.reduceBEq, Int.reduceEq, Int.reduceLT, Int.reduceLE, Int.reduceToNat, Int.reduceNeg, Int.reduceAdd, Int.reduceSub, Int.reduceMul, Int.reduceMod, Int.reduceDiv, reduceCtorEq, Nat.reducePow, Int.reducePow, ac_image_Digests_L0, z, List.map_nil, Nat.lt_irrefl, Nat.not_lt_zero]
       refine Weak.rd id ?_ ?_ rfl
       all_goals simp (config := { maxSteps := 2000000 }) (disch := (first | omega | (simp only [lens, lenm]; omega))) only [go_sem, ↓reduceIte, Nat.reduceAdd, Nat.reduceEqDiff, Nat.reduceSub, Nat.reduceMul, Nat.reduceLT, Nat.reduceLeDiff, Nat.reduceBEq, Int.reduceEq, Int.reduceLT, Int.reduceLE, Int.reduceToNat, Int.reduceNeg, Int.reduceAdd, Int.reduceSub, Int.reduceMul, Int.reduceMod, Int.reduceDiv, reduceCtorEq, Nat.reducePow, Int.reducePow, id, e0, List.map_nil, Nat.lt_irrefl]
   · by_cases z : 0 < B.length
     · by_cases b0 : act / 2 % 2 = 1
       · rw [if_pos ⟨z, b0⟩] at e1
         have q : (act / 2 % 2 == 1) = true := by simpa using b0
         simp (config := { maxSteps := 2000000 }) (disch := (first | omega | (simp only [lens, lenm]; omega))) only [go_sem, ↓reduceIte, Nat.reduceAdd, Nat.reduceEqDiff, Nat.reduceSub, Nat.reduceMul, Nat.reduceLT, Nat.reduceLeDiff, Nat.reduceBEq, Int.reduceEq, Int.reduceLT, Int.reduceLE, Int.reduceToNat, Int.reduceNeg, Int.reduceAdd, Int.reduceSub, Int.reduceMul, Int.reduceMod, Int.reduceDiv, reduceCtorEq, Nat.reducePow, Int.reducePow, ac_image_Digests_L0, f1, q, z, h3, s1, List.map_nil, Nat.lt_irrefl, Nat.not_lt_zero]
         refine Weak.cv (hv := []) [32832] id ?_ rfl
         simp (config := { maxSteps := 2000000 }) (disch := (first | omega | (simp only [lens, lenm]; omega))) only [go_sem, ↓reduceIte, Nat.reduceAdd, Nat.reduceEqDiff, Nat.reduceSub, Nat.reduceMul, Nat.reduceLT, Nat.reduceLeDiff, Nat.reduceBEq, Int.reduceEq, Int.reduceLT, Int.reduceLE, Int.reduceToNat, Int.reduceNeg, Int.reduceAdd, Int.reduceSub, Int.reduceMul, Int.reduceMod, Int.reduceDiv, reduceCtorEq, Nat.reducePow, Int.reducePow, id, e1, l1, t1, List.map_nil]
         rfl
       · rw [if_neg (fun h => b0 h.2)] at e1
         have q : (act / 2 % 2 == 1) = false := by simpa using b0
         simp (config := { maxSteps := 2000000 }) (disch := (first | omega | (simp only [lens, lenm]; omega))) only [go_sem, ↓reduceIte, Nat.reduceAdd, Nat.reduceEqDiff, Nat.reduceSub, Nat.reduceMul, Nat.reduceLT, Nat.reduceLeDiff, Nat.reduceBEq, Int.reduceEq, Int.reduceLT, Int.reduceLE, Int.reduceToNat, Int.reduceNeg, Int.reduceAdd, Int.reduceSub, Int.reduceMul, Int.reduceMod, Int.reduceDiv, reduceCtorEq, Nat.reducePow, Int.reducePow, ac_image_Digests_L0, f1, q, z, List.map_nil, Nat.lt_irrefl, Nat.not_lt_zero]
         refine Weak.rd id ?_ ?_ rfl
         all_goals simp (config := { maxSteps := 2000000 }) (disch := (first | omega | (simp only [lens, lenm]; omega))) only [go_sem, ↓reduceIte, Nat.reduceAdd, Nat.reduceEqDiff, Nat.reduceSub, Nat.reduceMul, Nat.reduceLT, Nat.reduceLeDiff, Nat.reduceBEq, Int.reduceEq, Int.reduceLT, Int.reduceLE, Int.reduceToNat, Int.reduceNeg, Int.reduceAdd, Int.reduceSub, Int.reduceMul, Int.reduceMod, Int.reduceDiv, reduceCtorEq, Nat.reducePow, Int.reducePow, id, e1, List.map_nil, Nat.lt_irrefl]
     · rw [if_neg (fun h => z h.1)] at e1
       simp (config := { maxSteps := 2000000 }) (disch := (first | omega | (simp only [lens, lenm]; omega))) only [go_sem, ↓reduceIte, Nat.reduceAdd, Nat.reduceEqDiff, Nat.reduceSub, Nat.reduceMul, Nat.reduceLT, Nat.reduceLeDiff, Nat.reduceBEq, Int.reduceEq, Int.reduceLT, Int.reduceLE, Int.reduceToNat, Int.reduceNeg, Int.reduceAdd, Int.reduceSub, Int.reduceMul, Int.reduceMod, Int.reduceDiv, reduceCtorEq, Nat.reducePow, Int.reducePow, ac_image_Digests_L0, z, List.map_nil, Nat.lt_irrefl, Nat.not_lt_zero]
       refine Weak.rd id ?_ ?_ rfl
       all_goals simp (config := { maxSteps := 2000000 }) (disch := (first | omega | (simp only [lens, lenm]; omega))) only [go_sem, ↓reduceIte, Nat.reduceAdd, Nat.reduceEqDiff, Nat.reduceSub, Nat.reduceMul, Nat.reduceLT, Nat.reduceLeDiff, Nat.reduceBEq, Int.reduceEq, Int.reduceLT, Int.reduceLE, Int.reduceToNat, Int.reduceNeg, Int.reduceAdd, Int.reduceSub, Int.reduceMul, Int.reduceMod, Int.reduceDiv, reduceCtorEq, Nat.reducePow, Int.reducePow, id, e1, List.map_nil, Nat.lt_irrefl]
   · simp (config := { maxSteps := 2000000 }) (disch := (first | omega | (simp only [lens, lenm]; omega))) only [go_sem, ↓reduceIte, Nat.reduceAdd, Nat.reduceEqDiff, Nat.reduceSub, Nat.reduceMul, Nat.reduceLT, Nat.reduceLeDiff, Nat.reduceBEq, Int.reduceEq, Int.reduceLT, Int.reduceLE, Int.reduceToNat, Int.reduceNeg, Int.reduceAdd, Int.reduceSub, Int.reduceMul, Int.reduceMod, Int.reduceDiv, reduceCtorEq, Nat.reducePow, Int.reducePow, ac_image_Digests_L0]
def measT : List T := [.int .i64 (-1), .int .i64 0, .int .i64 4, .int .i64 8, .int .i64 9]
theorem w_image_Register (tab : Tab) (gl : Gl) (g : Nat) (hg : gl g = some measT) (a : Int) : (ac_image_Register g).wp tab gl (zipF 0 [.t (.int .i64 a)]) (zipF 0 []) (resW [(2, none)] 0 (fun r o => r = .t (.int .i64 (regI a)) ∧ o = [])) := by
 by_cases c0 : a < 0
 · have hr : regI a = -1 := by unfold regI; rw [if_neg (by omega), if_neg (by omega), if_neg (by omega), if_neg (by omega)]
   simp (config := { maxSteps := 2000000 }) (disch := (first | omega | (simp only [lens, lenm]; omega))) only [go_sem, ↓reduceIte, Nat.reduceAdd, Nat.reduceEqDiff, Nat.reduceSub, Nat.reduceMul, Nat.reduceLT, Nat.reduceLeDiff, Nat.reduceBEq, Int.reduceEq, Int.reduceLT, Int.reduceLE, Int.reduceToNat, Int.reduceNeg, Int.reduceAdd, Int.reduceSub, Int.reduceMul, Int.reduceMod, Int.reduceDiv, reduceCtorEq, Nat.reducePow, Int.reducePow, ac_image_Register, c0, hr]
 by_cases c5 : 5 ≤ a
 · have hr : regI a = -1 := by unfold regI; rw [if_neg (by omega), if_neg (by omega), if_neg (by omega), if_neg (by omega)]
   simp (config := { maxSteps := 2000000 }) (disch := (first | omega | (simp only [lens, lenm]; omega))) only [go_sem, ↓reduceIte, Nat.reduceAdd, Nat.reduceEqDiff, Nat.reduceSub, Nat.reduceMul, Nat.reduceLT, Nat.reduceLeDiff, Nat.reduceBEq, Int.reduceEq, Int.reduceLT, Int.reduceLE, Int.reduceToNat, Int.reduceNeg, Int.reduceAdd, Int.reduceSub, Int.reduceMul, Int.reduceMod, Int.reduceDiv, reduceCtorEq, Nat.reducePow, Int.reducePow, ac_image_Register, c0, c5, hr]
 rcases (show a = 0 ∨ a = 1 ∨ a = 2 ∨ a = 3 ∨ a = 4 by omega) with rfl | rfl | rfl | rfl | rfl
 all_goals simp (config := { maxSteps := 2000000 }) (disch := (first | omega | (simp only [lens, lenm]; omega))) only [go_sem, ↓reduceIte, Nat.reduceAdd, Nat.reduceEqDiff, Nat.reduceSub, Nat.reduceMul, Nat.reduceLT, Nat.reduceLeDiff, Nat.reduceBEq, Int.reduceEq, Int.reduceLT, Int.reduceLE, Int.reduceToNat, Int.reduceNeg, Int.reduceAdd, Int.reduceSub, Int.reduceMul, Int.reduceMod, Int.reduceDiv, reduceCtorEq, Nat.reducePow, Int.reducePow, ac_image_Register, hg, measT, regI]
 all_goals trace_state
def ct_itoa : Ct where
 α := Int
 as x := [.t (.int .i64 x)]
 ins _ := []
 pre x := 0 ≤ x ∧ x ≤ 1000000
 r x := .t (strT (numL x.toNat))
 outs _ := []
 inj := by
   intro a b h _
   simp only [List.cons.injEq, V.t.injEq, T.int.injEq, true_and, and_true] at h
   subst h; exact ⟨rfl, rfl⟩
theorem itoa_eq {n : Nat} (h : n ≤ 1000000) : ct_itoa.fs [.t (.int .i64 (n : Int))] [] = some (.t (strT (numL n)), []) := ct_itoa.eq (n : Int) ⟨by omega, by omega⟩
theorem w_event_OfImage (tab : Tab) (gl : Gl) (n1 n2 n3 n4 : Nat) (h1 : tab.look n1 = some ct_imc.fs) (h2 : tab.look n2 = some ct_reg.fs) (h3 : tab.look n3 = some ct_imd.fs) (h4 : tab.look n4 = some ct_itoa.fs) (x : Im) (act : Int) (hm : imM x) (ha : 0 ≤ act ∧ act < 4) :
   (ac_event_OfImage n1 n2 n3 n4).wp tab gl (zipF 0 [.t (imT x), .t (.int .i64 act)]) (zipF 0 []) (resW [(4, some (4, true))] 0 (fun r o => r = .t (evT (ofI x act)) ∧ o = [])) := by
 obtain ⟨a, s, v, p⟩ := x
 have hC := imc_eq hm
 have hD := imd_eq (act := act) ⟨hm, ha⟩
 have hR := reg_eq (a := a)
 by_cases hz : chkI (a, s, v, p) = 0
 · obtain ⟨g1, g2, g3, g4, g5⟩ := chkI_good hz
   have g6 := nameB_len g3
   simp only at g1 g2 g3 g4 g6
   rw [hz] at hC
   by_cases c4 : a = 4
   · subst c4
     have hr : ofI (4, s, v, p) act = (0, 0, [], []) := if_pos (.inr rfl)
     rw [hr]
     simp (config := { maxSteps := 2000000 }) (disch := (first | omega | (simp only [lens, lenm]; omega))) only [go_sem, ↓reduceIte, Nat.reduceAdd, Nat.reduceEqDiff, Nat.reduceSub, Nat.reduceMul, Nat.reduceLT, Nat.reduceLeDiff, Nat.reduceBEq, Int.reduceEq, Int.reduceLT, Int.reduceLE, Int.reduceToNat, Int.reduceNeg, Int.reduceAdd, Int.reduceSub, Int.reduceMul, Int.reduceMod, Int.reduceDiv, reduceCtorEq, Nat.reducePow, Int.reducePow, ac_event_OfImage, imT_def, evT_def, h1, hC, List.map_nil]
   · have d4 : (a == 4) = false := by simpa using c4
     obtain ⟨m, rfl⟩ := Int.eq_ofNat_of_zero_le g2.1
     have hL := itoa_eq (n := m) (by omega)
     have hr : ofI (a, s, (m : Int), p) act = (regI a, 1, [digI (a, s, (m : Int), p) act 0, digI (a, s, (m : Int), p) act 1], labL s m) := by
       unfold ofI; rw [if_neg (by simp only; omega)]; rfl
     have hlN : (numL m).length ≤ 8 := decL_len.2
     have hlab : labL s m = s ++ [32] ++ numL m := rfl
     rw [hr, hlab]
     generalize digI (a, s, (m : Int), p) act 0 = D0 at *
     generalize digI (a, s, (m : Int), p) act 1 = D1 at *
     generalize numL m = N at *
     generalize regI a = R at *
     have tL : List.take (s.length + 1 + N.length) (s ++ [32] ++ N) = s ++ [32] ++ N := List.take_of_length_le (by simp; omega)
     have tl : (s ++ [32] ++ N).length = s.length + 1 + N.length := by simp; omega
     have t2 : (s ++ [32]).length = s.length + 1 := by simp
     have b1 : binT .add (strT s) (strT [32]) = some (strT (s ++ [32])) := bin_s_add (by simp; omega)
     have b2 : binT .add (strT (s ++ [32])) (strT N) = some (strT (s ++ [32] ++ N)) := bin_s_add (by simp; omega)
     simp (config := { maxSteps := 2000000 }) (disch := (first | omega | (simp only [lens, lenm]; omega))) only [go_sem, ↓reduceIte, Nat.reduceAdd, Nat.reduceEqDiff, Nat.reduceSub, Nat.reduceMul, Nat.reduceLT, Nat.reduceLeDiff, Nat.reduceBEq, Int.reduceEq, Int.reduceLT, Int.reduceLE, Int.reduceToNat, Int.reduceNeg, Int.reduceAdd, Int.reduceSub, Int.reduceMul, Int.reduceMod, Int.reduceDiv, reduceCtorEq, Nat.reducePow, Int.reducePow, ac_event_OfImage, imT_def, evT_def, h1, hC, d4, h2, hR, h3, hD, b1, h4, hL, b2, tl, tL, List.take_length]
     all_goals rfl
 · have hr : ofI (a, s, v, p) act = (0, 0, [], []) := if_pos (.inl hz)
   rw [hr]
   have hz' : (chkI (a, s, v, p) != 0) = true := by simpa using hz
   simp (config := { maxSteps := 2000000 }) (disch := (first | omega | (simp only [lens, lenm]; omega))) only [go_sem, ↓reduceIte, Nat.reduceAdd, Nat.reduceEqDiff, Nat.reduceSub, Nat.reduceMul, Nat.reduceLT, Nat.reduceLeDiff, Nat.reduceBEq, Int.reduceEq, Int.reduceLT, Int.reduceLE, Int.reduceToNat, Int.reduceNeg, Int.reduceAdd, Int.reduceSub, Int.reduceMul, Int.reduceMod, Int.reduceDiv, reduceCtorEq, Nat.reducePow, Int.reducePow, ac_event_OfImage, imT_def, evT_def, h1, hC, hz', List.map_nil]
theorem ofI_m {x : Im} {act : Int} (ha : 1 ≤ act ∧ act ≤ 3) : evM (ofI x act) := by
 by_cases h : chkI x ≠ 0 ∨ x.1 = 4
 · have e : ofI x act = (0, 0, [], []) := if_pos h
   rw [e]
   exact ⟨by unfold modL; simp, by simp⟩
 · exact (ofI_ok ha (by omega) (by omega)).2
theorem w_EventOfImage (tab : Tab) (gl : Gl) (n1 n2 n3 n4 n5 n6 n7 n8 n9 n10 n11 n12 n13 n14 : Nat) (h1 : tab.look n1 = some ct_awake.fs) (h2 : tab.look n2 = some ct_cut.fs) (h3 : tab.look n3 = some ct_dact.fs) (h4 : tab.look n4 = some ct_dnew.fs) (h5 : tab.look n5 = some ct_mod.fs) (h6 : tab.look n6 = some ct_dim.fs) (h7 : tab.look n7 = some ct_ofI.fs) (h8 : tab.look n8 = some ct_ofI.fs) (h9 : tab.look n9 = some ct_sameE.fs) (h10 : tab.look n10 = some ct_chk.fs) (h11 : tab.look n11 = some ct_con.fs) (h12 : tab.look n12 = some ct_reg.fs) (h13 : tab.look n13 = some ct_imd.fs) (h14 : tab.look n14 = some ct_lists.fs)
   (ra rv : Int) (rs rp : List UInt8) (hra : rI ra) (hrv : rI rv) (hrs : rs.length ≤ 9223372036854775807) (hrp : rp.length ≤ 9223372036854775807) (cs : List UInt8) (hcs : cs.length ≤ 9223372036854775807) (role a : Int) (hro : rI role) (ha : rI a) :
   (ac_law26_EventOfImage n1 n2 n3 n4 n5 n6 n7 n8 n9 n10 n11 n12 n13 n14).wp tab gl (zipF 0 [.t (imT (ra, rs, rv, rp)), .t (.sl (cs.map byteT)), .t (.int .i64 role), .t (.int .i64 a)]) (zipF 0 []) (resW [(8, none)] 0 (fun r' o => r' = .t (.bool true) ∧ o = [])) := by
 have lA := modI_lt (a := a) (m := 3) (by omega)
 have hA := dact_eq ha
 have hN : ct_dnew.fs [.t (.sl (cs.map byteT)), .t (.int .i64 40)] [] = _ := dnew_eq (b := cs) (n := 40) ⟨hcs, by omega⟩
 have okN : cdOk (cs.take 40, 0) := ⟨Nat.zero_le _, by simp only [List.length_take]; omega⟩
 obtain ⟨A, hAe⟩ : ∃ A, 1 + modI a 3 = A := ⟨_, rfl⟩
 rw [hAe] at hA
 have lA2 : 1 ≤ A ∧ A ≤ 3 := by omega
 have lM := modI_lt (a := role) (m := 4) (by omega)
 have hM := mod_eq (a := role) (b := 4) ⟨hro, by omega⟩
 obtain ⟨r, hr⟩ : ∃ r : Nat, 1 + modI role 4 = r := ⟨(1 + modI role 4).toNat, by omega⟩
 have lr : 1 ≤ r ∧ r ≤ 4 := by omega
 have hI := dim_eq (c := (cs.take 40, 0)) (r := r) ⟨okN, lr⟩
 have hz := imG_ok (c := (cs.take 40, 0)) (r := (r : Int)) (by omega)
 have hrole := imG_role (c := (cs.take 40, 0)) (r := (r : Int))
 have hc : ct_cut.fs [.t (.sl (rp.map byteT)), .t (.int .i64 100)] [] = _ := cut_eq (b := rp) (n := 100) ⟨hrp, by omega⟩
 have lP : (rp.take 100).length ≤ 100 := by rw [List.length_take]; omega
 simp only [cdO, Int.natCast_zero] at hN hI
 generalize cs.take 40 = c0 at *
 generalize rp.take 100 = P at *
 generalize (imG (c0, 0) (r : Int)).2 = c2 at *
 generalize (imG (c0, 0) (r : Int)).1 = I at *
 obtain ⟨xa, xs, xv, xp⟩ := I
 simp only at hrole
 subst hrole
 have mI := chkI_m hz
 have mR : imM (ra, rs, rv, P) := ⟨hrs, by show P.length < 1000000000; omega, hra, hrv⟩
 have q1 := ofI_eq (act := A) ⟨mR, by omega, by omega⟩
 have q2 := ofI_eq (act := A) ⟨mI, by omega, by omega⟩
 have m1 := ofI_m (x := (ra, rs, rv, P)) lA2
 rw [imT_def] at q1 q2 hI
 generalize ofI (ra, rs, rv, P) A = E1 at *
 obtain ⟨f1, f2, f3, f4⟩ := E1
 have s1 := sameE_refl m1
 by_cases c4 : r = 4
 · subst c4
   have hof : ofI (((4 : Nat) : Int), xs, xv, xp) A = (0, 0, [], []) := if_pos (.inr rfl)
   rw [hof] at q2
   have s2 : ct_sameE.fs [.t (.agg [.int .i64 0, .int .i64 0, .sl (([] : List (List UInt8)).map bsT), .sl (([] : List UInt8).map byteT)]), .t (.agg [.int .i64 0, .int .i64 0, .sl (([] : List (List UInt8)).map bsT), .sl (([] : List UInt8).map byteT)])] [] = some (.t (.bool true), []) := sameE_refl ⟨by unfold modL; simp, by simp⟩
   simp only [show ((4 : Nat) : Int) = 4 from rfl] at hr hI q2
   simp only [List.map_nil] at s2
   simp (config := { maxSteps := 2000000 }) (disch := (first | omega | (simp only [lens, lenm]; omega))) only [go_sem, ↓reduceIte, Nat.reduceAdd, Nat.reduceEqDiff, Nat.reduceSub, Nat.reduceMul, Nat.reduceLT, Nat.reduceLeDiff, Nat.reduceBEq, Int.reduceEq, Int.reduceLT, Int.reduceLE, Int.reduceToNat, Int.reduceNeg, Int.reduceAdd, Int.reduceSub, Int.reduceMul, Int.reduceMod, Int.reduceDiv, reduceCtorEq, Nat.reducePow, Int.reducePow, ac_law26_EventOfImage, imT_def, evT_def, h1, awake_eq, h2, hc, h3, hA, h4, hN, h5, hM, hr, h6, hI, h7, q1, q2, h8, h9, s1, s2, List.map_nil]
   all_goals repeat refine And.intro rfl ?_
   all_goals rfl
 · have d4 : ((r : Int) == 4) = false := by simpa using (by omega : ¬ (r : Int) = 4)
   have hof : ofI ((r : Int), xs, xv, xp) A = (regI r, 1, [digI ((r : Int), xs, xv, xp) A 0, digI ((r : Int), xs, xv, xp) A 1], labL xs xv.toNat) := by
     unfold ofI; rw [if_neg (by simp only; omega)]
   have ok := ofI_ok (x := ((r : Int), xs, xv, xp)) lA2 hz (by show ¬ (r : Int) = 4; omega)
   have hD := imd_eq (act := A) ⟨mI, by omega, by omega⟩
   have hRg := reg_eq (a := (r : Int))
   rw [hof] at q2 ok
   generalize digI ((r : Int), xs, xv, xp) A 0 = D0 at *
   generalize digI ((r : Int), xs, xv, xp) A 1 = D1 at *
   generalize labL xs xv.toNat = L at *
   generalize regI (r : Int) = R at *
   obtain ⟨k1, k2⟩ := ok
   have s2 := sameE_refl k2
   have hK := chk_eq (act := A) k2
   rw [k1] at hK
   have hC := con_eq k2
   have hcon : conE (R, 1, [D0, D1], L) = true := if_pos rfl
   rw [hcon] at hC
   have hLi : ct_lists.fs [.t (.sl [bsT D0, bsT D1]), .t (.sl [bsT D0, bsT D1])] [] = some (.t (.bool true), []) := lists_eq (a := [D0, D1]) k2.1
   simp only [List.map_cons, List.map_nil, bsT_def] at s2 hK hC hLi hD
   simp (config := { maxSteps := 2000000 }) (disch := (first | omega | (simp only [lens, lenm]; omega))) only [go_sem, ↓reduceIte, Nat.reduceAdd, Nat.reduceEqDiff, Nat.reduceSub, Nat.reduceMul, Nat.reduceLT, Nat.reduceLeDiff, Nat.reduceBEq, Int.reduceEq, Int.reduceLT, Int.reduceLE, Int.reduceToNat, Int.reduceNeg, Int.reduceAdd, Int.reduceSub, Int.reduceMul, Int.reduceMod, Int.reduceDiv, reduceCtorEq, Nat.reducePow, Int.reducePow, ac_law26_EventOfImage, imT_def, evT_def, h1, awake_eq, h2, hc, h3, hA, h4, hN, h5, hM, hr, h6, hI, h7, q1, q2, h8, h9, s1, s2, d4, h10, hK, h11, hC, h12, hRg, h13, hD, h14, hLi, List.map_cons, List.map_nil]
   all_goals repeat refine And.intro rfl ?_
   all_goals rfl
end Go.Eng
end
section
set_option maxRecDepth 20000
namespace Go.Eng
open Go.MuLone
theorem ok_name {P : Program} {G : Gl} {f : FuncId} {fn : Func} {c : Code} (hf : P.funcs[f]? = some fn) (hname : (fn.name == "runtime.NumGoroutine") = false) (hb : fn.body = some c)
   (h : ∀ (s : ByteArray) (w : World), Calls P f #[.string s] w fun e w' => e = .returned (.bool (nameB s.data.toList)) ∧ (w' = w ∨ ∃ pos, w' = w.iter s pos)) : FOk P G f ct_name.fs := by
 refine ct_name.ok (fun args w => run_callFunc_enter hf hname hb args w) (fun x _ => ?_)
 intro w β F vals env fits hargs
 have hvals : vals = #[.string ⟨List.toArray x⟩] := by
   obtain ⟨l⟩ := vals
   cases hargs with
   | cons h1 h2 =>
     cases h2
     cases h1 with
     | t h => cases h; rfl
 subst hvals
 refine (h _ w).mono fun e w' he => ?_
 obtain ⟨rfl, hw⟩ := he
 refine ⟨_, β, F, rfl, ?_⟩
 have hβ : ∀ k, β k = none := fun k => fits.dom k (Nat.zero_le _)
 have hx : nameB (ByteArray.mk (List.toArray x)).data.toList = nameB x := rfl
 rw [hx]
 have res : ∀ w', RepV β F w' (ct_name.r x) (.bool (nameB x)) := fun w' => .t (.bool _)
 have fit : ∀ w', Fits β F w' (ct_name.outs x) := fun w' => ⟨fun k o hk => (by simp [ct_name] at hk), fun k _ => hβ k, fun i j bi bj b h1 => (by rw [hβ] at h1; cases h1), fun k bi b h1 => (by rw [hβ] at h1; cases h1)⟩
 rcases hw with rfl | ⟨pos, rfl⟩
 · exact ⟨fit _, res _, fun _ _ => rfl, fun k bi b _ h1 => by (rw [hβ] at h1; cases h1), fun _ _ => Iff.rfl, env.Fw, rfl, rfl, rfl, Nat.le_refl _, fun _ _ _ => rfl⟩
 · have hsz : (w.iter ⟨List.toArray x⟩ pos).heap.size = w.heap.size + 1 := by
     show (w.heap.push _).size = _
     exact Array.size_push _
   have hold : ∀ b, b < w.heap.size → (w.iter ⟨List.toArray x⟩ pos).heap[b]? = w.heap[b]? := by
     intro b hb
     show (w.heap.push _)[b]? = _
     rw [Array.getElem?_push, if_neg (by omega)]
   exact ⟨fit _, res _, fun _ _ => rfl, fun k bi b _ h1 => by (rw [hβ] at h1; cases h1), fun _ _ => Iff.rfl, fun b hb => by (have := env.Fw b hb; rw [hsz]; omega), rfl, rfl, rfl, by (rw [hsz]; omega), fun b hb _ => hold b hb⟩
end Go.Eng
end
section
set_option maxRecDepth 20000
namespace Go.Eng
open Go.MuLone
theorem decL_dec : ∀ {k n : Nat}, n < 10 ^ (k + 1) → Lib.decDigits n = decL k n
 | 0, n, h => by rw [decL, Lib.decDigits, dif_pos (by omega)]
 | k + 1, n, h => by
   rw [decL, Lib.decDigits]
   by_cases h10 : n < 10
   · rw [if_pos h10, dif_pos h10]
   · rw [if_neg h10, dif_neg h10, decL_dec (k := k) (n := n / 10) (by rw [Nat.pow_succ] at h; omega)]
theorem itoa_numL {n : Nat} (h : n ≤ 1000000) : Lib.itoa (n : Int) = numL n := by
 unfold Lib.itoa numL
 rw [if_neg (by omega), Int.toNat_natCast]
 exact decL_dec (by have : (10 : Nat) ^ (7 + 1) = 100000000 := by decide
                    omega)
def pow10T : List T := Lib.pow10Tab.map (T.int .u64)
theorem tab_is {P : Program} {nm : String} {g : Nat} {k : IntKind} {zs : List Int} {F : Nat → Prop} {w : World} (hg : P.globalNamed nm = some g)
   (h : RepV (fun _ => none) F w (.ro (zs.map (T.int k))) (.pointer (some ⟨g, 0, none⟩))) (hs : GSz w g (zs.map (T.int k)).length) : Lib.TabIs P w nm k zs := by
 obtain ⟨c, e, z, hc, hz⟩ := hs
 rw [List.length_map] at hz
 have hv : w.var? P nm = some c := by
   unfold World.var?
   rw [hg, Option.bind_some, hc]
 unfold Lib.TabIs
 rw [hv]
 congr 1
 cases h with
 | ro _ a news ha hn h1 hF hw h =>
   rw [List.length_map] at hn
   apply Array.ext
   · simp [hz]
   · intro i hi1 hi2
     have hi : i < zs.length := by omega
     have hn2 : i < news.length := by omega
     have hu : news[i]? = some news[i] := List.getElem?_eq_getElem hn2
     have hr := h i (.int k zs[i]) news[i] (by rw [List.getElem?_map, List.getElem?_eq_getElem hi]; rfl) hu
     have hcell := hw i _ hu
     have e : (⟨g, 0, none⟩ : Addr).add i = ⟨g, i, none⟩ := by
       unfold Addr.add; split
       · rename_i h0; rw [h0]
       · simp
     rw [e] at hcell
     unfold World.cell? at hcell
     simp only [hc] at hcell
     generalize news[i] = u at *
     cases hr
     have h2 : c[i]? = some (.int k zs[i]) := by simpa using hcell
     rw [Array.getElem?_eq_getElem hi1] at h2
     rw [Option.some.inj h2]
     simp
theorem ok_itoa {P : Program} {G : Gl} {f : FuncId} {fn : Func} {c : Code} {g : Nat} (hf : P.funcs[f]? = some fn) (hname : (fn.name == "runtime.NumGoroutine") = false) (hb : fn.body = some c) (hG : G g = some pow10T)
   (hg : P.globalNamed "internal/strconv.uint64pow10" = some g)
   (h : ∀ (n : Int) (_ : -9223372036854775808 ≤ n) (_ : n ≤ 9223372036854775807) (w : World), Lib.TabIs P w "internal/strconv.uint64pow10" .u64 Lib.pow10Tab → Calls P f #[.int .i64 n] w fun e w' => e = .returned (.string ⟨(Lib.itoa n).toArray⟩) ∧ ∃ k os, w' = Go.Sort.grow (w.drewN k) os) : FOk P G f ct_itoa.fs := by
 refine ct_itoa.ok (fun args w => run_callFunc_enter hf hname hb args w) (fun (x : Int) hx => ?_)
 intro w β F vals env fits hargs
 have hx1 : (0 : Int) ≤ (x : Int) := hx.1
 have hx2 : (x : Int) ≤ (1000000 : Int) := hx.2
 have hvals : vals = #[.int .i64 x] := by
   obtain ⟨l⟩ := vals
   cases hargs with
   | cons h1 h2 =>
     cases h2
     cases h1 with
     | t h => cases h; rfl
 subst hvals
 refine (h x (by omega) (by omega) w (tab_is hg (env.gl g _ hG) (env.gs g _ hG))).mono fun e w' he => ?_
 obtain ⟨rfl, k, os, rfl⟩ := he
 refine ⟨_, β, F, rfl, ?_⟩
 have hβ : ∀ k, β k = none := fun k => fits.dom k (Nat.zero_le _)
 obtain ⟨n, rfl⟩ := Int.eq_ofNat_of_zero_le hx1
 have hr : ct_itoa.r (n : Int) = .t (strT (numL n)) := by
   show V.t (strT (numL (n : Int).toNat)) = _
   rw [Int.toNat_natCast]
 have hL : Lib.itoa (n : Int) = numL n := itoa_numL (by omega)
 have hsz : w.heap.size ≤ (Go.Sort.grow (w.drewN k) os).heap.size := by
   show _ ≤ (w.heap ++ os).size
   rw [Array.size_append]; omega
 have hold : ∀ b, b < w.heap.size → (Go.Sort.grow (w.drewN k) os).heap[b]? = w.heap[b]? := by
   intro b hb
   show (w.heap ++ os)[b]? = _
   rw [Array.getElem?_append_left hb]
 refine ⟨⟨fun k o hk => (by simp [ct_itoa] at hk), fun k _ => hβ k, fun i j bi bj b h1 => (by rw [hβ] at h1; cases h1), fun k bi b h1 => (by rw [hβ] at h1; cases h1)⟩, ?_, fun _ _ => rfl, fun k bi b _ h1 => by (rw [hβ] at h1; cases h1), fun _ _ => Iff.rfl, fun b hb => Nat.lt_of_lt_of_le (env.Fw b hb) hsz, rfl, rfl, rfl, hsz, fun b hb _ => hold b hb⟩
 rw [hr, hL]
 exact .t (.str _)
end Go.Eng
end
section
set_option maxRecDepth 20000
namespace Go.Eng
open Go.MuLone
theorem tieW {P : Program} {G : Gl} {tab : Tab} {f : FuncId} {fn : Func} {c : Code} {ac : AC} {hints : List (Nat × List Nat)} {rs : List (Nat × Option (Nat × Bool))} (hf : P.funcs[f]? = some fn) (hname : (fn.name == "runtime.NumGoroutine") = false) (hb : fn.body = some c) (hann : ann P fn.ntmps hints c = some ac) (hmx : P.follows .mixedOrders = true)
   (ht : TabOk P G tab) (hrs : resOf P fn.results.toList = some rs) (ct : Ct) (hn : ∀ x, (ct.as x).length ≤ fn.ntmps) (hi : ∀ x, (ct.ins x).length ≤ 100)
   (h : ∀ x, ct.pre x → ac.wp tab G (zipF 0 (ct.as x)) (zipF 0 (ct.ins x)) (resW rs (ct.ins x).length (fun r' o' => r' = ct.r x ∧ o' = ct.outs x))) : FOk P G f ct.fs :=
 ct.ok (fun args w => run_callFunc_enter hf hname hb args w) (fun x hx => spec_of hf hb hann hmx ht hrs (hn x) (hi x) (h x hx))
theorem tieF {P : Program} {G : Gl} {tab : Tab} {f : FuncId} {fn : Func} {c : Code} {ac : AC} {hints : List (Nat × List Nat)} {rs : List (Nat × Option (Nat × Bool))} (fz : List Nat) (hf : P.funcs[f]? = some fn) (hname : (fn.name == "runtime.NumGoroutine") = false) (hb : fn.body = some c) (hann : ann P fn.ntmps hints c = some ac) (hmx : P.follows .mixedOrders = true)
   (ht : TabOk P G tab) (hrs : resOf P fn.results.toList = some rs) (ct : Ct) (hn : ∀ x, (ct.as x).length ≤ fn.ntmps) (hi : ∀ x, (ct.ins x).length ≤ 100)
   (h : ∀ x, ct.pre x → ac.wp tab G (zipF 0 (ct.as x)) (zipF 0 (ct.ins x)) (resF fz rs (ct.ins x).length (fun r' o' => r' = ct.r x ∧ o' = ct.outs x))) : FOk P G f ct.fs :=
 ct.ok (fun args w => run_callFunc_enter hf hname hb args w) (fun x hx => spec_live fz hf hb hann hmx ht hrs (hn x) (hi x) (h x hx))
theorem tieL {P : Program} {G : Gl} {tab : Tab} {f : FuncId} {fn : Func} {c : Code} {ac : AC} {hints : List (Nat × List Nat)} {rs : List (Nat × Option (Nat × Bool))} (hf : P.funcs[f]? = some fn) (hb : fn.body = some c) (hann : ann P fn.ntmps hints c = some ac) (hmx : P.follows .mixedOrders = true)
   (ht : TabOk P G tab) (hrs : resOf P fn.results.toList = some rs) {as : List V} (hn : as.length ≤ fn.ntmps)
   (h : ac.wp tab G (zipF 0 as) (zipF 0 []) (resW rs 0 (fun r o => r = .t (.bool true) ∧ o = []))) : Spec P G f as [] (.t (.bool true)) [] :=
 spec_of hf hb hann hmx ht hrs hn (Nat.zero_le _) h
theorem tieW' {P : Program} {G : Gl} {tab : Tab} {f : FuncId} (fn : Func) (hints : List (Nat × List Nat)) (ac : AC) (rs : List (Nat × Option (Nat × Bool))) (ht : TabOk P G tab) (ct : Ct)
   (h : ∀ x, ct.pre x → ac.wp tab G (zipF 0 (ct.as x)) (zipF 0 (ct.ins x)) (resW rs (ct.ins x).length (fun r' o' => r' = ct.r x ∧ o' = ct.outs x)))
   (hf : P.funcs[f]? = some fn := by kernel_rfl) (hname : (fn.name == "runtime.NumGoroutine") = false := by kernel_rfl) (hb : fn.body = some (fn.body.getD .skip) := by kernel_rfl) (hann : ann P fn.ntmps hints (fn.body.getD .skip) = some ac := by kernel_rfl) (hmx : P.follows .mixedOrders = true := by kernel_rfl)
   (hrs : resOf P fn.results.toList = some rs := by kernel_rfl) (hn : ∀ x, (ct.as x).length ≤ fn.ntmps := by exact fun _ => Nat.le_of_ble_eq_true (by kernel_rfl)) (hi : ∀ x, (ct.ins x).length ≤ 100 := by exact fun _ => Nat.le_of_ble_eq_true (by kernel_rfl)) : FOk P G f ct.fs := tieW hf hname hb hann hmx ht hrs ct hn hi h
theorem tieF' {P : Program} {G : Gl} {tab : Tab} {f : FuncId} (fz : List Nat) (fn : Func) (hints : List (Nat × List Nat)) (ac : AC) (rs : List (Nat × Option (Nat × Bool))) (ht : TabOk P G tab) (ct : Ct)
   (h : ∀ x, ct.pre x → ac.wp tab G (zipF 0 (ct.as x)) (zipF 0 (ct.ins x)) (resF fz rs (ct.ins x).length (fun r' o' => r' = ct.r x ∧ o' = ct.outs x)))
   (hf : P.funcs[f]? = some fn := by kernel_rfl) (hname : (fn.name == "runtime.NumGoroutine") = false := by kernel_rfl) (hb : fn.body = some (fn.body.getD .skip) := by kernel_rfl) (hann : ann P fn.ntmps hints (fn.body.getD .skip) = some ac := by kernel_rfl) (hmx : P.follows .mixedOrders = true := by kernel_rfl)
   (hrs : resOf P fn.results.toList = some rs := by kernel_rfl) (hn : ∀ x, (ct.as x).length ≤ fn.ntmps := by exact fun _ => Nat.le_of_ble_eq_true (by kernel_rfl)) (hi : ∀ x, (ct.ins x).length ≤ 100 := by exact fun _ => Nat.le_of_ble_eq_true (by kernel_rfl)) : FOk P G f ct.fs := tieF fz hf hname hb hann hmx ht hrs ct hn hi h
theorem tieL' {P : Program} {G : Gl} {tab : Tab} {f : FuncId} (fn : Func) (hints : List (Nat × List Nat)) (ac : AC) (rs : List (Nat × Option (Nat × Bool))) (ht : TabOk P G tab) {as : List V}
   (h : ac.wp tab G (zipF 0 as) (zipF 0 []) (resW rs 0 (fun r o => r = .t (.bool true) ∧ o = [])))
   (hf : P.funcs[f]? = some fn := by kernel_rfl) (hb : fn.body = some (fn.body.getD .skip) := by kernel_rfl) (hann : ann P fn.ntmps hints (fn.body.getD .skip) = some ac := by kernel_rfl) (hmx : P.follows .mixedOrders = true := by kernel_rfl)
   (hrs : resOf P fn.results.toList = some rs := by kernel_rfl) (hn : as.length ≤ fn.ntmps := by exact Nat.le_of_ble_eq_true (by kernel_rfl)) : Spec P G f as [] (.t (.bool true)) [] := tieL hf hb hann hmx ht hrs hn h
end Go.Eng
end
section
set_option maxRecDepth 20000
namespace Go.Eng
open Go.ChangeShapes Go.WideShapes Go.RowKit
inductive Ty where
 | int (k : IntKind)
 | bool
 | str
 | sl (e : Ty)
 | st (fs : List Ty)
mutual
def Ty.size : Ty → Nat
 | .st fs => Ty.sizeL fs
 | _ => 1
def Ty.sizeL : List Ty → Nat
 | [] => 0
 | f :: r => f.size + Ty.sizeL r
end
def isK (P : Program) (t : TypeId) (k : IntKind) : Bool := match P.underlying t with
 | some (.int k') => decide (k' = k)
 | _ => false
theorem isK_of {P : Program} {t : TypeId} {k : IntKind} (h : isK P t k = true) : P.underlying t = some (.int k) := by
 unfold isK at h
 split at h
 · rename_i h1; rw [h1, of_decide_eq_true h]
 · cases h
mutual
def Ty.ok (P : Program) : Ty → TypeId → Bool
 | .int k, t => isK P t k
 | .bool, t => match P.underlying t with | some .bool => true | _ => false
 | .str, t => match P.underlying t with | some .string => true | _ => false
 | .sl e, t => match P.underlying t with | some (.slice te) => e.ok P te && Nat.beq (P.cellsOf te) e.size && Nat.ble 1 e.size | _ => false
 | .st fs, t => Nat.beq (P.cellsOf t) (Ty.sizeL fs) && match P.underlying t with
   | some (.struct gs) => Ty.okF P fs gs.toList 0
   | some (.array n te) => Nat.beq fs.length n && Ty.okA P fs te
   | _ => false
def Ty.okF (P : Program) : List Ty → List Field → Nat → Bool
 | [], [], _ => true
 | f :: r, g :: gs, off => Nat.beq g.offset off && Nat.beq (P.cellsOf g.type) f.size && f.ok P g.type && Ty.okF P r gs (off + f.size)
 | _, _, _ => false
def Ty.okA (P : Program) : List Ty → TypeId → Bool
 | [], _ => true
 | f :: r, te => f.ok P te && Nat.beq (P.cellsOf te) f.size && Ty.okA P r te
end
mutual
def Ty.is : Ty → T → Prop
 | .int k, x => ∃ n, (Lit.int k n).wf = true ∧ x = .int k n
 | .bool, x => ∃ b, x = .bool b
 | .str, x => ∃ s : ByteArray, s.size ≤ maxLen ∧ x = .str s
 | .sl e, x => ∃ es : List T, es.length ≤ maxLen ∧ (∀ y ∈ es, e.is y) ∧ x = .sl es
 | .st fs, x => ∃ cs, Ty.isL fs cs ∧ x = .agg cs
def Ty.isL : List Ty → List T → Prop
 | [], cs => cs = []
 | f :: r, cs => ∃ x rest, f.is x ∧ Ty.isL r rest ∧ cs = x.cells ++ rest
end
mutual
theorem Ty.is_size : ∀ (ty : Ty) (x : T), ty.is x → x.cells.length = ty.size
 | .int k, x, h => by obtain ⟨n, _, rfl⟩ := h; rfl
 | .bool, x, h => by obtain ⟨n, rfl⟩ := h; rfl
 | .str, x, h => by obtain ⟨n, _, rfl⟩ := h; rfl
 | .sl e, x, h => by obtain ⟨es, _, _, rfl⟩ := h; rfl
 | .st fs, x, h => by
   obtain ⟨cs, h1, rfl⟩ := h
   show cs.length = Ty.sizeL fs
   exact Ty.isL_size fs cs h1
theorem Ty.isL_size : ∀ (fs : List Ty) (cs : List T), Ty.isL fs cs → cs.length = Ty.sizeL fs
 | [], cs, h => by cases h; rfl
 | f :: r, cs, h => by
   obtain ⟨x, rest, h1, h2, rfl⟩ := h
   rw [List.length_append, Ty.is_size f x h1, Ty.isL_size r rest h2, Ty.sizeL]
end
theorem pick_list {α : Type} {Q : Nat → α → Prop} : ∀ (n : Nat), (∀ i, i < n → ∃ y, Q i y) → ∃ l : List α, l.length = n ∧ ∀ i y, l[i]? = some y → Q i y
 | 0, _ => ⟨[], rfl, by simp⟩
 | n + 1, h => by
   obtain ⟨l, hl, hq⟩ := pick_list n (fun i hi => h i (by omega))
   obtain ⟨y, hy⟩ := h n (by omega)
   refine ⟨l ++ [y], by simp [hl], fun i z hz => ?_⟩
   rw [List.getElem?_append] at hz
   split at hz
   · exact hq i z hz
   · have h1 : i - l.length = 0 := by
       rcases Nat.eq_zero_or_pos (i - l.length) with h | h
       · exact h
       · rw [List.getElem?_eq_none (by simp; omega)] at hz; cases hz
     rw [h1] at hz
     simp only [List.getElem?_cons_zero, Option.some.injEq] at hz
     subst hz
     have : i = n := by omega
     subst this; exact hy
theorem cell_some {w : World} {a : Addr} {u : Value} (h : w.cell? a = some u) : a.block < w.heap.size ∧ a.spot = none := by
 unfold World.cell? at h
 split at h
 · rename_i hb
   refine ⟨(Array.getElem?_eq_some_iff.1 hb).1, ?_⟩
   split at h
   · cases h
   · rename_i hs
     simpa using hs
 · cases h
section
variable {H : Type} {enc : TypeId × Value → H} {P : Program} {w : World} {base : Nat} {sp : Nat → Bool} {held : Bool}
structure Reads (w : World) (ds : List T) (cs : List Value) : Prop where
 len : ds.length = cs.length
 one : ∀ u ∈ cs, u.oneCell' = true
 rep : ∀ (i : Nat) (c : T) (u : Value), ds[i]? = some c → cs[i]? = some u → Rep (fun b => b < w.heap.size) w c u
theorem Reads.one1 {x : T} {c : Value} (hc : c.oneCell' = true) (h : Rep (fun b => b < w.heap.size) w x c) : Reads w [x] [c] :=
 ⟨rfl, by simpa using hc, fun i d u hd hu => by
   cases i with
   | zero => simp only [List.getElem?_cons_zero, Option.some.injEq] at hd hu; subst hd; subst hu; exact h
   | succ i => simp at hd⟩
theorem Reads.app {ds es : List T} {cs vs : List Value} (h : Reads w ds cs) (h2 : Reads w es vs) : Reads w (ds ++ es) (cs ++ vs) := by
 refine ⟨by rw [List.length_append, List.length_append, h.len, h2.len], fun u hu => ?_, fun i c u hc hu => ?_⟩
 · rcases List.mem_append.1 hu with h3 | h3
   · exact h.one u h3
   · exact h2.one u h3
 · rw [List.getElem?_append] at hc hu
   rw [h.len] at hc
   split at hc
   · rename_i hl; rw [if_pos hl] at hu; exact h.rep i c u hc hu
   · rename_i hl; rw [if_neg hl] at hu; exact h2.rep _ c u hc hu
theorem Reads.nil : Reads w [] [] := ⟨rfl, by simp, fun i c u hc => by simp at hc⟩
theorem open_fields (n : Nat) (IH : ∀ (ty : Ty) (t : TypeId) (cs : List Value) (x : DataW H × List MemPlace), ty.ok P t = true → cs.length = ty.size → DataW.trod enc P w base sp held n t cs = some x → ∃ y : T, ty.is y ∧ Reads w y.cells cs) {cs : List Value} :
   ∀ (fs : List Ty) (gs : List Field) (off : Nat), Ty.okF P fs gs off = true → off + Ty.sizeL fs = cs.length → (∀ g ∈ gs, ∃ x, DataW.trod enc P w base sp held n g.type ((cs.drop g.offset).take (P.cellsOf g.type)) = some x) →
     ∃ ds, Ty.isL fs ds ∧ Reads w ds (cs.drop off)
 | [], [], off, _, hl, _ => ⟨[], rfl, by
     have : cs.drop off = [] := List.drop_eq_nil_of_le (by simp only [Ty.sizeL] at hl; omega)
     rw [this]; exact Reads.nil⟩
 | [], _ :: _, _, h, _, _ => by simp [Ty.okF] at h
 | _ :: _, [], _, h, _, _ => by simp [Ty.okF] at h
 | f :: r, g :: gs, off, h, hl, hg => by
   simp only [Ty.okF, Bool.and_eq_true] at h
   obtain ⟨⟨⟨h1, h2⟩, h3⟩, h4⟩ := h
   have e1 := Nat.eq_of_beq_eq_true h1
   have e2 := Nat.eq_of_beq_eq_true h2
   simp only [Ty.sizeL] at hl
   obtain ⟨ds, hd1, hd2⟩ := open_fields n IH r gs (off + f.size) h4 (by omega) (fun g' hg' => hg g' (.tail _ hg'))
   obtain ⟨x, hx⟩ := hg g (.head _)
   rw [e1, e2] at hx
   obtain ⟨y, hy1, hy2⟩ := IH f g.type _ x h3 (by simp; omega) hx
   refine ⟨y.cells ++ ds, ⟨y, ds, hy1, hd1, rfl⟩, ?_⟩
   have e3 : cs.drop off = (cs.drop off).take f.size ++ cs.drop (off + f.size) := by
     rw [← List.drop_drop, List.take_append_drop]
   rw [e3]
   exact hy2.app hd2
theorem open_array (n : Nat) (IH : ∀ (ty : Ty) (t : TypeId) (cs : List Value) (x : DataW H × List MemPlace), ty.ok P t = true → cs.length = ty.size → DataW.trod enc P w base sp held n t cs = some x → ∃ y : T, ty.is y ∧ Reads w y.cells cs) {cs : List Value} {te : TypeId} :
   ∀ (fs : List Ty) (i : Nat), Ty.okA P fs te = true → i * P.cellsOf te + Ty.sizeL fs = cs.length → (∀ j, j < fs.length → ∃ x, DataW.trod enc P w base sp held n te ((cs.drop ((i + j) * P.cellsOf te)).take (P.cellsOf te)) = some x) →
     ∃ ds, Ty.isL fs ds ∧ Reads w ds (cs.drop (i * P.cellsOf te))
 | [], i, _, hl, _ => ⟨[], rfl, by
     have : cs.drop (i * P.cellsOf te) = [] := List.drop_eq_nil_of_le (by simp only [Ty.sizeL] at hl; omega)
     rw [this]; exact Reads.nil⟩
 | f :: r, i, h, hl, hg => by
   simp only [Ty.okA, Bool.and_eq_true] at h
   obtain ⟨⟨h3, h2⟩, h4⟩ := h
   have e2 := Nat.eq_of_beq_eq_true h2
   simp only [Ty.sizeL] at hl
   have e4 : (i + 1) * P.cellsOf te = i * P.cellsOf te + f.size := by rw [Nat.add_mul, Nat.one_mul, e2]
   obtain ⟨ds, hd1, hd2⟩ := open_array n IH (cs := cs) r (i + 1) h4 (by rw [e4]; omega) (fun j hj => by
     have := hg (j + 1) (by simp; omega)
     rw [show i + 1 + j = i + (j + 1) by omega]; exact this)
   obtain ⟨x, hx⟩ := hg 0 (by simp)
   rw [Nat.add_zero, e2, ← e2] at hx
   obtain ⟨y, hy1, hy2⟩ := IH f te _ x h3 (by rw [e2] at hl ⊢; rw [List.length_take, List.length_drop]; omega) hx
   refine ⟨y.cells ++ ds, ⟨y, ds, hy1, hd1, rfl⟩, ?_⟩
   have e3 : cs.drop (i * P.cellsOf te) = (cs.drop (i * P.cellsOf te)).take (P.cellsOf te) ++ cs.drop ((i + 1) * P.cellsOf te) := by
     rw [e4, ← e2, ← List.drop_drop, List.take_append_drop]
   rw [e3]
   exact hy2.app hd2
theorem open_cells : ∀ (n : Nat) (ty : Ty) (t : TypeId) (cs : List Value) (x : DataW H × List MemPlace), ty.ok P t = true → cs.length = ty.size → DataW.trod enc P w base sp held n t cs = some x → ∃ y : T, ty.is y ∧ Reads w y.cells cs := by
 intro n
 induction n with
 | zero => intro ty t cs x _ _ h; simp [DataW.trod] at h
 | succ n IH =>
   intro ty t cs x hty hlen h
   cases ty with
   | int k =>
     obtain ⟨m, rfl, _, hw⟩ := DataW.trod_int (isK_of hty) h
     exact ⟨.int k m, ⟨m, hw, rfl⟩, .one1 rfl (.int k m)⟩
   | bool =>
     simp only [Ty.ok] at hty
     split at hty
     · rename_i hu
       obtain ⟨b, rfl, _⟩ := DataW.trod_bool hu h
       exact ⟨.bool b, ⟨b, rfl⟩, .one1 rfl (.bool b)⟩
     · cases hty
   | str =>
     simp only [Ty.ok] at hty
     split at hty
     · rename_i hu
       obtain ⟨s, rfl, _, hs⟩ := DataW.trod_string hu h
       exact ⟨.str s, ⟨s, hs, rfl⟩, .one1 rfl (.str s)⟩
     · cases hty
   | sl e =>
     simp only [Ty.ok] at hty
     split at hty
     · rename_i te hu
       simp only [Bool.and_eq_true] at hty
       obtain ⟨⟨h1, h2⟩, h3⟩ := hty
       have e2 := Nat.eq_of_beq_eq_true h2
       have e3 := Nat.le_of_ble_eq_true h3
       rcases DataW.trod_slice hu h with ⟨rfl, _⟩ | ⟨a, len, cap, elems, rest, m, hm, rfl, _, _, hlc, hcm, hel, hget, _, _⟩
       · exact ⟨.sl [], ⟨[], by simp, by simp, rfl⟩, .one1 rfl .nil⟩
       · cases hm
         have hcells : ∀ i, i < len → ∃ y : T, e.is y ∧ ∃ cs', Reads w y.cells cs' ∧ cs'.length = e.size ∧ ∀ j, j < e.size → w.cell? ((a.add (i * e.size)).add j) = cs'[j]? := by
           intro i hi
           have hg := hget i hi
           have : elems[i]? = some elems[i] := List.getElem?_eq_getElem (by omega)
           rw [this, Option.bind_eq_some_iff] at hg
           obtain ⟨cs', hc, ht⟩ := hg
           obtain ⟨_, hl, hcell⟩ := World.cells?_some hc
           rw [e2] at hl hcell
           obtain ⟨y, hy1, hy2⟩ := IH e te cs' _ h1 hl ht
           exact ⟨y, hy1, cs', hy2, hl, hcell⟩
         obtain ⟨es, hes, hq⟩ := pick_list len hcells
         have hz : ∀ y ∈ es, y.cells.length = e.size := fun y hy => by
           obtain ⟨i, hi⟩ := List.getElem?_of_mem hy
           exact e.is_size y (hq i y hi).1
         have hcellk : ∀ k, k < len * e.size → ∃ (i j : Nat) (y : T) (cs' : List Value) (u : Value), k = i * e.size + j ∧ j < e.size ∧ es[i]? = some y ∧ Reads w y.cells cs' ∧ cs'[j]? = some u ∧ w.cell? (a.add k) = some u := by
           intro k hk
           have hi : k / e.size < len := (Nat.div_lt_iff_lt_mul (by omega)).2 hk
           have hj : k % e.size < e.size := Nat.mod_lt _ (by omega)
           have hy : es[k / e.size]? = some es[k / e.size] := List.getElem?_eq_getElem (by omega)
           obtain ⟨_, cs', hr, hl, hc⟩ := hq _ _ hy
           have hu : cs'[k % e.size]? = some cs'[k % e.size] := List.getElem?_eq_getElem (by omega)
           have ek : k = k / e.size * e.size + k % e.size := by rw [Nat.mul_comm]; exact (Nat.div_add_mod k e.size).symm
           refine ⟨_, _, _, cs', _, ek, hj, hy, hr, hu, ?_⟩
           rw [← hu, ← hc _ hj, Addr.add_add, ← ek]
         refine ⟨.sl es, ⟨es, by omega, fun y hy => ?_, rfl⟩, .one1 rfl ?_⟩
         · obtain ⟨i, hi⟩ := List.getElem?_of_mem hy
           exact (hq i y hi).1
         · have hnl : ((List.range (len * e.size)).map fun k => (w.cell? (a.add k)).getD default).length = len * e.size := by simp
           have hnews : ∀ k u, ((List.range (len * e.size)).map fun k => (w.cell? (a.add k)).getD default)[k]? = some u → k < len * e.size ∧ w.cell? (a.add k) = some u := by
             intro k u hu
             have hk : k < len * e.size := by
               rcases Nat.lt_or_ge k (len * e.size) with h | h
               · exact h
               · rw [List.getElem?_eq_none (by omega)] at hu; cases hu
             obtain ⟨_, _, _, _, u', _, _, _, _, _, hc⟩ := hcellk k hk
             rw [List.getElem?_map, List.getElem?_range hk, Option.map_some, hc, Option.getD_some, Option.some.injEq] at hu
             subst hu
             exact ⟨hk, hc⟩
           have h0 : es ≠ [] → a.block < w.heap.size ∧ a.spot = none := by
             intro hne
             have hlp : 0 < len := by
               rw [← hes]; exact List.length_pos_iff.2 hne
             obtain ⟨_, _, _, _, u', _, _, _, _, _, hc⟩ := hcellk 0 (Nat.mul_pos hlp (by omega))
             have e9 : a.add 0 = a := by simp [Addr.add]
             rw [e9] at hc
             exact cell_some hc
           have key := Rep.sl (F := fun b => b < w.heap.size) (w := w) es a cap e.size _ (fun hne => (h0 hne).2) (by omega) (by rw [hes]; exact hnl) (fun u hu => by
             obtain ⟨k, hk⟩ := List.getElem?_of_mem hu
             obtain ⟨hk1, hk2⟩ := hnews k u hk
             obtain ⟨_, _, _, cs', u', _, _, _, hr, hcu, hc⟩ := hcellk k hk1
             rw [hk2] at hc; cases hc
             exact hr.one u (List.mem_of_getElem? hcu)) (fun hne => (h0 hne).1) (fun k u hk => (hnews k u hk).2) hz
             (fun i y j c u hy hc hu => by
               obtain ⟨hk1, hk2⟩ := hnews _ u hu
               obtain ⟨i', j', y', cs', u', e1, hj', hy', hr, hcu, hc'⟩ := hcellk _ hk1
               rw [hk2] at hc'; cases hc'
               have hj : j < e.size := by rw [← hz y (List.mem_of_getElem? hy)]; exact (List.getElem?_eq_some_iff.1 hc).1
               have ei : i = i' ∧ j = j' := by
                 have h5 := congrArg (· / e.size) e1
                 have h6 := congrArg (· % e.size) e1
                 simp only [Nat.mul_comm _ e.size, Nat.mul_add_div (show 0 < e.size by omega), Nat.mul_add_mod, Nat.div_eq_of_lt hj, Nat.div_eq_of_lt hj', Nat.mod_eq_of_lt hj, Nat.mod_eq_of_lt hj'] at h5 h6
                 exact ⟨by omega, h6⟩
               obtain ⟨rfl, rfl⟩ := ei
               rw [hy] at hy'; cases hy'
               exact hr.rep j c u hc hcu)
           rw [hes] at key
           exact key
     · cases hty
   | st fs =>
     simp only [Ty.ok, Bool.and_eq_true] at hty
     obtain ⟨h0, hty⟩ := hty
     have e0 := Nat.eq_of_beq_eq_true h0
     split at hty
     · rename_i gs hu
       obtain ⟨xs, m, hm, _, hl, hxl, hget⟩ := DataW.trod_struct hu h
       cases hm
       obtain ⟨ds, hd1, hd2⟩ := open_fields n IH (cs := cs) fs gs.toList 0 hty (by omega) (fun g hg => by
         obtain ⟨i, hi⟩ := List.getElem?_of_mem hg
         have hi' : gs[i]? = some g := by simpa using hi
         have hlt : i < xs.length := by rw [hxl]; exact (Array.getElem?_eq_some_iff.1 hi').1
         exact ⟨xs[i], by rw [hget i g hi']; exact List.getElem?_eq_getElem hlt⟩)
       rw [List.drop_zero] at hd2
       exact ⟨.agg ds, ⟨ds, hd1, rfl⟩, hd2⟩
     · rename_i m te hu
       simp only [Bool.and_eq_true] at hty
       have e5 := Nat.eq_of_beq_eq_true hty.1
       obtain ⟨xs, m', hm, _, hl, hxl, hget⟩ := DataW.trod_array hu h
       cases hm
       obtain ⟨ds, hd1, hd2⟩ := open_array n IH (cs := cs) fs 0 hty.2 (by omega) (fun j hj => by
         have hlt : j < xs.length := by omega
         rw [Nat.zero_add]
         exact ⟨xs[j], by rw [hget j (by omega)]; exact List.getElem?_eq_getElem hlt⟩)
       rw [Nat.zero_mul, List.drop_zero] at hd2
       exact ⟨.agg ds, ⟨ds, hd1, rfl⟩, hd2⟩
     · cases hty
theorem open_value {ty : Ty} {t : TypeId} {v : Value} {d : DataW H} {ps : List MemPlace} {b0 : Nat} (hty : ty.ok P t = true) (hval : Value.okWide P w .any b0 t v) (h : DataW.Trod enc P w base sp held t v d ps) :
   ∃ y : T, ty.is y ∧ Rep (fun b => b < w.heap.size) w y v := by
 obtain ⟨n, hn⟩ := h
 have scalar : ∀ c, v = c → c.cells = #[c] → ty.size = 1 → (∀ y : T, ty.is y → y.cells = [y]) → ∃ y : T, ty.is y ∧ Rep (fun b => b < w.heap.size) w y v := by
   intro c hv hc hs hy
   subst hv
   rw [hc] at hn
   obtain ⟨y, h1, h2⟩ := open_cells n ty t _ _ hty (by rw [hs]; rfl) hn
   rw [hy y h1] at h2
   exact ⟨y, h1, h2.rep 0 y v rfl rfl⟩
 cases ty with
 | int k =>
   obtain ⟨m, hv⟩ := okWide_int (isK_of hty) hval
   exact scalar _ hv rfl rfl (fun y hy => by obtain ⟨_, _, rfl⟩ := hy; rfl)
 | bool =>
   simp only [Ty.ok] at hty
   split at hty
   · rename_i hu
     obtain ⟨m, hv⟩ := okWide_bool hu hval
     exact scalar _ hv rfl rfl (fun y hy => by obtain ⟨_, rfl⟩ := hy; rfl)
   · cases hty
 | str =>
   simp only [Ty.ok] at hty
   split at hty
   · rename_i hu
     obtain ⟨m, hv⟩ := okWide_string hu hval
     exact scalar _ hv rfl rfl (fun y hy => by obtain ⟨_, _, rfl⟩ := hy; rfl)
   · cases hty
 | sl e =>
   have hty' := hty
   simp only [Ty.ok] at hty'
   split at hty'
   · rename_i te hu
     obtain ⟨a, l, c, hv⟩ := okWide_slice hu hval
     exact scalar _ hv rfl rfl (fun y hy => by obtain ⟨_, _, _, rfl⟩ := hy; rfl)
   · cases hty'
 | st fs =>
   have hagg : ∃ cs, v = .agg cs ∧ cs.size = P.cellsOf t := by
     have hty' := hty
     simp only [Ty.ok, Bool.and_eq_true] at hty'
     obtain ⟨_, h2⟩ := hty'
     unfold Value.okWide at hval
     split at h2
     · rename_i hu; rw [hu] at hval; obtain ⟨cs, h3, h4, _⟩ := hval; exact ⟨cs, h3, h4⟩
     · rename_i hu; rw [hu] at hval; obtain ⟨cs, h3, h4, _⟩ := hval; exact ⟨cs, h3, h4⟩
     · cases h2
   obtain ⟨cs, rfl, hsz⟩ := hagg
   have hsz2 : cs.size = Ty.sizeL fs := by
     simp only [Ty.ok, Bool.and_eq_true] at hty
     rw [hsz]; exact Nat.eq_of_beq_eq_true hty.1
   obtain ⟨y, h1, h2⟩ := open_cells n (.st fs) t _ _ hty (by show cs.toList.length = Ty.sizeL fs; simpa using hsz2) hn
   obtain ⟨ds, h3, rfl⟩ := h1
   refine ⟨.agg ds, ⟨ds, h3, rfl⟩, .agg ds cs ?_ ?_ ?_⟩
   · have := h2.len; simpa [Value.cells, T.cells] using this.symm
   · intro u hu; exact h2.one u (by simpa [Value.cells] using hu)
   · intro i c u hc hu; exact h2.rep i c u hc (by simpa [Value.cells] using hu)
theorem open_args : ∀ {tys : List Ty} {ts : List TypeId} {vs : List Value} {ds : List (DataW H)} {ps : List MemPlace} {b0 : Nat}, All2 (fun (ty : Ty) (t : TypeId) => ty.ok P t = true) tys ts →
   (∀ (j : Nat) t v, ts[j]? = some t → vs[j]? = some v → Value.okWide P w .any b0 t v) → DataW.TrodAll enc P w base sp held ts vs ds ps →
   ∃ ys : List T, All2 (fun (ty : Ty) (y : T) => ty.is y) tys ys ∧ All2 (RepV (fun _ => none) (fun b => b < w.heap.size) w) (ys.map V.t) vs
 | [], ts, vs, ds, ps, b0, h, hv, hd => by
   cases h
   obtain ⟨rfl, _, _⟩ := trodAll_nil hd
   exact ⟨[], .nil, .nil⟩
 | ty :: tys, ts, vs, ds, ps, b0, h, hv, hd => by
   cases h with
   | cons h1 h2 =>
     obtain ⟨v, vs', d, ds', p, q, rfl, rfl, rfl, hd1, hd2⟩ := trodAll_cons hd
     obtain ⟨y, hy1, hy2⟩ := open_value h1 (hv 0 _ v rfl rfl) hd1
     obtain ⟨ys, h3, h4⟩ := open_args h2 (fun j t v' ht hv' => hv (j + 1) t v' ht hv') hd2
     exact ⟨y :: ys, .cons hy1 h3, .cons (.t hy2) h4⟩
end
end Go.Eng
end
section
set_option maxRecDepth 20000
namespace Go.Eng
open Go.ChangeShapes Go.WideShapes Go.RowKit Go.WideElems
section
variable {H : Type} {enc : TypeId × Value → H} {P : Program}
theorem same_of_old {W W' : World} (hfr : ∀ b, b < W.heap.size → W'.heap[b]? = W.heap[b]?) {p : MemPlace} (hp : p.block < W.heap.size) : W.sameAt W' p := by
 cases p with
 | cell b off => exact World.cell?_of_block (hfr b hp)
 | map b => exact hfr b hp
theorem args_stay (hl : laidOutB P = true) {W W' : World} (hfr : ∀ b, b < W.heap.size → W'.heap[b]? = W.heap[b]?) {sp : Nat → Bool} :
   ∀ {ts : List TypeId} {vs : List Value} {ds : List (DataW H)} {ps : List MemPlace}, (∀ t ∈ ts, P.readableRec t = true ∧ t < P.types.size) → (∀ p ∈ ps, p.block < W.heap.size ∧ sp p.block = true) →
     DataW.TrodAll enc P W 0 (fun _ => true) true ts vs ds ps → DataW.TrodAll enc P W' 0 sp true ts vs ds ps
 | [], vs, ds, ps, _, _, h => by
   obtain ⟨rfl, rfl, rfl⟩ := trodAll_nil h
   exact trodAll_mk0
 | t :: ts, vs, ds, ps, ht, hp, h => by
   obtain ⟨v, vs', d, ds', p, q, rfl, rfl, rfl, h1, h2⟩ := trodAll_cons h
   obtain ⟨hr, hrow⟩ := ht t (.head _)
   exact ⟨p, q, Trod_stays hl hr hrow h1 (fun x hx => same_of_old hfr (hp x (List.mem_append_left _ hx)).1) (fun x hx => (hp x (List.mem_append_left _ hx)).2),
     args_stay hl hfr (fun t' ht' => ht t' (.tail _ ht')) (fun x hx => hp x (List.mem_append_right _ hx)) h2, rfl⟩
theorem law_post {fn : Func} {s : ChangeSpec} {tb : TypeId} {apart fresh handsOn again : Bool} {W W' : World} {args : Array Value} {ds gs : List (DataW H)} {before : List MemPlace}
   (hl : laidOutB P = true) (hts : ∀ t ∈ fn.params.toList, P.readableRec t = true ∧ t < P.types.size) (hrt : fn.resultTypes = #[tb]) (hb : P.underlying tb = some .bool) (hsv : s.vars = [])
   (hfn : (s.fn H (ds ++ gs)).results = [.lit (.bool true)] ∧ (s.fn H (ds ++ gs)).args = ds ∧ (s.fn H (ds ++ gs)).vars = [])
   (hW : DataW.Whole enc P fn.params.toList s.vars apart W args.toList ds gs before)
   (hos : W'.os = W.os) (hout : W'.output = W.output) (hfr : ∀ b, b < W.heap.size → W'.heap[b]? = W.heap[b]?) :
   s.post enc P fn apart fresh handsOn again W args (.bool true) W' := by
 have hlt : ∀ p ∈ before, p.block < W.heap.size := fun p hp => hW.lt p hp
 have hW' := hW
 obtain ⟨p, q, hA, hV, rfl, hz, hn⟩ := hW'
 rw [hsv] at hV
 obtain ⟨rfl, rfl⟩ := trodVars_none hV
 have hres : ∀ (b : Nat) (sp : Nat → Bool) (hd : Bool), DataW.TrodAll enc P W' b sp hd fn.resultTypes.toList ((Value.bool true).resultList fn.resultTypes.size) (s.fn H (ds ++ [])).results [] := by
   intro b sp hd
   rw [hrt, hfn.1]
   exact trodAll_mk1 (shut_bool hb true)
 have hargs : ∀ sp : Nat → Bool, (∀ x ∈ p ++ [], sp x.block = true) → DataW.TrodAll enc P W' 0 sp true fn.params.toList args.toList (s.fn H (ds ++ [])).args p := by
   intro sp hsp
   rw [hfn.2.1]
   exact args_stay hl hfr hts (fun x hx => ⟨hlt x (by simpa using hx), hsp x (by simpa using hx)⟩) hA
 have hvars : ∀ sp : Nat → Bool, DataW.TrodVars enc P W' sp s.vars (s.fn H (ds ++ [])).vars [] := by
   intro sp
   rw [hsv, hfn.2.2]
   rfl
 refine ⟨ds, [], _, [], p, [], hW, hres _ _ _, hargs _ (fun x hx => by simpa using hlt x hx), hvars _, ⟨hos, hout, fun i hi => ?_⟩, fun _ => ?_⟩
 · have e := hfr i hi
   revert e
   generalize W'.heap[i]? = o'
   intro e
   subst e
   split
   · rename_i h1 h2
     rw [h1] at h2
     cases h2
     exact ⟨rfl, rfl, rfl, fun _ _ => rfl⟩
   · rename_i h1 h2
     rw [h1] at h2
     cases h2
     exact .inr ⟨rfl, rfl⟩
   · rfl
 · refine ⟨ok_one hrt rfl (okWide_bool_mk hb _), _, _, ([] ++ p) ++ [], ⟨[] ++ p, [], trodAll_append (hargs _ (fun _ _ => rfl)) (hres _ _ _), hvars _, rfl, ?_, ?_⟩, ?_⟩
   · intro b off hx
     have hx' : MemPlace.cell b off ∈ p ++ [] := by simpa using hx
     have e : W'.frozen? ⟨b, off, none⟩ = W.frozen? ⟨b, off, none⟩ := by
       unfold World.frozen?
       rw [hfr b (hlt _ hx')]
     rw [e]
     exact hz b off hx'
   · intro ha
     have := hn ha
     simpa using this
   · intro x hx _
     simpa using hx
theorem laid_each {w : World} : ∀ {laid : List (String × DataW Unit)} {ps : List MemPlace}, DataW.LaidVars P w laid ps → ∀ x ∈ laid, ∃ g t cs fuel p, P.globalNamed x.1 = some g ∧ (P.globals[g]?).map (·.type) = some t ∧ w.var? P x.1 = some cs ∧
     DataW.trod (fun _ => ()) P w 0 (fun _ => true) false fuel t cs.toList = some (x.2, p)
 | [], _, _, x, hx => by cases hx
 | y :: r, ps, h, x, hx => by
   obtain ⟨g, t, cs, fuel, p, q, h1, h2, h3, h4, h5, _⟩ := h
   rcases List.mem_cons.1 hx with rfl | hx
   · exact ⟨g, t, cs, fuel, p, h1, h2, h3, h4⟩
   · exact laid_each h5 x hx
theorem ro_ints {w : World} {nm : String} {g t e n : Nat} {k : IntKind} {ns : List Int} {cs : Array Value} {fuel : Nat} {p : List MemPlace} {F : Nat → Prop} (hg : P.globalNamed nm = some g) (hv : w.var? P nm = some cs)
   (ht : P.underlying t = some (.array n e)) (he : P.underlying e = some (.int k)) (hc : P.cellsOf e = 1) (hct : P.cellsOf t = n) (hn : 0 < ns.length)
   (h : DataW.trod (fun _ => ()) P w 0 (fun _ => true) false fuel t cs.toList = some (.agg (ns.map fun m => .lit (.int k m)), p)) (hF : g < w.heap.size → F g) :
   RepV (fun _ => none) F w (.ro (ns.map (T.int k))) (.pointer (some ⟨g, 0, none⟩)) := by
 obtain ⟨xs, m, _, hx, hl, hxl, hget⟩ := DataW.trod_array ht h
 simp only [Prod.mk.injEq, DataW.agg.injEq] at hx
 have hlen : ns.length = n := by
   have := congrArg List.length hx.1
   simp only [List.length_map] at this
   omega
 have hcl : cs.toList.length = n := by rw [hl, hct]
 have hcell : ∀ i, i < n → cs.toList[i]? = some (.int k (ns.getD i 0)) := by
   intro i hi
   have h1 := hget i hi
   have h2 : xs[i]? = some xs[i] := List.getElem?_eq_getElem (by omega)
   rw [h2, hc, Nat.mul_one] at h1
   obtain ⟨z, hz1, hz2, _⟩ := DataW.trod_int he h1
   have h3 : cs.toList[i]? = some (.int k z) := by
     have h4 := congrArg (fun l => l[0]?) hz1
     simp only [List.getElem?_take, List.getElem?_drop, Nat.add_zero, List.getElem?_cons_zero] at h4
     simpa using h4
   have h5 := congrArg (fun l => l[i]?) hx.1
   simp only [List.getElem?_map, h2, Option.map_some, hz2] at h5
   have h6 : ns[i]? = some ns[i] := List.getElem?_eq_getElem (by omega)
   rw [h6] at h5
   simp only [Option.map_some, Option.some.injEq, DataW.lit.injEq, Lit.int.injEq, true_and] at h5
   rw [h3, List.getD_eq_getElem?_getD, h6, h5]; rfl
 have hw : ∀ j, w.cell? ((⟨g, 0, none⟩ : Addr).add j) = cs.toList[j]? := by
   intro j
   have e : (⟨g, 0, none⟩ : Addr).add j = ⟨g, j, none⟩ := by
     unfold Addr.add; split
     · rename_i h0; rw [h0]
     · simp
   rw [e, World.var?_cell hg hv j, Array.getElem?_toList]
 refine .ro (ns.map (T.int k)) ⟨g, 0, none⟩ cs.toList rfl (by rw [hcl, List.length_map, hlen]) ?_ (hF ?_) (fun j u hu => (hw j).trans hu) ?_
 · intro u hu
   obtain ⟨i, hi⟩ := List.getElem?_of_mem hu
   rw [hcell i (by rw [← hcl]; exact (List.getElem?_eq_some_iff.1 hi).1)] at hi
   cases hi; rfl
 · have h0 := hw 0
   rw [hcell 0 (by omega)] at h0
   have := (cell_some h0).1
   rw [add_block] at this
   exact this
 · intro j c u hcj hu
   rw [List.getElem?_map, Option.map_eq_some_iff] at hcj
   obtain ⟨z, hz, rfl⟩ := hcj
   rw [hcell j (by rw [← hlen]; exact (List.getElem?_eq_some_iff.1 hz).1)] at hu
   cases hu
   rw [List.getD_eq_getElem?_getD, hz]
   exact .int k z
theorem gs_ints {w : World} {nm : String} {g t e n : Nat} {k : IntKind} {ns : List Int} {cs : Array Value} {fuel : Nat} {p : List MemPlace} (hg : P.globalNamed nm = some g) (hv : w.var? P nm = some cs)
   (ht : P.underlying t = some (.array n e)) (hct : P.cellsOf t = n)
   (h : DataW.trod (fun _ => ()) P w 0 (fun _ => true) false fuel t cs.toList = some (.agg (ns.map fun m => .lit (.int k m)), p)) : GSz w g (ns.map (T.int k)).length := by
 obtain ⟨xs, m, _, hx, hl, hxl, hget⟩ := DataW.trod_array ht h
 simp only [Prod.mk.injEq, DataW.agg.injEq] at hx
 have hlen : ns.length = n := by
   have := congrArg List.length hx.1
   simp only [List.length_map] at this
   omega
 have hcl : cs.toList.length = n := by rw [hl, hct]
 unfold World.var? at hv
 rw [hg, Option.bind_some] at hv
 split at hv
 · rename_i c e z hc
   cases hv
   exact ⟨_, e, z, hc, by rw [List.length_map, hlen, ← hcl]; simp⟩
 · cases hv
theorem trodAll_length {w : World} {base : Nat} {sp : Nat → Bool} {held : Bool} : ∀ {ts : List TypeId} {vs : List Value} {ds : List (DataW H)} {ps : List MemPlace}, DataW.TrodAll enc P w base sp held ts vs ds ps → ds.length = ts.length
 | [], _, _, _, h => by obtain ⟨rfl, rfl, rfl⟩ := trodAll_nil h; rfl
 | _ :: _, _, _, _, h => by
   obtain ⟨_, _, _, _, _, _, rfl, rfl, rfl, _, h2⟩ := trodAll_cons h
   simp [trodAll_length h2]
end
theorem law_lifted {H : Type} {enc : TypeId × Value → H} {C : Checked} {os : Os} {f : FuncId} {fn : Func} {s : ChangeSpec} {laid : List (String × DataW Unit)} {tys : List Ty} {G : Nat → Option (List T)} {tb : TypeId} {apart fresh handsOn again : Bool}
   (own : ownKnob C.prog.godebug = none) (started : os.Started) (noInit : C.prog.inits.idxOf? f = none) (hfn : C.prog.funcs[f]? = some fn)
   (witness : ∃ (w : World) (tape : Tape) (i : Input), w.os = os ∧ (w.forCall tape i).Shaped C.prog ∧ i.vars = [] ∧ Input.okWide C.prog (w.forCall tape i) .any w.heap.size f i ∧
     ((s.pre enc C.prog fn [] apart (w.forCall tape i).memory i.args ∧ laidMetH C.prog laid (w.forCall tape i).memory) ∧ sizedMet enc C.prog fn (OpenSpec.ofChange s) apart (w.forCall tape i).memory i.args) ∧ ({} : Assume).holds C.prog (lone (Frame.enter C.prog f i.args .normal) [] (w.forCall tape i)))
   (hl : laidOutB C.prog = true) (hts : fn.params.toList.all (fun t => C.prog.readableRec t && Nat.blt t C.prog.types.size) = true) (hrt : fn.resultTypes = #[tb]) (hb : C.prog.underlying tb = some .bool) (hsv : s.vars = [])
   (hspec : ∀ ds : List (DataW H), ds.length = tys.length → (s.fn H ds).results = [.lit (.bool true)] ∧ (s.fn H ds).args = ds ∧ (s.fn H ds).vars = [])
   (htys : All2 (fun (ty : Ty) (t : TypeId) => ty.ok C.prog t = true) tys fn.params.toList)
   (henv : ∀ W, laidMetH C.prog laid W → EnvOk G (fun b => b < W.heap.size) W)
   (hlaw : ∀ ys, All2 (fun (ty : Ty) (y : T) => ty.is y) tys ys → Spec C.prog G f (ys.map V.t) [] (.t (.bool true)) []) :
   ReturnsInHanded {} C os f .any (fun w args => (s.pre enc C.prog fn [] apart w args ∧ laidMetH C.prog laid w) ∧ sizedMet enc C.prog fn (OpenSpec.ofChange s) apart w args) (s.post enc C.prog fn apart fresh handsOn again) := by
 have hts' : ∀ t ∈ fn.params.toList, C.prog.readableRec t = true ∧ t < C.prog.types.size := by
   intro t ht
   have := List.all_eq_true.1 hts t ht
   rw [Bool.and_eq_true] at this
   exact ⟨this.1, by simpa [Nat.blt_eq] using this.2⟩
 refine returnsInHanded_of_change_and (C := C) (X := fun w _ => laidMetH C.prog laid w) (fun _ _ _ hh h => laidMetH.of_heap hh h) own started noInit hfn witness ?_
 intro W base args ds gs before hval hW _ _ hL _
 have hW' := hW
 obtain ⟨p, q, hA, hV, rfl, _, _⟩ := hW'
 rw [hsv] at hV
 obtain ⟨rfl, rfl⟩ := trodVars_none hV
 obtain ⟨ys, hys, hreps⟩ := open_args htys (fun j t v ht hv => hval j t v (by simpa using ht) (by simpa using hv)) hA
 have hlen : ds.length = tys.length := by rw [trodAll_length hA, htys.length]
 have hcall := hlaw ys hys W (fun _ => none) (fun b => b < W.heap.size) args (henv W hL)
   ⟨fun k o h => by simp at h, fun _ _ => rfl, fun _ _ _ _ _ h => by simp at h, fun _ _ _ h => by simp at h⟩ hreps
 refine hcall.mono fun e W' ⟨x, β', F', he, hp⟩ => ?_
 subst he
 have hx : x = .bool true := by
   have := hp.res
   cases this with
   | t h => cases h; rfl
 subst hx
 exact ⟨_, rfl, law_post hl hts' hrt hb hsv (by rw [List.append_nil]; exact hspec ds hlen) hW hp.os hp.output (fun b hb => hp.frame b hb (fun _ _ h => by simp at h))⟩
end Go.Eng
end
section
set_option maxRecDepth 20000
namespace Go.Eng
theorem is_int {y : T} (h : (Ty.int .i64).is y) : ∃ n : Int, (-9223372036854775808 ≤ n ∧ n < 9223372036854775808) ∧ y = .int .i64 n := by
 obtain ⟨n, hw, rfl⟩ := h
 refine ⟨n, ?_, rfl⟩
 simp only [Lit.wf, Bool.and_eq_true, decide_eq_true_eq] at hw
 obtain ⟨h1, h2⟩ := hw
 have e1 : IntKind.i64.min = -9223372036854775808 := by decide
 have e2 : IntKind.i64.max = 9223372036854775807 := by decide
 rw [e1] at h1
 rw [e2] at h2
 omega
theorem is_u8 {y : T} (h : (Ty.int .u8).is y) : ∃ b : UInt8, y = byteT b := by
 obtain ⟨n, hw, rfl⟩ := h
 simp only [Lit.wf, Bool.and_eq_true, decide_eq_true_eq] at hw
 obtain ⟨h1, h2⟩ := hw
 have e1 : IntKind.u8.min = 0 := by decide
 have e2 : IntKind.u8.max = 255 := by decide
 rw [e1] at h1
 rw [e2] at h2
 refine ⟨UInt8.ofNat n.toNat, ?_⟩
 unfold byteT
 congr 1
 rw [UInt8.toNat_ofNat']
 omega
theorem is_bool {y : T} (h : Ty.bool.is y) : ∃ b : Bool, y = .bool b := h
theorem list_of {α : Type} {f : α → T} {es : List T} (h : ∀ y ∈ es, ∃ a, y = f a) : ∃ l : List α, es = l.map f := by
 induction es with
 | nil => exact ⟨[], rfl⟩
 | cons y r ih =>
   obtain ⟨a, rfl⟩ := h y (.head _)
   obtain ⟨l, rfl⟩ := ih (fun z hz => h z (.tail _ hz))
   exact ⟨a :: l, rfl⟩
theorem mx : maxLen = 9223372036854775807 := by decide
theorem is_bytes {y : T} (h : (Ty.sl (.int .u8)).is y) : ∃ bs : List UInt8, bs.length ≤ 9223372036854775807 ∧ y = .sl (bs.map byteT) := by
 obtain ⟨es, hl, he, rfl⟩ := h
 obtain ⟨bs, rfl⟩ := list_of (f := byteT) (fun y hy => is_u8 (he y hy))
 rw [List.length_map, mx] at hl
 exact ⟨bs, hl, rfl⟩
theorem is_rows {y : T} (h : (Ty.sl (.sl (.int .u8))).is y) : ∃ l : List (List UInt8), l.length ≤ 9223372036854775807 ∧ (∀ d ∈ l, d.length < 9223372036854775808) ∧ y = .sl (l.map bsT) := by
 obtain ⟨es, hl, he, rfl⟩ := h
 obtain ⟨l, hl2⟩ := list_of (f := bsT) (es := es) (fun y hy => by
   obtain ⟨bs, _, h2⟩ := is_bytes (he y hy)
   exact ⟨bs, h2⟩)
 subst hl2
 rw [List.length_map, mx] at hl
 refine ⟨l, hl, fun d hd => ?_, rfl⟩
 obtain ⟨bs, hb, h2⟩ := is_bytes (he (bsT d) (List.mem_map_of_mem hd))
 have h3 : d.map byteT = bs.map byteT := by
   have : T.sl (d.map byteT) = T.sl (bs.map byteT) := h2
   exact T.sl.inj this
 have h4 := congrArg List.length h3
 simp only [List.length_map] at h4
 omega
theorem is_pair {y : T} (h : (Ty.st [.int .i64, .int .i64]).is y) : ∃ a b : Int, (-9223372036854775808 ≤ a ∧ a < 9223372036854775808) ∧ (-9223372036854775808 ≤ b ∧ b < 9223372036854775808) ∧ y = .agg [.int .i64 a, .int .i64 b] := by
 obtain ⟨cs, hc, rfl⟩ := h
 obtain ⟨x, r, hx, hr, rfl⟩ := hc
 obtain ⟨x2, r2, hx2, hr2, rfl⟩ := hr
 cases hr2
 obtain ⟨a, ha, rfl⟩ := is_int hx
 obtain ⟨b, hb, rfl⟩ := is_int hx2
 exact ⟨a, b, ha, hb, rfl⟩
theorem is_rows2 {y : T} (h : (Ty.sl (.sl (.int .u8))).is y) : ∃ l : List (List UInt8), l.length ≤ 9223372036854775807 ∧ (∀ d ∈ l, d.length ≤ 9223372036854775807) ∧ y = .sl (l.map bsT) := by
 obtain ⟨l, h1, h2, h3⟩ := is_rows h
 exact ⟨l, h1, fun d hd => by have := h2 d hd; omega, h3⟩
theorem is_ev {y : T} (h : (Ty.st [.int .i64, .int .i64, .sl (.sl (.int .u8)), .sl (.int .u8)]).is y) : ∃ (a b : Int) (l : List (List UInt8)) (d : List UInt8), (l.length ≤ 9223372036854775807 ∧ (∀ d ∈ l, d.length ≤ 9223372036854775807) ∧ d.length ≤ 9223372036854775807) ∧ y = .agg [.int .i64 a, .int .i64 b, .sl (l.map bsT), .sl (d.map byteT)] := by
 obtain ⟨cs, hc, rfl⟩ := h
 obtain ⟨x, r, hx, hr, rfl⟩ := hc
 obtain ⟨x2, r2, hx2, hr2, rfl⟩ := hr
 obtain ⟨x3, r3, hx3, hr3, rfl⟩ := hr2
 obtain ⟨x4, r4, hx4, hr4, rfl⟩ := hr3
 cases hr4
 obtain ⟨a, _, rfl⟩ := is_int hx
 obtain ⟨b, _, rfl⟩ := is_int hx2
 obtain ⟨l, h1, h2, rfl⟩ := is_rows2 hx3
 obtain ⟨d, h3, rfl⟩ := is_bytes hx4
 exact ⟨a, b, l, d, ⟨h1, h2, h3⟩, rfl⟩
end Go.Eng
end
section
set_option maxRecDepth 20000
namespace Go.Eng
theorem is_str {y : T} (h : Ty.str.is y) : ∃ s : List UInt8, s.length ≤ 9223372036854775807 ∧ y = strT s := by
 obtain ⟨⟨⟨s⟩⟩, hs, rfl⟩ := h
 rw [mx] at hs
 exact ⟨s, hs, rfl⟩
theorem is_im {y : T} (h : (Ty.st [.int .i64, .str, .int .i64, .sl (.int .u8)]).is y) : ∃ (a v : Int) (s p : List UInt8), rI a ∧ rI v ∧ s.length ≤ 9223372036854775807 ∧ p.length ≤ 9223372036854775807 ∧ y = imT (a, s, v, p) := by
 obtain ⟨cs, hc, rfl⟩ := h
 obtain ⟨x, r, hx, hr, rfl⟩ := hc
 obtain ⟨x2, r2, hx2, hr2, rfl⟩ := hr
 obtain ⟨x3, r3, hx3, hr3, rfl⟩ := hr2
 obtain ⟨x4, r4, hx4, hr4, rfl⟩ := hr3
 cases hr4
 obtain ⟨a, ha, rfl⟩ := is_int hx
 obtain ⟨s, hs, rfl⟩ := is_str hx2
 obtain ⟨v, hv, rfl⟩ := is_int hx3
 obtain ⟨p, hp, rfl⟩ := is_bytes hx4
 exact ⟨a, v, s, p, ha, hv, hs, hp, rfl⟩
end Go.Eng
end
section
set_option maxRecDepth 20000
namespace Go.Eng
open Go.MuLone
theorem ix_lib {c : UInt8} : ∀ {b : List UInt8} {n : Nat}, ixN c b n = if Lib.indexByte b c = -1 then -1 else (n : Int) + Lib.indexByte b c
 | [], n => rfl
 | x :: r, n => by
   have hg := Lib.indexByte_ge r c
   unfold ixN Lib.indexByte
   by_cases h : x = c
   · subst h; simp
   · rw [if_neg h, ix_lib]
     have hb : (x == c) = false := by simpa using h
     rw [hb]
     by_cases h2 : Lib.indexByte r c = -1
     · simp [h2]
     · have h2b : (Lib.indexByte r c == -1) = false := by simpa using h2
       rw [h2b, if_neg h2]
       simp only [Bool.false_eq_true, if_false]
       rw [if_neg (by omega)]
       push_cast; omega
theorem ok_bix {P : Program} {G : Nat → Option (List T)} {f : FuncId} {fn : Func} (hf : P.funcs[f]? = some fn) (hname : (fn.name == "runtime.NumGoroutine") = false) (hb : fn.body.isNone = true) (hn : Extern.findNext fn = none)
   (he : Extern.find fn = some Extern.BytealgIndexByte.indexByte) : FOk P G f ct_bix.fs := by
 intro as ins r outs hs
 have key : ∃ (b : List UInt8) (c : UInt8), 0 < b.length ∧ as = [.t (.sl (b.map byteT)), .t (byteT c)] ∧ ins = [] ∧ r = .t (.int .i64 (ixN c b 0)) ∧ outs = [] := by
   unfold Ct.fs at hs
   split at hs
   · rename_i hx
     cases hs
     have h1 := hx.choose_spec
     generalize hx.choose = y at h1 ⊢
     obtain ⟨⟨rfl, rfl⟩, h3⟩ := h1
     exact ⟨y.1, y.2, h3.1, rfl, rfl, rfl, rfl⟩
   · cases hs
 obtain ⟨b, c, hpos, rfl, rfl, rfl, rfl⟩ := key
 intro w β F vals env fits hargs
 have hβ : ∀ k, β k = none := fun k => fits.dom k (Nat.zero_le _)
 have hvals : ∃ (blk off cap : Nat), vals = #[.slice (some ⟨blk, off, none⟩) b.length cap, .int .u8 c.toNat] ∧ ∀ i, i < b.length → w.cell? ⟨blk, off + i, none⟩ = some (.int .u8 ((b.map fun x => (x.toNat : Int)).getD i 0)) := by
   obtain ⟨l⟩ := vals
   cases hargs with
   | cons h1 h2 =>
     cases h2 with
     | cons h2 h3 =>
       cases h3
       cases h1 with
       | t h1 =>
         cases h2 with
         | t h2 =>
           generalize hes : b.map byteT = es at h1
           have hlen : es.length = b.length := by rw [← hes]; simp
           cases h2
           cases h1 with
           | nil => simp at hlen; omega
           | sl _ ad cap sz news ha hc hn h1 hF hw hz h =>
             have hne : es ≠ [] := by intro e; rw [e] at hlen; simp at hlen; omega
             have hsp := ha hne
             have hsz : sz = 1 := by
               have hm : byteT b[0] ∈ es := by rw [← hes]; exact List.mem_map.2 ⟨_, List.getElem_mem hpos, rfl⟩
               exact (hz _ hm).symm
             subst hsz
             obtain ⟨blk, off, sp⟩ := ad
             simp only at hsp
             subst hsp
             refine ⟨blk, off, cap, by rw [hlen], fun i hi => ?_⟩
             have hi2 : i < news.length := by omega
             have hu : news[i]? = some news[i] := List.getElem?_eq_getElem hi2
             have hr : Rep F w (byteT b[i]) news[i] := h i (byteT b[i]) 0 (byteT b[i]) _ (by rw [← hes]; simp [hi]) rfl (by rw [Nat.mul_one, Nat.add_zero]; exact hu)
             have hc := hw i _ hu
             have e : (⟨blk, off, none⟩ : Addr).add i = ⟨blk, off + i, none⟩ := by unfold Addr.add; split <;> simp_all
             rw [e] at hc
             rw [hc]
             generalize news[i] = u at *
             cases hr
             simp [hi]
 obtain ⟨blk, off, cap, rfl, hc⟩ := hvals
 have hrun := Lib.run_indexByteSlice (P := P) w blk off b.length cap (b.map fun x => (x.toNat : Int)) (by simp) hc c.toNat
 have hbs : Lib.bytesOf (b.map fun x => (x.toNat : Int)) = b := by
   unfold Lib.bytesOf
   rw [List.map_map]
   refine (List.map_congr_left (fun x _ => ?_)).trans (List.map_id b)
   simp
 have hcc : ((c.toNat : Int).toNat).toUInt8 = c := by simp
 rw [hbs, hcc] at hrun
 have hres : ixN c b 0 = Lib.indexByte b c := by
   rw [ix_lib]
   split
   · rename_i h; rw [h]
   · simp
 refine .inr ⟨.int .i64 (Lib.indexByte b c), w, ?_, .int .i64 (Lib.indexByte b c), β, F, rfl, ?_⟩
 · rw [run_callFunc_extern hf hname hb hn he, hrun]; rfl
 · rw [hres]
   exact ⟨⟨fun k o hk => (by simp at hk), fun k _ => hβ k, fun i j bi bj b h1 => (by rw [hβ] at h1; cases h1), fun k bi b h1 => (by rw [hβ] at h1; cases h1)⟩, .t (.int _ _), fun _ _ => rfl, fun k bi b _ h1 => (by rw [hβ] at h1; cases h1), fun _ _ => Iff.rfl, env.Fw, rfl, rfl, rfl, Nat.le_refl _, fun _ _ _ => rfl⟩
end Go.Eng
end
