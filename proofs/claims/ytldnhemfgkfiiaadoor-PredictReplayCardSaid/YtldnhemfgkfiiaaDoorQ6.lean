/- My own text: an abstract machine, its walks over the functions reached, and their tie to the program. -/
import Derived.Test.YtldnhemfgkfiiaaDoorRows
import Derived.Tactics
import Derived.Tactics2
import Derived.StillTactics
import Derived.Laws.AppendOwn
import Derived.Laws.Runes
import Derived.Laws.CopyRow
import Derived.Laws.Shifts
import Derived.Laws.Rows
import Derived.Laws.BitsLemmas
import Derived.Laws.Tables
import Derived.Laws.NewBlocks
import Derived.Laws.Unary
import Derived.Laws.Strings
import Derived.Laws.NewFold
import Derived.Laws.ShiftsVarLaws
import Derived.Laws.Bits
import Derived.Laws.Alloc2
import Derived.Laws.Bits128
import Derived.Laws.Strings2
import Derived.Laws.Wrap64
import Derived.Laws.ShiftsVar
import Derived.Laws.Closers25
import Derived.Laws.RangeString
import Derived.Laws.Concat
import Derived.Laws.Cells
import Derived.Laws.NewDeep
import Derived.Laws.Pointers
import Derived.Laws.StructEq
import Derived.Laws.Closers25b
import Derived.Laws.StandIn
import Derived.Laws.Bits64b
import Derived.Laws.LoneSync
import Derived.Laws.ByValue
import Derived.Laws.MathBits
import Derived.Laws.Externs
import Derived.Laws.BitsAll
import Derived.Laws.BitsAllLaws
import Derived.Laws.Bits64
import Derived.Laws.OwnMore
import Derived.Laws.Build
import Derived.Laws.ResultCell
import Derived.Laws.Entries
import Derived.Laws.Append
import Derived.Laws.RangeAny
import Derived.Laws.World
import Derived.Laws.Strings3
import Derived.Laws.Sem
import Derived.Laws.Slices
import Derived.Laws.MakeOwn
import Derived.Laws.Small
import Derived.Laws.BytesString
import Derived.Scope
import Derived.FnLit
import Derived.LoopTactic
import Derived.Test.YtldnhemfgkfiiaaDoorQ5
import Derived.Shelf.Strconv.Itoa3
import Derived.KernelRfl
import Derived.Lib.OthersKept
import Derived.Test.YtldnhemfgkfiiaaDoorQ4
import Derived.Test.YtldnhemfgkfiiaaDoorTie
import Derived.Test.YtldnhemfgkfiiaaDoorCards
import Derived.ProofKit
import Derived.LaidMore
import Derived.OpenShut
import Derived.Stop.Joined
import Derived.SevenTiedAt
set_option linter.unusedSimpArgs false
set_option linter.unusedVariables false
section
set_option maxRecDepth 1000000
set_option maxHeartbeats 6400000
set_option linter.unusedSimpArgs false
namespace Go.Proofs.YtldnhemfgkfiiaaDoor
open Go.Eng (nameB okN)
theorem high_no {c : UInt8} (h : 128 ≤ c.toNat) : okN c = false := by
 unfold okN
 rw [decide_eq_true (show c.toNat > 122 by omega), decide_eq_true (show c.toNat > 57 by omega), decide_eq_false (show ¬ c = 45 by intro e; subst e; revert h; decide)]
 simp
def okP (s : ByteArray) (pos : Nat) : Prop := pos ≤ s.size ∧ (s.data.toList.take pos).all okN = true
theorem named_calls (s : ByteArray) (w : World) :
   Calls Tryd.prog 64 #[.string s] w fun e w' => e = .returned (.bool (nameB s.data.toList)) ∧ (w' = w ∨ ∃ pos, w' = w.iter s pos) := by
 by_cases z1 : s.size < 1
 · have hr : nameB s.data.toList = false := by
     unfold nameB
     rw [decide_eq_true (show s.data.toList.length < 1 from z1)]; rfl
   rw [hr]
   go_enter Tryd.func64, Tryd.ntmps64
   go_wp2
   go_ret
   exact ⟨rfl, .inl rfl⟩
 by_cases z2 : 12 < s.size
 · have hr : nameB s.data.toList = false := by
     unfold nameB
     rw [decide_eq_true (show 12 < s.data.toList.length from z2)]; simp
   rw [hr]
   go_enter Tryd.func64, Tryd.ntmps64
   go_wp2
   go_ret
   exact ⟨rfl, .inl rfl⟩
 have z3 : nameB s.data.toList = s.data.toList.all okN := by
   unfold nameB
   rw [decide_eq_false (show ¬ s.data.toList.length < 1 from z1), decide_eq_false (show ¬ 12 < s.data.toList.length from z2)]; rfl
 rw [z3]
 go_enter Tryd.func64, Tryd.ntmps64
 go_wp2
 go_loopw [] (fun w' => ∃ pos : Nat, w' = w.iter s pos ∧ okP s pos) (fun w' => s.size - w'.iterPos w.heap.size)
 case atStart => exact ⟨0, rfl, Nat.zero_le _, rfl⟩
 case round =>
   obtain ⟨pos, rfl, hle, hall⟩ := hrel
   by_cases hp : pos < s.size
   · have hnx : ∀ ty, (Instr.next (.pointer (some ⟨w.heap.size, 0, none⟩)) true ty).run Tryd.prog (w.iter s pos) = _ := fun ty => run_next_any w s pos ty hp
     have hget : s.data.toList[pos]? = some (s[pos]'hp) := by
       rw [List.getElem?_eq_getElem (show pos < s.data.toList.length from hp)]; rfl
     have hno : okN (s[pos]'hp) = false → s.data.toList.all okN = false := fun h => List.all_eq_false.2 ⟨_, List.mem_of_getElem? hget, by simp [h]⟩
     by_cases ha : (s[pos]'hp).toNat < 128
     · rw [decode_ascii s pos hp ha] at hnx
       have hst : okN (s[pos]'hp) = true → okP s (pos + 1) := fun h => by
         refine ⟨hp, ?_⟩
         rw [List.take_add_one, hget, List.all_append, hall]; simp [h]
       generalize s[pos]'hp = c at *
       obtain ⟨r, hr⟩ : ∃ r, c.toNat = r := ⟨_, rfl⟩
       have hc45 : c = 45 ↔ r = 45 := by
         rw [← hr]
         exact ⟨fun e => by subst e; rfl, fun e => UInt8.toNat_inj.1 e⟩
       have hok : okN c = ((!decide (r < 97) && !decide (r > 122)) || ((!decide (r < 48) && !decide (r > 57)) || decide (r = 45))) := by
         unfold okN; rw [hr]; simp only [hc45]
       rw [hr] at hnx ha
       clear hr hc45
       by_cases b1 : (r : Int) < 97 <;> by_cases b2 : (122 : Int) < r <;> by_cases b3 : (r : Int) < 48 <;> by_cases b4 : (57 : Int) < r <;> by_cases b5 : (r : Int) = 45
       all_goals try omega
       all_goals have c1 : decide (r < 97) = decide ((r : Int) < 97) := by rw [decide_eq_decide]; omega
       all_goals have c2 : decide (r > 122) = decide ((122 : Int) < r) := by rw [decide_eq_decide]; omega
       all_goals have c3 : decide (r < 48) = decide ((r : Int) < 48) := by rw [decide_eq_decide]; omega
       all_goals have c4 : decide (r > 57) = decide ((57 : Int) < r) := by rw [decide_eq_decide]; omega
       all_goals have c5 : decide (r = 45) = decide ((r : Int) = 45) := by rw [decide_eq_decide]; omega
       all_goals rw [c1, c2, c3, c4, c5] at hok
       all_goals simp only [b1, b2, b3, b4, b5, decide_true, decide_false, Bool.not_true, Bool.not_false, Bool.and_true, Bool.and_false, Bool.or_true, Bool.or_false, Bool.true_and, Bool.false_and, Bool.true_or, Bool.false_or] at hok
       all_goals go_wp2
       all_goals first
         | (go_ret
            exact ⟨by first | rfl | (rw [hno hok]; rfl) | rw [hno hok], .inr ⟨_, rfl⟩⟩)
         | (go_roundw
            case rel => exact ⟨pos + 1, rfl, hst hok⟩
            case measure =>
              first
                | omega
                | (simp; omega))
     · have hh := decode_high s pos hp (by omega)
       have hok := high_no (c := s[pos]'hp) (by omega)
       generalize (Utf8.decode s pos).1 = r at *
       have b1 : ¬ (r : Int) < 97 := by omega
       have b2 : (122 : Int) < r := by omega
       have b3 : ¬ (r : Int) < 48 := by omega
       have b4 : (57 : Int) < r := by omega
       have b5 : ¬ (r : Int) = 45 := by omega
       go_wp2
       go_ret
       exact ⟨by first | rfl | (rw [hno hok]; rfl) | rw [hno hok], .inr ⟨_, rfl⟩⟩
   · have hnx : ∀ ty, (Instr.next (.pointer (some ⟨w.heap.size, 0, none⟩)) true ty).run Tryd.prog (w.iter s pos) = _ := fun ty => run_next_end w s pos ty hp
     have hall2 : s.data.toList.all okN = true := by
       have e : pos = s.data.toList.length := by show pos = s.size; omega
       rw [e, List.take_length] at hall
       exact hall
     clear hall
     go_wp2
     go_ret
     exact ⟨by first | rfl | (rw [hall2]; rfl) | rw [hall2], .inr ⟨_, rfl⟩⟩
def Tryd.laysI_ren : Go.Shelf.Ren := ⟨fun | 171 => 54 | 243 => 79 | 246 => 100 | 283 => 111 | 284 => 112 | 285 => 113 | 286 => 114 | 129 => 118 | 317 => 117 | 318 => 119 | 319 => 120 | 320 => 121 | 337 => 124 | 338 => 125 | n => n, fun | 3 => 3 | 9 => 9 | 2 => 2 | 4 => 4 | 171 => 126 | 0 => 0 | 53 => 113 | 37 => 23 | 5 => 5 | 173 => 129 | 212 => 134 | 51 => 93 | 20 => 20 | 213 => 135 | 46 => 107 | 232 => 142 | 233 => 143 | n => n, fun | 17 => 3 | 18 => 4 | 19 => 5 | n => n⟩
theorem Tryd.laysI : Go.Proofs.LaysM.n171 Tryd.prog Tryd.laysI_ren := {
 mixed := by kernel_rfl,
 f129 := Tryd.func118.trans (congrArg some (by kernel_rfl)),
 f171 := Tryd.func54.trans (congrArg some (by kernel_rfl)),
 f243 := Tryd.func79.trans (congrArg some (by kernel_rfl)),
 f246 := Tryd.func100.trans (congrArg some (by kernel_rfl)),
 f283 := Tryd.func111.trans (congrArg some (by kernel_rfl)),
 f284 := Tryd.func112.trans (congrArg some (by kernel_rfl)),
 f285 := Tryd.func113.trans (congrArg some (by kernel_rfl)),
 f286 := Tryd.func114.trans (congrArg some (by kernel_rfl)),
 f317 := Tryd.func117.trans (congrArg some (by kernel_rfl)),
 f318 := Tryd.func119.trans (congrArg some (by kernel_rfl)),
 f319 := Tryd.func120.trans (congrArg some (by kernel_rfl)),
 f320 := Tryd.func121.trans (congrArg some (by kernel_rfl)),
 f337 := Tryd.func124.trans (congrArg some (by kernel_rfl)),
 f338 := Tryd.func125.trans (congrArg some (by kernel_rfl)),
 t0 := Tryd.underlying0,
 a0 := Tryd.isAgg0,
 z0 := Tryd.sizeOf0,
 v0 := Tryd.zeroValue0,
 t2 := Tryd.underlying2,
 a2 := Tryd.isAgg2,
 z2 := Tryd.sizeOf2,
 v2 := Tryd.zeroValue2,
 t3 := Tryd.underlying3,
 a3 := Tryd.isAgg3,
 z3 := Tryd.sizeOf3,
 v3 := Tryd.zeroValue3,
 t4 := Tryd.underlying4,
 a4 := Tryd.isAgg4,
 z4 := Tryd.sizeOf4,
 v4 := Tryd.zeroValue4,
 t5 := Tryd.underlying5,
 a5 := Tryd.isAgg5,
 z5 := Tryd.sizeOf5,
 v5 := Tryd.zeroValue5,
 t9 := Tryd.underlying9,
 a9 := Tryd.isAgg9,
 z9 := Tryd.sizeOf9,
 v9 := Tryd.zeroValue9,
 t20 := Tryd.underlying20,
 a20 := Tryd.isAgg20,
 z20 := Tryd.sizeOf20,
 v20 := Tryd.zeroValue20,
 t37 := Tryd.underlying23,
 a37 := Tryd.isAgg23,
 z37 := Tryd.sizeOf23,
 v37 := Tryd.zeroValue23,
 t46 := Tryd.underlying107,
 a46 := Tryd.isAgg107,
 z46 := Tryd.sizeOf107,
 v46 := Tryd.zeroValue107,
 t51 := Tryd.underlying93,
 a51 := Tryd.isAgg93,
 z51 := Tryd.sizeOf93,
 v51 := Tryd.zeroValue93,
 t53 := Tryd.underlying113,
 a53 := Tryd.isAgg113,
 z53 := Tryd.sizeOf113,
 v53 := Tryd.zeroValue113,
 t171 := Tryd.underlying126,
 a171 := Tryd.isAgg126,
 z171 := Tryd.sizeOf126,
 v171 := Tryd.zeroValue126,
 t173 := Tryd.underlying129,
 a173 := Tryd.isAgg129,
 z173 := Tryd.sizeOf129,
 v173 := Tryd.zeroValue129,
 t212 := Tryd.underlying134,
 a212 := Tryd.isAgg134,
 z212 := Tryd.sizeOf134,
 v212 := Tryd.zeroValue134,
 t213 := Tryd.underlying135,
 a213 := Tryd.isAgg135,
 z213 := Tryd.sizeOf135,
 t232 := Tryd.underlying142,
 a232 := Tryd.isAgg142,
 z232 := Tryd.sizeOf142,
 v232 := Tryd.zeroValue142,
 t233 := Tryd.underlying143,
 a233 := Tryd.isAgg143,
 z233 := Tryd.sizeOf143,
 v233 := Tryd.zeroValue143,
 g17 := by kernel_rfl,
 g18 := by kernel_rfl,
 g19 := by kernel_rfl,
 i0 := by kernel_rfl,
 i2 := by kernel_rfl,
 i3 := by kernel_rfl,
 i4 := by kernel_rfl,
 i5 := by kernel_rfl,
 i9 := by kernel_rfl,
 i20 := by kernel_rfl,
 i37 := by kernel_rfl,
 i46 := by kernel_rfl,
 i51 := by kernel_rfl,
 i53 := by kernel_rfl,
 i171 := by kernel_rfl,
 i173 := by kernel_rfl,
 i212 := by kernel_rfl,
 i232 := by kernel_rfl,
 i233 := by kernel_rfl,
 m17 := by kernel_rfl,
 m18 := by kernel_rfl,
 m19 := by kernel_rfl }
theorem itoa_calls (n : Int) (h0 : -9223372036854775808 ≤ n) (h1 : n ≤ 9223372036854775807) (w : World) (h : Lib.TabIs Tryd.prog w "internal/strconv.uint64pow10" .u64 Lib.pow10Tab) : Calls Tryd.prog 54 #[.int .i64 n] w fun e w' => e = .returned (.string ⟨(Lib.itoa n).toArray⟩) ∧ ∃ k os, w' = Go.Sort.grow (w.drewN k) os :=
 Any.strconv_Itoa Tryd.laysI n h0 h1 w h
end Go.Proofs.YtldnhemfgkfiiaaDoor
end
section
set_option maxRecDepth 100000
namespace Go.Eng
open Go.Proofs Go.Proofs.YtldnhemfgkfiiaaDoor
def gl0 : Gl := fun g => if g = 1 then some (k256.map u32T) else if g = 0 then some (measT) else if g = 3 then some (pow10T) else none
theorem ok_image_named : FOk Tryd.prog gl0 64 ct_name.fs := ok_name (fn := Tryd.f64) (c := Tryd.f64.body.getD .skip) (by kernel_rfl) (by kernel_rfl) (by kernel_rfl) named_calls
theorem ok_bytealg_IndexByte : FOk Tryd.prog gl0 80 ct_bix.fs := ok_bix (fn := Tryd.f80) (by kernel_rfl) (by kernel_rfl) (by kernel_rfl) (by kernel_rfl) (by kernel_rfl)
theorem ok_bytes_IndexByte (tab : Tab) (ht : TabOk Tryd.prog gl0 tab) (h1 : tab.look 80 = some ct_bix.fs) : FOk Tryd.prog gl0 55 ct_bix.fs :=
 tieW' Tryd.f55 hints_bytes_IndexByte (ac_bytes_IndexByte 80) [(4, none)] ht ct_bix (fun x hx => w_bytes_IndexByte tab gl0 80 h1 x.1 x.2 hx)
theorem ok_image_printable (tab : Tab) (ht : TabOk Tryd.prog gl0 tab)  : FOk Tryd.prog gl0 56 ct_ipr.fs :=
 tieW' Tryd.f56 hints_image_printable ac_image_printable [(2, none)] ht ct_ipr (fun x hx => w_image_printable tab gl0 x hx)
theorem ok_image_Lines (tab : Tab) (ht : TabOk Tryd.prog gl0 tab) (h1 : tab.look 55 = some ct_bix.fs) (h2 : tab.look 56 = some ct_ipr.fs) : FOk Tryd.prog gl0 31 ct_lns.fs :=
 tieW' Tryd.f31 hints_image_Lines (ac_image_Lines 55 56) [(2, none)] ht ct_lns (fun x hx => w_image_Lines tab gl0 55 56 h1 h2 x hx)
theorem ok_image_Check (tab : Tab) (ht : TabOk Tryd.prog gl0 tab) (h1 : tab.look 64 = some ct_name.fs) (h2 : tab.look 31 = some ct_lns.fs) : FOk Tryd.prog gl0 39 ct_imc.fs :=
 tieW' Tryd.f39 hints_image_Check (ac_image_Check 64 31) [(2, none)] ht ct_imc (fun x hx => w_image_Check tab gl0 64 31 h1 h2 x hx)
theorem ok_image_CheckChain (tab : Tab) (ht : TabOk Tryd.prog gl0 tab) (h1 : tab.look 39 = some ct_imc.fs) : FOk Tryd.prog gl0 15 ct_chc.fs :=
 tieW' Tryd.f15 hints_image_CheckChain (ac_image_CheckChain 39) [(2, none)] ht ct_chc (fun x hx => w_image_CheckChain tab gl0 39 h1 x hx)
theorem ok_image_Register (tab : Tab) (ht : TabOk Tryd.prog gl0 tab)  : FOk Tryd.prog gl0 33 ct_reg.fs :=
 tieW' Tryd.f33 hints_image_Register (ac_image_Register 0) [(2, none)] ht ct_reg (fun x _ => w_image_Register tab gl0 0 rfl x)
theorem ok_wire_Uint (tab : Tab) (ht : TabOk Tryd.prog gl0 tab)  : FOk Tryd.prog gl0 98 ct_uint.fs :=
 tieF' [] Tryd.f98 hints_wire_Uint ac_wire_Uint [(6, none)] ht ct_uint (fun x hx => w_wire_Uint tab gl0 x.1 x.2.1 x.2.2 hx.1 hx.2)
theorem ok_wire_Blob (tab : Tab) (ht : TabOk Tryd.prog gl0 tab) (h1 : tab.look 98 = some ct_uint.fs) : FOk Tryd.prog gl0 99 ct_blob.fs :=
 tieF' [] Tryd.f99 hints_wire_Blob (ac_wire_Blob 98) [(4, none)] ht ct_blob (fun x hx => w_wire_Blob tab gl0 98 h1 x.1 x.2 hx.1 hx.2)
theorem ok_image_Encode (tab : Tab) (ht : TabOk Tryd.prog gl0 tab) (h1 : tab.look 39 = some ct_imc.fs) (h2 : tab.look 98 = some ct_uint.fs) (h3 : tab.look 99 = some ct_blob.fs) : FOk Tryd.prog gl0 78 ct_enI.fs :=
 tieW' Tryd.f78 hints_image_Encode (ac_image_Encode 39 98 99) [(2, none)] ht ct_enI (fun x hx => w_image_Encode tab gl0 39 98 99 h1 h2 h3 x hx)
theorem ok_digest_pad (tab : Tab) (ht : TabOk Tryd.prog gl0 tab)  : FOk Tryd.prog gl0 67 ct_pad.fs :=
 tieF' [] Tryd.f67 hints_digest_pad ac_digest_pad [(2, none)] ht ct_pad (fun x hx => w_digest_pad tab gl0 x hx)
theorem ok_digest_word (tab : Tab) (ht : TabOk Tryd.prog gl0 tab)  : FOk Tryd.prog gl0 89 ct_word.fs :=
 tieW' Tryd.f89 hints_digest_word ac_digest_word [(4, none)] ht ct_word (fun x hx => w_digest_word tab gl0 x.1 x.2 hx.1 hx.2)
theorem ok_bits_RotateLeft32 (tab : Tab) (ht : TabOk Tryd.prog gl0 tab)  : FOk Tryd.prog gl0 90 ct_rotl.fs :=
 tieW' Tryd.f90 hints_bits_RotateLeft32 ac_bits_RotateLeft32 [(4, none)] ht ct_rotl (fun x hx => w_bits_RotateLeft32 tab gl0 x.1 x.2 hx)
theorem ok_digest_compress1 (tab : Tab) (ht : TabOk Tryd.prog gl0 tab) (h1 : tab.look 89 = some ct_word.fs) (h2 : tab.look 90 = some ct_rotl.fs) : FOk Tryd.prog gl0 68 (ct_comp 5 comp1).fs :=
 tieW' Tryd.f68 hints_digest_compress1 (ac_digest_compress1 89 90) [] ht (ct_comp 5 comp1) (fun x hx => wc_digest_compress1 tab gl0 89 90 h1 h2 x hx)
theorem ok_digest_spread (tab : Tab) (ht : TabOk Tryd.prog gl0 tab)  : FOk Tryd.prog gl0 69 ct_spread.fs :=
 tieF' [] Tryd.f69 hints_digest_spread ac_digest_spread [(2, none)] ht ct_spread (fun x hx => w_digest_spread tab gl0 x hx)
theorem ok_digest_compress256 (tab : Tab) (ht : TabOk Tryd.prog gl0 tab) (h1 : tab.look 89 = some ct_word.fs) (h2 : tab.look 90 = some ct_rotl.fs) : FOk Tryd.prog gl0 70 (ct_comp 8 comp256).fs :=
 tieW' Tryd.f70 hints_digest_compress256 (ac_digest_compress256 89 90 1) [] ht (ct_comp 8 comp256) (fun x hx => w_digest_compress256 tab gl0 89 90 1 h1 h2 rfl x.2 x.1 hx.1 hx.2)
theorem ok_digest_Sum (tab : Tab) (ht : TabOk Tryd.prog gl0 tab) (h1 : tab.look 67 = some ct_pad.fs) (h2 : tab.look 68 = some (ct_comp 5 comp1).fs) (h3 : tab.look 69 = some ct_spread.fs) (h4 : tab.look 70 = some (ct_comp 8 comp256).fs) : FOk Tryd.prog gl0 45 ct_sumA.fs :=
 tieF' [] Tryd.f45 hints_digest_Sum (ac_digest_Sum 67 68 69 70) [(4, none)] ht ct_sumA (fun x hx => w_digest_Sum tab gl0 67 68 69 70 h1 h2 h3 h4 x.1 hx.1 x.2 hx.2)
theorem ok_image_Digests (tab : Tab) (ht : TabOk Tryd.prog gl0 tab) (h1 : tab.look 78 = some ct_enI.fs) (h2 : tab.look 45 = some ct_sumA.fs) : FOk Tryd.prog gl0 53 ct_imd.fs :=
 tieW' Tryd.f53 hints_image_Digests (ac_image_Digests 78 45) [(4, none)] ht ct_imd (fun x hx => w_image_Digests tab gl0 78 45 h1 h2 x.1 x.2 hx.1 hx.2)
theorem ok_strconv_Itoa : FOk Tryd.prog gl0 54 ct_itoa.fs := ok_itoa (fn := Tryd.f54) (c := Tryd.f54.body.getD .skip) (g := 3) (by kernel_rfl) (by kernel_rfl) (by kernel_rfl) rfl (by kernel_rfl) itoa_calls
theorem ok_event_OfImage (tab : Tab) (ht : TabOk Tryd.prog gl0 tab) (h1 : tab.look 39 = some ct_imc.fs) (h2 : tab.look 33 = some ct_reg.fs) (h3 : tab.look 53 = some ct_imd.fs) (h4 : tab.look 54 = some ct_itoa.fs) : FOk Tryd.prog gl0 30 ct_ofI.fs :=
 tieW' Tryd.f30 hints_event_OfImage (ac_event_OfImage 39 33 53 54) [(4, (some (4, true)))] ht ct_ofI (fun x hx => w_event_OfImage tab gl0 39 33 53 54 h1 h2 h3 h4 x.1 x.2 hx.1 hx.2)
theorem ok_bytes_Clone (tab : Tab) (ht : TabOk Tryd.prog gl0 tab)  : FOk Tryd.prog gl0 57 ct_clone.fs :=
 tieW' Tryd.f57 hints_bytes_Clone ac_bytes_Clone [(2, none)] ht ct_clone (fun x hx => w_bytes_Clone tab gl0 x hx)
theorem ok_event_Make (tab : Tab) (ht : TabOk Tryd.prog gl0 tab) (h1 : tab.look 57 = some ct_clone.fs) (h2 : tab.look 45 = some ct_sumA.fs) : FOk Tryd.prog gl0 32 ct_make.fs :=
 tieW' Tryd.f32 hints_event_Make (ac_event_Make 57 45) [(8, (some (4, true)))] ht ct_make (fun x hx => w_event_Make tab gl0 57 45 h1 h2 x.1 x.2.1 x.2.2.1 x.2.2.2 hx.1 hx.2)
theorem ok_predict_Events (tab : Tab) (ht : TabOk Tryd.prog gl0 tab) (h1 : tab.look 15 = some ct_chc.fs) (h2 : tab.look 30 = some ct_ofI.fs) (h3 : tab.look 31 = some ct_lns.fs) (h4 : tab.look 33 = some ct_reg.fs) (h5 : tab.look 32 = some ct_make.fs) : FOk Tryd.prog gl0 11 ct_evI.fs :=
 tieW' Tryd.f11 hints_predict_Events (ac_predict_Events 15 30 31 33 32) [(4, none)] ht ct_evI (fun x hx => w_predict_Events tab gl0 15 30 31 33 32 h1 h2 h3 h4 h5 x.1 x.2 hx)
theorem ok_digest_Size (tab : Tab) (ht : TabOk Tryd.prog gl0 tab)  : FOk Tryd.prog gl0 43 ct_size.fs :=
 tieW' Tryd.f43 hints_digest_Size ac_digest_Size [(2, none)] ht ct_size (fun x _ => w_digest_Size tab gl0 x)
theorem ok_bits_Mul64 (tab : Tab) (ht : TabOk Tryd.prog gl0 tab)  : FOk Tryd.prog gl0 123 ct_mul64.fs :=
 tieW' Tryd.f123 hints_bits_Mul64 ac_bits_Mul64 [(4, none), (5, none)] ht ct_mul64 (fun x hx => w_bits_Mul64 tab gl0 x hx)
theorem ok_bits_Mul (tab : Tab) (ht : TabOk Tryd.prog gl0 tab) (h1 : tab.look 123 = some ct_mul64.fs) : FOk Tryd.prog gl0 115 ct_mul64.fs :=
 tieW' Tryd.f115 hints_bits_Mul (ac_bits_Mul 122 123) [(4, none), (5, none)] ht ct_mul64 (fun x hx => w_bits_Mul tab gl0 122 123 h1 x hx)
theorem ok_bytealg_MakeNoZero : FOk Tryd.prog gl0 116 ct_mnz.fs := ok_mnz (fn := Tryd.f116) (ps := #[3]) (t := 23) (e := 5) (by kernel_rfl) (by kernel_rfl) (by kernel_rfl) (by kernel_rfl) (by kernel_rfl) (by kernel_rfl)
theorem ok_bytes_Repeat (tab : Tab) (ht : TabOk Tryd.prog gl0 tab) (h1 : tab.look 115 = some ct_mul64.fs) (h2 : tab.look 116 = some ct_mnz.fs) : FOk Tryd.prog gl0 109 ct_repeat.fs :=
 tieF' [] Tryd.f109 hints_bytes_Repeat (ac_bytes_Repeat 115 116) [(4, none)] ht ct_repeat (fun x hx => w_bytes_Repeat tab gl0 115 116 h1 h2 x.1 x.2 hx)
theorem ok_registers_fill (tab : Tab) (ht : TabOk Tryd.prog gl0 tab) (h1 : tab.look 109 = some ct_repeat.fs) : FOk Tryd.prog gl0 86 ct_fill.fs :=
 tieF' [] Tryd.f86 hints_registers_fill (ac_registers_fill 109) [(4, none)] ht ct_fill (fun x hx => w_registers_fill tab gl0 109 h1 x.2 x.1 hx)
theorem ok_registers_New (tab : Tab) (ht : TabOk Tryd.prog gl0 tab) (h1 : tab.look 43 = some ct_size.fs) (h2 : tab.look 86 = some ct_fill.fs) : FOk Tryd.prog gl0 65 ct_new.fs :=
 tieF' [] Tryd.f65 hints_registers_New (ac_registers_New 43 86) [(2, (some (2, true)))] ht ct_new (fun x hx => wc_registers_New tab gl0 43 86 h1 h2 x)
theorem ok_event_Check (tab : Tab) (ht : TabOk Tryd.prog gl0 tab) (h1 : tab.look 43 = some ct_size.fs) : FOk Tryd.prog gl0 19 ct_chkX.fs :=
 tieW' Tryd.f19 hints_event_Check (ac_event_Check 43) [(4, none)] ht ct_chkX (fun x hx => w_event_CheckX tab gl0 43 h1 x.1 x.2 hx)
theorem ok_registers_index (tab : Tab) (ht : TabOk Tryd.prog gl0 tab)  : FOk Tryd.prog gl0 49 ct_index.fs :=
 tieW' Tryd.f49 hints_registers_index ac_registers_index [(2, none)] ht ct_index (fun x _ => w_registers_index tab gl0 x)
theorem ok_registers_least (tab : Tab) (ht : TabOk Tryd.prog gl0 tab)  : FOk Tryd.prog gl0 87 ct_least.fs :=
 tieW' Tryd.f87 hints_registers_least ac_registers_least [(4, none)] ht ct_least (fun x _ => w_registers_least tab gl0 x.1 x.2)
theorem ok_registers_active (tab : Tab) (ht : TabOk Tryd.prog gl0 tab)  : FOk Tryd.prog gl0 76 ct_active.fs :=
 tieW' Tryd.f76 hints_registers_active ac_registers_active [(2, none)] ht ct_active (fun x hx => wc_registers_active tab gl0 x hx)
theorem ok_registers_on (tab : Tab) (ht : TabOk Tryd.prog gl0 tab) (h1 : tab.look 76 = some ct_active.fs) : FOk Tryd.prog gl0 50 ct_on.fs :=
 tieW' Tryd.f50 hints_registers_on (ac_registers_on 76) [(4, none)] ht ct_on (fun x hx => w_registers_on tab gl0 76 h1 x.1 x.2.1 hx.1 x.2.2 hx.2)
theorem ok_registers_twin (tab : Tab) (ht : TabOk Tryd.prog gl0 tab)  : FOk Tryd.prog gl0 88 ct_twin.fs :=
 tieF' [] Tryd.f88 hints_registers_twin ac_registers_twin [(2, (some (2, true)))] ht ct_twin (fun x hx => wc_registers_twin tab gl0 x hx)
theorem ok_registers_Extend (tab : Tab) (ht : TabOk Tryd.prog gl0 tab) (h1 : tab.look 49 = some ct_index.fs) (h2 : tab.look 87 = some ct_least.fs) (h3 : tab.look 50 = some ct_on.fs) (h4 : tab.look 43 = some ct_size.fs) (h5 : tab.look 88 = some ct_twin.fs) (h6 : tab.look 45 = some ct_sumA.fs) : FOk Tryd.prog gl0 66 ct_ext.fs :=
 tieW' Tryd.f66 hints_registers_Extend (ac_registers_Extend 49 87 50 43 88 45) [(8, (some (2, true))), (9, none)] ht ct_ext (fun x hx => w_registers_Extend tab gl0 49 87 50 43 88 45 h1 h2 h3 h4 h5 h6 x hx)
theorem ok_replay_Registers (tab : Tab) (ht : TabOk Tryd.prog gl0 tab) (h1 : tab.look 65 = some ct_new.fs) (h2 : tab.look 19 = some ct_chkX.fs) (h3 : tab.look 66 = some ct_ext.fs) : FOk Tryd.prog gl0 40 ct_rpl.fs :=
 tieW' Tryd.f40 hints_replay_Registers (ac_replay_Registers 65 19 66) [(2, (some (2, true))), (3, none)] ht ct_rpl (fun x hx => w_replay_Registers tab gl0 65 19 66 h1 h2 h3 x.1 x.2.1 x.2.2 hx)
theorem ok_predict_Registers (tab : Tab) (ht : TabOk Tryd.prog gl0 tab) (h1 : tab.look 15 = some ct_chc.fs) (h2 : tab.look 11 = some ct_evI.fs) (h3 : tab.look 40 = some ct_rpl.fs) : FOk Tryd.prog gl0 17 ct_prd.fs :=
 tieW' Tryd.f17 hints_predict_Registers (ac_predict_Registers 15 11 40) [(4, (some (2, true))), (5, none)] ht ct_prd (fun x hx => w_predict_Registers tab gl0 15 11 40 h1 h2 h3 x.1 x.2 hx)
theorem ok_registers_Value (tab : Tab) (ht : TabOk Tryd.prog gl0 tab) (h1 : tab.look 49 = some ct_index.fs) (h2 : tab.look 50 = some ct_on.fs) : FOk Tryd.prog gl0 23 ct_val.fs :=
 tieF' [] Tryd.f23 hints_registers_Value (ac_registers_Value 49 50) [(6, none), (7, none)] ht ct_val (fun x hx => w_registers_Value tab gl0 49 50 h1 h2 x.1 x.2.1 x.2.2.1 x.2.2.2 hx)
theorem ok_ref1_Same (tab : Tab) (ht : TabOk Tryd.prog gl0 tab)  : FOk Tryd.prog gl0 24 ct_same.fs :=
 tieW' Tryd.f24 hints_ref1_Same ac_ref1_Same [(4, none)] ht ct_same (fun x hx => w_ref1_Same tab gl0 x.1 x.2 hx.1 hx.2)
theorem ok_law29_awake (tab : Tab) (ht : TabOk Tryd.prog gl0 tab) (h1 : tab.look 11 = some ct_evI.fs) (h2 : tab.look 17 = some ct_prd.fs) (h3 : tab.look 23 = some ct_val.fs) (h4 : tab.look 24 = some ct_same.fs) : FOk Tryd.prog gl0 7 ct_awake.fs :=
 tieS' Tryd.f7 hints_law29_awake (ac_law29_awake 11 17 23 24) [(0, none)] ht ct_awake (fun _ _ => w_awake29 tab gl0 11 17 23 24 h1 h2 h3 h4)
theorem ok_draw_Mod (tab : Tab) (ht : TabOk Tryd.prog gl0 tab)  : FOk Tryd.prog gl0 16 ct_mod.fs :=
 tieW' Tryd.f16 hints_draw_Mod ac_draw_Mod [(4, none)] ht ct_mod (fun x hx => w_draw_Mod tab gl0 x.1 x.2 hx.1 hx.2)
theorem ok_draw_Active (tab : Tab) (ht : TabOk Tryd.prog gl0 tab) (h1 : tab.look 16 = some ct_mod.fs) : FOk Tryd.prog gl0 13 ct_dact.fs :=
 tieW' Tryd.f13 hints_draw_Active (ac_draw_Active 16) [(2, none)] ht ct_dact (fun x hx => w_draw_Active tab gl0 16 h1 x hx)
theorem ok_draw_New (tab : Tab) (ht : TabOk Tryd.prog gl0 tab)  : FOk Tryd.prog gl0 26 ct_dnew.fs :=
 tieF' [] Tryd.f26 hints_draw_New ac_draw_New [(4, none)] ht ct_dnew (fun x hx => w_draw_New tab gl0 x.1 x.2 hx.1 hx.2)
theorem ok_draw_Codes_Next (tab : Tab) (ht : TabOk Tryd.prog gl0 tab)  : FOk Tryd.prog gl0 27 ct_next.fs :=
 tieW' Tryd.f27 hints_draw_Codes_Next ac_draw_Codes_Next [(4, none)] ht ct_next (fun x hx => w_draw_Next tab gl0 x.1 x.2 hx.1 hx.2.1 hx.2.2)
theorem ok_draw_names (tab : Tab) (ht : TabOk Tryd.prog gl0 tab)  : FOk Tryd.prog gl0 51 ct_nms.fs :=
 tieW' Tryd.f51 hints_draw_names ac_draw_names [(0, (some (5, true)))] ht ct_nms (fun _ _ => w_draw_names tab gl0)
theorem ok_draw_Codes_Line (tab : Tab) (ht : TabOk Tryd.prog gl0 tab) (h1 : tab.look 27 = some ct_next.fs) : FOk Tryd.prog gl0 77 ct_line.fs :=
 tieW' Tryd.f77 hints_draw_Codes_Line (ac_draw_Codes_Line 27) [(2, none)] ht ct_line (fun x hx => w_draw_Line tab gl0 27 h1 x hx)
theorem ok_draw_Codes_Payload (tab : Tab) (ht : TabOk Tryd.prog gl0 tab) (h1 : tab.look 27 = some ct_next.fs) (h2 : tab.look 77 = some ct_line.fs) : FOk Tryd.prog gl0 52 ct_pay.fs :=
 tieW' Tryd.f52 hints_draw_Codes_Payload (ac_draw_Codes_Payload 27 77) [(2, none)] ht ct_pay (fun x hx => w_draw_Payload tab gl0 27 77 h1 h2 x hx)
theorem ok_draw_Codes_Image (tab : Tab) (ht : TabOk Tryd.prog gl0 tab) (h1 : tab.look 51 = some ct_nms.fs) (h2 : tab.look 27 = some ct_next.fs) (h3 : tab.look 52 = some ct_pay.fs) : FOk Tryd.prog gl0 28 ct_dim.fs :=
 tieW' Tryd.f28 hints_draw_Codes_Image (ac_draw_Codes_Image 51 27 52) [(4, (some (4, true)))] ht ct_dim (fun x hx => w_draw_Image tab gl0 51 27 52 h1 h2 h3 x.1 x.2 hx.1 hx.2)
theorem ok_draw_Chain (tab : Tab) (ht : TabOk Tryd.prog gl0 tab) (h1 : tab.look 26 = some ct_dnew.fs) (h2 : tab.look 27 = some ct_next.fs) (h3 : tab.look 28 = some ct_dim.fs) : FOk Tryd.prog gl0 9 ct_dch.fs :=
 tieW' Tryd.f9 hints_draw_Chain (ac_draw_Chain 26 27 28) [(2, none)] ht ct_dch (fun x hx => w_draw_Chain tab gl0 26 27 28 h1 h2 h3 x hx)
theorem ok_bytes_Equal (tab : Tab) (ht : TabOk Tryd.prog gl0 tab)  : FOk Tryd.prog gl0 44 ct_eqB.fs :=
 tieW' Tryd.f44 hints_bytes_Equal ac_bytes_Equal [(4, none)] ht ct_eqB (fun x _ => w_bytes_Equal tab gl0 x)
theorem ok_replay_same (tab : Tab) (ht : TabOk Tryd.prog gl0 tab) (h1 : tab.look 23 = some ct_val.fs) (h2 : tab.look 44 = some ct_eqB.fs) : FOk Tryd.prog gl0 71 ct_rsm2.fs :=
 tieW' Tryd.f71 hints_replay_same (ac_replay_same 23 44) [(8, none), (9, none)] ht ct_rsm2 (fun x hx => w_replay_same tab gl0 23 44 h1 h2 x.1 x.2.1 x.2.2.1 x.2.2.2 hx.1.1 hx.1.2 hx.2.1 hx.2.2)
theorem ok_replay_reached (tab : Tab) (ht : TabOk Tryd.prog gl0 tab) (h1 : tab.look 65 = some ct_new.fs) (h2 : tab.look 71 = some ct_rsm2.fs) (h3 : tab.look 66 = some ct_ext.fs) : FOk Tryd.prog gl0 46 ct_rch.fs :=
 tieW' Tryd.f46 hints_replay_reached (ac_replay_reached 65 71 66) [(6, none)] ht ct_rch (fun x hx => w_replay_reached tab gl0 65 71 66 h1 h2 h3 x.1.1 x.1.2.1 x.1.2.2 x.2.1 x.2.2 hx.1.1 hx.1.2 hx.2.1 hx.2.2)
theorem ok_replay_First (tab : Tab) (ht : TabOk Tryd.prog gl0 tab) (h1 : tab.look 40 = some ct_rpl.fs) (h2 : tab.look 46 = some ct_rch.fs) : FOk Tryd.prog gl0 21 ct_fsI.fs :=
 tieW' Tryd.f21 hints_replay_First (ac_replay_First 40 46) [(4, none)] ht ct_fsI (fun x hx => w_replay_First tab gl0 40 46 h1 h2 x.1.1 x.1.2.1 x.1.2.2 x.2 hx.1 hx.2)
theorem ok_ref25_has (tab : Tab) (ht : TabOk Tryd.prog gl0 tab)  : FOk Tryd.prog gl0 59 ct_has.fs :=
 tieW' Tryd.f59 hints_ref25_has ac_ref25_has [(4, none)] ht ct_has (fun x hx => w_ref25_has tab gl0 x hx)
theorem ok_ref1_Size (tab : Tab) (ht : TabOk Tryd.prog gl0 tab)  : FOk Tryd.prog gl0 94 ct_size.fs :=
 tieW' Tryd.f94 hints_ref1_Size ac_ref1_Size [(2, none)] ht ct_size (fun x _ => w_ref1_Size tab gl0 x)
theorem ok_ref25_digestsFit (tab : Tab) (ht : TabOk Tryd.prog gl0 tab) (h1 : tab.look 59 = some ct_has.fs) (h2 : tab.look 94 = some ct_size.fs) : FOk Tryd.prog gl0 91 ct_fitX.fs :=
 tieW' Tryd.f91 hints_ref25_digestsFit (ac_ref25_digestsFit 59 94) [(4, none)] ht ct_fitX (fun x hx => w_ref25_digestsFitX tab gl0 59 94 h1 h2 x.1 x.2 hx.1 hx.2)
theorem ok_ref25_Event (tab : Tab) (ht : TabOk Tryd.prog gl0 tab) (h1 : tab.look 91 = some ct_fitX.fs) : FOk Tryd.prog gl0 72 ct_chkX.fs :=
 tieW' Tryd.f72 hints_ref25_Event (ac_ref25_Event 91) [(4, none)] ht ct_chkX (fun x hx => w_ref25_EventX tab gl0 91 h1 x.1 x.2 hx)
theorem ok_ref8_fill (tab : Tab) (ht : TabOk Tryd.prog gl0 tab)  : FOk Tryd.prog gl0 110 ct_fill.fs :=
 tieF' [] Tryd.f110 hints_ref8_fill ac_ref8_fill [(4, none)] ht ct_fill (fun x hx => wc_ref8_fill tab gl0 x hx)
theorem ok_ref8_initial (tab : Tab) (ht : TabOk Tryd.prog gl0 tab) (h1 : tab.look 94 = some ct_size.fs) (h2 : tab.look 110 = some ct_fill.fs) : FOk Tryd.prog gl0 92 ct_init.fs :=
 tieF' [] Tryd.f92 hints_ref8_initial (ac_ref8_initial 94 110) [(4, none)] ht ct_init (fun x hx => w_ref8_initial tab gl0 94 110 h1 h2 x.1 hx x.2)
theorem ok_ref8_New (tab : Tab) (ht : TabOk Tryd.prog gl0 tab) (h1 : tab.look 92 = some ct_init.fs) : FOk Tryd.prog gl0 73 ct_new.fs :=
 tieF' [] Tryd.f73 hints_ref8_New (ac_ref8_New 92) [(2, (some (2, true)))] ht ct_new (fun x hx => wc_ref8_New tab gl0 92 h1 x)
theorem ok_ref8_Least (tab : Tab) (ht : TabOk Tryd.prog gl0 tab)  : FOk Tryd.prog gl0 93 ct_rleast.fs :=
 tieW' Tryd.f93 hints_ref8_Least ac_ref8_Least [(4, none)] ht ct_rleast (fun x _ => w_ref8_Least tab gl0 x.1 x.2)
theorem ok_ref8_Active (tab : Tab) (ht : TabOk Tryd.prog gl0 tab)  : FOk Tryd.prog gl0 41 ct_actv.fs :=
 tieW' Tryd.f41 hints_ref8_Active ac_ref8_Active [(4, none)] ht ct_actv (fun x hx => wc_ref8_Active tab gl0 x hx)
theorem ok_ref1_Copy (tab : Tab) (ht : TabOk Tryd.prog gl0 tab)  : FOk Tryd.prog gl0 96 ct_copy.fs :=
 tieF' [] Tryd.f96 hints_ref1_Copy ac_ref1_Copy [(2, none)] ht ct_copy (fun x hx => w_ref1_Copy tab gl0 x hx)
theorem ok_ref8_Copy (tab : Tab) (ht : TabOk Tryd.prog gl0 tab) (h1 : tab.look 96 = some ct_copy.fs) : FOk Tryd.prog gl0 95 ct_twin.fs :=
 tieF' [] Tryd.f95 hints_ref8_Copy (ac_ref8_Copy 96) [(2, (some (2, true)))] ht ct_twin (fun x hx => wc_ref8_Copy tab gl0 96 h1 x hx)
theorem ok_ref1_pad (tab : Tab) (ht : TabOk Tryd.prog gl0 tab)  : FOk Tryd.prog gl0 101 ct_pad.fs :=
 tieF' [] Tryd.f101 hints_ref1_pad ac_ref1_pad [(2, none)] ht ct_pad (fun x hx => w_ref1_pad tab gl0 x hx)
theorem ok_ref1_word (tab : Tab) (ht : TabOk Tryd.prog gl0 tab)  : FOk Tryd.prog gl0 102 ct_word.fs :=
 tieW' Tryd.f102 hints_ref1_word ac_ref1_word [(4, none)] ht ct_word (fun x hx => w_ref1_word tab gl0 x.1 x.2 hx.1 hx.2)
theorem ok_ref1_rotl (tab : Tab) (ht : TabOk Tryd.prog gl0 tab)  : FOk Tryd.prog gl0 103 ct_rotl1.fs :=
 tieW' Tryd.f103 hints_ref1_rotl ac_ref1_rotl [(4, none)] ht ct_rotl1 (fun x hx => w_ref1_rotl tab gl0 x.1 x.2 hx)
theorem ok_ref1_bytes (tab : Tab) (ht : TabOk Tryd.prog gl0 tab)  : FOk Tryd.prog gl0 104 ct_spread.fs :=
 tieF' [] Tryd.f104 hints_ref1_bytes ac_ref1_bytes [(2, none)] ht ct_spread (fun x hx => w_ref1_bytes tab gl0 x hx)
theorem ok_ref1_Sum1 (tab : Tab) (ht : TabOk Tryd.prog gl0 tab) (h1 : tab.look 101 = some ct_pad.fs) (h2 : tab.look 102 = some ct_word.fs) (h3 : tab.look 103 = some ct_rotl1.fs) (h4 : tab.look 104 = some ct_spread.fs) : FOk Tryd.prog gl0 82 (ct_sum 20 sum1).fs :=
 tieF' [] Tryd.f82 hints_ref1_Sum1 (ac_ref1_Sum1 101 102 103 104) [(2, none)] ht (ct_sum 20 sum1) (fun x hx => w_ref1_Sum1 tab gl0 101 102 103 104 h1 h2 h3 h4 x hx)
theorem ok_ref1_constants (tab : Tab) (ht : TabOk Tryd.prog gl0 tab)  : FOk Tryd.prog gl0 105 ct_const.fs :=
 tieW' Tryd.f105 hints_ref1_constants ac_ref1_constants [(0, (some (64, true)))] ht ct_const (fun _ _ => w_ref1_constants tab gl0)
theorem ok_ref1_rotr (tab : Tab) (ht : TabOk Tryd.prog gl0 tab)  : FOk Tryd.prog gl0 106 ct_rotr.fs :=
 tieW' Tryd.f106 hints_ref1_rotr ac_ref1_rotr [(4, none)] ht ct_rotr (fun x hx => w_ref1_rotr tab gl0 x.1 x.2 hx)
theorem ok_ref1_Sum256 (tab : Tab) (ht : TabOk Tryd.prog gl0 tab) (h1 : tab.look 105 = some ct_const.fs) (h2 : tab.look 101 = some ct_pad.fs) (h3 : tab.look 102 = some ct_word.fs) (h4 : tab.look 106 = some ct_rotr.fs) (h5 : tab.look 104 = some ct_spread.fs) : FOk Tryd.prog gl0 83 (ct_sum 32 sum256).fs :=
 tieF' [] Tryd.f83 hints_ref1_Sum256 (ac_ref1_Sum256 105 101 102 106 104) [(2, none)] ht (ct_sum 32 sum256) (fun x hx => w_ref1_Sum256 tab gl0 105 101 102 106 104 h1 h2 h3 h4 h5 x hx)
theorem ok_ref1_Sum (tab : Tab) (ht : TabOk Tryd.prog gl0 tab) (h1 : tab.look 82 = some (ct_sum 20 sum1).fs) (h2 : tab.look 83 = some (ct_sum 32 sum256).fs) : FOk Tryd.prog gl0 60 ct_sumA.fs :=
 tieF' [] Tryd.f60 hints_ref1_Sum (ac_ref1_Sum 82 83) [(4, none)] ht ct_sumA (fun x hx => w_ref1_Sum tab gl0 82 83 h1 h2 x.1 hx.1 x.2 hx.2)
theorem ok_ref8_Extend (tab : Tab) (ht : TabOk Tryd.prog gl0 tab) (h1 : tab.look 93 = some ct_rleast.fs) (h2 : tab.look 41 = some ct_actv.fs) (h3 : tab.look 94 = some ct_size.fs) (h4 : tab.look 95 = some ct_twin.fs) (h5 : tab.look 96 = some ct_copy.fs) (h6 : tab.look 60 = some ct_sumA.fs) : FOk Tryd.prog gl0 74 ct_ext.fs :=
 tieW' Tryd.f74 hints_ref8_Extend (ac_ref8_Extend 93 41 94 95 96 60) [(8, (some (2, true))), (9, none)] ht ct_ext (fun x hx => w_ref8_Extend tab gl0 93 41 94 95 96 60 h1 h2 h3 h4 h5 h6 x hx)
theorem ok_ref25_Replay (tab : Tab) (ht : TabOk Tryd.prog gl0 tab) (h1 : tab.look 72 = some ct_chkX.fs) (h2 : tab.look 73 = some ct_new.fs) (h3 : tab.look 74 = some ct_ext.fs) : FOk Tryd.prog gl0 47 ct_rpl.fs :=
 tieW' Tryd.f47 hints_ref25_Replay (ac_ref25_Replay 72 73 74) [(2, (some (2, true))), (3, none)] ht ct_rpl (fun x hx => w_ref25_Replay tab gl0 72 73 74 h1 h2 h3 x.1 x.2.1 x.2.2 hx)
theorem ok_ref8_Value (tab : Tab) (ht : TabOk Tryd.prog gl0 tab) (h1 : tab.look 41 = some ct_actv.fs) (h2 : tab.look 96 = some ct_copy.fs) : FOk Tryd.prog gl0 97 ct_val.fs :=
 tieF' [] Tryd.f97 hints_ref8_Value (ac_ref8_Value 41 96) [(6, none), (7, none)] ht ct_val (fun x hx => w_ref8_Value tab gl0 41 96 h1 h2 x.1 x.2.1 x.2.2.1 x.2.2.2 hx)
theorem ok_ref25_agree (tab : Tab) (ht : TabOk Tryd.prog gl0 tab) (h1 : tab.look 59 = some ct_has.fs) (h2 : tab.look 97 = some ct_val.fs) (h3 : tab.look 24 = some ct_same.fs) : FOk Tryd.prog gl0 75 ct_agr.fs :=
 tieW' Tryd.f75 hints_ref25_agree (ac_ref25_agree 59 97 24) [(8, none)] ht ct_agr (fun x hx => w_ref25_agree tab gl0 59 97 24 h1 h2 h3 x.1 x.2.1 x.2.2.1 x.2.2.2 hx.1.1 hx.1.2 hx.2.1 hx.2.2)
theorem ok_ref25_Reached (tab : Tab) (ht : TabOk Tryd.prog gl0 tab) (h1 : tab.look 47 = some ct_rpl.fs) (h2 : tab.look 73 = some ct_new.fs) (h3 : tab.look 75 = some ct_agr.fs) (h4 : tab.look 74 = some ct_ext.fs) : FOk Tryd.prog gl0 48 ct_rcI.fs :=
 tieW' Tryd.f48 hints_ref25_Reached (ac_ref25_Reached 47 73 75 74) [(6, none)] ht ct_rcI (fun x hx => w_ref25_Reached tab gl0 47 73 75 74 h1 h2 h3 h4 x.1.1 x.1.2.1 x.1.2.2 x.2.1 x.2.2 hx.1 hx.2)
theorem ok_law29_twice (tab : Tab) (ht : TabOk Tryd.prog gl0 tab) (h1 : tab.look 47 = some ct_rpl.fs) (h2 : tab.look 48 = some ct_rcI.fs) : FOk Tryd.prog gl0 22 ct_twi.fs :=
 tieW' Tryd.f22 hints_law29_twice (ac_law29_twice 47 48) [(2, none)] ht ct_twi (fun x hx => w_law29_twice tab gl0 47 48 h1 h2 x.1 x.2 hx.1 hx.2)
theorem sp_law29_PredictReplay (tab : Tab) (ht : TabOk Tryd.prog gl0 tab) (h1 : tab.look 7 = some ct_awake.fs) (h2 : tab.look 13 = some ct_dact.fs) (h3 : tab.look 9 = some ct_dch.fs) (h4 : tab.look 11 = some ct_evI.fs) (h5 : tab.look 17 = some ct_prd.fs) (h6 : tab.look 21 = some ct_fsI.fs) (h7 : tab.look 22 = some ct_twi.fs) (cs : List UInt8) (hcs : cs.length ≤ 9223372036854775807) (a : Int) (ha : rI a) : Spec Tryd.prog gl0 6 [.t (.sl (cs.map byteT)), .t (.int .i64 a)] [] (.t (.bool true)) [] :=
 tieL' Tryd.f6 hints_law29_PredictReplay (ac_law29_PredictReplay 7 13 9 11 17 21 22) [(4, none)] ht (w_PredictReplay tab gl0 7 13 9 11 17 21 22 h1 h2 h3 h4 h5 h6 h7 cs hcs a ha)
noncomputable def tab1 : Tab := (64, ct_name.fs) :: []
theorem tab1_ok : TabOk Tryd.prog gl0 tab1 := TabOk.cons ok_image_named TabOk.nil
noncomputable def tab2 : Tab := (80, ct_bix.fs) :: tab1
theorem tab2_ok : TabOk Tryd.prog gl0 tab2 := TabOk.cons ok_bytealg_IndexByte tab1_ok
noncomputable def tab3 : Tab := (55, ct_bix.fs) :: tab2
theorem tab3_ok : TabOk Tryd.prog gl0 tab3 := TabOk.cons (ok_bytes_IndexByte tab2 tab2_ok rfl) tab2_ok
noncomputable def tab4 : Tab := (56, ct_ipr.fs) :: tab3
theorem tab4_ok : TabOk Tryd.prog gl0 tab4 := TabOk.cons (ok_image_printable tab3 tab3_ok ) tab3_ok
noncomputable def tab5 : Tab := (31, ct_lns.fs) :: tab4
theorem tab5_ok : TabOk Tryd.prog gl0 tab5 := TabOk.cons (ok_image_Lines tab4 tab4_ok rfl rfl) tab4_ok
noncomputable def tab6 : Tab := (39, ct_imc.fs) :: tab5
theorem tab6_ok : TabOk Tryd.prog gl0 tab6 := TabOk.cons (ok_image_Check tab5 tab5_ok rfl rfl) tab5_ok
noncomputable def tab7 : Tab := (15, ct_chc.fs) :: tab6
theorem tab7_ok : TabOk Tryd.prog gl0 tab7 := TabOk.cons (ok_image_CheckChain tab6 tab6_ok rfl) tab6_ok
noncomputable def tab8 : Tab := (33, ct_reg.fs) :: tab7
theorem tab8_ok : TabOk Tryd.prog gl0 tab8 := TabOk.cons (ok_image_Register tab7 tab7_ok ) tab7_ok
noncomputable def tab9 : Tab := (98, ct_uint.fs) :: tab8
theorem tab9_ok : TabOk Tryd.prog gl0 tab9 := TabOk.cons (ok_wire_Uint tab8 tab8_ok ) tab8_ok
noncomputable def tab10 : Tab := (99, ct_blob.fs) :: tab9
theorem tab10_ok : TabOk Tryd.prog gl0 tab10 := TabOk.cons (ok_wire_Blob tab9 tab9_ok rfl) tab9_ok
noncomputable def tab11 : Tab := (78, ct_enI.fs) :: tab10
theorem tab11_ok : TabOk Tryd.prog gl0 tab11 := TabOk.cons (ok_image_Encode tab10 tab10_ok rfl rfl rfl) tab10_ok
noncomputable def tab12 : Tab := (67, ct_pad.fs) :: tab11
theorem tab12_ok : TabOk Tryd.prog gl0 tab12 := TabOk.cons (ok_digest_pad tab11 tab11_ok ) tab11_ok
noncomputable def tab13 : Tab := (89, ct_word.fs) :: tab12
theorem tab13_ok : TabOk Tryd.prog gl0 tab13 := TabOk.cons (ok_digest_word tab12 tab12_ok ) tab12_ok
noncomputable def tab14 : Tab := (90, ct_rotl.fs) :: tab13
theorem tab14_ok : TabOk Tryd.prog gl0 tab14 := TabOk.cons (ok_bits_RotateLeft32 tab13 tab13_ok ) tab13_ok
noncomputable def tab15 : Tab := (68, (ct_comp 5 comp1).fs) :: tab14
theorem tab15_ok : TabOk Tryd.prog gl0 tab15 := TabOk.cons (ok_digest_compress1 tab14 tab14_ok rfl rfl) tab14_ok
noncomputable def tab16 : Tab := (69, ct_spread.fs) :: tab15
theorem tab16_ok : TabOk Tryd.prog gl0 tab16 := TabOk.cons (ok_digest_spread tab15 tab15_ok ) tab15_ok
noncomputable def tab17 : Tab := (70, (ct_comp 8 comp256).fs) :: tab16
theorem tab17_ok : TabOk Tryd.prog gl0 tab17 := TabOk.cons (ok_digest_compress256 tab16 tab16_ok rfl rfl) tab16_ok
noncomputable def tab18 : Tab := (45, ct_sumA.fs) :: tab17
theorem tab18_ok : TabOk Tryd.prog gl0 tab18 := TabOk.cons (ok_digest_Sum tab17 tab17_ok rfl rfl rfl rfl) tab17_ok
noncomputable def tab19 : Tab := (53, ct_imd.fs) :: tab18
theorem tab19_ok : TabOk Tryd.prog gl0 tab19 := TabOk.cons (ok_image_Digests tab18 tab18_ok rfl rfl) tab18_ok
noncomputable def tab20 : Tab := (54, ct_itoa.fs) :: tab19
theorem tab20_ok : TabOk Tryd.prog gl0 tab20 := TabOk.cons ok_strconv_Itoa tab19_ok
noncomputable def tab21 : Tab := (30, ct_ofI.fs) :: tab20
theorem tab21_ok : TabOk Tryd.prog gl0 tab21 := TabOk.cons (ok_event_OfImage tab20 tab20_ok rfl rfl rfl rfl) tab20_ok
noncomputable def tab22 : Tab := (57, ct_clone.fs) :: tab21
theorem tab22_ok : TabOk Tryd.prog gl0 tab22 := TabOk.cons (ok_bytes_Clone tab21 tab21_ok ) tab21_ok
noncomputable def tab23 : Tab := (32, ct_make.fs) :: tab22
theorem tab23_ok : TabOk Tryd.prog gl0 tab23 := TabOk.cons (ok_event_Make tab22 tab22_ok rfl rfl) tab22_ok
noncomputable def tab24 : Tab := (11, ct_evI.fs) :: tab23
theorem tab24_ok : TabOk Tryd.prog gl0 tab24 := TabOk.cons (ok_predict_Events tab23 tab23_ok rfl rfl rfl rfl rfl) tab23_ok
noncomputable def tab25 : Tab := (43, ct_size.fs) :: tab24
theorem tab25_ok : TabOk Tryd.prog gl0 tab25 := TabOk.cons (ok_digest_Size tab24 tab24_ok ) tab24_ok
noncomputable def tab26 : Tab := (123, ct_mul64.fs) :: tab25
theorem tab26_ok : TabOk Tryd.prog gl0 tab26 := TabOk.cons (ok_bits_Mul64 tab25 tab25_ok ) tab25_ok
noncomputable def tab27 : Tab := (115, ct_mul64.fs) :: tab26
theorem tab27_ok : TabOk Tryd.prog gl0 tab27 := TabOk.cons (ok_bits_Mul tab26 tab26_ok rfl) tab26_ok
noncomputable def tab28 : Tab := (116, ct_mnz.fs) :: tab27
theorem tab28_ok : TabOk Tryd.prog gl0 tab28 := TabOk.cons ok_bytealg_MakeNoZero tab27_ok
noncomputable def tab29 : Tab := (109, ct_repeat.fs) :: tab28
theorem tab29_ok : TabOk Tryd.prog gl0 tab29 := TabOk.cons (ok_bytes_Repeat tab28 tab28_ok rfl rfl) tab28_ok
noncomputable def tab30 : Tab := (86, ct_fill.fs) :: tab29
theorem tab30_ok : TabOk Tryd.prog gl0 tab30 := TabOk.cons (ok_registers_fill tab29 tab29_ok rfl) tab29_ok
noncomputable def tab31 : Tab := (65, ct_new.fs) :: tab30
theorem tab31_ok : TabOk Tryd.prog gl0 tab31 := TabOk.cons (ok_registers_New tab30 tab30_ok rfl rfl) tab30_ok
noncomputable def tab32 : Tab := (19, ct_chkX.fs) :: tab31
theorem tab32_ok : TabOk Tryd.prog gl0 tab32 := TabOk.cons (ok_event_Check tab31 tab31_ok rfl) tab31_ok
noncomputable def tab33 : Tab := (49, ct_index.fs) :: tab32
theorem tab33_ok : TabOk Tryd.prog gl0 tab33 := TabOk.cons (ok_registers_index tab32 tab32_ok ) tab32_ok
noncomputable def tab34 : Tab := (87, ct_least.fs) :: tab33
theorem tab34_ok : TabOk Tryd.prog gl0 tab34 := TabOk.cons (ok_registers_least tab33 tab33_ok ) tab33_ok
noncomputable def tab35 : Tab := (76, ct_active.fs) :: tab34
theorem tab35_ok : TabOk Tryd.prog gl0 tab35 := TabOk.cons (ok_registers_active tab34 tab34_ok ) tab34_ok
noncomputable def tab36 : Tab := (50, ct_on.fs) :: tab35
theorem tab36_ok : TabOk Tryd.prog gl0 tab36 := TabOk.cons (ok_registers_on tab35 tab35_ok rfl) tab35_ok
noncomputable def tab37 : Tab := (88, ct_twin.fs) :: tab36
theorem tab37_ok : TabOk Tryd.prog gl0 tab37 := TabOk.cons (ok_registers_twin tab36 tab36_ok ) tab36_ok
noncomputable def tab38 : Tab := (66, ct_ext.fs) :: tab37
theorem tab38_ok : TabOk Tryd.prog gl0 tab38 := TabOk.cons (ok_registers_Extend tab37 tab37_ok rfl rfl rfl rfl rfl rfl) tab37_ok
noncomputable def tab39 : Tab := (40, ct_rpl.fs) :: tab38
theorem tab39_ok : TabOk Tryd.prog gl0 tab39 := TabOk.cons (ok_replay_Registers tab38 tab38_ok rfl rfl rfl) tab38_ok
noncomputable def tab40 : Tab := (17, ct_prd.fs) :: tab39
theorem tab40_ok : TabOk Tryd.prog gl0 tab40 := TabOk.cons (ok_predict_Registers tab39 tab39_ok rfl rfl rfl) tab39_ok
noncomputable def tab41 : Tab := (23, ct_val.fs) :: tab40
theorem tab41_ok : TabOk Tryd.prog gl0 tab41 := TabOk.cons (ok_registers_Value tab40 tab40_ok rfl rfl) tab40_ok
noncomputable def tab42 : Tab := (24, ct_same.fs) :: tab41
theorem tab42_ok : TabOk Tryd.prog gl0 tab42 := TabOk.cons (ok_ref1_Same tab41 tab41_ok ) tab41_ok
noncomputable def tab43 : Tab := (7, ct_awake.fs) :: tab42
theorem tab43_ok : TabOk Tryd.prog gl0 tab43 := TabOk.cons (ok_law29_awake tab42 tab42_ok rfl rfl rfl rfl) tab42_ok
noncomputable def tab44 : Tab := (16, ct_mod.fs) :: tab43
theorem tab44_ok : TabOk Tryd.prog gl0 tab44 := TabOk.cons (ok_draw_Mod tab43 tab43_ok ) tab43_ok
noncomputable def tab45 : Tab := (13, ct_dact.fs) :: tab44
theorem tab45_ok : TabOk Tryd.prog gl0 tab45 := TabOk.cons (ok_draw_Active tab44 tab44_ok rfl) tab44_ok
noncomputable def tab46 : Tab := (26, ct_dnew.fs) :: tab45
theorem tab46_ok : TabOk Tryd.prog gl0 tab46 := TabOk.cons (ok_draw_New tab45 tab45_ok ) tab45_ok
noncomputable def tab47 : Tab := (27, ct_next.fs) :: tab46
theorem tab47_ok : TabOk Tryd.prog gl0 tab47 := TabOk.cons (ok_draw_Codes_Next tab46 tab46_ok ) tab46_ok
noncomputable def tab48 : Tab := (51, ct_nms.fs) :: tab47
theorem tab48_ok : TabOk Tryd.prog gl0 tab48 := TabOk.cons (ok_draw_names tab47 tab47_ok ) tab47_ok
noncomputable def tab49 : Tab := (77, ct_line.fs) :: tab48
theorem tab49_ok : TabOk Tryd.prog gl0 tab49 := TabOk.cons (ok_draw_Codes_Line tab48 tab48_ok rfl) tab48_ok
noncomputable def tab50 : Tab := (52, ct_pay.fs) :: tab49
theorem tab50_ok : TabOk Tryd.prog gl0 tab50 := TabOk.cons (ok_draw_Codes_Payload tab49 tab49_ok rfl rfl) tab49_ok
noncomputable def tab51 : Tab := (28, ct_dim.fs) :: tab50
theorem tab51_ok : TabOk Tryd.prog gl0 tab51 := TabOk.cons (ok_draw_Codes_Image tab50 tab50_ok rfl rfl rfl) tab50_ok
noncomputable def tab52 : Tab := (9, ct_dch.fs) :: tab51
theorem tab52_ok : TabOk Tryd.prog gl0 tab52 := TabOk.cons (ok_draw_Chain tab51 tab51_ok rfl rfl rfl) tab51_ok
noncomputable def tab53 : Tab := (44, ct_eqB.fs) :: tab52
theorem tab53_ok : TabOk Tryd.prog gl0 tab53 := TabOk.cons (ok_bytes_Equal tab52 tab52_ok ) tab52_ok
noncomputable def tab54 : Tab := (71, ct_rsm2.fs) :: tab53
theorem tab54_ok : TabOk Tryd.prog gl0 tab54 := TabOk.cons (ok_replay_same tab53 tab53_ok rfl rfl) tab53_ok
noncomputable def tab55 : Tab := (46, ct_rch.fs) :: tab54
theorem tab55_ok : TabOk Tryd.prog gl0 tab55 := TabOk.cons (ok_replay_reached tab54 tab54_ok rfl rfl rfl) tab54_ok
noncomputable def tab56 : Tab := (21, ct_fsI.fs) :: tab55
theorem tab56_ok : TabOk Tryd.prog gl0 tab56 := TabOk.cons (ok_replay_First tab55 tab55_ok rfl rfl) tab55_ok
noncomputable def tab57 : Tab := (59, ct_has.fs) :: tab56
theorem tab57_ok : TabOk Tryd.prog gl0 tab57 := TabOk.cons (ok_ref25_has tab56 tab56_ok ) tab56_ok
noncomputable def tab58 : Tab := (94, ct_size.fs) :: tab57
theorem tab58_ok : TabOk Tryd.prog gl0 tab58 := TabOk.cons (ok_ref1_Size tab57 tab57_ok ) tab57_ok
noncomputable def tab59 : Tab := (91, ct_fitX.fs) :: tab58
theorem tab59_ok : TabOk Tryd.prog gl0 tab59 := TabOk.cons (ok_ref25_digestsFit tab58 tab58_ok rfl rfl) tab58_ok
noncomputable def tab60 : Tab := (72, ct_chkX.fs) :: tab59
theorem tab60_ok : TabOk Tryd.prog gl0 tab60 := TabOk.cons (ok_ref25_Event tab59 tab59_ok rfl) tab59_ok
noncomputable def tab61 : Tab := (110, ct_fill.fs) :: tab60
theorem tab61_ok : TabOk Tryd.prog gl0 tab61 := TabOk.cons (ok_ref8_fill tab60 tab60_ok ) tab60_ok
noncomputable def tab62 : Tab := (92, ct_init.fs) :: tab61
theorem tab62_ok : TabOk Tryd.prog gl0 tab62 := TabOk.cons (ok_ref8_initial tab61 tab61_ok rfl rfl) tab61_ok
noncomputable def tab63 : Tab := (73, ct_new.fs) :: tab62
theorem tab63_ok : TabOk Tryd.prog gl0 tab63 := TabOk.cons (ok_ref8_New tab62 tab62_ok rfl) tab62_ok
noncomputable def tab64 : Tab := (93, ct_rleast.fs) :: tab63
theorem tab64_ok : TabOk Tryd.prog gl0 tab64 := TabOk.cons (ok_ref8_Least tab63 tab63_ok ) tab63_ok
noncomputable def tab65 : Tab := (41, ct_actv.fs) :: tab64
theorem tab65_ok : TabOk Tryd.prog gl0 tab65 := TabOk.cons (ok_ref8_Active tab64 tab64_ok ) tab64_ok
noncomputable def tab66 : Tab := (96, ct_copy.fs) :: tab65
theorem tab66_ok : TabOk Tryd.prog gl0 tab66 := TabOk.cons (ok_ref1_Copy tab65 tab65_ok ) tab65_ok
noncomputable def tab67 : Tab := (95, ct_twin.fs) :: tab66
theorem tab67_ok : TabOk Tryd.prog gl0 tab67 := TabOk.cons (ok_ref8_Copy tab66 tab66_ok rfl) tab66_ok
noncomputable def tab68 : Tab := (101, ct_pad.fs) :: tab67
theorem tab68_ok : TabOk Tryd.prog gl0 tab68 := TabOk.cons (ok_ref1_pad tab67 tab67_ok ) tab67_ok
noncomputable def tab69 : Tab := (102, ct_word.fs) :: tab68
theorem tab69_ok : TabOk Tryd.prog gl0 tab69 := TabOk.cons (ok_ref1_word tab68 tab68_ok ) tab68_ok
noncomputable def tab70 : Tab := (103, ct_rotl1.fs) :: tab69
theorem tab70_ok : TabOk Tryd.prog gl0 tab70 := TabOk.cons (ok_ref1_rotl tab69 tab69_ok ) tab69_ok
noncomputable def tab71 : Tab := (104, ct_spread.fs) :: tab70
theorem tab71_ok : TabOk Tryd.prog gl0 tab71 := TabOk.cons (ok_ref1_bytes tab70 tab70_ok ) tab70_ok
noncomputable def tab72 : Tab := (82, (ct_sum 20 sum1).fs) :: tab71
theorem tab72_ok : TabOk Tryd.prog gl0 tab72 := TabOk.cons (ok_ref1_Sum1 tab71 tab71_ok rfl rfl rfl rfl) tab71_ok
noncomputable def tab73 : Tab := (105, ct_const.fs) :: tab72
theorem tab73_ok : TabOk Tryd.prog gl0 tab73 := TabOk.cons (ok_ref1_constants tab72 tab72_ok ) tab72_ok
noncomputable def tab74 : Tab := (106, ct_rotr.fs) :: tab73
theorem tab74_ok : TabOk Tryd.prog gl0 tab74 := TabOk.cons (ok_ref1_rotr tab73 tab73_ok ) tab73_ok
noncomputable def tab75 : Tab := (83, (ct_sum 32 sum256).fs) :: tab74
theorem tab75_ok : TabOk Tryd.prog gl0 tab75 := TabOk.cons (ok_ref1_Sum256 tab74 tab74_ok rfl rfl rfl rfl rfl) tab74_ok
noncomputable def tab76 : Tab := (60, ct_sumA.fs) :: tab75
theorem tab76_ok : TabOk Tryd.prog gl0 tab76 := TabOk.cons (ok_ref1_Sum tab75 tab75_ok rfl rfl) tab75_ok
noncomputable def tab77 : Tab := (74, ct_ext.fs) :: tab76
theorem tab77_ok : TabOk Tryd.prog gl0 tab77 := TabOk.cons (ok_ref8_Extend tab76 tab76_ok rfl rfl rfl rfl rfl rfl) tab76_ok
noncomputable def tab78 : Tab := (47, ct_rpl.fs) :: tab77
theorem tab78_ok : TabOk Tryd.prog gl0 tab78 := TabOk.cons (ok_ref25_Replay tab77 tab77_ok rfl rfl rfl) tab77_ok
noncomputable def tab79 : Tab := (97, ct_val.fs) :: tab78
theorem tab79_ok : TabOk Tryd.prog gl0 tab79 := TabOk.cons (ok_ref8_Value tab78 tab78_ok rfl rfl) tab78_ok
noncomputable def tab80 : Tab := (75, ct_agr.fs) :: tab79
theorem tab80_ok : TabOk Tryd.prog gl0 tab80 := TabOk.cons (ok_ref25_agree tab79 tab79_ok rfl rfl rfl) tab79_ok
noncomputable def tab81 : Tab := (48, ct_rcI.fs) :: tab80
theorem tab81_ok : TabOk Tryd.prog gl0 tab81 := TabOk.cons (ok_ref25_Reached tab80 tab80_ok rfl rfl rfl rfl) tab80_ok
noncomputable def tab82 : Tab := (22, ct_twi.fs) :: tab81
theorem tab82_ok : TabOk Tryd.prog gl0 tab82 := TabOk.cons (ok_law29_twice tab81 tab81_ok rfl rfl) tab81_ok
end Go.Eng
end
section
set_option maxRecDepth 100000
namespace Go.Proofs.YtldnhemfgkfiiaaDoor
open Go.Eng Go.ChangeShapes Go.WideShapes Go.ChangeAt Go.WideElems Go.RowKit
def theLaid {H : Type} : List (String × DataW H) := [("math/bits.deBruijn32tab", Rows.laid_math_bits_deBruijn32tab), ("math/bits.deBruijn64tab", Rows.laid_math_bits_deBruijn64tab), ("internal/strconv.uint64pow10", Rows.laid_internal_strconv_uint64pow10), ("sealwright/digest.round256", Rows.laid_sealwright_digest_round256), ("sealwright/image.measured", Rows.laid_sealwright_image_measured)]
theorem s_own : ownKnob Tryd.prog.godebug = none := by kernel_rfl
theorem s_laidOut : laidOutB Tryd.prog = true := by kernel_rfl
theorem s_g0 : Tryd.prog.globalNamed "sealwright/digest.round256" = some 1 := by kernel_rfl
theorem s_data0 : (Rows.laid_sealwright_digest_round256 : DataW Unit) = .agg ((k256.map fun x => (x.toNat : Int)).map fun m => .lit (.int .u32 m)) := by rfl
theorem s_v0 (W : World) {ps : List MemPlace} (hv : DataW.LaidVars Tryd.prog W theLaid ps) : RepV (fun _ => none) (fun b => b < W.heap.size) W (.ro (k256.map u32T)) (.pointer (some ⟨1, 0, none⟩)) ∧ GSz W 1 (k256.map u32T).length := by
 obtain ⟨g, t, cs, fuel, p, h1, h2, h3, h4⟩ := laid_each hv _ (.tail _ (.tail _ (.tail _ (.head _))))
 obtain rfl := Option.some.inj (s_g0.symm.trans h1)
 obtain rfl := Option.some.inj ((show (Tryd.prog.globals[1]?).map (·.type) = some 117 by kernel_rfl).symm.trans h2)
 have h4' : DataW.trod (fun _ => ()) Tryd.prog W 0 (fun _ => true) false fuel 117 cs.toList = some (.agg ((k256.map fun x => (x.toNat : Int)).map fun m => .lit (.int .u32 m)), p) := by rw [← s_data0]; exact h4
 have e : (k256.map fun x => (x.toNat : Int)).map (T.int .u32) = k256.map u32T := by rw [List.map_map]; rfl
 rw [← e]
 exact ⟨ro_ints (F := fun b => b < W.heap.size) h1 h3 Tryd.underlying117 Tryd.underlying93 (by kernel_rfl) (by kernel_rfl) (by decide) h4' (fun h => h), gs_ints h1 h3 Tryd.underlying117 (by kernel_rfl) h4'⟩
theorem s_g1 : Tryd.prog.globalNamed "sealwright/image.measured" = some 0 := by kernel_rfl
theorem s_data1 : (Rows.laid_sealwright_image_measured : DataW Unit) = .agg (([-1, 0, 4, 8, 9]).map fun m => .lit (.int .i64 m)) := by rfl
theorem s_v1 (W : World) {ps : List MemPlace} (hv : DataW.LaidVars Tryd.prog W theLaid ps) : RepV (fun _ => none) (fun b => b < W.heap.size) W (.ro (measT)) (.pointer (some ⟨0, 0, none⟩)) ∧ GSz W 0 (measT).length := by
 obtain ⟨g, t, cs, fuel, p, h1, h2, h3, h4⟩ := laid_each hv _ (.tail _ (.tail _ (.tail _ (.tail _ (.head _)))))
 obtain rfl := Option.some.inj (s_g1.symm.trans h1)
 obtain rfl := Option.some.inj ((show (Tryd.prog.globals[0]?).map (·.type) = some 87 by kernel_rfl).symm.trans h2)
 have h4' : DataW.trod (fun _ => ()) Tryd.prog W 0 (fun _ => true) false fuel 87 cs.toList = some (.agg (([-1, 0, 4, 8, 9]).map fun m => .lit (.int .i64 m)), p) := by rw [← s_data1]; exact h4
 have e : ([-1, 0, 4, 8, 9]).map (T.int .i64) = measT := rfl
 rw [← e]
 exact ⟨ro_ints (F := fun b => b < W.heap.size) h1 h3 Tryd.underlying87 Tryd.underlying3 (by kernel_rfl) (by kernel_rfl) (by decide) h4' (fun h => h), gs_ints h1 h3 Tryd.underlying87 (by kernel_rfl) h4'⟩
theorem s_g2 : Tryd.prog.globalNamed "internal/strconv.uint64pow10" = some 3 := by kernel_rfl
theorem s_data2 : (Rows.laid_internal_strconv_uint64pow10 : DataW Unit) = .agg ((Lib.pow10Tab).map fun m => .lit (.int .u64 m)) := by rfl
theorem s_v2 (W : World) {ps : List MemPlace} (hv : DataW.LaidVars Tryd.prog W theLaid ps) : RepV (fun _ => none) (fun b => b < W.heap.size) W (.ro (pow10T)) (.pointer (some ⟨3, 0, none⟩)) ∧ GSz W 3 (pow10T).length := by
 obtain ⟨g, t, cs, fuel, p, h1, h2, h3, h4⟩ := laid_each hv _ (.tail _ (.tail _ (.head _)))
 obtain rfl := Option.some.inj (s_g2.symm.trans h1)
 obtain rfl := Option.some.inj ((show (Tryd.prog.globals[3]?).map (·.type) = some 134 by kernel_rfl).symm.trans h2)
 have h4' : DataW.trod (fun _ => ()) Tryd.prog W 0 (fun _ => true) false fuel 134 cs.toList = some (.agg ((Lib.pow10Tab).map fun m => .lit (.int .u64 m)), p) := by rw [← s_data2]; exact h4
 have e : (Lib.pow10Tab).map (T.int .u64) = pow10T := rfl
 rw [← e]
 exact ⟨ro_ints (F := fun b => b < W.heap.size) h1 h3 Tryd.underlying134 Tryd.underlying113 (by kernel_rfl) (by kernel_rfl) (by decide) h4' (fun h => h), gs_ints h1 h3 Tryd.underlying134 (by kernel_rfl) h4'⟩
theorem s_all (W : World) {ps : List MemPlace} (hv : DataW.LaidVars Tryd.prog W theLaid ps) (g : Nat) (cs : List T) (hg : gl0 g = some cs) : RepV (fun _ => none) (fun b => b < W.heap.size) W (.ro cs) (.pointer (some ⟨g, 0, none⟩)) ∧ GSz W g cs.length := by
 unfold gl0 at hg
 split at hg
 · rename_i h0; subst h0; cases hg; exact s_v0 W hv
 · skip
   split at hg
   · rename_i h0; subst h0; cases hg; exact s_v1 W hv
   · skip
     split at hg
     · rename_i h0; subst h0; cases hg; exact s_v2 W hv
     · cases hg
theorem s_env (W : World) (h : laidMetH Tryd.prog theLaid W) : EnvOk gl0 (fun b => b < W.heap.size) W := by
 rw [MakeChecks.laidMetH_plain _ _ _ (by kernel_rfl)] at h
 obtain ⟨ps, hv, _⟩ := h
 exact ⟨fun _ h => h, fun g cs hg => (s_all W hv g cs hg).1, fun g cs hg => (s_all W hv g cs hg).2⟩
abbrev s_tb : TypeId := 4
theorem s_bool : Tryd.prog.underlying s_tb = some .bool := Tryd.underlying4
theorem s_shaped (os : Os) (args : Array Value) : ((World.doorLaid Tryd.prog 400 os).forCall (fun _ _ => 0) ⟨#[], args, []⟩).Shaped Tryd.prog := World.shaped_of_RefB (by kernel_rfl) (by kernel_rfl)
theorem door_met (os : Os) (args : Array Value) : laidMetH Tryd.prog theLaid ((World.doorLaid Tryd.prog 400 os).forCall (fun _ _ => 0) ⟨#[], args, []⟩).memory :=
 laidMetH_of_parts3 (fuel := 8) (laidMet_of_run' 8 (by kernel_rfl) (by kernel_rfl)) (by kernel_rfl) (by kernel_rfl)
end Go.Proofs.YtldnhemfgkfiiaaDoor
end
section
set_option maxRecDepth 20000
namespace Go.Eng
theorem is_ims {y : T} (h : (Ty.sl (.st [.int .i64, .str, .int .i64, .sl (.int .u8)])).is y) : ∃ l : List Im, imsX l ∧ y = .sl (l.map imT) := by
 obtain ⟨es, hl, he, rfl⟩ := h
 have key : ∀ y ∈ es, ∃ x : Im, y = imT x ∧ imX x := fun y hy => by
   obtain ⟨a, v, s, p, h1, h2, h3, h4, rfl⟩ := is_im (he y hy)
   exact ⟨(a, s, v, p), rfl, h1, h2, h3, h4⟩
 obtain ⟨l, hl2⟩ := list_of (f := imT) (es := es) (fun y hy => by obtain ⟨e, h1, _⟩ := key y hy; exact ⟨e, h1⟩)
 subst hl2
 rw [List.length_map, mx] at hl
 refine ⟨l, ⟨hl, fun x hx => ?_⟩, rfl⟩
 obtain ⟨e', h1, h2⟩ := key (imT x) (List.mem_map_of_mem hx)
 cases imT_inj h1
 exact h2
end Go.Eng
end
