/- My own text: an abstract machine, its walks over the functions reached, and their tie to the program. -/
import Derived.Test.YtldnhemfgkfiiaaGreatDoorRows
import Derived.Tactics
import Derived.Tactics2
import Derived.StillTactics
import Derived.Laws.AppendOwn
import Derived.Laws.Runes
import Derived.Laws.CopyRow
import Derived.Laws.Shifts
import Derived.Laws.Rows
import Derived.Laws.BitsLemmas
import Derived.Laws.Tables
import Derived.Laws.NewBlocks
import Derived.Laws.Unary
import Derived.Laws.Strings
import Derived.Laws.NewFold
import Derived.Laws.ShiftsVarLaws
import Derived.Laws.Bits
import Derived.Laws.Alloc2
import Derived.Laws.Bits128
import Derived.Laws.Strings2
import Derived.Laws.Wrap64
import Derived.Laws.ShiftsVar
import Derived.Laws.Closers25
import Derived.Laws.RangeString
import Derived.Laws.Concat
import Derived.Laws.Cells
import Derived.Laws.NewDeep
import Derived.Laws.Pointers
import Derived.Laws.StructEq
import Derived.Laws.Closers25b
import Derived.Laws.StandIn
import Derived.Laws.Bits64b
import Derived.Laws.LoneSync
import Derived.Laws.ByValue
import Derived.Laws.MathBits
import Derived.Laws.Externs
import Derived.Laws.BitsAll
import Derived.Laws.BitsAllLaws
import Derived.Laws.Bits64
import Derived.Laws.OwnMore
import Derived.Laws.Build
import Derived.Laws.ResultCell
import Derived.Laws.Entries
import Derived.Laws.Append
import Derived.Laws.RangeAny
import Derived.Laws.World
import Derived.Laws.Strings3
import Derived.Laws.Sem
import Derived.Laws.Slices
import Derived.Laws.MakeOwn
import Derived.Laws.Small
import Derived.Laws.BytesString
import Derived.Scope
import Derived.FnLit
import Derived.LoopTactic
import Derived.Test.YtldnhemfgkfiiaaGreatDoorU5
import Derived.Shelf.Strconv.Itoa3
import Derived.KernelRfl
import Derived.Lib.OthersKept
import Derived.Test.YtldnhemfgkfiiaaGreatDoorU4
import Derived.Test.YtldnhemfgkfiiaaGreatDoorTie
import Derived.Test.YtldnhemfgkfiiaaGreatDoorCards
import Derived.ProofKit
import Derived.LaidMore
import Derived.OpenShut
import Derived.Stop.Joined
import Derived.SevenTiedAt
set_option linter.unusedSimpArgs false
set_option linter.unusedVariables false
section
set_option maxRecDepth 1000000
set_option maxHeartbeats 6400000
set_option linter.unusedSimpArgs false
namespace Go.Proofs.YtldnhemfgkfiiaaGreatDoor
open Go.Eng (nameB okN)
theorem high_no {c : UInt8} (h : 128 ≤ c.toNat) : okN c = false := by
 unfold okN
 rw [decide_eq_true (show c.toNat > 122 by omega), decide_eq_true (show c.toNat > 57 by omega), decide_eq_false (show ¬ c = 45 by intro e; subst e; revert h; decide)]
 simp
def okP (s : ByteArray) (pos : Nat) : Prop := pos ≤ s.size ∧ (s.data.toList.take pos).all okN = true
theorem named_calls (s : ByteArray) (w : World) :
   Calls Tryz.prog 78 #[.string s] w fun e w' => e = .returned (.bool (nameB s.data.toList)) ∧ (w' = w ∨ ∃ pos, w' = w.iter s pos) := by
 by_cases z1 : s.size < 1
 · have hr : nameB s.data.toList = false := by
     unfold nameB
     rw [decide_eq_true (show s.data.toList.length < 1 from z1)]; rfl
   rw [hr]
   go_enter Tryz.func78, Tryz.ntmps78
   go_wp2
   go_ret
   exact ⟨rfl, .inl rfl⟩
 by_cases z2 : 12 < s.size
 · have hr : nameB s.data.toList = false := by
     unfold nameB
     rw [decide_eq_true (show 12 < s.data.toList.length from z2)]; simp
   rw [hr]
   go_enter Tryz.func78, Tryz.ntmps78
   go_wp2
   go_ret
   exact ⟨rfl, .inl rfl⟩
 have z3 : nameB s.data.toList = s.data.toList.all okN := by
   unfold nameB
   rw [decide_eq_false (show ¬ s.data.toList.length < 1 from z1), decide_eq_false (show ¬ 12 < s.data.toList.length from z2)]; rfl
 rw [z3]
 go_enter Tryz.func78, Tryz.ntmps78
 go_wp2
 go_loopw [] (fun w' => ∃ pos : Nat, w' = w.iter s pos ∧ okP s pos) (fun w' => s.size - w'.iterPos w.heap.size)
 case atStart => exact ⟨0, rfl, Nat.zero_le _, rfl⟩
 case round =>
   obtain ⟨pos, rfl, hle, hall⟩ := hrel
   by_cases hp : pos < s.size
   · have hnx : ∀ ty, (Instr.next (.pointer (some ⟨w.heap.size, 0, none⟩)) true ty).run Tryz.prog (w.iter s pos) = _ := fun ty => run_next_any w s pos ty hp
     have hget : s.data.toList[pos]? = some (s[pos]'hp) := by
       rw [List.getElem?_eq_getElem (show pos < s.data.toList.length from hp)]; rfl
     have hno : okN (s[pos]'hp) = false → s.data.toList.all okN = false := fun h => List.all_eq_false.2 ⟨_, List.mem_of_getElem? hget, by simp [h]⟩
     by_cases ha : (s[pos]'hp).toNat < 128
     · rw [decode_ascii s pos hp ha] at hnx
       have hst : okN (s[pos]'hp) = true → okP s (pos + 1) := fun h => by
         refine ⟨hp, ?_⟩
         rw [List.take_add_one, hget, List.all_append, hall]; simp [h]
       generalize s[pos]'hp = c at *
       obtain ⟨r, hr⟩ : ∃ r, c.toNat = r := ⟨_, rfl⟩
       have hc45 : c = 45 ↔ r = 45 := by
         rw [← hr]
         exact ⟨fun e => by subst e; rfl, fun e => UInt8.toNat_inj.1 e⟩
       have hok : okN c = ((!decide (r < 97) && !decide (r > 122)) || ((!decide (r < 48) && !decide (r > 57)) || decide (r = 45))) := by
         unfold okN; rw [hr]; simp only [hc45]
       rw [hr] at hnx ha
       clear hr hc45
       by_cases b1 : (r : Int) < 97 <;> by_cases b2 : (122 : Int) < r <;> by_cases b3 : (r : Int) < 48 <;> by_cases b4 : (57 : Int) < r <;> by_cases b5 : (r : Int) = 45
       all_goals try omega
       all_goals have c1 : decide (r < 97) = decide ((r : Int) < 97) := by rw [decide_eq_decide]; omega
       all_goals have c2 : decide (r > 122) = decide ((122 : Int) < r) := by rw [decide_eq_decide]; omega
       all_goals have c3 : decide (r < 48) = decide ((r : Int) < 48) := by rw [decide_eq_decide]; omega
       all_goals have c4 : decide (r > 57) = decide ((57 : Int) < r) := by rw [decide_eq_decide]; omega
       all_goals have c5 : decide (r = 45) = decide ((r : Int) = 45) := by rw [decide_eq_decide]; omega
       all_goals rw [c1, c2, c3, c4, c5] at hok
       all_goals simp only [b1, b2, b3, b4, b5, decide_true, decide_false, Bool.not_true, Bool.not_false, Bool.and_true, Bool.and_false, Bool.or_true, Bool.or_false, Bool.true_and, Bool.false_and, Bool.true_or, Bool.false_or] at hok
       all_goals go_wp2
       all_goals first
         | (go_ret
            exact ⟨by first | rfl | (rw [hno hok]; rfl) | rw [hno hok], .inr ⟨_, rfl⟩⟩)
         | (go_roundw
            case rel => exact ⟨pos + 1, rfl, hst hok⟩
            case measure =>
              first
                | omega
                | (simp; omega))
     · have hh := decode_high s pos hp (by omega)
       have hok := high_no (c := s[pos]'hp) (by omega)
       generalize (Utf8.decode s pos).1 = r at *
       have b1 : ¬ (r : Int) < 97 := by omega
       have b2 : (122 : Int) < r := by omega
       have b3 : ¬ (r : Int) < 48 := by omega
       have b4 : (57 : Int) < r := by omega
       have b5 : ¬ (r : Int) = 45 := by omega
       go_wp2
       go_ret
       exact ⟨by first | rfl | (rw [hno hok]; rfl) | rw [hno hok], .inr ⟨_, rfl⟩⟩
   · have hnx : ∀ ty, (Instr.next (.pointer (some ⟨w.heap.size, 0, none⟩)) true ty).run Tryz.prog (w.iter s pos) = _ := fun ty => run_next_end w s pos ty hp
     have hall2 : s.data.toList.all okN = true := by
       have e : pos = s.data.toList.length := by show pos = s.size; omega
       rw [e, List.take_length] at hall
       exact hall
     clear hall
     go_wp2
     go_ret
     exact ⟨by first | rfl | (rw [hall2]; rfl) | rw [hall2], .inr ⟨_, rfl⟩⟩
def Tryz.laysI_ren : Go.Shelf.Ren := ⟨fun | 171 => 71 | 243 => 98 | 246 => 109 | 283 => 115 | 284 => 116 | 285 => 117 | 286 => 118 | 129 => 122 | 317 => 121 | 318 => 123 | 319 => 124 | 320 => 125 | 337 => 126 | 338 => 127 | n => n, fun | 3 => 3 | 9 => 9 | 2 => 2 | 4 => 4 | 171 => 131 | 0 => 0 | 53 => 116 | 37 => 23 | 5 => 5 | 173 => 134 | 212 => 141 | 51 => 93 | 20 => 20 | 213 => 142 | 46 => 91 | 232 => 145 | 233 => 146 | n => n, fun | 17 => 3 | 18 => 4 | 19 => 5 | n => n⟩
theorem Tryz.laysI : Go.Proofs.LaysM.n171 Tryz.prog Tryz.laysI_ren := {
 mixed := by kernel_rfl,
 f129 := Tryz.func122.trans (congrArg some (by kernel_rfl)),
 f171 := Tryz.func71.trans (congrArg some (by kernel_rfl)),
 f243 := Tryz.func98.trans (congrArg some (by kernel_rfl)),
 f246 := Tryz.func109.trans (congrArg some (by kernel_rfl)),
 f283 := Tryz.func115.trans (congrArg some (by kernel_rfl)),
 f284 := Tryz.func116.trans (congrArg some (by kernel_rfl)),
 f285 := Tryz.func117.trans (congrArg some (by kernel_rfl)),
 f286 := Tryz.func118.trans (congrArg some (by kernel_rfl)),
 f317 := Tryz.func121.trans (congrArg some (by kernel_rfl)),
 f318 := Tryz.func123.trans (congrArg some (by kernel_rfl)),
 f319 := Tryz.func124.trans (congrArg some (by kernel_rfl)),
 f320 := Tryz.func125.trans (congrArg some (by kernel_rfl)),
 f337 := Tryz.func126.trans (congrArg some (by kernel_rfl)),
 f338 := Tryz.func127.trans (congrArg some (by kernel_rfl)),
 t0 := Tryz.underlying0,
 a0 := Tryz.isAgg0,
 z0 := Tryz.sizeOf0,
 v0 := Tryz.zeroValue0,
 t2 := Tryz.underlying2,
 a2 := Tryz.isAgg2,
 z2 := Tryz.sizeOf2,
 v2 := Tryz.zeroValue2,
 t3 := Tryz.underlying3,
 a3 := Tryz.isAgg3,
 z3 := Tryz.sizeOf3,
 v3 := Tryz.zeroValue3,
 t4 := Tryz.underlying4,
 a4 := Tryz.isAgg4,
 z4 := Tryz.sizeOf4,
 v4 := Tryz.zeroValue4,
 t5 := Tryz.underlying5,
 a5 := Tryz.isAgg5,
 z5 := Tryz.sizeOf5,
 v5 := Tryz.zeroValue5,
 t9 := Tryz.underlying9,
 a9 := Tryz.isAgg9,
 z9 := Tryz.sizeOf9,
 v9 := Tryz.zeroValue9,
 t20 := Tryz.underlying20,
 a20 := Tryz.isAgg20,
 z20 := Tryz.sizeOf20,
 v20 := Tryz.zeroValue20,
 t37 := Tryz.underlying23,
 a37 := Tryz.isAgg23,
 z37 := Tryz.sizeOf23,
 v37 := Tryz.zeroValue23,
 t46 := Tryz.underlying91,
 a46 := Tryz.isAgg91,
 z46 := Tryz.sizeOf91,
 v46 := Tryz.zeroValue91,
 t51 := Tryz.underlying93,
 a51 := Tryz.isAgg93,
 z51 := Tryz.sizeOf93,
 v51 := Tryz.zeroValue93,
 t53 := Tryz.underlying116,
 a53 := Tryz.isAgg116,
 z53 := Tryz.sizeOf116,
 v53 := Tryz.zeroValue116,
 t171 := Tryz.underlying131,
 a171 := Tryz.isAgg131,
 z171 := Tryz.sizeOf131,
 v171 := Tryz.zeroValue131,
 t173 := Tryz.underlying134,
 a173 := Tryz.isAgg134,
 z173 := Tryz.sizeOf134,
 v173 := Tryz.zeroValue134,
 t212 := Tryz.underlying141,
 a212 := Tryz.isAgg141,
 z212 := Tryz.sizeOf141,
 v212 := Tryz.zeroValue141,
 t213 := Tryz.underlying142,
 a213 := Tryz.isAgg142,
 z213 := Tryz.sizeOf142,
 t232 := Tryz.underlying145,
 a232 := Tryz.isAgg145,
 z232 := Tryz.sizeOf145,
 v232 := Tryz.zeroValue145,
 t233 := Tryz.underlying146,
 a233 := Tryz.isAgg146,
 z233 := Tryz.sizeOf146,
 v233 := Tryz.zeroValue146,
 g17 := by kernel_rfl,
 g18 := by kernel_rfl,
 g19 := by kernel_rfl,
 i0 := by kernel_rfl,
 i2 := by kernel_rfl,
 i3 := by kernel_rfl,
 i4 := by kernel_rfl,
 i5 := by kernel_rfl,
 i9 := by kernel_rfl,
 i20 := by kernel_rfl,
 i37 := by kernel_rfl,
 i46 := by kernel_rfl,
 i51 := by kernel_rfl,
 i53 := by kernel_rfl,
 i171 := by kernel_rfl,
 i173 := by kernel_rfl,
 i212 := by kernel_rfl,
 i232 := by kernel_rfl,
 i233 := by kernel_rfl,
 m17 := by kernel_rfl,
 m18 := by kernel_rfl,
 m19 := by kernel_rfl }
theorem itoa_calls (n : Int) (h0 : -9223372036854775808 ≤ n) (h1 : n ≤ 9223372036854775807) (w : World) (h : Lib.TabIs Tryz.prog w "internal/strconv.uint64pow10" .u64 Lib.pow10Tab) : Calls Tryz.prog 71 #[.int .i64 n] w fun e w' => e = .returned (.string ⟨(Lib.itoa n).toArray⟩) ∧ ∃ k os, w' = Go.Sort.grow (w.drewN k) os :=
 Any.strconv_Itoa Tryz.laysI n h0 h1 w h
end Go.Proofs.YtldnhemfgkfiiaaGreatDoor
end
section
set_option maxRecDepth 100000
namespace Go.Eng
open Go.Proofs Go.Proofs.YtldnhemfgkfiiaaGreatDoor
def gl0 : Gl := fun g => if g = 2 then some (k256.map u32T) else if g = 0 then some (measT) else if g = 3 then some (pow10T) else none
theorem ok_image_named : FOk Tryz.prog gl0 78 ct_name.fs := ok_name (fn := Tryz.f78) (c := Tryz.f78.body.getD .skip) (by kernel_rfl) (by kernel_rfl) (by kernel_rfl) named_calls
theorem ok_bytealg_IndexByte : FOk Tryz.prog gl0 99 ct_bix.fs := ok_bix (fn := Tryz.f99) (by kernel_rfl) (by kernel_rfl) (by kernel_rfl) (by kernel_rfl) (by kernel_rfl)
theorem ok_bytes_IndexByte (tab : Tab) (ht : TabOk Tryz.prog gl0 tab) (h1 : tab.look 99 = some ct_bix.fs) : FOk Tryz.prog gl0 72 ct_bix.fs :=
 tieW' Tryz.f72 hints_bytes_IndexByte (ac_bytes_IndexByte 99) [(4, none)] ht ct_bix (fun x hx => w_bytes_IndexByte tab gl0 99 h1 x.1 x.2 hx)
theorem ok_image_printable (tab : Tab) (ht : TabOk Tryz.prog gl0 tab)  : FOk Tryz.prog gl0 73 ct_ipr.fs :=
 tieW' Tryz.f73 hints_image_printable ac_image_printable [(2, none)] ht ct_ipr (fun x hx => w_image_printable tab gl0 x hx)
theorem ok_image_Lines (tab : Tab) (ht : TabOk Tryz.prog gl0 tab) (h1 : tab.look 72 = some ct_bix.fs) (h2 : tab.look 73 = some ct_ipr.fs) : FOk Tryz.prog gl0 42 ct_lns.fs :=
 tieW' Tryz.f42 hints_image_Lines (ac_image_Lines 72 73) [(2, none)] ht ct_lns (fun x hx => w_image_Lines tab gl0 72 73 h1 h2 x hx)
theorem ok_image_Check (tab : Tab) (ht : TabOk Tryz.prog gl0 tab) (h1 : tab.look 78 = some ct_name.fs) (h2 : tab.look 42 = some ct_lns.fs) : FOk Tryz.prog gl0 49 ct_imc.fs :=
 tieW' Tryz.f49 hints_image_Check (ac_image_Check 78 42) [(2, none)] ht ct_imc (fun x hx => w_image_Check tab gl0 78 42 h1 h2 x hx)
theorem ok_image_CheckChain (tab : Tab) (ht : TabOk Tryz.prog gl0 tab) (h1 : tab.look 49 = some ct_imc.fs) : FOk Tryz.prog gl0 28 ct_chc.fs :=
 tieW' Tryz.f28 hints_image_CheckChain (ac_image_CheckChain 49) [(2, none)] ht ct_chc (fun x hx => w_image_CheckChain tab gl0 49 h1 x hx)
theorem ok_image_Register (tab : Tab) (ht : TabOk Tryz.prog gl0 tab)  : FOk Tryz.prog gl0 44 ct_reg.fs :=
 tieW' Tryz.f44 hints_image_Register (ac_image_Register 0) [(2, none)] ht ct_reg (fun x _ => w_image_Register tab gl0 0 rfl x)
theorem ok_wire_Uint (tab : Tab) (ht : TabOk Tryz.prog gl0 tab)  : FOk Tryz.prog gl0 60 ct_uint.fs :=
 tieF' [] Tryz.f60 hints_wire_Uint ac_wire_Uint [(6, none)] ht ct_uint (fun x hx => w_wire_Uint tab gl0 x.1 x.2.1 x.2.2 hx.1 hx.2)
theorem ok_wire_Blob (tab : Tab) (ht : TabOk Tryz.prog gl0 tab) (h1 : tab.look 60 = some ct_uint.fs) : FOk Tryz.prog gl0 108 ct_blob.fs :=
 tieF' [] Tryz.f108 hints_wire_Blob (ac_wire_Blob 60) [(4, none)] ht ct_blob (fun x hx => w_wire_Blob tab gl0 60 h1 x.1 x.2 hx.1 hx.2)
theorem ok_image_Encode (tab : Tab) (ht : TabOk Tryz.prog gl0 tab) (h1 : tab.look 49 = some ct_imc.fs) (h2 : tab.look 60 = some ct_uint.fs) (h3 : tab.look 108 = some ct_blob.fs) : FOk Tryz.prog gl0 97 ct_enI.fs :=
 tieW' Tryz.f97 hints_image_Encode (ac_image_Encode 49 60 108) [(2, none)] ht ct_enI (fun x hx => w_image_Encode tab gl0 49 60 108 h1 h2 h3 x hx)
theorem ok_digest_pad (tab : Tab) (ht : TabOk Tryz.prog gl0 tab)  : FOk Tryz.prog gl0 100 ct_pad.fs :=
 tieF' [] Tryz.f100 hints_digest_pad ac_digest_pad [(2, none)] ht ct_pad (fun x hx => w_digest_pad tab gl0 x hx)
theorem ok_digest_word (tab : Tab) (ht : TabOk Tryz.prog gl0 tab)  : FOk Tryz.prog gl0 110 ct_word.fs :=
 tieW' Tryz.f110 hints_digest_word ac_digest_word [(4, none)] ht ct_word (fun x hx => w_digest_word tab gl0 x.1 x.2 hx.1 hx.2)
theorem ok_bits_RotateLeft32 (tab : Tab) (ht : TabOk Tryz.prog gl0 tab)  : FOk Tryz.prog gl0 111 ct_rotl.fs :=
 tieW' Tryz.f111 hints_bits_RotateLeft32 ac_bits_RotateLeft32 [(4, none)] ht ct_rotl (fun x hx => w_bits_RotateLeft32 tab gl0 x.1 x.2 hx)
theorem ok_digest_compress1 (tab : Tab) (ht : TabOk Tryz.prog gl0 tab) (h1 : tab.look 110 = some ct_word.fs) (h2 : tab.look 111 = some ct_rotl.fs) : FOk Tryz.prog gl0 101 (ct_comp 5 comp1).fs :=
 tieW' Tryz.f101 hints_digest_compress1 (ac_digest_compress1 110 111) [] ht (ct_comp 5 comp1) (fun x hx => wc_digest_compress1 tab gl0 110 111 h1 h2 x hx)
theorem ok_digest_spread (tab : Tab) (ht : TabOk Tryz.prog gl0 tab)  : FOk Tryz.prog gl0 102 ct_spread.fs :=
 tieF' [] Tryz.f102 hints_digest_spread ac_digest_spread [(2, none)] ht ct_spread (fun x hx => w_digest_spread tab gl0 x hx)
theorem ok_digest_compress256 (tab : Tab) (ht : TabOk Tryz.prog gl0 tab) (h1 : tab.look 110 = some ct_word.fs) (h2 : tab.look 111 = some ct_rotl.fs) : FOk Tryz.prog gl0 103 (ct_comp 8 comp256).fs :=
 tieW' Tryz.f103 hints_digest_compress256 (ac_digest_compress256 110 111 2) [] ht (ct_comp 8 comp256) (fun x hx => w_digest_compress256 tab gl0 110 111 2 h1 h2 rfl x.2 x.1 hx.1 hx.2)
theorem ok_digest_Sum (tab : Tab) (ht : TabOk Tryz.prog gl0 tab) (h1 : tab.look 100 = some ct_pad.fs) (h2 : tab.look 101 = some (ct_comp 5 comp1).fs) (h3 : tab.look 102 = some ct_spread.fs) (h4 : tab.look 103 = some (ct_comp 8 comp256).fs) : FOk Tryz.prog gl0 75 ct_sumA.fs :=
 tieF' [] Tryz.f75 hints_digest_Sum (ac_digest_Sum 100 101 102 103) [(4, none)] ht ct_sumA (fun x hx => w_digest_Sum tab gl0 100 101 102 103 h1 h2 h3 h4 x.1 hx.1 x.2 hx.2)
theorem ok_image_Digests (tab : Tab) (ht : TabOk Tryz.prog gl0 tab) (h1 : tab.look 97 = some ct_enI.fs) (h2 : tab.look 75 = some ct_sumA.fs) : FOk Tryz.prog gl0 70 ct_imd.fs :=
 tieW' Tryz.f70 hints_image_Digests (ac_image_Digests 97 75) [(4, none)] ht ct_imd (fun x hx => w_image_Digests tab gl0 97 75 h1 h2 x.1 x.2 hx.1 hx.2)
theorem ok_strconv_Itoa : FOk Tryz.prog gl0 71 ct_itoa.fs := ok_itoa (fn := Tryz.f71) (c := Tryz.f71.body.getD .skip) (g := 3) (by kernel_rfl) (by kernel_rfl) (by kernel_rfl) rfl (by kernel_rfl) itoa_calls
theorem ok_event_OfImage (tab : Tab) (ht : TabOk Tryz.prog gl0 tab) (h1 : tab.look 49 = some ct_imc.fs) (h2 : tab.look 44 = some ct_reg.fs) (h3 : tab.look 70 = some ct_imd.fs) (h4 : tab.look 71 = some ct_itoa.fs) : FOk Tryz.prog gl0 41 ct_ofI.fs :=
 tieW' Tryz.f41 hints_event_OfImage (ac_event_OfImage 49 44 70 71) [(4, (some (4, true)))] ht ct_ofI (fun x hx => w_event_OfImage tab gl0 49 44 70 71 h1 h2 h3 h4 x.1 x.2 hx.1 hx.2)
theorem ok_bytes_Clone (tab : Tab) (ht : TabOk Tryz.prog gl0 tab)  : FOk Tryz.prog gl0 74 ct_clone.fs :=
 tieW' Tryz.f74 hints_bytes_Clone ac_bytes_Clone [(2, none)] ht ct_clone (fun x hx => w_bytes_Clone tab gl0 x hx)
theorem ok_event_Make (tab : Tab) (ht : TabOk Tryz.prog gl0 tab) (h1 : tab.look 74 = some ct_clone.fs) (h2 : tab.look 75 = some ct_sumA.fs) : FOk Tryz.prog gl0 43 ct_make.fs :=
 tieW' Tryz.f43 hints_event_Make (ac_event_Make 74 75) [(8, (some (4, true)))] ht ct_make (fun x hx => w_event_Make tab gl0 74 75 h1 h2 x.1 x.2.1 x.2.2.1 x.2.2.2 hx.1 hx.2)
theorem ok_predict_Events (tab : Tab) (ht : TabOk Tryz.prog gl0 tab) (h1 : tab.look 28 = some ct_chc.fs) (h2 : tab.look 41 = some ct_ofI.fs) (h3 : tab.look 42 = some ct_lns.fs) (h4 : tab.look 44 = some ct_reg.fs) (h5 : tab.look 43 = some ct_make.fs) : FOk Tryz.prog gl0 22 ct_evI.fs :=
 tieW' Tryz.f22 hints_predict_Events (ac_predict_Events 28 41 42 44 43) [(4, none)] ht ct_evI (fun x hx => w_predict_Events tab gl0 28 41 42 44 43 h1 h2 h3 h4 h5 x.1 x.2 hx)
theorem ok_digest_Size (tab : Tab) (ht : TabOk Tryz.prog gl0 tab)  : FOk Tryz.prog gl0 80 ct_size.fs :=
 tieW' Tryz.f80 hints_digest_Size ac_digest_Size [(2, none)] ht ct_size (fun x _ => w_digest_Size tab gl0 x)
theorem ok_bits_Mul64 (tab : Tab) (ht : TabOk Tryz.prog gl0 tab)  : FOk Tryz.prog gl0 120 ct_mul64.fs :=
 tieW' Tryz.f120 hints_bits_Mul64 ac_bits_Mul64 [(4, none), (5, none)] ht ct_mul64 (fun x hx => w_bits_Mul64 tab gl0 x hx)
theorem ok_bits_Mul (tab : Tab) (ht : TabOk Tryz.prog gl0 tab) (h1 : tab.look 120 = some ct_mul64.fs) : FOk Tryz.prog gl0 112 ct_mul64.fs :=
 tieW' Tryz.f112 hints_bits_Mul (ac_bits_Mul 119 120) [(4, none), (5, none)] ht ct_mul64 (fun x hx => w_bits_Mul tab gl0 119 120 h1 x hx)
theorem ok_bytealg_MakeNoZero : FOk Tryz.prog gl0 113 ct_mnz.fs := ok_mnz (fn := Tryz.f113) (ps := #[3]) (t := 23) (e := 5) (by kernel_rfl) (by kernel_rfl) (by kernel_rfl) (by kernel_rfl) (by kernel_rfl) (by kernel_rfl)
theorem ok_bytes_Repeat (tab : Tab) (ht : TabOk Tryz.prog gl0 tab) (h1 : tab.look 112 = some ct_mul64.fs) (h2 : tab.look 113 = some ct_mnz.fs) : FOk Tryz.prog gl0 104 ct_repeat.fs :=
 tieF' [] Tryz.f104 hints_bytes_Repeat (ac_bytes_Repeat 112 113) [(4, none)] ht ct_repeat (fun x hx => w_bytes_Repeat tab gl0 112 113 h1 h2 x.1 x.2 hx)
theorem ok_registers_fill (tab : Tab) (ht : TabOk Tryz.prog gl0 tab) (h1 : tab.look 104 = some ct_repeat.fs) : FOk Tryz.prog gl0 79 ct_fill.fs :=
 tieF' [] Tryz.f79 hints_registers_fill (ac_registers_fill 104) [(4, none)] ht ct_fill (fun x hx => w_registers_fill tab gl0 104 h1 x.2 x.1 hx)
theorem ok_registers_New (tab : Tab) (ht : TabOk Tryz.prog gl0 tab) (h1 : tab.look 80 = some ct_size.fs) (h2 : tab.look 79 = some ct_fill.fs) : FOk Tryz.prog gl0 50 ct_new.fs :=
 tieF' [] Tryz.f50 hints_registers_New (ac_registers_New 80 79) [(2, (some (2, true)))] ht ct_new (fun x hx => wc_registers_New tab gl0 80 79 h1 h2 x)
theorem ok_event_Check (tab : Tab) (ht : TabOk Tryz.prog gl0 tab) (h1 : tab.look 80 = some ct_size.fs) : FOk Tryz.prog gl0 51 ct_chkX.fs :=
 tieW' Tryz.f51 hints_event_Check (ac_event_Check 80) [(4, none)] ht ct_chkX (fun x hx => w_event_CheckX tab gl0 80 h1 x.1 x.2 hx)
theorem ok_registers_index (tab : Tab) (ht : TabOk Tryz.prog gl0 tab)  : FOk Tryz.prog gl0 45 ct_index.fs :=
 tieW' Tryz.f45 hints_registers_index ac_registers_index [(2, none)] ht ct_index (fun x _ => w_registers_index tab gl0 x)
theorem ok_registers_least (tab : Tab) (ht : TabOk Tryz.prog gl0 tab)  : FOk Tryz.prog gl0 81 ct_least.fs :=
 tieW' Tryz.f81 hints_registers_least ac_registers_least [(4, none)] ht ct_least (fun x _ => w_registers_least tab gl0 x.1 x.2)
theorem ok_registers_active (tab : Tab) (ht : TabOk Tryz.prog gl0 tab)  : FOk Tryz.prog gl0 76 ct_active.fs :=
 tieW' Tryz.f76 hints_registers_active ac_registers_active [(2, none)] ht ct_active (fun x hx => wc_registers_active tab gl0 x hx)
theorem ok_registers_on (tab : Tab) (ht : TabOk Tryz.prog gl0 tab) (h1 : tab.look 76 = some ct_active.fs) : FOk Tryz.prog gl0 46 ct_on.fs :=
 tieW' Tryz.f46 hints_registers_on (ac_registers_on 76) [(4, none)] ht ct_on (fun x hx => w_registers_on tab gl0 76 h1 x.1 x.2.1 hx.1 x.2.2 hx.2)
theorem ok_registers_twin (tab : Tab) (ht : TabOk Tryz.prog gl0 tab)  : FOk Tryz.prog gl0 82 ct_twin.fs :=
 tieF' [] Tryz.f82 hints_registers_twin ac_registers_twin [(2, (some (2, true)))] ht ct_twin (fun x hx => wc_registers_twin tab gl0 x hx)
theorem ok_registers_Extend (tab : Tab) (ht : TabOk Tryz.prog gl0 tab) (h1 : tab.look 45 = some ct_index.fs) (h2 : tab.look 81 = some ct_least.fs) (h3 : tab.look 46 = some ct_on.fs) (h4 : tab.look 80 = some ct_size.fs) (h5 : tab.look 82 = some ct_twin.fs) (h6 : tab.look 75 = some ct_sumA.fs) : FOk Tryz.prog gl0 52 ct_ext.fs :=
 tieW' Tryz.f52 hints_registers_Extend (ac_registers_Extend 45 81 46 80 82 75) [(8, (some (2, true))), (9, none)] ht ct_ext (fun x hx => w_registers_Extend tab gl0 45 81 46 80 82 75 h1 h2 h3 h4 h5 h6 x hx)
theorem ok_replay_Registers (tab : Tab) (ht : TabOk Tryz.prog gl0 tab) (h1 : tab.look 50 = some ct_new.fs) (h2 : tab.look 51 = some ct_chkX.fs) (h3 : tab.look 52 = some ct_ext.fs) : FOk Tryz.prog gl0 29 ct_rpl.fs :=
 tieW' Tryz.f29 hints_replay_Registers (ac_replay_Registers 50 51 52) [(2, (some (2, true))), (3, none)] ht ct_rpl (fun x hx => w_replay_Registers tab gl0 50 51 52 h1 h2 h3 x.1 x.2.1 x.2.2 hx)
theorem ok_predict_Registers (tab : Tab) (ht : TabOk Tryz.prog gl0 tab) (h1 : tab.look 28 = some ct_chc.fs) (h2 : tab.look 22 = some ct_evI.fs) (h3 : tab.look 29 = some ct_rpl.fs) : FOk Tryz.prog gl0 9 ct_prd.fs :=
 tieW' Tryz.f9 hints_predict_Registers (ac_predict_Registers 28 22 29) [(4, (some (2, true))), (5, none)] ht ct_prd (fun x hx => w_predict_Registers tab gl0 28 22 29 h1 h2 h3 x.1 x.2 hx)
theorem ok_registers_Value (tab : Tab) (ht : TabOk Tryz.prog gl0 tab) (h1 : tab.look 45 = some ct_index.fs) (h2 : tab.look 46 = some ct_on.fs) : FOk Tryz.prog gl0 23 ct_val.fs :=
 tieF' [] Tryz.f23 hints_registers_Value (ac_registers_Value 45 46) [(6, none), (7, none)] ht ct_val (fun x hx => w_registers_Value tab gl0 45 46 h1 h2 x.1 x.2.1 x.2.2.1 x.2.2.2 hx)
theorem ok_ref1_Same (tab : Tab) (ht : TabOk Tryz.prog gl0 tab)  : FOk Tryz.prog gl0 15 ct_same.fs :=
 tieW' Tryz.f15 hints_ref1_Same ac_ref1_Same [(4, none)] ht ct_same (fun x hx => w_ref1_Same tab gl0 x.1 x.2 hx.1 hx.2)
theorem ok_law29_awake (tab : Tab) (ht : TabOk Tryz.prog gl0 tab) (h1 : tab.look 22 = some ct_evI.fs) (h2 : tab.look 9 = some ct_prd.fs) (h3 : tab.look 23 = some ct_val.fs) (h4 : tab.look 15 = some ct_same.fs) : FOk Tryz.prog gl0 6 ct_awake.fs :=
 tieS' Tryz.f6 hints_law29_awake (ac_law29_awake 22 9 23 15) [(0, none)] ht ct_awake (fun _ _ => w_awake29 tab gl0 22 9 23 15 h1 h2 h3 h4)
theorem ok_draw_Mod (tab : Tab) (ht : TabOk Tryz.prog gl0 tab)  : FOk Tryz.prog gl0 12 ct_mod.fs :=
 tieW' Tryz.f12 hints_draw_Mod ac_draw_Mod [(4, none)] ht ct_mod (fun x hx => w_draw_Mod tab gl0 x.1 x.2 hx.1 hx.2)
theorem ok_draw_Strong (tab : Tab) (ht : TabOk Tryz.prog gl0 tab) (h1 : tab.look 12 = some ct_mod.fs) : FOk Tryz.prog gl0 16 ct_dstr.fs :=
 tieW' Tryz.f16 hints_draw_Strong (ac_draw_Strong 12) [(2, none)] ht ct_dstr (fun x hx => w_draw_Strong tab gl0 12 h1 x hx)
theorem ok_draw_New (tab : Tab) (ht : TabOk Tryz.prog gl0 tab)  : FOk Tryz.prog gl0 25 ct_dnew.fs :=
 tieF' [] Tryz.f25 hints_draw_New ac_draw_New [(4, none)] ht ct_dnew (fun x hx => w_draw_New tab gl0 x.1 x.2 hx.1 hx.2)
theorem ok_draw_Codes_Next (tab : Tab) (ht : TabOk Tryz.prog gl0 tab)  : FOk Tryz.prog gl0 26 ct_next.fs :=
 tieW' Tryz.f26 hints_draw_Codes_Next ac_draw_Codes_Next [(4, none)] ht ct_next (fun x hx => w_draw_Next tab gl0 x.1 x.2 hx.1 hx.2.1 hx.2.2)
theorem ok_draw_names (tab : Tab) (ht : TabOk Tryz.prog gl0 tab)  : FOk Tryz.prog gl0 47 ct_nms.fs :=
 tieW' Tryz.f47 hints_draw_names ac_draw_names [(0, (some (5, true)))] ht ct_nms (fun _ _ => w_draw_names tab gl0)
theorem ok_draw_Codes_Line (tab : Tab) (ht : TabOk Tryz.prog gl0 tab) (h1 : tab.look 26 = some ct_next.fs) : FOk Tryz.prog gl0 77 ct_line.fs :=
 tieW' Tryz.f77 hints_draw_Codes_Line (ac_draw_Codes_Line 26) [(2, none)] ht ct_line (fun x hx => w_draw_Line tab gl0 26 h1 x hx)
theorem ok_draw_Codes_Payload (tab : Tab) (ht : TabOk Tryz.prog gl0 tab) (h1 : tab.look 26 = some ct_next.fs) (h2 : tab.look 77 = some ct_line.fs) : FOk Tryz.prog gl0 48 ct_pay.fs :=
 tieW' Tryz.f48 hints_draw_Codes_Payload (ac_draw_Codes_Payload 26 77) [(2, none)] ht ct_pay (fun x hx => w_draw_Payload tab gl0 26 77 h1 h2 x hx)
theorem ok_draw_Codes_Image (tab : Tab) (ht : TabOk Tryz.prog gl0 tab) (h1 : tab.look 47 = some ct_nms.fs) (h2 : tab.look 26 = some ct_next.fs) (h3 : tab.look 48 = some ct_pay.fs) : FOk Tryz.prog gl0 27 ct_dim.fs :=
 tieW' Tryz.f27 hints_draw_Codes_Image (ac_draw_Codes_Image 47 26 48) [(4, (some (4, true)))] ht ct_dim (fun x hx => w_draw_Image tab gl0 47 26 48 h1 h2 h3 x.1 x.2 hx.1 hx.2)
theorem ok_draw_Chain (tab : Tab) (ht : TabOk Tryz.prog gl0 tab) (h1 : tab.look 25 = some ct_dnew.fs) (h2 : tab.look 26 = some ct_next.fs) (h3 : tab.look 27 = some ct_dim.fs) : FOk Tryz.prog gl0 8 ct_dch.fs :=
 tieW' Tryz.f8 hints_draw_Chain (ac_draw_Chain 25 26 27) [(2, none)] ht ct_dch (fun x hx => w_draw_Chain tab gl0 25 26 27 h1 h2 h3 x hx)
theorem ok_ref25_Lines (tab : Tab) (ht : TabOk Tryz.prog gl0 tab)  : FOk Tryz.prog gl0 36 ct_lns.fs :=
 tieW' Tryz.f36 hints_ref25_Lines ac_ref25_Lines [(2, none)] ht ct_lns (fun x hx => w_ref25_Lines tab gl0 x hx)
theorem ok_law29_stages (tab : Tab) (ht : TabOk Tryz.prog gl0 tab) (h1 : tab.look 36 = some ct_lns.fs) : FOk Tryz.prog gl0 17 ct_stg.fs :=
 tieF' [9002] Tryz.f17 hints_law29_stages (ac_law29_stages 36) [(2, none), (3, none)] ht ct_stg (fun x hx => w_law29_stages tab gl0 36 h1 x hx.1 hx.2)
theorem ok_digest_Frame (tab : Tab) (ht : TabOk Tryz.prog gl0 tab)  : FOk Tryz.prog gl0 95 ct_frame.fs :=
 tieF' [] Tryz.f95 hints_digest_Frame ac_digest_Frame [(4, none)] ht ct_frame (fun x hx => w_digest_Frame tab gl0 x.1 hx.1 x.2 hx.2)
theorem ok_digest_Hash (tab : Tab) (ht : TabOk Tryz.prog gl0 tab) (h1 : tab.look 95 = some ct_frame.fs) (h2 : tab.look 75 = some ct_sumA.fs) : FOk Tryz.prog gl0 61 ct_hash.fs :=
 tieF' [] Tryz.f61 hints_digest_Hash (ac_digest_Hash 95 75) [(4, none)] ht ct_hash (fun x hx => w_digest_Hash tab gl0 95 75 h1 h2 x.1 x.2 hx.1 hx.2)
theorem ok_registers_Digest (tab : Tab) (ht : TabOk Tryz.prog gl0 tab) (h1 : tab.look 60 = some ct_uint.fs) (h2 : tab.look 46 = some ct_on.fs) (h3 : tab.look 61 = some ct_hash.fs) : FOk Tryz.prog gl0 34 ct_digs.fs :=
 tieF' [] Tryz.f34 hints_registers_Digest (ac_registers_Digest 60 46 61) [(4, none), (5, none)] ht ct_digs (fun x hx => w_registers_Digest tab gl0 60 46 61 h1 h2 h3 x.1 x.2.1 x.2.2.1 x.2.2.2 hx)
theorem ok_predict_Digest (tab : Tab) (ht : TabOk Tryz.prog gl0 tab) (h1 : tab.look 9 = some ct_prd.fs) (h2 : tab.look 34 = some ct_digs.fs) : FOk Tryz.prog gl0 13 ct_pdg.fs :=
 tieW' Tryz.f13 hints_predict_Digest (ac_predict_Digest 9 34) [(6, none), (7, none)] ht ct_pdg (fun x hx => w_predict_Digest tab gl0 9 34 h1 h2 x.1 x.2.1 x.2.2.1 x.2.2.2 hx)
theorem ok_ref25_SameImage (tab : Tab) (ht : TabOk Tryz.prog gl0 tab) (h1 : tab.look 15 = some ct_same.fs) : FOk Tryz.prog gl0 37 ct_smi.fs :=
 tieW' Tryz.f37 hints_ref25_SameImage (ac_ref25_SameImage 15) [(4, none)] ht ct_smi (fun x hx => w_ref25_SameImage tab gl0 15 h1 x.1 x.2 hx.1 hx.2)
theorem ok_ref25_SameChain (tab : Tab) (ht : TabOk Tryz.prog gl0 tab) (h1 : tab.look 37 = some ct_smi.fs) : FOk Tryz.prog gl0 18 ct_smc.fs :=
 tieW' Tryz.f18 hints_ref25_SameChain (ac_ref25_SameChain 37) [(4, none)] ht ct_smc (fun x hx => w_ref25_SameChain tab gl0 37 h1 x.1 x.2 hx.1 hx.2)
theorem ok_ref1_Lists (tab : Tab) (ht : TabOk Tryz.prog gl0 tab) (h1 : tab.look 15 = some ct_same.fs) : FOk Tryz.prog gl0 19 ct_lists.fs :=
 tieW' Tryz.f19 hints_ref1_Lists (ac_ref1_Lists 15) [(4, none)] ht ct_lists (fun x hx => w_ref1_Lists tab gl0 15 h1 x.1 x.2 hx.1 hx.2)
theorem ok_ref25_Name (tab : Tab) (ht : TabOk Tryz.prog gl0 tab)  : FOk Tryz.prog gl0 83 ct_name.fs :=
 tieW' Tryz.f83 hints_ref25_Name ac_ref25_Name [(2, none)] ht ct_name (fun x hx => w_ref25_Name tab gl0 x hx)
theorem ok_ref25_Image (tab : Tab) (ht : TabOk Tryz.prog gl0 tab) (h1 : tab.look 83 = some ct_name.fs) (h2 : tab.look 36 = some ct_lns.fs) : FOk Tryz.prog gl0 53 ct_imc.fs :=
 tieW' Tryz.f53 hints_ref25_Image (ac_ref25_Image 83 36) [(2, none)] ht ct_imc (fun x hx => w_ref25_Image tab gl0 83 36 h1 h2 x hx)
theorem ok_ref25_Chain (tab : Tab) (ht : TabOk Tryz.prog gl0 tab) (h1 : tab.look 53 = some ct_imc.fs) : FOk Tryz.prog gl0 30 ct_chc.fs :=
 tieW' Tryz.f30 hints_ref25_Chain (ac_ref25_Chain 53) [(2, none)] ht ct_chc (fun x hx => w_ref25_Chain tab gl0 53 h1 x hx)
theorem ok_ref25_Separator (tab : Tab) (ht : TabOk Tryz.prog gl0 tab)  : FOk Tryz.prog gl0 58 ct_sep.fs :=
 tieF' [] Tryz.f58 hints_ref25_Separator ac_ref25_Separator [(0, none)] ht ct_sep (fun _ _ => w_ref25_Separator tab gl0)
theorem ok_ref25_has (tab : Tab) (ht : TabOk Tryz.prog gl0 tab)  : FOk Tryz.prog gl0 91 ct_has.fs :=
 tieW' Tryz.f91 hints_ref25_has ac_ref25_has [(4, none)] ht ct_has (fun x hx => w_ref25_has tab gl0 x hx)
theorem ok_ref1_pad (tab : Tab) (ht : TabOk Tryz.prog gl0 tab)  : FOk Tryz.prog gl0 65 ct_pad.fs :=
 tieF' [] Tryz.f65 hints_ref1_pad ac_ref1_pad [(2, none)] ht ct_pad (fun x hx => w_ref1_pad tab gl0 x hx)
theorem ok_ref1_word (tab : Tab) (ht : TabOk Tryz.prog gl0 tab)  : FOk Tryz.prog gl0 66 ct_word.fs :=
 tieW' Tryz.f66 hints_ref1_word ac_ref1_word [(4, none)] ht ct_word (fun x hx => w_ref1_word tab gl0 x.1 x.2 hx.1 hx.2)
theorem ok_ref1_rotl (tab : Tab) (ht : TabOk Tryz.prog gl0 tab)  : FOk Tryz.prog gl0 114 ct_rotl1.fs :=
 tieW' Tryz.f114 hints_ref1_rotl ac_ref1_rotl [(4, none)] ht ct_rotl1 (fun x hx => w_ref1_rotl tab gl0 x.1 x.2 hx)
theorem ok_ref1_bytes (tab : Tab) (ht : TabOk Tryz.prog gl0 tab)  : FOk Tryz.prog gl0 68 ct_spread.fs :=
 tieF' [] Tryz.f68 hints_ref1_bytes ac_ref1_bytes [(2, none)] ht ct_spread (fun x hx => w_ref1_bytes tab gl0 x hx)
theorem ok_ref1_Sum1 (tab : Tab) (ht : TabOk Tryz.prog gl0 tab) (h1 : tab.look 65 = some ct_pad.fs) (h2 : tab.look 66 = some ct_word.fs) (h3 : tab.look 114 = some ct_rotl1.fs) (h4 : tab.look 68 = some ct_spread.fs) : FOk Tryz.prog gl0 106 (ct_sum 20 sum1).fs :=
 tieF' [] Tryz.f106 hints_ref1_Sum1 (ac_ref1_Sum1 65 66 114 68) [(2, none)] ht (ct_sum 20 sum1) (fun x hx => w_ref1_Sum1 tab gl0 65 66 114 68 h1 h2 h3 h4 x hx)
theorem ok_ref1_constants (tab : Tab) (ht : TabOk Tryz.prog gl0 tab)  : FOk Tryz.prog gl0 64 ct_const.fs :=
 tieW' Tryz.f64 hints_ref1_constants ac_ref1_constants [(0, (some (64, true)))] ht ct_const (fun _ _ => w_ref1_constants tab gl0)
theorem ok_ref1_rotr (tab : Tab) (ht : TabOk Tryz.prog gl0 tab)  : FOk Tryz.prog gl0 67 ct_rotr.fs :=
 tieW' Tryz.f67 hints_ref1_rotr ac_ref1_rotr [(4, none)] ht ct_rotr (fun x hx => w_ref1_rotr tab gl0 x.1 x.2 hx)
theorem ok_ref1_Sum256 (tab : Tab) (ht : TabOk Tryz.prog gl0 tab) (h1 : tab.look 64 = some ct_const.fs) (h2 : tab.look 65 = some ct_pad.fs) (h3 : tab.look 66 = some ct_word.fs) (h4 : tab.look 67 = some ct_rotr.fs) (h5 : tab.look 68 = some ct_spread.fs) : FOk Tryz.prog gl0 38 (ct_sum 32 sum256).fs :=
 tieF' [] Tryz.f38 hints_ref1_Sum256 (ac_ref1_Sum256 64 65 66 67 68) [(2, none)] ht (ct_sum 32 sum256) (fun x hx => w_ref1_Sum256 tab gl0 64 65 66 67 68 h1 h2 h3 h4 h5 x hx)
theorem ok_ref1_Sum (tab : Tab) (ht : TabOk Tryz.prog gl0 tab) (h1 : tab.look 106 = some (ct_sum 20 sum1).fs) (h2 : tab.look 38 = some (ct_sum 32 sum256).fs) : FOk Tryz.prog gl0 89 ct_sumA.fs :=
 tieF' [] Tryz.f89 hints_ref1_Sum (ac_ref1_Sum 106 38) [(4, none)] ht ct_sumA (fun x hx => w_ref1_Sum tab gl0 106 38 h1 h2 x.1 hx.1 x.2 hx.2)
theorem ok_ref25_Make (tab : Tab) (ht : TabOk Tryz.prog gl0 tab) (h1 : tab.look 91 = some ct_has.fs) (h2 : tab.look 89 = some ct_sumA.fs) : FOk Tryz.prog gl0 57 ct_make.fs :=
 tieW' Tryz.f57 hints_ref25_Make (ac_ref25_Make 91 89) [(8, (some (4, true)))] ht ct_make (fun x hx => w_ref25_Make tab gl0 91 89 h1 h2 x.1 x.2.1 x.2.2.1 x.2.2.2 hx.1 hx.2)
theorem ok_ref25_Register (tab : Tab) (ht : TabOk Tryz.prog gl0 tab)  : FOk Tryz.prog gl0 92 ct_reg.fs :=
 tieW' Tryz.f92 hints_ref25_Register ac_ref25_Register [(2, none)] ht ct_reg (fun x _ => w_ref25_Register tab gl0 x)
theorem ok_ref3_Uint (tab : Tab) (ht : TabOk Tryz.prog gl0 tab)  : FOk Tryz.prog gl0 63 ct_uint.fs :=
 tieF' [] Tryz.f63 hints_ref3_Uint ac_ref3_Uint [(6, none)] ht ct_uint (fun x hx => w_ref3_Uint tab gl0 x.1 x.2.1 x.2.2 hx.1 hx.2)
theorem ok_ref3_Blob (tab : Tab) (ht : TabOk Tryz.prog gl0 tab) (h1 : tab.look 63 = some ct_uint.fs) : FOk Tryz.prog gl0 69 ct_blob.fs :=
 tieF' [] Tryz.f69 hints_ref3_Blob (ac_ref3_Blob 63) [(4, none)] ht ct_blob (fun x hx => w_ref3_Blob tab gl0 63 h1 x.1 x.2 hx.1 hx.2)
theorem ok_ref25_EncodeImage (tab : Tab) (ht : TabOk Tryz.prog gl0 tab) (h1 : tab.look 53 = some ct_imc.fs) (h2 : tab.look 63 = some ct_uint.fs) (h3 : tab.look 69 = some ct_blob.fs) : FOk Tryz.prog gl0 40 ct_enI.fs :=
 tieW' Tryz.f40 hints_ref25_EncodeImage (ac_ref25_EncodeImage 53 63 69) [(2, none)] ht ct_enI (fun x hx => w_ref25_EncodeImage tab gl0 53 63 69 h1 h2 h3 x hx)
theorem ok_ref25_Digests (tab : Tab) (ht : TabOk Tryz.prog gl0 tab) (h1 : tab.look 40 = some ct_enI.fs) (h2 : tab.look 91 = some ct_has.fs) (h3 : tab.look 89 = some ct_sumA.fs) : FOk Tryz.prog gl0 93 ct_imd.fs :=
 tieW' Tryz.f93 hints_ref25_Digests (ac_ref25_Digests 40 91 89) [(4, none)] ht ct_imd (fun x hx => w_ref25_Digests tab gl0 40 91 89 h1 h2 h3 x.1 x.2 hx.1 hx.2)
theorem ok_ref25_Number_0 (tab : Tab) (ht : TabOk Tryz.prog gl0 tab)  : FOk Tryz.prog gl0 107 (ct_num 0).fs :=
 tieF' [] Tryz.f107 hints_ref25_Number (ac_ref25_Number 107) [(2, none)] ht (ct_num 0) (fun x hx => w_ref25_Number0 tab gl0 107 x hx.1)
theorem ok_ref25_Number_S (k : Nat) (hk : k ≤ 20) (tab : Tab) (ht : TabOk Tryz.prog gl0 tab)  (hs : tab.look 107 = some (ct_num k).fs) : FOk Tryz.prog gl0 107 (ct_num (k + 1)).fs :=
 tieF' [] Tryz.f107 hints_ref25_Number (ac_ref25_Number 107) [(2, none)] ht (ct_num (k + 1)) (fun x hx => w_ref25_NumberS tab gl0 107 k hs x hx.1 hx.2 hk)
theorem ok_ref25_Label (tab : Tab) (ht : TabOk Tryz.prog gl0 tab) (h1 : tab.look 107 = some (ct_num 7).fs) : FOk Tryz.prog gl0 94 ct_lab.fs :=
 tieW' Tryz.f94 hints_ref25_Label (ac_ref25_Label 107) [(4, none)] ht ct_lab (fun x hx => w_ref25_Label tab gl0 107 h1 x.1 x.2 hx.1 hx.2)
theorem ok_ref25_OfImage (tab : Tab) (ht : TabOk Tryz.prog gl0 tab) (h1 : tab.look 53 = some ct_imc.fs) (h2 : tab.look 92 = some ct_reg.fs) (h3 : tab.look 93 = some ct_imd.fs) (h4 : tab.look 94 = some ct_lab.fs) : FOk Tryz.prog gl0 59 ct_ofI.fs :=
 tieW' Tryz.f59 hints_ref25_OfImage (ac_ref25_OfImage 53 92 93 94) [(4, (some (4, true)))] ht ct_ofI (fun x hx => w_ref25_OfImage tab gl0 53 92 93 94 h1 h2 h3 h4 x.1 x.2 hx.1 hx.2)
theorem ok_ref25_Events (tab : Tab) (ht : TabOk Tryz.prog gl0 tab) (h1 : tab.look 30 = some ct_chc.fs) (h2 : tab.look 58 = some ct_sep.fs) (h3 : tab.look 57 = some ct_make.fs) (h4 : tab.look 59 = some ct_ofI.fs) (h5 : tab.look 36 = some ct_lns.fs) : FOk Tryz.prog gl0 32 ct_evI.fs :=
 tieW' Tryz.f32 hints_ref25_Events (ac_ref25_Events 30 58 57 59 36) [(4, none)] ht ct_evI (fun x hx => w_ref25_Events tab gl0 30 58 57 59 36 h1 h2 h3 h4 h5 x.1 x.2 hx)
theorem ok_ref1_Size (tab : Tab) (ht : TabOk Tryz.prog gl0 tab)  : FOk Tryz.prog gl0 87 ct_size.fs :=
 tieW' Tryz.f87 hints_ref1_Size ac_ref1_Size [(2, none)] ht ct_size (fun x _ => w_ref1_Size tab gl0 x)
theorem ok_ref25_digestsFit (tab : Tab) (ht : TabOk Tryz.prog gl0 tab) (h1 : tab.look 91 = some ct_has.fs) (h2 : tab.look 87 = some ct_size.fs) : FOk Tryz.prog gl0 84 ct_fitX.fs :=
 tieW' Tryz.f84 hints_ref25_digestsFit (ac_ref25_digestsFit 91 87) [(4, none)] ht ct_fitX (fun x hx => w_ref25_digestsFitX tab gl0 91 87 h1 h2 x.1 x.2 hx.1 hx.2)
theorem ok_ref25_Event (tab : Tab) (ht : TabOk Tryz.prog gl0 tab) (h1 : tab.look 84 = some ct_fitX.fs) : FOk Tryz.prog gl0 54 ct_chkX.fs :=
 tieW' Tryz.f54 hints_ref25_Event (ac_ref25_Event 84) [(4, none)] ht ct_chkX (fun x hx => w_ref25_EventX tab gl0 84 h1 x.1 x.2 hx)
theorem ok_ref8_fill (tab : Tab) (ht : TabOk Tryz.prog gl0 tab)  : FOk Tryz.prog gl0 105 ct_fill.fs :=
 tieF' [] Tryz.f105 hints_ref8_fill ac_ref8_fill [(4, none)] ht ct_fill (fun x hx => wc_ref8_fill tab gl0 x hx)
theorem ok_ref8_initial (tab : Tab) (ht : TabOk Tryz.prog gl0 tab) (h1 : tab.look 87 = some ct_size.fs) (h2 : tab.look 105 = some ct_fill.fs) : FOk Tryz.prog gl0 85 ct_init.fs :=
 tieF' [] Tryz.f85 hints_ref8_initial (ac_ref8_initial 87 105) [(4, none)] ht ct_init (fun x hx => w_ref8_initial tab gl0 87 105 h1 h2 x.1 hx x.2)
theorem ok_ref8_New (tab : Tab) (ht : TabOk Tryz.prog gl0 tab) (h1 : tab.look 85 = some ct_init.fs) : FOk Tryz.prog gl0 55 ct_new.fs :=
 tieF' [] Tryz.f55 hints_ref8_New (ac_ref8_New 85) [(2, (some (2, true)))] ht ct_new (fun x hx => wc_ref8_New tab gl0 85 h1 x)
theorem ok_ref8_Least (tab : Tab) (ht : TabOk Tryz.prog gl0 tab)  : FOk Tryz.prog gl0 86 ct_rleast.fs :=
 tieW' Tryz.f86 hints_ref8_Least ac_ref8_Least [(4, none)] ht ct_rleast (fun x _ => w_ref8_Least tab gl0 x.1 x.2)
theorem ok_ref8_Active (tab : Tab) (ht : TabOk Tryz.prog gl0 tab)  : FOk Tryz.prog gl0 33 ct_actv.fs :=
 tieW' Tryz.f33 hints_ref8_Active ac_ref8_Active [(4, none)] ht ct_actv (fun x hx => wc_ref8_Active tab gl0 x hx)
theorem ok_ref1_Copy (tab : Tab) (ht : TabOk Tryz.prog gl0 tab)  : FOk Tryz.prog gl0 90 ct_copy.fs :=
 tieF' [] Tryz.f90 hints_ref1_Copy ac_ref1_Copy [(2, none)] ht ct_copy (fun x hx => w_ref1_Copy tab gl0 x hx)
theorem ok_ref8_Copy (tab : Tab) (ht : TabOk Tryz.prog gl0 tab) (h1 : tab.look 90 = some ct_copy.fs) : FOk Tryz.prog gl0 88 ct_twin.fs :=
 tieF' [] Tryz.f88 hints_ref8_Copy (ac_ref8_Copy 90) [(2, (some (2, true)))] ht ct_twin (fun x hx => wc_ref8_Copy tab gl0 90 h1 x hx)
theorem ok_ref8_Extend (tab : Tab) (ht : TabOk Tryz.prog gl0 tab) (h1 : tab.look 86 = some ct_rleast.fs) (h2 : tab.look 33 = some ct_actv.fs) (h3 : tab.look 87 = some ct_size.fs) (h4 : tab.look 88 = some ct_twin.fs) (h5 : tab.look 90 = some ct_copy.fs) (h6 : tab.look 89 = some ct_sumA.fs) : FOk Tryz.prog gl0 56 ct_ext.fs :=
 tieW' Tryz.f56 hints_ref8_Extend (ac_ref8_Extend 86 33 87 88 90 89) [(8, (some (2, true))), (9, none)] ht ct_ext (fun x hx => w_ref8_Extend tab gl0 86 33 87 88 90 89 h1 h2 h3 h4 h5 h6 x hx)
theorem ok_ref25_Replay (tab : Tab) (ht : TabOk Tryz.prog gl0 tab) (h1 : tab.look 54 = some ct_chkX.fs) (h2 : tab.look 55 = some ct_new.fs) (h3 : tab.look 56 = some ct_ext.fs) : FOk Tryz.prog gl0 31 ct_rpl.fs :=
 tieW' Tryz.f31 hints_ref25_Replay (ac_ref25_Replay 54 55 56) [(2, (some (2, true))), (3, none)] ht ct_rpl (fun x hx => w_ref25_Replay tab gl0 54 55 56 h1 h2 h3 x.1 x.2.1 x.2.2 hx)
theorem ok_ref25_Predict (tab : Tab) (ht : TabOk Tryz.prog gl0 tab) (h1 : tab.look 30 = some ct_chc.fs) (h2 : tab.look 32 = some ct_evI.fs) (h3 : tab.look 31 = some ct_rpl.fs) : FOk Tryz.prog gl0 10 ct_prd.fs :=
 tieW' Tryz.f10 hints_ref25_Predict (ac_ref25_Predict 30 32 31) [(4, (some (2, true))), (5, none)] ht ct_prd (fun x hx => w_ref25_Predict tab gl0 30 32 31 h1 h2 h3 x.1 x.2 hx)
theorem ok_ref8_Same (tab : Tab) (ht : TabOk Tryz.prog gl0 tab) (h1 : tab.look 33 = some ct_actv.fs) (h2 : tab.look 19 = some ct_lists.fs) : FOk Tryz.prog gl0 11 ct_eqS.fs :=
 tieW' Tryz.f11 hints_ref8_Same (ac_ref8_Same 33 19) [(4, none)] ht ct_eqS (fun x hx => w_ref8_SameS tab gl0 33 19 h1 h2 x.1 x.2 hx.1 hx.2)
theorem ok_law29_hashed (tab : Tab) (ht : TabOk Tryz.prog gl0 tab) (h1 : tab.look 40 = some ct_enI.fs) (h2 : tab.look 32 = some ct_evI.fs) (h3 : tab.look 38 = some (ct_sum 32 sum256).fs) : FOk Tryz.prog gl0 21 ct_hsd.fs :=
 tieF' [] Tryz.f21 hints_law29_hashed (ac_law29_hashed 40 32 38) [(2, none)] ht ct_hsd (fun x hx => w_law29_hashed tab gl0 40 32 38 h1 h2 h3 x hx)
theorem ok_ref1_Collide (tab : Tab) (ht : TabOk Tryz.prog gl0 tab) (h1 : tab.look 15 = some ct_same.fs) (h2 : tab.look 38 = some (ct_sum 32 sum256).fs) : FOk Tryz.prog gl0 39 ct_col.fs :=
 tieW' Tryz.f39 hints_ref1_Collide (ac_ref1_Collide 15 38) [(6, none)] ht ct_col (fun x hx => w_ref1_Collide tab gl0 15 38 h1 h2 x.1 x.2 hx.1 hx.2)
theorem ok_draw_Collides (tab : Tab) (ht : TabOk Tryz.prog gl0 tab) (h1 : tab.look 38 = some (ct_sum 32 sum256).fs) (h2 : tab.look 15 = some ct_same.fs) (h3 : tab.look 39 = some ct_col.fs) : FOk Tryz.prog gl0 20 ct_cols.fs :=
 tieW' Tryz.f20 hints_draw_Collides (ac_draw_Collides 38 15 39) [(2, none)] ht ct_cols (fun x hx => w_draw_Collides tab gl0 38 15 39 h1 h2 h3 x hx)
theorem sp_law29_PredictDistinct (tab : Tab) (ht : TabOk Tryz.prog gl0 tab) (h1 : tab.look 6 = some ct_awake.fs) (h2 : tab.look 16 = some ct_dstr.fs) (h3 : tab.look 8 = some ct_dch.fs) (h4 : tab.look 12 = some ct_mod.fs) (h5 : tab.look 17 = some ct_stg.fs) (h6 : tab.look 13 = some ct_pdg.fs) (h7 : tab.look 18 = some ct_smc.fs) (h8 : tab.look 19 = some ct_lists.fs) (h9 : tab.look 15 = some ct_same.fs) (h10 : tab.look 10 = some ct_prd.fs) (h11 : tab.look 11 = some ct_eqS.fs) (h12 : tab.look 21 = some ct_hsd.fs) (h13 : tab.look 20 = some ct_cols.fs) (a b : List UInt8) (hla : a.length ≤ 9223372036854775807) (hlb : b.length ≤ 9223372036854775807) (act att : Int) (hact : rI act) (hatt : rI att) (same : Bool) : Spec Tryz.prog gl0 5 [.t (.sl (a.map byteT)), .t (.sl (b.map byteT)), .t (.int .i64 act), .t (.int .i64 att), .t (.bool same)] [] (.t (.bool true)) [] :=
 tieL' Tryz.f5 hints_law29_PredictDistinct (ac_law29_PredictDistinct 6 16 8 12 17 13 18 19 15 10 11 21 20) [(10, none)] ht (w_PredictDistinct tab gl0 6 16 8 12 17 13 18 19 15 10 11 21 20 h1 h2 h3 h4 h5 h6 h7 h8 h9 h10 h11 h12 h13 a b hla hlb act att hact hatt same)
noncomputable def tab1 : Tab := (78, ct_name.fs) :: []
theorem tab1_ok : TabOk Tryz.prog gl0 tab1 := TabOk.cons ok_image_named TabOk.nil
noncomputable def tab2 : Tab := (99, ct_bix.fs) :: tab1
theorem tab2_ok : TabOk Tryz.prog gl0 tab2 := TabOk.cons ok_bytealg_IndexByte tab1_ok
noncomputable def tab3 : Tab := (72, ct_bix.fs) :: tab2
theorem tab3_ok : TabOk Tryz.prog gl0 tab3 := TabOk.cons (ok_bytes_IndexByte tab2 tab2_ok rfl) tab2_ok
noncomputable def tab4 : Tab := (73, ct_ipr.fs) :: tab3
theorem tab4_ok : TabOk Tryz.prog gl0 tab4 := TabOk.cons (ok_image_printable tab3 tab3_ok ) tab3_ok
noncomputable def tab5 : Tab := (42, ct_lns.fs) :: tab4
theorem tab5_ok : TabOk Tryz.prog gl0 tab5 := TabOk.cons (ok_image_Lines tab4 tab4_ok rfl rfl) tab4_ok
noncomputable def tab6 : Tab := (49, ct_imc.fs) :: tab5
theorem tab6_ok : TabOk Tryz.prog gl0 tab6 := TabOk.cons (ok_image_Check tab5 tab5_ok rfl rfl) tab5_ok
noncomputable def tab7 : Tab := (28, ct_chc.fs) :: tab6
theorem tab7_ok : TabOk Tryz.prog gl0 tab7 := TabOk.cons (ok_image_CheckChain tab6 tab6_ok rfl) tab6_ok
noncomputable def tab8 : Tab := (44, ct_reg.fs) :: tab7
theorem tab8_ok : TabOk Tryz.prog gl0 tab8 := TabOk.cons (ok_image_Register tab7 tab7_ok ) tab7_ok
noncomputable def tab9 : Tab := (60, ct_uint.fs) :: tab8
theorem tab9_ok : TabOk Tryz.prog gl0 tab9 := TabOk.cons (ok_wire_Uint tab8 tab8_ok ) tab8_ok
noncomputable def tab10 : Tab := (108, ct_blob.fs) :: tab9
theorem tab10_ok : TabOk Tryz.prog gl0 tab10 := TabOk.cons (ok_wire_Blob tab9 tab9_ok rfl) tab9_ok
noncomputable def tab11 : Tab := (97, ct_enI.fs) :: tab10
theorem tab11_ok : TabOk Tryz.prog gl0 tab11 := TabOk.cons (ok_image_Encode tab10 tab10_ok rfl rfl rfl) tab10_ok
noncomputable def tab12 : Tab := (100, ct_pad.fs) :: tab11
theorem tab12_ok : TabOk Tryz.prog gl0 tab12 := TabOk.cons (ok_digest_pad tab11 tab11_ok ) tab11_ok
noncomputable def tab13 : Tab := (110, ct_word.fs) :: tab12
theorem tab13_ok : TabOk Tryz.prog gl0 tab13 := TabOk.cons (ok_digest_word tab12 tab12_ok ) tab12_ok
noncomputable def tab14 : Tab := (111, ct_rotl.fs) :: tab13
theorem tab14_ok : TabOk Tryz.prog gl0 tab14 := TabOk.cons (ok_bits_RotateLeft32 tab13 tab13_ok ) tab13_ok
noncomputable def tab15 : Tab := (101, (ct_comp 5 comp1).fs) :: tab14
theorem tab15_ok : TabOk Tryz.prog gl0 tab15 := TabOk.cons (ok_digest_compress1 tab14 tab14_ok rfl rfl) tab14_ok
noncomputable def tab16 : Tab := (102, ct_spread.fs) :: tab15
theorem tab16_ok : TabOk Tryz.prog gl0 tab16 := TabOk.cons (ok_digest_spread tab15 tab15_ok ) tab15_ok
noncomputable def tab17 : Tab := (103, (ct_comp 8 comp256).fs) :: tab16
theorem tab17_ok : TabOk Tryz.prog gl0 tab17 := TabOk.cons (ok_digest_compress256 tab16 tab16_ok rfl rfl) tab16_ok
noncomputable def tab18 : Tab := (75, ct_sumA.fs) :: tab17
theorem tab18_ok : TabOk Tryz.prog gl0 tab18 := TabOk.cons (ok_digest_Sum tab17 tab17_ok rfl rfl rfl rfl) tab17_ok
noncomputable def tab19 : Tab := (70, ct_imd.fs) :: tab18
theorem tab19_ok : TabOk Tryz.prog gl0 tab19 := TabOk.cons (ok_image_Digests tab18 tab18_ok rfl rfl) tab18_ok
noncomputable def tab20 : Tab := (71, ct_itoa.fs) :: tab19
theorem tab20_ok : TabOk Tryz.prog gl0 tab20 := TabOk.cons ok_strconv_Itoa tab19_ok
noncomputable def tab21 : Tab := (41, ct_ofI.fs) :: tab20
theorem tab21_ok : TabOk Tryz.prog gl0 tab21 := TabOk.cons (ok_event_OfImage tab20 tab20_ok rfl rfl rfl rfl) tab20_ok
noncomputable def tab22 : Tab := (74, ct_clone.fs) :: tab21
theorem tab22_ok : TabOk Tryz.prog gl0 tab22 := TabOk.cons (ok_bytes_Clone tab21 tab21_ok ) tab21_ok
noncomputable def tab23 : Tab := (43, ct_make.fs) :: tab22
theorem tab23_ok : TabOk Tryz.prog gl0 tab23 := TabOk.cons (ok_event_Make tab22 tab22_ok rfl rfl) tab22_ok
noncomputable def tab24 : Tab := (22, ct_evI.fs) :: tab23
theorem tab24_ok : TabOk Tryz.prog gl0 tab24 := TabOk.cons (ok_predict_Events tab23 tab23_ok rfl rfl rfl rfl rfl) tab23_ok
noncomputable def tab25 : Tab := (80, ct_size.fs) :: tab24
theorem tab25_ok : TabOk Tryz.prog gl0 tab25 := TabOk.cons (ok_digest_Size tab24 tab24_ok ) tab24_ok
noncomputable def tab26 : Tab := (120, ct_mul64.fs) :: tab25
theorem tab26_ok : TabOk Tryz.prog gl0 tab26 := TabOk.cons (ok_bits_Mul64 tab25 tab25_ok ) tab25_ok
noncomputable def tab27 : Tab := (112, ct_mul64.fs) :: tab26
theorem tab27_ok : TabOk Tryz.prog gl0 tab27 := TabOk.cons (ok_bits_Mul tab26 tab26_ok rfl) tab26_ok
noncomputable def tab28 : Tab := (113, ct_mnz.fs) :: tab27
theorem tab28_ok : TabOk Tryz.prog gl0 tab28 := TabOk.cons ok_bytealg_MakeNoZero tab27_ok
noncomputable def tab29 : Tab := (104, ct_repeat.fs) :: tab28
theorem tab29_ok : TabOk Tryz.prog gl0 tab29 := TabOk.cons (ok_bytes_Repeat tab28 tab28_ok rfl rfl) tab28_ok
noncomputable def tab30 : Tab := (79, ct_fill.fs) :: tab29
theorem tab30_ok : TabOk Tryz.prog gl0 tab30 := TabOk.cons (ok_registers_fill tab29 tab29_ok rfl) tab29_ok
noncomputable def tab31 : Tab := (50, ct_new.fs) :: tab30
theorem tab31_ok : TabOk Tryz.prog gl0 tab31 := TabOk.cons (ok_registers_New tab30 tab30_ok rfl rfl) tab30_ok
noncomputable def tab32 : Tab := (51, ct_chkX.fs) :: tab31
theorem tab32_ok : TabOk Tryz.prog gl0 tab32 := TabOk.cons (ok_event_Check tab31 tab31_ok rfl) tab31_ok
noncomputable def tab33 : Tab := (45, ct_index.fs) :: tab32
theorem tab33_ok : TabOk Tryz.prog gl0 tab33 := TabOk.cons (ok_registers_index tab32 tab32_ok ) tab32_ok
noncomputable def tab34 : Tab := (81, ct_least.fs) :: tab33
theorem tab34_ok : TabOk Tryz.prog gl0 tab34 := TabOk.cons (ok_registers_least tab33 tab33_ok ) tab33_ok
noncomputable def tab35 : Tab := (76, ct_active.fs) :: tab34
theorem tab35_ok : TabOk Tryz.prog gl0 tab35 := TabOk.cons (ok_registers_active tab34 tab34_ok ) tab34_ok
noncomputable def tab36 : Tab := (46, ct_on.fs) :: tab35
theorem tab36_ok : TabOk Tryz.prog gl0 tab36 := TabOk.cons (ok_registers_on tab35 tab35_ok rfl) tab35_ok
noncomputable def tab37 : Tab := (82, ct_twin.fs) :: tab36
theorem tab37_ok : TabOk Tryz.prog gl0 tab37 := TabOk.cons (ok_registers_twin tab36 tab36_ok ) tab36_ok
noncomputable def tab38 : Tab := (52, ct_ext.fs) :: tab37
theorem tab38_ok : TabOk Tryz.prog gl0 tab38 := TabOk.cons (ok_registers_Extend tab37 tab37_ok rfl rfl rfl rfl rfl rfl) tab37_ok
noncomputable def tab39 : Tab := (29, ct_rpl.fs) :: tab38
theorem tab39_ok : TabOk Tryz.prog gl0 tab39 := TabOk.cons (ok_replay_Registers tab38 tab38_ok rfl rfl rfl) tab38_ok
noncomputable def tab40 : Tab := (9, ct_prd.fs) :: tab39
theorem tab40_ok : TabOk Tryz.prog gl0 tab40 := TabOk.cons (ok_predict_Registers tab39 tab39_ok rfl rfl rfl) tab39_ok
noncomputable def tab41 : Tab := (23, ct_val.fs) :: tab40
theorem tab41_ok : TabOk Tryz.prog gl0 tab41 := TabOk.cons (ok_registers_Value tab40 tab40_ok rfl rfl) tab40_ok
noncomputable def tab42 : Tab := (15, ct_same.fs) :: tab41
theorem tab42_ok : TabOk Tryz.prog gl0 tab42 := TabOk.cons (ok_ref1_Same tab41 tab41_ok ) tab41_ok
noncomputable def tab43 : Tab := (6, ct_awake.fs) :: tab42
theorem tab43_ok : TabOk Tryz.prog gl0 tab43 := TabOk.cons (ok_law29_awake tab42 tab42_ok rfl rfl rfl rfl) tab42_ok
noncomputable def tab44 : Tab := (12, ct_mod.fs) :: tab43
theorem tab44_ok : TabOk Tryz.prog gl0 tab44 := TabOk.cons (ok_draw_Mod tab43 tab43_ok ) tab43_ok
noncomputable def tab45 : Tab := (16, ct_dstr.fs) :: tab44
theorem tab45_ok : TabOk Tryz.prog gl0 tab45 := TabOk.cons (ok_draw_Strong tab44 tab44_ok rfl) tab44_ok
noncomputable def tab46 : Tab := (25, ct_dnew.fs) :: tab45
theorem tab46_ok : TabOk Tryz.prog gl0 tab46 := TabOk.cons (ok_draw_New tab45 tab45_ok ) tab45_ok
noncomputable def tab47 : Tab := (26, ct_next.fs) :: tab46
theorem tab47_ok : TabOk Tryz.prog gl0 tab47 := TabOk.cons (ok_draw_Codes_Next tab46 tab46_ok ) tab46_ok
noncomputable def tab48 : Tab := (47, ct_nms.fs) :: tab47
theorem tab48_ok : TabOk Tryz.prog gl0 tab48 := TabOk.cons (ok_draw_names tab47 tab47_ok ) tab47_ok
noncomputable def tab49 : Tab := (77, ct_line.fs) :: tab48
theorem tab49_ok : TabOk Tryz.prog gl0 tab49 := TabOk.cons (ok_draw_Codes_Line tab48 tab48_ok rfl) tab48_ok
noncomputable def tab50 : Tab := (48, ct_pay.fs) :: tab49
theorem tab50_ok : TabOk Tryz.prog gl0 tab50 := TabOk.cons (ok_draw_Codes_Payload tab49 tab49_ok rfl rfl) tab49_ok
noncomputable def tab51 : Tab := (27, ct_dim.fs) :: tab50
theorem tab51_ok : TabOk Tryz.prog gl0 tab51 := TabOk.cons (ok_draw_Codes_Image tab50 tab50_ok rfl rfl rfl) tab50_ok
noncomputable def tab52 : Tab := (8, ct_dch.fs) :: tab51
theorem tab52_ok : TabOk Tryz.prog gl0 tab52 := TabOk.cons (ok_draw_Chain tab51 tab51_ok rfl rfl rfl) tab51_ok
noncomputable def tab53 : Tab := (36, ct_lns.fs) :: tab52
theorem tab53_ok : TabOk Tryz.prog gl0 tab53 := TabOk.cons (ok_ref25_Lines tab52 tab52_ok ) tab52_ok
noncomputable def tab54 : Tab := (17, ct_stg.fs) :: tab53
theorem tab54_ok : TabOk Tryz.prog gl0 tab54 := TabOk.cons (ok_law29_stages tab53 tab53_ok rfl) tab53_ok
noncomputable def tab55 : Tab := (95, ct_frame.fs) :: tab54
theorem tab55_ok : TabOk Tryz.prog gl0 tab55 := TabOk.cons (ok_digest_Frame tab54 tab54_ok ) tab54_ok
noncomputable def tab56 : Tab := (61, ct_hash.fs) :: tab55
theorem tab56_ok : TabOk Tryz.prog gl0 tab56 := TabOk.cons (ok_digest_Hash tab55 tab55_ok rfl rfl) tab55_ok
noncomputable def tab57 : Tab := (34, ct_digs.fs) :: tab56
theorem tab57_ok : TabOk Tryz.prog gl0 tab57 := TabOk.cons (ok_registers_Digest tab56 tab56_ok rfl rfl rfl) tab56_ok
noncomputable def tab58 : Tab := (13, ct_pdg.fs) :: tab57
theorem tab58_ok : TabOk Tryz.prog gl0 tab58 := TabOk.cons (ok_predict_Digest tab57 tab57_ok rfl rfl) tab57_ok
noncomputable def tab59 : Tab := (37, ct_smi.fs) :: tab58
theorem tab59_ok : TabOk Tryz.prog gl0 tab59 := TabOk.cons (ok_ref25_SameImage tab58 tab58_ok rfl) tab58_ok
noncomputable def tab60 : Tab := (18, ct_smc.fs) :: tab59
theorem tab60_ok : TabOk Tryz.prog gl0 tab60 := TabOk.cons (ok_ref25_SameChain tab59 tab59_ok rfl) tab59_ok
noncomputable def tab61 : Tab := (19, ct_lists.fs) :: tab60
theorem tab61_ok : TabOk Tryz.prog gl0 tab61 := TabOk.cons (ok_ref1_Lists tab60 tab60_ok rfl) tab60_ok
noncomputable def tab62 : Tab := (83, ct_name.fs) :: tab61
theorem tab62_ok : TabOk Tryz.prog gl0 tab62 := TabOk.cons (ok_ref25_Name tab61 tab61_ok ) tab61_ok
noncomputable def tab63 : Tab := (53, ct_imc.fs) :: tab62
theorem tab63_ok : TabOk Tryz.prog gl0 tab63 := TabOk.cons (ok_ref25_Image tab62 tab62_ok rfl rfl) tab62_ok
noncomputable def tab64 : Tab := (30, ct_chc.fs) :: tab63
theorem tab64_ok : TabOk Tryz.prog gl0 tab64 := TabOk.cons (ok_ref25_Chain tab63 tab63_ok rfl) tab63_ok
noncomputable def tab65 : Tab := (58, ct_sep.fs) :: tab64
theorem tab65_ok : TabOk Tryz.prog gl0 tab65 := TabOk.cons (ok_ref25_Separator tab64 tab64_ok ) tab64_ok
noncomputable def tab66 : Tab := (91, ct_has.fs) :: tab65
theorem tab66_ok : TabOk Tryz.prog gl0 tab66 := TabOk.cons (ok_ref25_has tab65 tab65_ok ) tab65_ok
noncomputable def tab67 : Tab := (65, ct_pad.fs) :: tab66
theorem tab67_ok : TabOk Tryz.prog gl0 tab67 := TabOk.cons (ok_ref1_pad tab66 tab66_ok ) tab66_ok
noncomputable def tab68 : Tab := (66, ct_word.fs) :: tab67
theorem tab68_ok : TabOk Tryz.prog gl0 tab68 := TabOk.cons (ok_ref1_word tab67 tab67_ok ) tab67_ok
noncomputable def tab69 : Tab := (114, ct_rotl1.fs) :: tab68
theorem tab69_ok : TabOk Tryz.prog gl0 tab69 := TabOk.cons (ok_ref1_rotl tab68 tab68_ok ) tab68_ok
noncomputable def tab70 : Tab := (68, ct_spread.fs) :: tab69
theorem tab70_ok : TabOk Tryz.prog gl0 tab70 := TabOk.cons (ok_ref1_bytes tab69 tab69_ok ) tab69_ok
noncomputable def tab71 : Tab := (106, (ct_sum 20 sum1).fs) :: tab70
theorem tab71_ok : TabOk Tryz.prog gl0 tab71 := TabOk.cons (ok_ref1_Sum1 tab70 tab70_ok rfl rfl rfl rfl) tab70_ok
noncomputable def tab72 : Tab := (64, ct_const.fs) :: tab71
theorem tab72_ok : TabOk Tryz.prog gl0 tab72 := TabOk.cons (ok_ref1_constants tab71 tab71_ok ) tab71_ok
noncomputable def tab73 : Tab := (67, ct_rotr.fs) :: tab72
theorem tab73_ok : TabOk Tryz.prog gl0 tab73 := TabOk.cons (ok_ref1_rotr tab72 tab72_ok ) tab72_ok
noncomputable def tab74 : Tab := (38, (ct_sum 32 sum256).fs) :: tab73
theorem tab74_ok : TabOk Tryz.prog gl0 tab74 := TabOk.cons (ok_ref1_Sum256 tab73 tab73_ok rfl rfl rfl rfl rfl) tab73_ok
noncomputable def tab75 : Tab := (89, ct_sumA.fs) :: tab74
theorem tab75_ok : TabOk Tryz.prog gl0 tab75 := TabOk.cons (ok_ref1_Sum tab74 tab74_ok rfl rfl) tab74_ok
noncomputable def tab76 : Tab := (57, ct_make.fs) :: tab75
theorem tab76_ok : TabOk Tryz.prog gl0 tab76 := TabOk.cons (ok_ref25_Make tab75 tab75_ok rfl rfl) tab75_ok
noncomputable def tab77 : Tab := (92, ct_reg.fs) :: tab76
theorem tab77_ok : TabOk Tryz.prog gl0 tab77 := TabOk.cons (ok_ref25_Register tab76 tab76_ok ) tab76_ok
noncomputable def tab78 : Tab := (63, ct_uint.fs) :: tab77
theorem tab78_ok : TabOk Tryz.prog gl0 tab78 := TabOk.cons (ok_ref3_Uint tab77 tab77_ok ) tab77_ok
noncomputable def tab79 : Tab := (69, ct_blob.fs) :: tab78
theorem tab79_ok : TabOk Tryz.prog gl0 tab79 := TabOk.cons (ok_ref3_Blob tab78 tab78_ok rfl) tab78_ok
noncomputable def tab80 : Tab := (40, ct_enI.fs) :: tab79
theorem tab80_ok : TabOk Tryz.prog gl0 tab80 := TabOk.cons (ok_ref25_EncodeImage tab79 tab79_ok rfl rfl rfl) tab79_ok
noncomputable def tab81 : Tab := (93, ct_imd.fs) :: tab80
theorem tab81_ok : TabOk Tryz.prog gl0 tab81 := TabOk.cons (ok_ref25_Digests tab80 tab80_ok rfl rfl rfl) tab80_ok
noncomputable def tab82 : Tab := (107, (ct_num 0).fs) :: tab81
theorem tab82_ok : TabOk Tryz.prog gl0 tab82 := TabOk.cons (ok_ref25_Number_0 tab81 tab81_ok ) tab81_ok
noncomputable def tab83 : Tab := (107, (ct_num 1).fs) :: tab82
theorem tab83_ok : TabOk Tryz.prog gl0 tab83 := TabOk.cons (ok_ref25_Number_S 0 (by decide) tab82 tab82_ok rfl) tab82_ok
noncomputable def tab84 : Tab := (107, (ct_num 2).fs) :: tab83
theorem tab84_ok : TabOk Tryz.prog gl0 tab84 := TabOk.cons (ok_ref25_Number_S 1 (by decide) tab83 tab83_ok rfl) tab83_ok
noncomputable def tab85 : Tab := (107, (ct_num 3).fs) :: tab84
theorem tab85_ok : TabOk Tryz.prog gl0 tab85 := TabOk.cons (ok_ref25_Number_S 2 (by decide) tab84 tab84_ok rfl) tab84_ok
noncomputable def tab86 : Tab := (107, (ct_num 4).fs) :: tab85
theorem tab86_ok : TabOk Tryz.prog gl0 tab86 := TabOk.cons (ok_ref25_Number_S 3 (by decide) tab85 tab85_ok rfl) tab85_ok
noncomputable def tab87 : Tab := (107, (ct_num 5).fs) :: tab86
theorem tab87_ok : TabOk Tryz.prog gl0 tab87 := TabOk.cons (ok_ref25_Number_S 4 (by decide) tab86 tab86_ok rfl) tab86_ok
noncomputable def tab88 : Tab := (107, (ct_num 6).fs) :: tab87
theorem tab88_ok : TabOk Tryz.prog gl0 tab88 := TabOk.cons (ok_ref25_Number_S 5 (by decide) tab87 tab87_ok rfl) tab87_ok
noncomputable def tab89 : Tab := (107, (ct_num 7).fs) :: tab88
theorem tab89_ok : TabOk Tryz.prog gl0 tab89 := TabOk.cons (ok_ref25_Number_S 6 (by decide) tab88 tab88_ok rfl) tab88_ok
noncomputable def tab90 : Tab := (94, ct_lab.fs) :: tab89
theorem tab90_ok : TabOk Tryz.prog gl0 tab90 := TabOk.cons (ok_ref25_Label tab89 tab89_ok rfl) tab89_ok
noncomputable def tab91 : Tab := (59, ct_ofI.fs) :: tab90
theorem tab91_ok : TabOk Tryz.prog gl0 tab91 := TabOk.cons (ok_ref25_OfImage tab90 tab90_ok rfl rfl rfl rfl) tab90_ok
noncomputable def tab92 : Tab := (32, ct_evI.fs) :: tab91
theorem tab92_ok : TabOk Tryz.prog gl0 tab92 := TabOk.cons (ok_ref25_Events tab91 tab91_ok rfl rfl rfl rfl rfl) tab91_ok
noncomputable def tab93 : Tab := (87, ct_size.fs) :: tab92
theorem tab93_ok : TabOk Tryz.prog gl0 tab93 := TabOk.cons (ok_ref1_Size tab92 tab92_ok ) tab92_ok
noncomputable def tab94 : Tab := (84, ct_fitX.fs) :: tab93
theorem tab94_ok : TabOk Tryz.prog gl0 tab94 := TabOk.cons (ok_ref25_digestsFit tab93 tab93_ok rfl rfl) tab93_ok
noncomputable def tab95 : Tab := (54, ct_chkX.fs) :: tab94
theorem tab95_ok : TabOk Tryz.prog gl0 tab95 := TabOk.cons (ok_ref25_Event tab94 tab94_ok rfl) tab94_ok
noncomputable def tab96 : Tab := (105, ct_fill.fs) :: tab95
theorem tab96_ok : TabOk Tryz.prog gl0 tab96 := TabOk.cons (ok_ref8_fill tab95 tab95_ok ) tab95_ok
noncomputable def tab97 : Tab := (85, ct_init.fs) :: tab96
theorem tab97_ok : TabOk Tryz.prog gl0 tab97 := TabOk.cons (ok_ref8_initial tab96 tab96_ok rfl rfl) tab96_ok
noncomputable def tab98 : Tab := (55, ct_new.fs) :: tab97
theorem tab98_ok : TabOk Tryz.prog gl0 tab98 := TabOk.cons (ok_ref8_New tab97 tab97_ok rfl) tab97_ok
noncomputable def tab99 : Tab := (86, ct_rleast.fs) :: tab98
theorem tab99_ok : TabOk Tryz.prog gl0 tab99 := TabOk.cons (ok_ref8_Least tab98 tab98_ok ) tab98_ok
noncomputable def tab100 : Tab := (33, ct_actv.fs) :: tab99
theorem tab100_ok : TabOk Tryz.prog gl0 tab100 := TabOk.cons (ok_ref8_Active tab99 tab99_ok ) tab99_ok
noncomputable def tab101 : Tab := (90, ct_copy.fs) :: tab100
theorem tab101_ok : TabOk Tryz.prog gl0 tab101 := TabOk.cons (ok_ref1_Copy tab100 tab100_ok ) tab100_ok
noncomputable def tab102 : Tab := (88, ct_twin.fs) :: tab101
theorem tab102_ok : TabOk Tryz.prog gl0 tab102 := TabOk.cons (ok_ref8_Copy tab101 tab101_ok rfl) tab101_ok
noncomputable def tab103 : Tab := (56, ct_ext.fs) :: tab102
theorem tab103_ok : TabOk Tryz.prog gl0 tab103 := TabOk.cons (ok_ref8_Extend tab102 tab102_ok rfl rfl rfl rfl rfl rfl) tab102_ok
noncomputable def tab104 : Tab := (31, ct_rpl.fs) :: tab103
theorem tab104_ok : TabOk Tryz.prog gl0 tab104 := TabOk.cons (ok_ref25_Replay tab103 tab103_ok rfl rfl rfl) tab103_ok
noncomputable def tab105 : Tab := (10, ct_prd.fs) :: tab104
theorem tab105_ok : TabOk Tryz.prog gl0 tab105 := TabOk.cons (ok_ref25_Predict tab104 tab104_ok rfl rfl rfl) tab104_ok
noncomputable def tab106 : Tab := (11, ct_eqS.fs) :: tab105
theorem tab106_ok : TabOk Tryz.prog gl0 tab106 := TabOk.cons (ok_ref8_Same tab105 tab105_ok rfl rfl) tab105_ok
noncomputable def tab107 : Tab := (21, ct_hsd.fs) :: tab106
theorem tab107_ok : TabOk Tryz.prog gl0 tab107 := TabOk.cons (ok_law29_hashed tab106 tab106_ok rfl rfl rfl) tab106_ok
noncomputable def tab108 : Tab := (39, ct_col.fs) :: tab107
theorem tab108_ok : TabOk Tryz.prog gl0 tab108 := TabOk.cons (ok_ref1_Collide tab107 tab107_ok rfl rfl) tab107_ok
noncomputable def tab109 : Tab := (20, ct_cols.fs) :: tab108
theorem tab109_ok : TabOk Tryz.prog gl0 tab109 := TabOk.cons (ok_draw_Collides tab108 tab108_ok rfl rfl rfl) tab108_ok
end Go.Eng
end
section
set_option maxRecDepth 100000
namespace Go.Proofs.YtldnhemfgkfiiaaGreatDoor
open Go.Eng Go.ChangeShapes Go.WideShapes Go.ChangeAt Go.WideElems Go.RowKit
def theLaid {H : Type} : List (String × DataW H) := [("math/bits.deBruijn32tab", Rows.laid_math_bits_deBruijn32tab), ("math/bits.deBruijn64tab", Rows.laid_math_bits_deBruijn64tab), ("internal/strconv.uint64pow10", Rows.laid_internal_strconv_uint64pow10), ("sealwright/digest.round256", Rows.laid_sealwright_digest_round256), ("sealwright/image.measured", Rows.laid_sealwright_image_measured)]
theorem s_own : ownKnob Tryz.prog.godebug = none := by kernel_rfl
theorem s_laidOut : laidOutB Tryz.prog = true := by kernel_rfl
theorem s_g0 : Tryz.prog.globalNamed "sealwright/digest.round256" = some 2 := by kernel_rfl
theorem s_data0 : (Rows.laid_sealwright_digest_round256 : DataW Unit) = .agg ((k256.map fun x => (x.toNat : Int)).map fun m => .lit (.int .u32 m)) := by rfl
theorem s_v0 (W : World) {ps : List MemPlace} (hv : DataW.LaidVars Tryz.prog W theLaid ps) : RepV (fun _ => none) (fun b => b < W.heap.size) W (.ro (k256.map u32T)) (.pointer (some ⟨2, 0, none⟩)) ∧ GSz W 2 (k256.map u32T).length := by
 obtain ⟨g, t, cs, fuel, p, h1, h2, h3, h4⟩ := laid_each hv _ (.tail _ (.tail _ (.tail _ (.head _))))
 obtain rfl := Option.some.inj (s_g0.symm.trans h1)
 obtain rfl := Option.some.inj ((show (Tryz.prog.globals[2]?).map (·.type) = some 94 by kernel_rfl).symm.trans h2)
 have h4' : DataW.trod (fun _ => ()) Tryz.prog W 0 (fun _ => true) false fuel 94 cs.toList = some (.agg ((k256.map fun x => (x.toNat : Int)).map fun m => .lit (.int .u32 m)), p) := by rw [← s_data0]; exact h4
 have e : (k256.map fun x => (x.toNat : Int)).map (T.int .u32) = k256.map u32T := by rw [List.map_map]; rfl
 rw [← e]
 exact ⟨ro_ints (F := fun b => b < W.heap.size) h1 h3 Tryz.underlying94 Tryz.underlying93 (by kernel_rfl) (by kernel_rfl) (by decide) h4' (fun h => h), gs_ints h1 h3 Tryz.underlying94 (by kernel_rfl) h4'⟩
theorem s_g1 : Tryz.prog.globalNamed "sealwright/image.measured" = some 0 := by kernel_rfl
theorem s_data1 : (Rows.laid_sealwright_image_measured : DataW Unit) = .agg (([-1, 0, 4, 8, 9]).map fun m => .lit (.int .i64 m)) := by rfl
theorem s_v1 (W : World) {ps : List MemPlace} (hv : DataW.LaidVars Tryz.prog W theLaid ps) : RepV (fun _ => none) (fun b => b < W.heap.size) W (.ro (measT)) (.pointer (some ⟨0, 0, none⟩)) ∧ GSz W 0 (measT).length := by
 obtain ⟨g, t, cs, fuel, p, h1, h2, h3, h4⟩ := laid_each hv _ (.tail _ (.tail _ (.tail _ (.tail _ (.head _)))))
 obtain rfl := Option.some.inj (s_g1.symm.trans h1)
 obtain rfl := Option.some.inj ((show (Tryz.prog.globals[0]?).map (·.type) = some 106 by kernel_rfl).symm.trans h2)
 have h4' : DataW.trod (fun _ => ()) Tryz.prog W 0 (fun _ => true) false fuel 106 cs.toList = some (.agg (([-1, 0, 4, 8, 9]).map fun m => .lit (.int .i64 m)), p) := by rw [← s_data1]; exact h4
 have e : ([-1, 0, 4, 8, 9]).map (T.int .i64) = measT := rfl
 rw [← e]
 exact ⟨ro_ints (F := fun b => b < W.heap.size) h1 h3 Tryz.underlying106 Tryz.underlying3 (by kernel_rfl) (by kernel_rfl) (by decide) h4' (fun h => h), gs_ints h1 h3 Tryz.underlying106 (by kernel_rfl) h4'⟩
theorem s_g2 : Tryz.prog.globalNamed "internal/strconv.uint64pow10" = some 3 := by kernel_rfl
theorem s_data2 : (Rows.laid_internal_strconv_uint64pow10 : DataW Unit) = .agg ((Lib.pow10Tab).map fun m => .lit (.int .u64 m)) := by rfl
theorem s_v2 (W : World) {ps : List MemPlace} (hv : DataW.LaidVars Tryz.prog W theLaid ps) : RepV (fun _ => none) (fun b => b < W.heap.size) W (.ro (pow10T)) (.pointer (some ⟨3, 0, none⟩)) ∧ GSz W 3 (pow10T).length := by
 obtain ⟨g, t, cs, fuel, p, h1, h2, h3, h4⟩ := laid_each hv _ (.tail _ (.tail _ (.head _)))
 obtain rfl := Option.some.inj (s_g2.symm.trans h1)
 obtain rfl := Option.some.inj ((show (Tryz.prog.globals[3]?).map (·.type) = some 141 by kernel_rfl).symm.trans h2)
 have h4' : DataW.trod (fun _ => ()) Tryz.prog W 0 (fun _ => true) false fuel 141 cs.toList = some (.agg ((Lib.pow10Tab).map fun m => .lit (.int .u64 m)), p) := by rw [← s_data2]; exact h4
 have e : (Lib.pow10Tab).map (T.int .u64) = pow10T := rfl
 rw [← e]
 exact ⟨ro_ints (F := fun b => b < W.heap.size) h1 h3 Tryz.underlying141 Tryz.underlying116 (by kernel_rfl) (by kernel_rfl) (by decide) h4' (fun h => h), gs_ints h1 h3 Tryz.underlying141 (by kernel_rfl) h4'⟩
theorem s_all (W : World) {ps : List MemPlace} (hv : DataW.LaidVars Tryz.prog W theLaid ps) (g : Nat) (cs : List T) (hg : gl0 g = some cs) : RepV (fun _ => none) (fun b => b < W.heap.size) W (.ro cs) (.pointer (some ⟨g, 0, none⟩)) ∧ GSz W g cs.length := by
 unfold gl0 at hg
 split at hg
 · rename_i h0; subst h0; cases hg; exact s_v0 W hv
 · skip
   split at hg
   · rename_i h0; subst h0; cases hg; exact s_v1 W hv
   · skip
     split at hg
     · rename_i h0; subst h0; cases hg; exact s_v2 W hv
     · cases hg
theorem s_env (W : World) (h : laidMetH Tryz.prog theLaid W) : EnvOk gl0 (fun b => b < W.heap.size) W := by
 rw [MakeChecks.laidMetH_plain _ _ _ (by kernel_rfl)] at h
 obtain ⟨ps, hv, _⟩ := h
 exact ⟨fun _ h => h, fun g cs hg => (s_all W hv g cs hg).1, fun g cs hg => (s_all W hv g cs hg).2⟩
abbrev s_tb : TypeId := 4
theorem s_bool : Tryz.prog.underlying s_tb = some .bool := Tryz.underlying4
theorem s_shaped (os : Os) (args : Array Value) : ((World.doorLaid Tryz.prog 400 os).forCall (fun _ _ => 0) ⟨#[], args, []⟩).Shaped Tryz.prog := World.shaped_of_RefB (by kernel_rfl) (by kernel_rfl)
theorem door_met (os : Os) (args : Array Value) : laidMetH Tryz.prog theLaid ((World.doorLaid Tryz.prog 400 os).forCall (fun _ _ => 0) ⟨#[], args, []⟩).memory :=
 laidMetH_of_parts3 (fuel := 8) (laidMet_of_run' 8 (by kernel_rfl) (by kernel_rfl)) (by kernel_rfl) (by kernel_rfl)
end Go.Proofs.YtldnhemfgkfiiaaGreatDoor
end
section
set_option maxRecDepth 20000
namespace Go.Eng
theorem is_ims {y : T} (h : (Ty.sl (.st [.int .i64, .str, .int .i64, .sl (.int .u8)])).is y) : ∃ l : List Im, imsX l ∧ y = .sl (l.map imT) := by
 obtain ⟨es, hl, he, rfl⟩ := h
 have key : ∀ y ∈ es, ∃ x : Im, y = imT x ∧ imX x := fun y hy => by
   obtain ⟨a, v, s, p, h1, h2, h3, h4, rfl⟩ := is_im (he y hy)
   exact ⟨(a, s, v, p), rfl, h1, h2, h3, h4⟩
 obtain ⟨l, hl2⟩ := list_of (f := imT) (es := es) (fun y hy => by obtain ⟨e, h1, _⟩ := key y hy; exact ⟨e, h1⟩)
 subst hl2
 rw [List.length_map, mx] at hl
 refine ⟨l, ⟨hl, fun x hx => ?_⟩, rfl⟩
 obtain ⟨e', h1, h2⟩ := key (imT x) (List.mem_map_of_mem hx)
 cases imT_inj h1
 exact h2
end Go.Eng
end
