/- My own text: an abstract machine, its walks over the functions reached, and their tie to the program. -/
import Derived.Test.YtgchkbhfajopnaaDoorRows
import Derived.KernelRfl
import Derived.Test.YtgchkbhfajopnaaDoorS4
import Derived.Test.YtgchkbhfajopnaaDoorS3
import Derived.WideKeyArgs
import Derived.Handed
import Derived.OpenShut
import Derived.RowKit
import Derived.ProofKit
import Derived.LaidMore
import Derived.MakeChecks
import Derived.Stop.Joined
import Derived.Test.YtgchkbhfajopnaaDoorTie
import Derived.Test.YtgchkbhfajopnaaDoorCards
import Derived.SevenTiedAt
set_option linter.unusedSimpArgs false
set_option linter.unusedVariables false
section
set_option maxRecDepth 100000
namespace Go.Eng
open Go.Proofs Go.Proofs.YtgchkbhfajopnaaDoor
def gl0 : Gl := fun g => if g = 0 then some (k256.map u32T) else none
theorem ok_lockout_New (tab : Tab) (ht : TabOk Tryd.prog gl0 tab)  : FOk Tryd.prog gl0 15 ct_lck.fs :=
 tieW' Tryd.f15 hints_lockout_New ac_lockout_New [(0, (some (6, true)))] ht ct_lck (fun _ _ => w_lockout_New tab gl0)
theorem ok_mac_four (tab : Tab) (ht : TabOk Tryd.prog gl0 tab)  : FOk Tryd.prog gl0 25 ct_four.fs :=
 tieF' [] Tryd.f25 hints_mac_four ac_mac_four [(2, none)] ht ct_four (fun x _ => w_mac_four tab gl0 x)
theorem ok_digest_pad (tab : Tab) (ht : TabOk Tryd.prog gl0 tab)  : FOk Tryd.prog gl0 37 ct_pad.fs :=
 tieF' [] Tryd.f37 hints_digest_pad ac_digest_pad [(2, none)] ht ct_pad (fun x hx => w_digest_pad tab gl0 x hx)
theorem ok_digest_word (tab : Tab) (ht : TabOk Tryd.prog gl0 tab)  : FOk Tryd.prog gl0 48 ct_word.fs :=
 tieW' Tryd.f48 hints_digest_word ac_digest_word [(4, none)] ht ct_word (fun x hx => w_digest_word tab gl0 x.1 x.2 hx.1 hx.2)
theorem ok_bits_RotateLeft32 (tab : Tab) (ht : TabOk Tryd.prog gl0 tab)  : FOk Tryd.prog gl0 49 ct_rotl.fs :=
 tieW' Tryd.f49 hints_bits_RotateLeft32 ac_bits_RotateLeft32 [(4, none)] ht ct_rotl (fun x hx => w_bits_RotateLeft32 tab gl0 x.1 x.2 hx)
theorem ok_digest_compress1 (tab : Tab) (ht : TabOk Tryd.prog gl0 tab) (h1 : tab.look 48 = some ct_word.fs) (h2 : tab.look 49 = some ct_rotl.fs) : FOk Tryd.prog gl0 38 (ct_comp 5 comp1).fs :=
 tieW' Tryd.f38 hints_digest_compress1 (ac_digest_compress1 48 49) [] ht (ct_comp 5 comp1) (fun x hx => wc_digest_compress1 tab gl0 48 49 h1 h2 x hx)
theorem ok_digest_spread (tab : Tab) (ht : TabOk Tryd.prog gl0 tab)  : FOk Tryd.prog gl0 39 ct_spread.fs :=
 tieF' [] Tryd.f39 hints_digest_spread ac_digest_spread [(2, none)] ht ct_spread (fun x hx => w_digest_spread tab gl0 x hx)
theorem ok_digest_compress256 (tab : Tab) (ht : TabOk Tryd.prog gl0 tab) (h1 : tab.look 48 = some ct_word.fs) (h2 : tab.look 49 = some ct_rotl.fs) : FOk Tryd.prog gl0 40 (ct_comp 8 comp256).fs :=
 tieW' Tryd.f40 hints_digest_compress256 (ac_digest_compress256 48 49 0) [] ht (ct_comp 8 comp256) (fun x hx => w_digest_compress256 tab gl0 48 49 0 h1 h2 rfl x.2 x.1 hx.1 hx.2)
theorem ok_digest_Sum (tab : Tab) (ht : TabOk Tryd.prog gl0 tab) (h1 : tab.look 37 = some ct_pad.fs) (h2 : tab.look 38 = some (ct_comp 5 comp1).fs) (h3 : tab.look 39 = some ct_spread.fs) (h4 : tab.look 40 = some (ct_comp 8 comp256).fs) : FOk Tryd.prog gl0 33 ct_sumA.fs :=
 tieF' [] Tryd.f33 hints_digest_Sum (ac_digest_Sum 37 38 39 40) [(4, none)] ht ct_sumA (fun x hx => w_digest_Sum tab gl0 37 38 39 40 h1 h2 h3 h4 x.1 hx.1 x.2 hx.2)
theorem ok_mac_Mac_1 (tab : Tab) (ht : TabOk Tryd.prog gl0 tab)  : FOk Tryd.prog gl0 34 ct_mask.fs :=
 tieF' [] Tryd.f34 hints_mac_Mac_1 ac_mac_Mac_1 [(3, none)] ht ct_mask (fun x hx => w_mac_Mac_1 tab gl0 x.1 x.2 hx)
theorem ok_mac_Mac (tab : Tab) (ht : TabOk Tryd.prog gl0 tab) (h1 : tab.look 33 = some ct_sumA.fs) (h2 : tab.look 34 = some ct_mask.fs) : FOk Tryd.prog gl0 26 ct_mac.fs :=
 tieF' [] Tryd.f26 hints_mac_Mac (ac_mac_Mac 33 34) [(4, none)] ht ct_mac (fun x hx => w_mac_Mac tab gl0 33 34 h1 h2 x.1 x.2 hx.1 hx.2)
theorem ok_mac_Derive (tab : Tab) (ht : TabOk Tryd.prog gl0 tab) (h1 : tab.look 25 = some ct_four.fs) (h2 : tab.look 26 = some ct_mac.fs) : FOk Tryd.prog gl0 16 ct_drv.fs :=
 tieW' Tryd.f16 hints_mac_Derive (ac_mac_Derive 25 26) [(8, none)] ht ct_drv (fun x hx => w_mac_Derive tab gl0 25 26 h1 h2 x.1 x.2.1 x.2.2.1 x.2.2.2 hx.1 hx.2.1 hx.2.2.1 hx.2.2.2)
theorem ok_state_New (tab : Tab) (ht : TabOk Tryd.prog gl0 tab) (h1 : tab.look 15 = some ct_lck.fs) (h2 : tab.look 16 = some ct_drv.fs) : FOk Tryd.prog gl0 8 ct_snew.fs :=
 tieW' Tryd.f8 hints_state_New (ac_state_New 15 16) [(4, (some (19, true))), (5, none)] ht ct_snew (fun x hx => w_state_New tab gl0 15 16 h1 h2 x.1 x.2 hx)
theorem ok_state_Boot (tab : Tab) (ht : TabOk Tryd.prog gl0 tab)  : FOk Tryd.prog gl0 12 ct_boot.fs :=
 tieW' Tryd.f12 hints_state_Boot ac_state_Boot [(2, (some (30, true)))] ht ct_boot (fun x _ => w_state_Boot tab gl0 x)
theorem ok_digest_Size (tab : Tab) (ht : TabOk Tryd.prog gl0 tab)  : FOk Tryd.prog gl0 31 ct_size.fs :=
 tieW' Tryd.f31 hints_digest_Size ac_digest_Size [(2, none)] ht ct_size (fun x _ => w_digest_Size tab gl0 x)
theorem ok_bits_Mul64 (tab : Tab) (ht : TabOk Tryd.prog gl0 tab)  : FOk Tryd.prog gl0 51 ct_mul64.fs :=
 tieW' Tryd.f51 hints_bits_Mul64 ac_bits_Mul64 [(4, none), (5, none)] ht ct_mul64 (fun x hx => w_bits_Mul64 tab gl0 x hx)
theorem ok_bits_Mul (tab : Tab) (ht : TabOk Tryd.prog gl0 tab) (h1 : tab.look 51 = some ct_mul64.fs) : FOk Tryd.prog gl0 46 ct_mul64.fs :=
 tieW' Tryd.f46 hints_bits_Mul (ac_bits_Mul 50 51) [(4, none), (5, none)] ht ct_mul64 (fun x hx => w_bits_Mul tab gl0 50 51 h1 x hx)
theorem ok_bytealg_MakeNoZero : FOk Tryd.prog gl0 47 ct_mnz.fs := ok_mnz (fn := Tryd.f47) (ps := #[3]) (t := 22) (e := 5) (by kernel_rfl) (by kernel_rfl) (by kernel_rfl) (by kernel_rfl) (by kernel_rfl) (by kernel_rfl)
theorem ok_bytes_Repeat (tab : Tab) (ht : TabOk Tryd.prog gl0 tab) (h1 : tab.look 46 = some ct_mul64.fs) (h2 : tab.look 47 = some ct_mnz.fs) : FOk Tryd.prog gl0 36 ct_repeat.fs :=
 tieF' [] Tryd.f36 hints_bytes_Repeat (ac_bytes_Repeat 46 47) [(4, none)] ht ct_repeat (fun x hx => w_bytes_Repeat tab gl0 46 47 h1 h2 x.1 x.2 hx)
theorem ok_registers_fill (tab : Tab) (ht : TabOk Tryd.prog gl0 tab) (h1 : tab.look 36 = some ct_repeat.fs) : FOk Tryd.prog gl0 30 ct_fill.fs :=
 tieF' [] Tryd.f30 hints_registers_fill (ac_registers_fill 36) [(4, none)] ht ct_fill (fun x hx => w_registers_fill tab gl0 36 h1 x.2 x.1 hx)
theorem ok_registers_New (tab : Tab) (ht : TabOk Tryd.prog gl0 tab) (h1 : tab.look 31 = some ct_size.fs) (h2 : tab.look 30 = some ct_fill.fs) : FOk Tryd.prog gl0 23 ct_new.fs :=
 tieF' [] Tryd.f23 hints_registers_New (ac_registers_New 31 30) [(2, (some (2, true)))] ht ct_new (fun x hx => wc_registers_New tab gl0 31 30 h1 h2 x)
theorem ok_registers_twin (tab : Tab) (ht : TabOk Tryd.prog gl0 tab)  : FOk Tryd.prog gl0 32 ct_twin.fs :=
 tieF' [] Tryd.f32 hints_registers_twin ac_registers_twin [(2, (some (2, true)))] ht ct_twin (fun x hx => wc_registers_twin tab gl0 x hx)
theorem ok_registers_Resume (tab : Tab) (ht : TabOk Tryd.prog gl0 tab) (h1 : tab.look 32 = some ct_twin.fs) (h2 : tab.look 31 = some ct_size.fs) (h3 : tab.look 30 = some ct_fill.fs) : FOk Tryd.prog gl0 24 ct_rsm.fs :=
 tieW' Tryd.f24 hints_registers_Resume (ac_registers_Resume 32 31 30) [(2, (some (2, true)))] ht ct_rsm (fun x hx => wc_registers_Resume tab gl0 32 31 30 h1 h2 h3 x hx)
theorem ok_state_Startup (tab : Tab) (ht : TabOk Tryd.prog gl0 tab) (h1 : tab.look 23 = some ct_new.fs) (h2 : tab.look 24 = some ct_rsm.fs) : FOk Tryd.prog gl0 11 ct_sup.fs :=
 tieW' Tryd.f11 hints_state_Startup (ac_state_Startup 23 24) [(4, (some (30, true))), (5, none)] ht ct_sup (fun x hx => w_state_Startup tab gl0 23 24 h1 h2 x.1 x.2 hx)
theorem ok_law17_awake (tab : Tab) (ht : TabOk Tryd.prog gl0 tab) (h1 : tab.look 8 = some ct_snew.fs) (h2 : tab.look 12 = some ct_boot.fs) (h3 : tab.look 11 = some ct_sup.fs) : FOk Tryd.prog gl0 5 ct_awake.fs :=
 tieW' Tryd.f5 hints_law17_awake (ac_law17_awake 8 12 11) [(0, none)] ht ct_awake (fun _ _ => w_awake17 tab gl0 8 12 11 h1 h2 h3)
theorem ok_draw_Seed (tab : Tab) (ht : TabOk Tryd.prog gl0 tab)  : FOk Tryd.prog gl0 6 ct_seed.fs :=
 tieF' [] Tryd.f6 hints_draw_Seed ac_draw_Seed [(2, none)] ht ct_seed (fun x hx => w_draw_Seed tab gl0 x hx)
theorem ok_draw_Mod (tab : Tab) (ht : TabOk Tryd.prog gl0 tab)  : FOk Tryd.prog gl0 7 ct_mod.fs :=
 tieW' Tryd.f7 hints_draw_Mod ac_draw_Mod [(4, none)] ht ct_mod (fun x hx => w_draw_Mod tab gl0 x.1 x.2 hx.1 hx.2)
theorem ok_ref2_four (tab : Tab) (ht : TabOk Tryd.prog gl0 tab)  : FOk Tryd.prog gl0 27 ct_four.fs :=
 tieF' [] Tryd.f27 hints_ref2_four ac_ref2_four [(2, none)] ht ct_four (fun x _ => w_ref2_four tab gl0 x)
theorem ok_ref1_constants (tab : Tab) (ht : TabOk Tryd.prog gl0 tab)  : FOk Tryd.prog gl0 41 ct_const.fs :=
 tieW' Tryd.f41 hints_ref1_constants ac_ref1_constants [(0, (some (64, true)))] ht ct_const (fun _ _ => w_ref1_constants tab gl0)
theorem ok_ref1_pad (tab : Tab) (ht : TabOk Tryd.prog gl0 tab)  : FOk Tryd.prog gl0 42 ct_pad.fs :=
 tieF' [] Tryd.f42 hints_ref1_pad ac_ref1_pad [(2, none)] ht ct_pad (fun x hx => w_ref1_pad tab gl0 x hx)
theorem ok_ref1_word (tab : Tab) (ht : TabOk Tryd.prog gl0 tab)  : FOk Tryd.prog gl0 43 ct_word.fs :=
 tieW' Tryd.f43 hints_ref1_word ac_ref1_word [(4, none)] ht ct_word (fun x hx => w_ref1_word tab gl0 x.1 x.2 hx.1 hx.2)
theorem ok_ref1_rotr (tab : Tab) (ht : TabOk Tryd.prog gl0 tab)  : FOk Tryd.prog gl0 44 ct_rotr.fs :=
 tieW' Tryd.f44 hints_ref1_rotr ac_ref1_rotr [(4, none)] ht ct_rotr (fun x hx => w_ref1_rotr tab gl0 x.1 x.2 hx)
theorem ok_ref1_bytes (tab : Tab) (ht : TabOk Tryd.prog gl0 tab)  : FOk Tryd.prog gl0 45 ct_spread.fs :=
 tieF' [] Tryd.f45 hints_ref1_bytes ac_ref1_bytes [(2, none)] ht ct_spread (fun x hx => w_ref1_bytes tab gl0 x hx)
theorem ok_ref1_Sum256 (tab : Tab) (ht : TabOk Tryd.prog gl0 tab) (h1 : tab.look 41 = some ct_const.fs) (h2 : tab.look 42 = some ct_pad.fs) (h3 : tab.look 43 = some ct_word.fs) (h4 : tab.look 44 = some ct_rotr.fs) (h5 : tab.look 45 = some ct_spread.fs) : FOk Tryd.prog gl0 35 (ct_sum 32 sum256).fs :=
 tieF' [] Tryd.f35 hints_ref1_Sum256 (ac_ref1_Sum256 41 42 43 44 45) [(2, none)] ht (ct_sum 32 sum256) (fun x hx => w_ref1_Sum256 tab gl0 41 42 43 44 45 h1 h2 h3 h4 h5 x hx)
theorem ok_ref2_Mac (tab : Tab) (ht : TabOk Tryd.prog gl0 tab) (h1 : tab.look 35 = some (ct_sum 32 sum256).fs) : FOk Tryd.prog gl0 28 ct_mac.fs :=
 tieF' [] Tryd.f28 hints_ref2_Mac (ac_ref2_Mac 35) [(4, none)] ht ct_mac (fun x hx => w_ref2_Mac tab gl0 35 h1 x.1 x.2 hx.1 hx.2)
theorem ok_ref2_Derive (tab : Tab) (ht : TabOk Tryd.prog gl0 tab) (h1 : tab.look 27 = some ct_four.fs) (h2 : tab.look 28 = some ct_mac.fs) : FOk Tryd.prog gl0 17 ct_drv.fs :=
 tieW' Tryd.f17 hints_ref2_Derive (ac_ref2_Derive 27 28) [(8, none)] ht ct_drv (fun x hx => w_ref2_Derive tab gl0 27 28 h1 h2 x.1 x.2.1 x.2.2.1 x.2.2.2 hx.1 hx.2.1 hx.2.2.1 hx.2.2.2)
theorem ok_ref13_New (tab : Tab) (ht : TabOk Tryd.prog gl0 tab)  : FOk Tryd.prog gl0 18 ct_lck.fs :=
 tieW' Tryd.f18 hints_ref13_New ac_ref13_New [(0, (some (6, true)))] ht ct_lck (fun _ _ => w_ref13_New tab gl0)
theorem ok_ref17_New (tab : Tab) (ht : TabOk Tryd.prog gl0 tab) (h1 : tab.look 17 = some ct_drv.fs) (h2 : tab.look 18 = some ct_lck.fs) : FOk Tryd.prog gl0 9 ct_snew.fs :=
 tieW' Tryd.f9 hints_ref17_New (ac_ref17_New 17 18) [(4, (some (19, true))), (5, none)] ht ct_snew (fun x hx => w_ref17_New tab gl0 17 18 h1 h2 x.1 x.2 hx)
theorem ok_ref1_Same (tab : Tab) (ht : TabOk Tryd.prog gl0 tab)  : FOk Tryd.prog gl0 20 ct_same.fs :=
 tieW' Tryd.f20 hints_ref1_Same ac_ref1_Same [(4, none)] ht ct_same (fun x hx => w_ref1_Same tab gl0 x.1 x.2 hx.1 hx.2)
theorem ok_ref1_Lists (tab : Tab) (ht : TabOk Tryd.prog gl0 tab) (h1 : tab.look 20 = some ct_same.fs) : FOk Tryd.prog gl0 19 ct_lists.fs :=
 tieW' Tryd.f19 hints_ref1_Lists (ac_ref1_Lists 20) [(4, none)] ht ct_lists (fun x hx => w_ref1_Lists tab gl0 20 h1 x.1 x.2 hx.1 hx.2)
theorem ok_ref8_Active (tab : Tab) (ht : TabOk Tryd.prog gl0 tab)  : FOk Tryd.prog gl0 29 ct_actv.fs :=
 tieW' Tryd.f29 hints_ref8_Active ac_ref8_Active [(4, none)] ht ct_actv (fun x hx => wc_ref8_Active tab gl0 x hx)
theorem ok_ref8_Same (tab : Tab) (ht : TabOk Tryd.prog gl0 tab) (h1 : tab.look 29 = some ct_actv.fs) (h2 : tab.look 19 = some ct_lists.fs) : FOk Tryd.prog gl0 21 ct_eqR.fs :=
 tieW' Tryd.f21 hints_ref8_Same (ac_ref8_Same 29 19) [(4, none)] ht ct_eqR (fun x hx => w_ref8_Same tab gl0 29 19 h1 h2 x.1 x.2 hx)
theorem ok_ref17_SameStable (tab : Tab) (ht : TabOk Tryd.prog gl0 tab) (h1 : tab.look 19 = some ct_lists.fs) (h2 : tab.look 20 = some ct_same.fs) (h3 : tab.look 21 = some ct_eqR.fs) : FOk Tryd.prog gl0 10 ct_sst.fs :=
 tieW' Tryd.f10 hints_ref17_SameStable (ac_ref17_SameStable 19 20 21 22) [(4, none)] ht ct_sst (fun x hx => w_ref17_SameStable tab gl0 19 20 21 22 h1 h2 h3 x hx)
theorem sp_law17_StateNew (tab : Tab) (ht : TabOk Tryd.prog gl0 tab) (h1 : tab.look 5 = some ct_awake.fs) (h2 : tab.look 6 = some ct_seed.fs) (h3 : tab.look 7 = some ct_mod.fs) (h4 : tab.look 8 = some ct_snew.fs) (h5 : tab.look 9 = some ct_snew.fs) (h6 : tab.look 10 = some ct_sst.fs) (en : List UInt8) (hl : en.length ≤ 9223372036854775807) (act : Int) (ha : -9223372036854775808 ≤ act ∧ act < 9223372036854775808) (w : Bool) : Spec Tryd.prog gl0 3 [.t (.sl (en.map byteT)), .t (.int .i64 act), .t (.bool w)] [] (.t (.bool true)) [] :=
 tieL' Tryd.f3 hints_law17_StateNew (ac_law17_StateNew 5 6 7 8 9 10) [(6, none)] ht (w_StateNew tab gl0 5 6 7 8 9 10 h1 h2 h3 h4 h5 h6 en act w hl ha)
theorem ok_state_Shutdown (tab : Tab) (ht : TabOk Tryd.prog gl0 tab) (h1 : tab.look 12 = some ct_boot.fs) : FOk Tryd.prog gl0 13 ct_shd.fs :=
 tieW' Tryd.f13 hints_state_Shutdown (ac_state_Shutdown 12) [(4, (some (30, true))), (5, none)] ht ct_shd (fun x hx => w_state_Shutdown tab gl0 12 h1 x.1 x.2.1 x.2.2 hx)
theorem ok_state_Tick (tab : Tab) (ht : TabOk Tryd.prog gl0 tab)  : FOk Tryd.prog gl0 14 ct_tick.fs :=
 tieW' Tryd.f14 hints_state_Tick ac_state_Tick [(4, (some (30, true))), (5, none)] ht ct_tick (fun x hx => w_state_Tick tab gl0 x.1 x.2.1 x.2.2 hx)
theorem sp_law17_StateClock (tab : Tab) (ht : TabOk Tryd.prog gl0 tab) (h1 : tab.look 5 = some ct_awake.fs) (h2 : tab.look 8 = some ct_snew.fs) (h3 : tab.look 12 = some ct_boot.fs) (h4 : tab.look 11 = some ct_sup.fs) (h5 : tab.look 13 = some ct_shd.fs) (h6 : tab.look 14 = some ct_tick.fs) (cs : List UInt8) (hc : cs.length ≤ 9223372036854775807) (ts : List UInt8) (hu : ts.length ≤ 9223372036854775807) : Spec Tryd.prog gl0 4 [.t (.sl (cs.map byteT)), .t (.sl (ts.map byteT))] [] (.t (.bool true)) [] :=
 tieL' Tryd.f4 hints_law17_StateClock (ac_law17_StateClock 5 8 12 11 13 14) [(4, none)] ht (w_StateClock tab gl0 5 8 12 11 13 14 h1 h2 h3 h4 h5 h6 cs ts hc hu)
noncomputable def tab1 : Tab := (15, ct_lck.fs) :: []
theorem tab1_ok : TabOk Tryd.prog gl0 tab1 := TabOk.cons (ok_lockout_New [] TabOk.nil ) TabOk.nil
noncomputable def tab2 : Tab := (25, ct_four.fs) :: tab1
theorem tab2_ok : TabOk Tryd.prog gl0 tab2 := TabOk.cons (ok_mac_four tab1 tab1_ok ) tab1_ok
noncomputable def tab3 : Tab := (37, ct_pad.fs) :: tab2
theorem tab3_ok : TabOk Tryd.prog gl0 tab3 := TabOk.cons (ok_digest_pad tab2 tab2_ok ) tab2_ok
noncomputable def tab4 : Tab := (48, ct_word.fs) :: tab3
theorem tab4_ok : TabOk Tryd.prog gl0 tab4 := TabOk.cons (ok_digest_word tab3 tab3_ok ) tab3_ok
noncomputable def tab5 : Tab := (49, ct_rotl.fs) :: tab4
theorem tab5_ok : TabOk Tryd.prog gl0 tab5 := TabOk.cons (ok_bits_RotateLeft32 tab4 tab4_ok ) tab4_ok
noncomputable def tab6 : Tab := (38, (ct_comp 5 comp1).fs) :: tab5
theorem tab6_ok : TabOk Tryd.prog gl0 tab6 := TabOk.cons (ok_digest_compress1 tab5 tab5_ok rfl rfl) tab5_ok
noncomputable def tab7 : Tab := (39, ct_spread.fs) :: tab6
theorem tab7_ok : TabOk Tryd.prog gl0 tab7 := TabOk.cons (ok_digest_spread tab6 tab6_ok ) tab6_ok
noncomputable def tab8 : Tab := (40, (ct_comp 8 comp256).fs) :: tab7
theorem tab8_ok : TabOk Tryd.prog gl0 tab8 := TabOk.cons (ok_digest_compress256 tab7 tab7_ok rfl rfl) tab7_ok
noncomputable def tab9 : Tab := (33, ct_sumA.fs) :: tab8
theorem tab9_ok : TabOk Tryd.prog gl0 tab9 := TabOk.cons (ok_digest_Sum tab8 tab8_ok rfl rfl rfl rfl) tab8_ok
noncomputable def tab10 : Tab := (34, ct_mask.fs) :: tab9
theorem tab10_ok : TabOk Tryd.prog gl0 tab10 := TabOk.cons (ok_mac_Mac_1 tab9 tab9_ok ) tab9_ok
noncomputable def tab11 : Tab := (26, ct_mac.fs) :: tab10
theorem tab11_ok : TabOk Tryd.prog gl0 tab11 := TabOk.cons (ok_mac_Mac tab10 tab10_ok rfl rfl) tab10_ok
noncomputable def tab12 : Tab := (16, ct_drv.fs) :: tab11
theorem tab12_ok : TabOk Tryd.prog gl0 tab12 := TabOk.cons (ok_mac_Derive tab11 tab11_ok rfl rfl) tab11_ok
noncomputable def tab13 : Tab := (8, ct_snew.fs) :: tab12
theorem tab13_ok : TabOk Tryd.prog gl0 tab13 := TabOk.cons (ok_state_New tab12 tab12_ok rfl rfl) tab12_ok
noncomputable def tab14 : Tab := (12, ct_boot.fs) :: tab13
theorem tab14_ok : TabOk Tryd.prog gl0 tab14 := TabOk.cons (ok_state_Boot tab13 tab13_ok ) tab13_ok
noncomputable def tab15 : Tab := (31, ct_size.fs) :: tab14
theorem tab15_ok : TabOk Tryd.prog gl0 tab15 := TabOk.cons (ok_digest_Size tab14 tab14_ok ) tab14_ok
noncomputable def tab16 : Tab := (51, ct_mul64.fs) :: tab15
theorem tab16_ok : TabOk Tryd.prog gl0 tab16 := TabOk.cons (ok_bits_Mul64 tab15 tab15_ok ) tab15_ok
noncomputable def tab17 : Tab := (46, ct_mul64.fs) :: tab16
theorem tab17_ok : TabOk Tryd.prog gl0 tab17 := TabOk.cons (ok_bits_Mul tab16 tab16_ok rfl) tab16_ok
noncomputable def tab18 : Tab := (47, ct_mnz.fs) :: tab17
theorem tab18_ok : TabOk Tryd.prog gl0 tab18 := TabOk.cons ok_bytealg_MakeNoZero tab17_ok
noncomputable def tab19 : Tab := (36, ct_repeat.fs) :: tab18
theorem tab19_ok : TabOk Tryd.prog gl0 tab19 := TabOk.cons (ok_bytes_Repeat tab18 tab18_ok rfl rfl) tab18_ok
noncomputable def tab20 : Tab := (30, ct_fill.fs) :: tab19
theorem tab20_ok : TabOk Tryd.prog gl0 tab20 := TabOk.cons (ok_registers_fill tab19 tab19_ok rfl) tab19_ok
noncomputable def tab21 : Tab := (23, ct_new.fs) :: tab20
theorem tab21_ok : TabOk Tryd.prog gl0 tab21 := TabOk.cons (ok_registers_New tab20 tab20_ok rfl rfl) tab20_ok
noncomputable def tab22 : Tab := (32, ct_twin.fs) :: tab21
theorem tab22_ok : TabOk Tryd.prog gl0 tab22 := TabOk.cons (ok_registers_twin tab21 tab21_ok ) tab21_ok
noncomputable def tab23 : Tab := (24, ct_rsm.fs) :: tab22
theorem tab23_ok : TabOk Tryd.prog gl0 tab23 := TabOk.cons (ok_registers_Resume tab22 tab22_ok rfl rfl rfl) tab22_ok
noncomputable def tab24 : Tab := (11, ct_sup.fs) :: tab23
theorem tab24_ok : TabOk Tryd.prog gl0 tab24 := TabOk.cons (ok_state_Startup tab23 tab23_ok rfl rfl) tab23_ok
noncomputable def tab25 : Tab := (5, ct_awake.fs) :: tab24
theorem tab25_ok : TabOk Tryd.prog gl0 tab25 := TabOk.cons (ok_law17_awake tab24 tab24_ok rfl rfl rfl) tab24_ok
noncomputable def tab26 : Tab := (6, ct_seed.fs) :: tab25
theorem tab26_ok : TabOk Tryd.prog gl0 tab26 := TabOk.cons (ok_draw_Seed tab25 tab25_ok ) tab25_ok
noncomputable def tab27 : Tab := (7, ct_mod.fs) :: tab26
theorem tab27_ok : TabOk Tryd.prog gl0 tab27 := TabOk.cons (ok_draw_Mod tab26 tab26_ok ) tab26_ok
noncomputable def tab28 : Tab := (27, ct_four.fs) :: tab27
theorem tab28_ok : TabOk Tryd.prog gl0 tab28 := TabOk.cons (ok_ref2_four tab27 tab27_ok ) tab27_ok
noncomputable def tab29 : Tab := (41, ct_const.fs) :: tab28
theorem tab29_ok : TabOk Tryd.prog gl0 tab29 := TabOk.cons (ok_ref1_constants tab28 tab28_ok ) tab28_ok
noncomputable def tab30 : Tab := (42, ct_pad.fs) :: tab29
theorem tab30_ok : TabOk Tryd.prog gl0 tab30 := TabOk.cons (ok_ref1_pad tab29 tab29_ok ) tab29_ok
noncomputable def tab31 : Tab := (43, ct_word.fs) :: tab30
theorem tab31_ok : TabOk Tryd.prog gl0 tab31 := TabOk.cons (ok_ref1_word tab30 tab30_ok ) tab30_ok
noncomputable def tab32 : Tab := (44, ct_rotr.fs) :: tab31
theorem tab32_ok : TabOk Tryd.prog gl0 tab32 := TabOk.cons (ok_ref1_rotr tab31 tab31_ok ) tab31_ok
noncomputable def tab33 : Tab := (45, ct_spread.fs) :: tab32
theorem tab33_ok : TabOk Tryd.prog gl0 tab33 := TabOk.cons (ok_ref1_bytes tab32 tab32_ok ) tab32_ok
noncomputable def tab34 : Tab := (35, (ct_sum 32 sum256).fs) :: tab33
theorem tab34_ok : TabOk Tryd.prog gl0 tab34 := TabOk.cons (ok_ref1_Sum256 tab33 tab33_ok rfl rfl rfl rfl rfl) tab33_ok
noncomputable def tab35 : Tab := (28, ct_mac.fs) :: tab34
theorem tab35_ok : TabOk Tryd.prog gl0 tab35 := TabOk.cons (ok_ref2_Mac tab34 tab34_ok rfl) tab34_ok
noncomputable def tab36 : Tab := (17, ct_drv.fs) :: tab35
theorem tab36_ok : TabOk Tryd.prog gl0 tab36 := TabOk.cons (ok_ref2_Derive tab35 tab35_ok rfl rfl) tab35_ok
noncomputable def tab37 : Tab := (18, ct_lck.fs) :: tab36
theorem tab37_ok : TabOk Tryd.prog gl0 tab37 := TabOk.cons (ok_ref13_New tab36 tab36_ok ) tab36_ok
noncomputable def tab38 : Tab := (9, ct_snew.fs) :: tab37
theorem tab38_ok : TabOk Tryd.prog gl0 tab38 := TabOk.cons (ok_ref17_New tab37 tab37_ok rfl rfl) tab37_ok
noncomputable def tab39 : Tab := (20, ct_same.fs) :: tab38
theorem tab39_ok : TabOk Tryd.prog gl0 tab39 := TabOk.cons (ok_ref1_Same tab38 tab38_ok ) tab38_ok
noncomputable def tab40 : Tab := (19, ct_lists.fs) :: tab39
theorem tab40_ok : TabOk Tryd.prog gl0 tab40 := TabOk.cons (ok_ref1_Lists tab39 tab39_ok rfl) tab39_ok
noncomputable def tab41 : Tab := (29, ct_actv.fs) :: tab40
theorem tab41_ok : TabOk Tryd.prog gl0 tab41 := TabOk.cons (ok_ref8_Active tab40 tab40_ok ) tab40_ok
noncomputable def tab42 : Tab := (21, ct_eqR.fs) :: tab41
theorem tab42_ok : TabOk Tryd.prog gl0 tab42 := TabOk.cons (ok_ref8_Same tab41 tab41_ok rfl rfl) tab41_ok
noncomputable def tab43 : Tab := (10, ct_sst.fs) :: tab42
theorem tab43_ok : TabOk Tryd.prog gl0 tab43 := TabOk.cons (ok_ref17_SameStable tab42 tab42_ok rfl rfl rfl) tab42_ok
noncomputable def tab44 : Tab := (13, ct_shd.fs) :: tab43
theorem tab44_ok : TabOk Tryd.prog gl0 tab44 := TabOk.cons (ok_state_Shutdown tab43 tab43_ok rfl) tab43_ok
noncomputable def tab45 : Tab := (14, ct_tick.fs) :: tab44
theorem tab45_ok : TabOk Tryd.prog gl0 tab45 := TabOk.cons (ok_state_Tick tab44 tab44_ok ) tab44_ok
end Go.Eng
end
section
set_option maxRecDepth 20000
namespace Go.Eng
open Go.ChangeShapes Go.WideShapes Go.RowKit
inductive Ty where
 | int (k : IntKind)
 | bool
 | str
 | sl (e : Ty)
 | st (fs : List Ty)
mutual
def Ty.size : Ty → Nat
 | .st fs => Ty.sizeL fs
 | _ => 1
def Ty.sizeL : List Ty → Nat
 | [] => 0
 | f :: r => f.size + Ty.sizeL r
end
def isK (P : Program) (t : TypeId) (k : IntKind) : Bool := match P.underlying t with
 | some (.int k') => decide (k' = k)
 | _ => false
theorem isK_of {P : Program} {t : TypeId} {k : IntKind} (h : isK P t k = true) : P.underlying t = some (.int k) := by
 unfold isK at h
 split at h
 · rename_i h1; rw [h1, of_decide_eq_true h]
 · cases h
mutual
def Ty.ok (P : Program) : Ty → TypeId → Bool
 | .int k, t => isK P t k
 | .bool, t => match P.underlying t with | some .bool => true | _ => false
 | .str, t => match P.underlying t with | some .string => true | _ => false
 | .sl e, t => match P.underlying t with | some (.slice te) => e.ok P te && Nat.beq (P.cellsOf te) e.size && Nat.ble 1 e.size | _ => false
 | .st fs, t => Nat.beq (P.cellsOf t) (Ty.sizeL fs) && match P.underlying t with
   | some (.struct gs) => Ty.okF P fs gs.toList 0
   | some (.array n te) => Nat.beq fs.length n && Ty.okA P fs te
   | _ => false
def Ty.okF (P : Program) : List Ty → List Field → Nat → Bool
 | [], [], _ => true
 | f :: r, g :: gs, off => Nat.beq g.offset off && Nat.beq (P.cellsOf g.type) f.size && f.ok P g.type && Ty.okF P r gs (off + f.size)
 | _, _, _ => false
def Ty.okA (P : Program) : List Ty → TypeId → Bool
 | [], _ => true
 | f :: r, te => f.ok P te && Nat.beq (P.cellsOf te) f.size && Ty.okA P r te
end
mutual
def Ty.is : Ty → T → Prop
 | .int k, x => ∃ n, (Lit.int k n).wf = true ∧ x = .int k n
 | .bool, x => ∃ b, x = .bool b
 | .str, x => ∃ s : ByteArray, s.size ≤ maxLen ∧ x = .str s
 | .sl e, x => ∃ es : List T, es.length ≤ maxLen ∧ (∀ y ∈ es, e.is y) ∧ x = .sl es
 | .st fs, x => ∃ cs, Ty.isL fs cs ∧ x = .agg cs
def Ty.isL : List Ty → List T → Prop
 | [], cs => cs = []
 | f :: r, cs => ∃ x rest, f.is x ∧ Ty.isL r rest ∧ cs = x.cells ++ rest
end
mutual
theorem Ty.is_size : ∀ (ty : Ty) (x : T), ty.is x → x.cells.length = ty.size
 | .int k, x, h => by obtain ⟨n, _, rfl⟩ := h; rfl
 | .bool, x, h => by obtain ⟨n, rfl⟩ := h; rfl
 | .str, x, h => by obtain ⟨n, _, rfl⟩ := h; rfl
 | .sl e, x, h => by obtain ⟨es, _, _, rfl⟩ := h; rfl
 | .st fs, x, h => by
   obtain ⟨cs, h1, rfl⟩ := h
   show cs.length = Ty.sizeL fs
   exact Ty.isL_size fs cs h1
theorem Ty.isL_size : ∀ (fs : List Ty) (cs : List T), Ty.isL fs cs → cs.length = Ty.sizeL fs
 | [], cs, h => by cases h; rfl
 | f :: r, cs, h => by
   obtain ⟨x, rest, h1, h2, rfl⟩ := h
   rw [List.length_append, Ty.is_size f x h1, Ty.isL_size r rest h2, Ty.sizeL]
end
theorem pick_list {α : Type} {Q : Nat → α → Prop} : ∀ (n : Nat), (∀ i, i < n → ∃ y, Q i y) → ∃ l : List α, l.length = n ∧ ∀ i y, l[i]? = some y → Q i y
 | 0, _ => ⟨[], rfl, by simp⟩
 | n + 1, h => by
   obtain ⟨l, hl, hq⟩ := pick_list n (fun i hi => h i (by omega))
   obtain ⟨y, hy⟩ := h n (by omega)
   refine ⟨l ++ [y], by simp [hl], fun i z hz => ?_⟩
   rw [List.getElem?_append] at hz
   split at hz
   · exact hq i z hz
   · have h1 : i - l.length = 0 := by
       rcases Nat.eq_zero_or_pos (i - l.length) with h | h
       · exact h
       · rw [List.getElem?_eq_none (by simp; omega)] at hz; cases hz
     rw [h1] at hz
     simp only [List.getElem?_cons_zero, Option.some.injEq] at hz
     subst hz
     have : i = n := by omega
     subst this; exact hy
theorem cell_some {w : World} {a : Addr} {u : Value} (h : w.cell? a = some u) : a.block < w.heap.size ∧ a.spot = none := by
 unfold World.cell? at h
 split at h
 · rename_i hb
   refine ⟨(Array.getElem?_eq_some_iff.1 hb).1, ?_⟩
   split at h
   · cases h
   · rename_i hs
     simpa using hs
 · cases h
section
variable {H : Type} {enc : TypeId × Value → H} {P : Program} {w : World} {base : Nat} {sp : Nat → Bool} {held : Bool}
structure Reads (w : World) (ds : List T) (cs : List Value) : Prop where
 len : ds.length = cs.length
 one : ∀ u ∈ cs, u.oneCell' = true
 rep : ∀ (i : Nat) (c : T) (u : Value), ds[i]? = some c → cs[i]? = some u → Rep (fun b => b < w.heap.size) w c u
theorem Reads.one1 {x : T} {c : Value} (hc : c.oneCell' = true) (h : Rep (fun b => b < w.heap.size) w x c) : Reads w [x] [c] :=
 ⟨rfl, by simpa using hc, fun i d u hd hu => by
   cases i with
   | zero => simp only [List.getElem?_cons_zero, Option.some.injEq] at hd hu; subst hd; subst hu; exact h
   | succ i => simp at hd⟩
theorem Reads.app {ds es : List T} {cs vs : List Value} (h : Reads w ds cs) (h2 : Reads w es vs) : Reads w (ds ++ es) (cs ++ vs) := by
 refine ⟨by rw [List.length_append, List.length_append, h.len, h2.len], fun u hu => ?_, fun i c u hc hu => ?_⟩
 · rcases List.mem_append.1 hu with h3 | h3
   · exact h.one u h3
   · exact h2.one u h3
 · rw [List.getElem?_append] at hc hu
   rw [h.len] at hc
   split at hc
   · rename_i hl; rw [if_pos hl] at hu; exact h.rep i c u hc hu
   · rename_i hl; rw [if_neg hl] at hu; exact h2.rep _ c u hc hu
theorem Reads.nil : Reads w [] [] := ⟨rfl, by simp, fun i c u hc => by simp at hc⟩
theorem open_fields (n : Nat) (IH : ∀ (ty : Ty) (t : TypeId) (cs : List Value) (x : DataW H × List MemPlace), ty.ok P t = true → cs.length = ty.size → DataW.trod enc P w base sp held n t cs = some x → ∃ y : T, ty.is y ∧ Reads w y.cells cs) {cs : List Value} :
   ∀ (fs : List Ty) (gs : List Field) (off : Nat), Ty.okF P fs gs off = true → off + Ty.sizeL fs = cs.length → (∀ g ∈ gs, ∃ x, DataW.trod enc P w base sp held n g.type ((cs.drop g.offset).take (P.cellsOf g.type)) = some x) →
     ∃ ds, Ty.isL fs ds ∧ Reads w ds (cs.drop off)
 | [], [], off, _, hl, _ => ⟨[], rfl, by
     have : cs.drop off = [] := List.drop_eq_nil_of_le (by simp only [Ty.sizeL] at hl; omega)
     rw [this]; exact Reads.nil⟩
 | [], _ :: _, _, h, _, _ => by simp [Ty.okF] at h
 | _ :: _, [], _, h, _, _ => by simp [Ty.okF] at h
 | f :: r, g :: gs, off, h, hl, hg => by
   simp only [Ty.okF, Bool.and_eq_true] at h
   obtain ⟨⟨⟨h1, h2⟩, h3⟩, h4⟩ := h
   have e1 := Nat.eq_of_beq_eq_true h1
   have e2 := Nat.eq_of_beq_eq_true h2
   simp only [Ty.sizeL] at hl
   obtain ⟨ds, hd1, hd2⟩ := open_fields n IH r gs (off + f.size) h4 (by omega) (fun g' hg' => hg g' (.tail _ hg'))
   obtain ⟨x, hx⟩ := hg g (.head _)
   rw [e1, e2] at hx
   obtain ⟨y, hy1, hy2⟩ := IH f g.type _ x h3 (by simp; omega) hx
   refine ⟨y.cells ++ ds, ⟨y, ds, hy1, hd1, rfl⟩, ?_⟩
   have e3 : cs.drop off = (cs.drop off).take f.size ++ cs.drop (off + f.size) := by
     rw [← List.drop_drop, List.take_append_drop]
   rw [e3]
   exact hy2.app hd2
theorem open_array (n : Nat) (IH : ∀ (ty : Ty) (t : TypeId) (cs : List Value) (x : DataW H × List MemPlace), ty.ok P t = true → cs.length = ty.size → DataW.trod enc P w base sp held n t cs = some x → ∃ y : T, ty.is y ∧ Reads w y.cells cs) {cs : List Value} {te : TypeId} :
   ∀ (fs : List Ty) (i : Nat), Ty.okA P fs te = true → i * P.cellsOf te + Ty.sizeL fs = cs.length → (∀ j, j < fs.length → ∃ x, DataW.trod enc P w base sp held n te ((cs.drop ((i + j) * P.cellsOf te)).take (P.cellsOf te)) = some x) →
     ∃ ds, Ty.isL fs ds ∧ Reads w ds (cs.drop (i * P.cellsOf te))
 | [], i, _, hl, _ => ⟨[], rfl, by
     have : cs.drop (i * P.cellsOf te) = [] := List.drop_eq_nil_of_le (by simp only [Ty.sizeL] at hl; omega)
     rw [this]; exact Reads.nil⟩
 | f :: r, i, h, hl, hg => by
   simp only [Ty.okA, Bool.and_eq_true] at h
   obtain ⟨⟨h3, h2⟩, h4⟩ := h
   have e2 := Nat.eq_of_beq_eq_true h2
   simp only [Ty.sizeL] at hl
   have e4 : (i + 1) * P.cellsOf te = i * P.cellsOf te + f.size := by rw [Nat.add_mul, Nat.one_mul, e2]
   obtain ⟨ds, hd1, hd2⟩ := open_array n IH (cs := cs) r (i + 1) h4 (by rw [e4]; omega) (fun j hj => by
     have := hg (j + 1) (by simp; omega)
     rw [show i + 1 + j = i + (j + 1) by omega]; exact this)
   obtain ⟨x, hx⟩ := hg 0 (by simp)
   rw [Nat.add_zero, e2, ← e2] at hx
   obtain ⟨y, hy1, hy2⟩ := IH f te _ x h3 (by rw [e2] at hl ⊢; rw [List.length_take, List.length_drop]; omega) hx
   refine ⟨y.cells ++ ds, ⟨y, ds, hy1, hd1, rfl⟩, ?_⟩
   have e3 : cs.drop (i * P.cellsOf te) = (cs.drop (i * P.cellsOf te)).take (P.cellsOf te) ++ cs.drop ((i + 1) * P.cellsOf te) := by
     rw [e4, ← e2, ← List.drop_drop, List.take_append_drop]
   rw [e3]
   exact hy2.app hd2
theorem open_cells : ∀ (n : Nat) (ty : Ty) (t : TypeId) (cs : List Value) (x : DataW H × List MemPlace), ty.ok P t = true → cs.length = ty.size → DataW.trod enc P w base sp held n t cs = some x → ∃ y : T, ty.is y ∧ Reads w y.cells cs := by
 intro n
 induction n with
 | zero => intro ty t cs x _ _ h; simp [DataW.trod] at h
 | succ n IH =>
   intro ty t cs x hty hlen h
   cases ty with
   | int k =>
     obtain ⟨m, rfl, _, hw⟩ := DataW.trod_int (isK_of hty) h
     exact ⟨.int k m, ⟨m, hw, rfl⟩, .one1 rfl (.int k m)⟩
   | bool =>
     simp only [Ty.ok] at hty
     split at hty
     · rename_i hu
       obtain ⟨b, rfl, _⟩ := DataW.trod_bool hu h
       exact ⟨.bool b, ⟨b, rfl⟩, .one1 rfl (.bool b)⟩
     · cases hty
   | str =>
     simp only [Ty.ok] at hty
     split at hty
     · rename_i hu
       obtain ⟨s, rfl, _, hs⟩ := DataW.trod_string hu h
       exact ⟨.str s, ⟨s, hs, rfl⟩, .one1 rfl (.str s)⟩
     · cases hty
   | sl e =>
     simp only [Ty.ok] at hty
     split at hty
     · rename_i te hu
       simp only [Bool.and_eq_true] at hty
       obtain ⟨⟨h1, h2⟩, h3⟩ := hty
       have e2 := Nat.eq_of_beq_eq_true h2
       have e3 := Nat.le_of_ble_eq_true h3
       rcases DataW.trod_slice hu h with ⟨rfl, _⟩ | ⟨a, len, cap, elems, rest, m, hm, rfl, _, _, hlc, hcm, hel, hget, _, _⟩
       · exact ⟨.sl [], ⟨[], by simp, by simp, rfl⟩, .one1 rfl .nil⟩
       · cases hm
         have hcells : ∀ i, i < len → ∃ y : T, e.is y ∧ ∃ cs', Reads w y.cells cs' ∧ cs'.length = e.size ∧ ∀ j, j < e.size → w.cell? ((a.add (i * e.size)).add j) = cs'[j]? := by
           intro i hi
           have hg := hget i hi
           have : elems[i]? = some elems[i] := List.getElem?_eq_getElem (by omega)
           rw [this, Option.bind_eq_some_iff] at hg
           obtain ⟨cs', hc, ht⟩ := hg
           obtain ⟨_, hl, hcell⟩ := World.cells?_some hc
           rw [e2] at hl hcell
           obtain ⟨y, hy1, hy2⟩ := IH e te cs' _ h1 hl ht
           exact ⟨y, hy1, cs', hy2, hl, hcell⟩
         obtain ⟨es, hes, hq⟩ := pick_list len hcells
         have hz : ∀ y ∈ es, y.cells.length = e.size := fun y hy => by
           obtain ⟨i, hi⟩ := List.getElem?_of_mem hy
           exact e.is_size y (hq i y hi).1
         have hcellk : ∀ k, k < len * e.size → ∃ (i j : Nat) (y : T) (cs' : List Value) (u : Value), k = i * e.size + j ∧ j < e.size ∧ es[i]? = some y ∧ Reads w y.cells cs' ∧ cs'[j]? = some u ∧ w.cell? (a.add k) = some u := by
           intro k hk
           have hi : k / e.size < len := (Nat.div_lt_iff_lt_mul (by omega)).2 hk
           have hj : k % e.size < e.size := Nat.mod_lt _ (by omega)
           have hy : es[k / e.size]? = some es[k / e.size] := List.getElem?_eq_getElem (by omega)
           obtain ⟨_, cs', hr, hl, hc⟩ := hq _ _ hy
           have hu : cs'[k % e.size]? = some cs'[k % e.size] := List.getElem?_eq_getElem (by omega)
           have ek : k = k / e.size * e.size + k % e.size := by rw [Nat.mul_comm]; exact (Nat.div_add_mod k e.size).symm
           refine ⟨_, _, _, cs', _, ek, hj, hy, hr, hu, ?_⟩
           rw [← hu, ← hc _ hj, Addr.add_add, ← ek]
         refine ⟨.sl es, ⟨es, by omega, fun y hy => ?_, rfl⟩, .one1 rfl ?_⟩
         · obtain ⟨i, hi⟩ := List.getElem?_of_mem hy
           exact (hq i y hi).1
         · have hnl : ((List.range (len * e.size)).map fun k => (w.cell? (a.add k)).getD default).length = len * e.size := by simp
           have hnews : ∀ k u, ((List.range (len * e.size)).map fun k => (w.cell? (a.add k)).getD default)[k]? = some u → k < len * e.size ∧ w.cell? (a.add k) = some u := by
             intro k u hu
             have hk : k < len * e.size := by
               rcases Nat.lt_or_ge k (len * e.size) with h | h
               · exact h
               · rw [List.getElem?_eq_none (by omega)] at hu; cases hu
             obtain ⟨_, _, _, _, u', _, _, _, _, _, hc⟩ := hcellk k hk
             rw [List.getElem?_map, List.getElem?_range hk, Option.map_some, hc, Option.getD_some, Option.some.injEq] at hu
             subst hu
             exact ⟨hk, hc⟩
           have h0 : es ≠ [] → a.block < w.heap.size ∧ a.spot = none := by
             intro hne
             have hlp : 0 < len := by
               rw [← hes]; exact List.length_pos_iff.2 hne
             obtain ⟨_, _, _, _, u', _, _, _, _, _, hc⟩ := hcellk 0 (Nat.mul_pos hlp (by omega))
             have e9 : a.add 0 = a := by simp [Addr.add]
             rw [e9] at hc
             exact cell_some hc
           have key := Rep.sl (F := fun b => b < w.heap.size) (w := w) es a cap e.size _ (fun hne => (h0 hne).2) (by omega) (by rw [hes]; exact hnl) (fun u hu => by
             obtain ⟨k, hk⟩ := List.getElem?_of_mem hu
             obtain ⟨hk1, hk2⟩ := hnews k u hk
             obtain ⟨_, _, _, cs', u', _, _, _, hr, hcu, hc⟩ := hcellk k hk1
             rw [hk2] at hc; cases hc
             exact hr.one u (List.mem_of_getElem? hcu)) (fun hne => (h0 hne).1) (fun k u hk => (hnews k u hk).2) hz
             (fun i y j c u hy hc hu => by
               obtain ⟨hk1, hk2⟩ := hnews _ u hu
               obtain ⟨i', j', y', cs', u', e1, hj', hy', hr, hcu, hc'⟩ := hcellk _ hk1
               rw [hk2] at hc'; cases hc'
               have hj : j < e.size := by rw [← hz y (List.mem_of_getElem? hy)]; exact (List.getElem?_eq_some_iff.1 hc).1
               have ei : i = i' ∧ j = j' := by
                 have h5 := congrArg (· / e.size) e1
                 have h6 := congrArg (· % e.size) e1
                 simp only [Nat.mul_comm _ e.size, Nat.mul_add_div (show 0 < e.size by omega), Nat.mul_add_mod, Nat.div_eq_of_lt hj, Nat.div_eq_of_lt hj', Nat.mod_eq_of_lt hj, Nat.mod_eq_of_lt hj'] at h5 h6
                 exact ⟨by omega, h6⟩
               obtain ⟨rfl, rfl⟩ := ei
               rw [hy] at hy'; cases hy'
               exact hr.rep j c u hc hcu)
           rw [hes] at key
           exact key
     · cases hty
   | st fs =>
     simp only [Ty.ok, Bool.and_eq_true] at hty
     obtain ⟨h0, hty⟩ := hty
     have e0 := Nat.eq_of_beq_eq_true h0
     split at hty
     · rename_i gs hu
       obtain ⟨xs, m, hm, _, hl, hxl, hget⟩ := DataW.trod_struct hu h
       cases hm
       obtain ⟨ds, hd1, hd2⟩ := open_fields n IH (cs := cs) fs gs.toList 0 hty (by omega) (fun g hg => by
         obtain ⟨i, hi⟩ := List.getElem?_of_mem hg
         have hi' : gs[i]? = some g := by simpa using hi
         have hlt : i < xs.length := by rw [hxl]; exact (Array.getElem?_eq_some_iff.1 hi').1
         exact ⟨xs[i], by rw [hget i g hi']; exact List.getElem?_eq_getElem hlt⟩)
       rw [List.drop_zero] at hd2
       exact ⟨.agg ds, ⟨ds, hd1, rfl⟩, hd2⟩
     · rename_i m te hu
       simp only [Bool.and_eq_true] at hty
       have e5 := Nat.eq_of_beq_eq_true hty.1
       obtain ⟨xs, m', hm, _, hl, hxl, hget⟩ := DataW.trod_array hu h
       cases hm
       obtain ⟨ds, hd1, hd2⟩ := open_array n IH (cs := cs) fs 0 hty.2 (by omega) (fun j hj => by
         have hlt : j < xs.length := by omega
         rw [Nat.zero_add]
         exact ⟨xs[j], by rw [hget j (by omega)]; exact List.getElem?_eq_getElem hlt⟩)
       rw [Nat.zero_mul, List.drop_zero] at hd2
       exact ⟨.agg ds, ⟨ds, hd1, rfl⟩, hd2⟩
     · cases hty
theorem open_value {ty : Ty} {t : TypeId} {v : Value} {d : DataW H} {ps : List MemPlace} {b0 : Nat} (hty : ty.ok P t = true) (hval : Value.okWide P w .any b0 t v) (h : DataW.Trod enc P w base sp held t v d ps) :
   ∃ y : T, ty.is y ∧ Rep (fun b => b < w.heap.size) w y v := by
 obtain ⟨n, hn⟩ := h
 have scalar : ∀ c, v = c → c.cells = #[c] → ty.size = 1 → (∀ y : T, ty.is y → y.cells = [y]) → ∃ y : T, ty.is y ∧ Rep (fun b => b < w.heap.size) w y v := by
   intro c hv hc hs hy
   subst hv
   rw [hc] at hn
   obtain ⟨y, h1, h2⟩ := open_cells n ty t _ _ hty (by rw [hs]; rfl) hn
   rw [hy y h1] at h2
   exact ⟨y, h1, h2.rep 0 y v rfl rfl⟩
 cases ty with
 | int k =>
   obtain ⟨m, hv⟩ := okWide_int (isK_of hty) hval
   exact scalar _ hv rfl rfl (fun y hy => by obtain ⟨_, _, rfl⟩ := hy; rfl)
 | bool =>
   simp only [Ty.ok] at hty
   split at hty
   · rename_i hu
     obtain ⟨m, hv⟩ := okWide_bool hu hval
     exact scalar _ hv rfl rfl (fun y hy => by obtain ⟨_, rfl⟩ := hy; rfl)
   · cases hty
 | str =>
   simp only [Ty.ok] at hty
   split at hty
   · rename_i hu
     obtain ⟨m, hv⟩ := okWide_string hu hval
     exact scalar _ hv rfl rfl (fun y hy => by obtain ⟨_, _, rfl⟩ := hy; rfl)
   · cases hty
 | sl e =>
   have hty' := hty
   simp only [Ty.ok] at hty'
   split at hty'
   · rename_i te hu
     obtain ⟨a, l, c, hv⟩ := okWide_slice hu hval
     exact scalar _ hv rfl rfl (fun y hy => by obtain ⟨_, _, _, rfl⟩ := hy; rfl)
   · cases hty'
 | st fs =>
   have hagg : ∃ cs, v = .agg cs ∧ cs.size = P.cellsOf t := by
     have hty' := hty
     simp only [Ty.ok, Bool.and_eq_true] at hty'
     obtain ⟨_, h2⟩ := hty'
     unfold Value.okWide at hval
     split at h2
     · rename_i hu; rw [hu] at hval; obtain ⟨cs, h3, h4, _⟩ := hval; exact ⟨cs, h3, h4⟩
     · rename_i hu; rw [hu] at hval; obtain ⟨cs, h3, h4, _⟩ := hval; exact ⟨cs, h3, h4⟩
     · cases h2
   obtain ⟨cs, rfl, hsz⟩ := hagg
   have hsz2 : cs.size = Ty.sizeL fs := by
     simp only [Ty.ok, Bool.and_eq_true] at hty
     rw [hsz]; exact Nat.eq_of_beq_eq_true hty.1
   obtain ⟨y, h1, h2⟩ := open_cells n (.st fs) t _ _ hty (by show cs.toList.length = Ty.sizeL fs; simpa using hsz2) hn
   obtain ⟨ds, h3, rfl⟩ := h1
   refine ⟨.agg ds, ⟨ds, h3, rfl⟩, .agg ds cs ?_ ?_ ?_⟩
   · have := h2.len; simpa [Value.cells, T.cells] using this.symm
   · intro u hu; exact h2.one u (by simpa [Value.cells] using hu)
   · intro i c u hc hu; exact h2.rep i c u hc (by simpa [Value.cells] using hu)
theorem open_args : ∀ {tys : List Ty} {ts : List TypeId} {vs : List Value} {ds : List (DataW H)} {ps : List MemPlace} {b0 : Nat}, All2 (fun (ty : Ty) (t : TypeId) => ty.ok P t = true) tys ts →
   (∀ (j : Nat) t v, ts[j]? = some t → vs[j]? = some v → Value.okWide P w .any b0 t v) → DataW.TrodAll enc P w base sp held ts vs ds ps →
   ∃ ys : List T, All2 (fun (ty : Ty) (y : T) => ty.is y) tys ys ∧ All2 (RepV (fun _ => none) (fun b => b < w.heap.size) w) (ys.map V.t) vs
 | [], ts, vs, ds, ps, b0, h, hv, hd => by
   cases h
   obtain ⟨rfl, _, _⟩ := trodAll_nil hd
   exact ⟨[], .nil, .nil⟩
 | ty :: tys, ts, vs, ds, ps, b0, h, hv, hd => by
   cases h with
   | cons h1 h2 =>
     obtain ⟨v, vs', d, ds', p, q, rfl, rfl, rfl, hd1, hd2⟩ := trodAll_cons hd
     obtain ⟨y, hy1, hy2⟩ := open_value h1 (hv 0 _ v rfl rfl) hd1
     obtain ⟨ys, h3, h4⟩ := open_args h2 (fun j t v' ht hv' => hv (j + 1) t v' ht hv') hd2
     exact ⟨y :: ys, .cons hy1 h3, .cons (.t hy2) h4⟩
end
end Go.Eng
end
section
set_option maxRecDepth 20000
namespace Go.Eng
open Go.ChangeShapes Go.WideShapes Go.RowKit Go.WideElems
section
variable {H : Type} {enc : TypeId × Value → H} {P : Program}
theorem same_of_old {W W' : World} (hfr : ∀ b, b < W.heap.size → W'.heap[b]? = W.heap[b]?) {p : MemPlace} (hp : p.block < W.heap.size) : W.sameAt W' p := by
 cases p with
 | cell b off => exact World.cell?_of_block (hfr b hp)
 | map b => exact hfr b hp
theorem args_stay (hl : laidOutB P = true) {W W' : World} (hfr : ∀ b, b < W.heap.size → W'.heap[b]? = W.heap[b]?) {sp : Nat → Bool} :
   ∀ {ts : List TypeId} {vs : List Value} {ds : List (DataW H)} {ps : List MemPlace}, (∀ t ∈ ts, P.readableRec t = true ∧ t < P.types.size) → (∀ p ∈ ps, p.block < W.heap.size ∧ sp p.block = true) →
     DataW.TrodAll enc P W 0 (fun _ => true) true ts vs ds ps → DataW.TrodAll enc P W' 0 sp true ts vs ds ps
 | [], vs, ds, ps, _, _, h => by
   obtain ⟨rfl, rfl, rfl⟩ := trodAll_nil h
   exact trodAll_mk0
 | t :: ts, vs, ds, ps, ht, hp, h => by
   obtain ⟨v, vs', d, ds', p, q, rfl, rfl, rfl, h1, h2⟩ := trodAll_cons h
   obtain ⟨hr, hrow⟩ := ht t (.head _)
   exact ⟨p, q, Trod_stays hl hr hrow h1 (fun x hx => same_of_old hfr (hp x (List.mem_append_left _ hx)).1) (fun x hx => (hp x (List.mem_append_left _ hx)).2),
     args_stay hl hfr (fun t' ht' => ht t' (.tail _ ht')) (fun x hx => hp x (List.mem_append_right _ hx)) h2, rfl⟩
theorem law_post {fn : Func} {s : ChangeSpec} {tb : TypeId} {apart fresh handsOn again : Bool} {W W' : World} {args : Array Value} {ds gs : List (DataW H)} {before : List MemPlace}
   (hl : laidOutB P = true) (hts : ∀ t ∈ fn.params.toList, P.readableRec t = true ∧ t < P.types.size) (hrt : fn.resultTypes = #[tb]) (hb : P.underlying tb = some .bool) (hsv : s.vars = [])
   (hfn : (s.fn H (ds ++ gs)).results = [.lit (.bool true)] ∧ (s.fn H (ds ++ gs)).args = ds ∧ (s.fn H (ds ++ gs)).vars = [])
   (hW : DataW.Whole enc P fn.params.toList s.vars apart W args.toList ds gs before)
   (hos : W'.os = W.os) (hout : W'.output = W.output) (hfr : ∀ b, b < W.heap.size → W'.heap[b]? = W.heap[b]?) :
   s.post enc P fn apart fresh handsOn again W args (.bool true) W' := by
 have hlt : ∀ p ∈ before, p.block < W.heap.size := fun p hp => hW.lt p hp
 have hW' := hW
 obtain ⟨p, q, hA, hV, rfl, hz, hn⟩ := hW'
 rw [hsv] at hV
 obtain ⟨rfl, rfl⟩ := trodVars_none hV
 have hres : ∀ (b : Nat) (sp : Nat → Bool) (hd : Bool), DataW.TrodAll enc P W' b sp hd fn.resultTypes.toList ((Value.bool true).resultList fn.resultTypes.size) (s.fn H (ds ++ [])).results [] := by
   intro b sp hd
   rw [hrt, hfn.1]
   exact trodAll_mk1 (shut_bool hb true)
 have hargs : ∀ sp : Nat → Bool, (∀ x ∈ p ++ [], sp x.block = true) → DataW.TrodAll enc P W' 0 sp true fn.params.toList args.toList (s.fn H (ds ++ [])).args p := by
   intro sp hsp
   rw [hfn.2.1]
   exact args_stay hl hfr hts (fun x hx => ⟨hlt x (by simpa using hx), hsp x (by simpa using hx)⟩) hA
 have hvars : ∀ sp : Nat → Bool, DataW.TrodVars enc P W' sp s.vars (s.fn H (ds ++ [])).vars [] := by
   intro sp
   rw [hsv, hfn.2.2]
   rfl
 refine ⟨ds, [], _, [], p, [], hW, hres _ _ _, hargs _ (fun x hx => by simpa using hlt x hx), hvars _, ⟨hos, hout, fun i hi => ?_⟩, fun _ => ?_⟩
 · have e := hfr i hi
   revert e
   generalize W'.heap[i]? = o'
   intro e
   subst e
   split
   · rename_i h1 h2
     rw [h1] at h2
     cases h2
     exact ⟨rfl, rfl, rfl, fun _ _ => rfl⟩
   · rename_i h1 h2
     rw [h1] at h2
     cases h2
     exact .inr ⟨rfl, rfl⟩
   · rfl
 · refine ⟨ok_one hrt rfl (okWide_bool_mk hb _), _, _, ([] ++ p) ++ [], ⟨[] ++ p, [], trodAll_append (hargs _ (fun _ _ => rfl)) (hres _ _ _), hvars _, rfl, ?_, ?_⟩, ?_⟩
   · intro b off hx
     have hx' : MemPlace.cell b off ∈ p ++ [] := by simpa using hx
     have e : W'.frozen? ⟨b, off, none⟩ = W.frozen? ⟨b, off, none⟩ := by
       unfold World.frozen?
       rw [hfr b (hlt _ hx')]
     rw [e]
     exact hz b off hx'
   · intro ha
     have := hn ha
     simpa using this
   · intro x hx _
     simpa using hx
theorem laid_each {w : World} : ∀ {laid : List (String × DataW Unit)} {ps : List MemPlace}, DataW.LaidVars P w laid ps → ∀ x ∈ laid, ∃ g t cs fuel p, P.globalNamed x.1 = some g ∧ (P.globals[g]?).map (·.type) = some t ∧ w.var? P x.1 = some cs ∧
     DataW.trod (fun _ => ()) P w 0 (fun _ => true) false fuel t cs.toList = some (x.2, p)
 | [], _, _, x, hx => by cases hx
 | y :: r, ps, h, x, hx => by
   obtain ⟨g, t, cs, fuel, p, q, h1, h2, h3, h4, h5, _⟩ := h
   rcases List.mem_cons.1 hx with rfl | hx
   · exact ⟨g, t, cs, fuel, p, h1, h2, h3, h4⟩
   · exact laid_each h5 x hx
theorem ro_ints {w : World} {nm : String} {g t e n : Nat} {k : IntKind} {ns : List Int} {cs : Array Value} {fuel : Nat} {p : List MemPlace} {F : Nat → Prop} (hg : P.globalNamed nm = some g) (hv : w.var? P nm = some cs)
   (ht : P.underlying t = some (.array n e)) (he : P.underlying e = some (.int k)) (hc : P.cellsOf e = 1) (hct : P.cellsOf t = n) (hn : 0 < ns.length)
   (h : DataW.trod (fun _ => ()) P w 0 (fun _ => true) false fuel t cs.toList = some (.agg (ns.map fun m => .lit (.int k m)), p)) (hF : g < w.heap.size → F g) :
   RepV (fun _ => none) F w (.ro (ns.map (T.int k))) (.pointer (some ⟨g, 0, none⟩)) := by
 obtain ⟨xs, m, _, hx, hl, hxl, hget⟩ := DataW.trod_array ht h
 simp only [Prod.mk.injEq, DataW.agg.injEq] at hx
 have hlen : ns.length = n := by
   have := congrArg List.length hx.1
   simp only [List.length_map] at this
   omega
 have hcl : cs.toList.length = n := by rw [hl, hct]
 have hcell : ∀ i, i < n → cs.toList[i]? = some (.int k (ns.getD i 0)) := by
   intro i hi
   have h1 := hget i hi
   have h2 : xs[i]? = some xs[i] := List.getElem?_eq_getElem (by omega)
   rw [h2, hc, Nat.mul_one] at h1
   obtain ⟨z, hz1, hz2, _⟩ := DataW.trod_int he h1
   have h3 : cs.toList[i]? = some (.int k z) := by
     have h4 := congrArg (fun l => l[0]?) hz1
     simp only [List.getElem?_take, List.getElem?_drop, Nat.add_zero, List.getElem?_cons_zero] at h4
     simpa using h4
   have h5 := congrArg (fun l => l[i]?) hx.1
   simp only [List.getElem?_map, h2, Option.map_some, hz2] at h5
   have h6 : ns[i]? = some ns[i] := List.getElem?_eq_getElem (by omega)
   rw [h6] at h5
   simp only [Option.map_some, Option.some.injEq, DataW.lit.injEq, Lit.int.injEq, true_and] at h5
   rw [h3, List.getD_eq_getElem?_getD, h6, h5]; rfl
 have hw : ∀ j, w.cell? ((⟨g, 0, none⟩ : Addr).add j) = cs.toList[j]? := by
   intro j
   have e : (⟨g, 0, none⟩ : Addr).add j = ⟨g, j, none⟩ := by
     unfold Addr.add; split
     · rename_i h0; rw [h0]
     · simp
   rw [e, World.var?_cell hg hv j, Array.getElem?_toList]
 refine .ro (ns.map (T.int k)) ⟨g, 0, none⟩ cs.toList rfl (by rw [hcl, List.length_map, hlen]) ?_ (hF ?_) (fun j u hu => (hw j).trans hu) ?_
 · intro u hu
   obtain ⟨i, hi⟩ := List.getElem?_of_mem hu
   rw [hcell i (by rw [← hcl]; exact (List.getElem?_eq_some_iff.1 hi).1)] at hi
   cases hi; rfl
 · have h0 := hw 0
   rw [hcell 0 (by omega)] at h0
   have := (cell_some h0).1
   rw [add_block] at this
   exact this
 · intro j c u hcj hu
   rw [List.getElem?_map, Option.map_eq_some_iff] at hcj
   obtain ⟨z, hz, rfl⟩ := hcj
   rw [hcell j (by rw [← hlen]; exact (List.getElem?_eq_some_iff.1 hz).1)] at hu
   cases hu
   rw [List.getD_eq_getElem?_getD, hz]
   exact .int k z
theorem gs_ints {w : World} {nm : String} {g t e n : Nat} {k : IntKind} {ns : List Int} {cs : Array Value} {fuel : Nat} {p : List MemPlace} (hg : P.globalNamed nm = some g) (hv : w.var? P nm = some cs)
   (ht : P.underlying t = some (.array n e)) (hct : P.cellsOf t = n)
   (h : DataW.trod (fun _ => ()) P w 0 (fun _ => true) false fuel t cs.toList = some (.agg (ns.map fun m => .lit (.int k m)), p)) : GSz w g (ns.map (T.int k)).length := by
 obtain ⟨xs, m, _, hx, hl, hxl, hget⟩ := DataW.trod_array ht h
 simp only [Prod.mk.injEq, DataW.agg.injEq] at hx
 have hlen : ns.length = n := by
   have := congrArg List.length hx.1
   simp only [List.length_map] at this
   omega
 have hcl : cs.toList.length = n := by rw [hl, hct]
 unfold World.var? at hv
 rw [hg, Option.bind_some] at hv
 split at hv
 · rename_i c e z hc
   cases hv
   exact ⟨_, e, z, hc, by rw [List.length_map, hlen, ← hcl]; simp⟩
 · cases hv
theorem trodAll_length {w : World} {base : Nat} {sp : Nat → Bool} {held : Bool} : ∀ {ts : List TypeId} {vs : List Value} {ds : List (DataW H)} {ps : List MemPlace}, DataW.TrodAll enc P w base sp held ts vs ds ps → ds.length = ts.length
 | [], _, _, _, h => by obtain ⟨rfl, rfl, rfl⟩ := trodAll_nil h; rfl
 | _ :: _, _, _, _, h => by
   obtain ⟨_, _, _, _, _, _, rfl, rfl, rfl, _, h2⟩ := trodAll_cons h
   simp [trodAll_length h2]
end
theorem law_lifted {H : Type} {enc : TypeId × Value → H} {C : Checked} {os : Os} {f : FuncId} {fn : Func} {s : ChangeSpec} {laid : List (String × DataW Unit)} {tys : List Ty} {G : Nat → Option (List T)} {tb : TypeId} {apart fresh handsOn again : Bool}
   (own : ownKnob C.prog.godebug = none) (started : os.Started) (noInit : C.prog.inits.idxOf? f = none) (hfn : C.prog.funcs[f]? = some fn)
   (witness : ∃ (w : World) (tape : Tape) (i : Input), w.os = os ∧ (w.forCall tape i).Shaped C.prog ∧ i.vars = [] ∧ Input.okWide C.prog (w.forCall tape i) .any w.heap.size f i ∧
     ((s.pre enc C.prog fn [] apart (w.forCall tape i).memory i.args ∧ laidMetH C.prog laid (w.forCall tape i).memory) ∧ sizedMet enc C.prog fn (OpenSpec.ofChange s) apart (w.forCall tape i).memory i.args) ∧ ({} : Assume).holds C.prog (lone (Frame.enter C.prog f i.args .normal) [] (w.forCall tape i)))
   (hl : laidOutB C.prog = true) (hts : fn.params.toList.all (fun t => C.prog.readableRec t && Nat.blt t C.prog.types.size) = true) (hrt : fn.resultTypes = #[tb]) (hb : C.prog.underlying tb = some .bool) (hsv : s.vars = [])
   (hspec : ∀ ds : List (DataW H), ds.length = tys.length → (s.fn H ds).results = [.lit (.bool true)] ∧ (s.fn H ds).args = ds ∧ (s.fn H ds).vars = [])
   (htys : All2 (fun (ty : Ty) (t : TypeId) => ty.ok C.prog t = true) tys fn.params.toList)
   (henv : ∀ W, laidMetH C.prog laid W → EnvOk G (fun b => b < W.heap.size) W)
   (hlaw : ∀ ys, All2 (fun (ty : Ty) (y : T) => ty.is y) tys ys → Spec C.prog G f (ys.map V.t) [] (.t (.bool true)) []) :
   ReturnsInHanded {} C os f .any (fun w args => (s.pre enc C.prog fn [] apart w args ∧ laidMetH C.prog laid w) ∧ sizedMet enc C.prog fn (OpenSpec.ofChange s) apart w args) (s.post enc C.prog fn apart fresh handsOn again) := by
 have hts' : ∀ t ∈ fn.params.toList, C.prog.readableRec t = true ∧ t < C.prog.types.size := by
   intro t ht
   have := List.all_eq_true.1 hts t ht
   rw [Bool.and_eq_true] at this
   exact ⟨this.1, by simpa [Nat.blt_eq] using this.2⟩
 refine returnsInHanded_of_change_and (C := C) (X := fun w _ => laidMetH C.prog laid w) (fun _ _ _ hh h => laidMetH.of_heap hh h) own started noInit hfn witness ?_
 intro W base args ds gs before hval hW _ _ hL _
 have hW' := hW
 obtain ⟨p, q, hA, hV, rfl, _, _⟩ := hW'
 rw [hsv] at hV
 obtain ⟨rfl, rfl⟩ := trodVars_none hV
 obtain ⟨ys, hys, hreps⟩ := open_args htys (fun j t v ht hv => hval j t v (by simpa using ht) (by simpa using hv)) hA
 have hlen : ds.length = tys.length := by rw [trodAll_length hA, htys.length]
 have hcall := hlaw ys hys W (fun _ => none) (fun b => b < W.heap.size) args (henv W hL)
   ⟨fun k o h => by simp at h, fun _ _ => rfl, fun _ _ _ _ _ h => by simp at h, fun _ _ _ h => by simp at h⟩ hreps
 refine hcall.mono fun e W' ⟨x, β', F', he, hp⟩ => ?_
 subst he
 have hx : x = .bool true := by
   have := hp.res
   cases this with
   | t h => cases h; rfl
 subst hx
 exact ⟨_, rfl, law_post hl hts' hrt hb hsv (by rw [List.append_nil]; exact hspec ds hlen) hW hp.os hp.output (fun b hb => hp.frame b hb (fun _ _ h => by simp at h))⟩
end Go.Eng
end
section
set_option maxRecDepth 100000
namespace Go.Proofs.YtgchkbhfajopnaaDoor
open Go.Eng Go.ChangeShapes Go.WideShapes Go.ChangeAt Go.WideElems Go.RowKit
def theLaid {H : Type} : List (String × DataW H) := [("sealwright/digest.round256", Rows.laid_sealwright_digest_round256)]
theorem s_own : ownKnob Tryd.prog.godebug = none := by kernel_rfl
theorem s_laidOut : laidOutB Tryd.prog = true := by kernel_rfl
theorem s_g0 : Tryd.prog.globalNamed "sealwright/digest.round256" = some 0 := by kernel_rfl
theorem s_data0 : (Rows.laid_sealwright_digest_round256 : DataW Unit) = .agg ((k256.map fun x => (x.toNat : Int)).map fun m => .lit (.int .u32 m)) := by rfl
theorem s_v0 (W : World) {ps : List MemPlace} (hv : DataW.LaidVars Tryd.prog W theLaid ps) : RepV (fun _ => none) (fun b => b < W.heap.size) W (.ro (k256.map u32T)) (.pointer (some ⟨0, 0, none⟩)) ∧ GSz W 0 (k256.map u32T).length := by
 obtain ⟨g, t, cs, fuel, p, h1, h2, h3, h4⟩ := laid_each hv _ (.head _)
 obtain rfl := Option.some.inj (s_g0.symm.trans h1)
 obtain rfl := Option.some.inj ((show (Tryd.prog.globals[0]?).map (·.type) = some 81 by kernel_rfl).symm.trans h2)
 have h4' : DataW.trod (fun _ => ()) Tryd.prog W 0 (fun _ => true) false fuel 81 cs.toList = some (.agg ((k256.map fun x => (x.toNat : Int)).map fun m => .lit (.int .u32 m)), p) := by rw [← s_data0]; exact h4
 have e : (k256.map fun x => (x.toNat : Int)).map (T.int .u32) = k256.map u32T := by rw [List.map_map]; rfl
 rw [← e]
 exact ⟨ro_ints (F := fun b => b < W.heap.size) h1 h3 Tryd.underlying81 Tryd.underlying72 (by kernel_rfl) (by kernel_rfl) (by decide) h4' (fun h => h), gs_ints h1 h3 Tryd.underlying81 (by kernel_rfl) h4'⟩
theorem s_all (W : World) {ps : List MemPlace} (hv : DataW.LaidVars Tryd.prog W theLaid ps) (g : Nat) (cs : List T) (hg : gl0 g = some cs) : RepV (fun _ => none) (fun b => b < W.heap.size) W (.ro cs) (.pointer (some ⟨g, 0, none⟩)) ∧ GSz W g cs.length := by
 unfold gl0 at hg
 split at hg
 · rename_i h0; subst h0; cases hg; exact s_v0 W hv
 · cases hg
theorem s_env (W : World) (h : laidMetH Tryd.prog theLaid W) : EnvOk gl0 (fun b => b < W.heap.size) W := by
 rw [MakeChecks.laidMetH_plain _ _ _ (by kernel_rfl)] at h
 obtain ⟨ps, hv, _⟩ := h
 exact ⟨fun _ h => h, fun g cs hg => (s_all W hv g cs hg).1, fun g cs hg => (s_all W hv g cs hg).2⟩
abbrev s_tb : TypeId := 4
theorem s_bool : Tryd.prog.underlying s_tb = some .bool := Tryd.underlying4
theorem s_shaped (os : Os) (args : Array Value) : ((World.doorLaid Tryd.prog 400 os).forCall (fun _ _ => 0) ⟨#[], args, []⟩).Shaped Tryd.prog := World.shaped_of_RefB (by kernel_rfl) (by kernel_rfl)
theorem door_met (os : Os) (args : Array Value) : laidMetH Tryd.prog theLaid ((World.doorLaid Tryd.prog 400 os).forCall (fun _ _ => 0) ⟨#[], args, []⟩).memory :=
 laidMetH_of_parts3 (fuel := 8) (laidMet_of_run' 8 (by kernel_rfl) (by kernel_rfl)) (by kernel_rfl) (by kernel_rfl)
end Go.Proofs.YtgchkbhfajopnaaDoor
end
section
set_option maxRecDepth 20000
namespace Go.Eng
theorem is_int {y : T} (h : (Ty.int .i64).is y) : ∃ n : Int, (-9223372036854775808 ≤ n ∧ n < 9223372036854775808) ∧ y = .int .i64 n := by
 obtain ⟨n, hw, rfl⟩ := h
 refine ⟨n, ?_, rfl⟩
 simp only [Lit.wf, Bool.and_eq_true, decide_eq_true_eq] at hw
 obtain ⟨h1, h2⟩ := hw
 have e1 : IntKind.i64.min = -9223372036854775808 := by decide
 have e2 : IntKind.i64.max = 9223372036854775807 := by decide
 rw [e1] at h1
 rw [e2] at h2
 omega
theorem is_u8 {y : T} (h : (Ty.int .u8).is y) : ∃ b : UInt8, y = byteT b := by
 obtain ⟨n, hw, rfl⟩ := h
 simp only [Lit.wf, Bool.and_eq_true, decide_eq_true_eq] at hw
 obtain ⟨h1, h2⟩ := hw
 have e1 : IntKind.u8.min = 0 := by decide
 have e2 : IntKind.u8.max = 255 := by decide
 rw [e1] at h1
 rw [e2] at h2
 refine ⟨UInt8.ofNat n.toNat, ?_⟩
 unfold byteT
 congr 1
 rw [UInt8.toNat_ofNat']
 omega
theorem is_bool {y : T} (h : Ty.bool.is y) : ∃ b : Bool, y = .bool b := h
theorem list_of {α : Type} {f : α → T} {es : List T} (h : ∀ y ∈ es, ∃ a, y = f a) : ∃ l : List α, es = l.map f := by
 induction es with
 | nil => exact ⟨[], rfl⟩
 | cons y r ih =>
   obtain ⟨a, rfl⟩ := h y (.head _)
   obtain ⟨l, rfl⟩ := ih (fun z hz => h z (.tail _ hz))
   exact ⟨a :: l, rfl⟩
theorem mx : maxLen = 9223372036854775807 := by decide
theorem is_bytes {y : T} (h : (Ty.sl (.int .u8)).is y) : ∃ bs : List UInt8, bs.length ≤ 9223372036854775807 ∧ y = .sl (bs.map byteT) := by
 obtain ⟨es, hl, he, rfl⟩ := h
 obtain ⟨bs, rfl⟩ := list_of (f := byteT) (fun y hy => is_u8 (he y hy))
 rw [List.length_map, mx] at hl
 exact ⟨bs, hl, rfl⟩
theorem is_rows {y : T} (h : (Ty.sl (.sl (.int .u8))).is y) : ∃ l : List (List UInt8), l.length ≤ 9223372036854775807 ∧ (∀ d ∈ l, d.length < 9223372036854775808) ∧ y = .sl (l.map bsT) := by
 obtain ⟨es, hl, he, rfl⟩ := h
 obtain ⟨l, hl2⟩ := list_of (f := bsT) (es := es) (fun y hy => by
   obtain ⟨bs, _, h2⟩ := is_bytes (he y hy)
   exact ⟨bs, h2⟩)
 subst hl2
 rw [List.length_map, mx] at hl
 refine ⟨l, hl, fun d hd => ?_, rfl⟩
 obtain ⟨bs, hb, h2⟩ := is_bytes (he (bsT d) (List.mem_map_of_mem hd))
 have h3 : d.map byteT = bs.map byteT := by
   have : T.sl (d.map byteT) = T.sl (bs.map byteT) := h2
   exact T.sl.inj this
 have h4 := congrArg List.length h3
 simp only [List.length_map] at h4
 omega
theorem is_pair {y : T} (h : (Ty.st [.int .i64, .int .i64]).is y) : ∃ a b : Int, (-9223372036854775808 ≤ a ∧ a < 9223372036854775808) ∧ (-9223372036854775808 ≤ b ∧ b < 9223372036854775808) ∧ y = .agg [.int .i64 a, .int .i64 b] := by
 obtain ⟨cs, hc, rfl⟩ := h
 obtain ⟨x, r, hx, hr, rfl⟩ := hc
 obtain ⟨x2, r2, hx2, hr2, rfl⟩ := hr
 cases hr2
 obtain ⟨a, ha, rfl⟩ := is_int hx
 obtain ⟨b, hb, rfl⟩ := is_int hx2
 exact ⟨a, b, ha, hb, rfl⟩
theorem is_rows2 {y : T} (h : (Ty.sl (.sl (.int .u8))).is y) : ∃ l : List (List UInt8), l.length ≤ 9223372036854775807 ∧ (∀ d ∈ l, d.length ≤ 9223372036854775807) ∧ y = .sl (l.map bsT) := by
 obtain ⟨l, h1, h2, h3⟩ := is_rows h
 exact ⟨l, h1, fun d hd => by have := h2 d hd; omega, h3⟩
theorem is_ev {y : T} (h : (Ty.st [.int .i64, .int .i64, .sl (.sl (.int .u8)), .sl (.int .u8)]).is y) : ∃ (a b : Int) (l : List (List UInt8)) (d : List UInt8), (l.length ≤ 9223372036854775807 ∧ (∀ d ∈ l, d.length ≤ 9223372036854775807) ∧ d.length ≤ 9223372036854775807) ∧ y = .agg [.int .i64 a, .int .i64 b, .sl (l.map bsT), .sl (d.map byteT)] := by
 obtain ⟨cs, hc, rfl⟩ := h
 obtain ⟨x, r, hx, hr, rfl⟩ := hc
 obtain ⟨x2, r2, hx2, hr2, rfl⟩ := hr
 obtain ⟨x3, r3, hx3, hr3, rfl⟩ := hr2
 obtain ⟨x4, r4, hx4, hr4, rfl⟩ := hr3
 cases hr4
 obtain ⟨a, _, rfl⟩ := is_int hx
 obtain ⟨b, _, rfl⟩ := is_int hx2
 obtain ⟨l, h1, h2, rfl⟩ := is_rows2 hx3
 obtain ⟨d, h3, rfl⟩ := is_bytes hx4
 exact ⟨a, b, l, d, ⟨h1, h2, h3⟩, rfl⟩
end Go.Eng
end
