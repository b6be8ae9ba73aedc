/- My own text: an abstract machine, its walks over the functions reached, and their tie to the program. -/
import Derived.Test.YtlakkalpdcjpnaaDoorRows
import Derived.KernelRfl
import Derived.Test.YtlakkalpdcjpnaaDoorD5
import Derived.Test.YtlakkalpdcjpnaaDoorD4
import Derived.Test.YtlakkalpdcjpnaaDoorD3
import Derived.WideKeyArgs
import Derived.Handed
import Derived.OpenShut
import Derived.RowKit
import Derived.ProofKit
import Derived.LaidMore
import Derived.MakeChecks
import Derived.Stop.Joined
import Derived.Test.YtlakkalpdcjpnaaDoorTie
import Derived.Test.YtlakkalpdcjpnaaDoorCards
import Derived.SevenTiedAt
set_option linter.unusedSimpArgs false
set_option linter.unusedVariables false
section
set_option maxRecDepth 100000
namespace Go.Eng
open Go.Proofs Go.Proofs.YtlakkalpdcjpnaaDoor
def gl0 : Gl := fun g => if g = 0 then some (k256.map u32T) else none
theorem ok_bytes_Clone (tab : Tab) (ht : TabOk Tryd.prog gl0 tab)  : FOk Tryd.prog gl0 61 ct_clone.fs :=
 tieW' Tryd.f61 hints_bytes_Clone ac_bytes_Clone [(2, none)] ht ct_clone (fun x hx => w_bytes_Clone tab gl0 x hx)
theorem ok_digest_pad (tab : Tab) (ht : TabOk Tryd.prog gl0 tab)  : FOk Tryd.prog gl0 80 ct_pad.fs :=
 tieF' [] Tryd.f80 hints_digest_pad ac_digest_pad [(2, none)] ht ct_pad (fun x hx => w_digest_pad tab gl0 x hx)
theorem ok_digest_word (tab : Tab) (ht : TabOk Tryd.prog gl0 tab)  : FOk Tryd.prog gl0 104 ct_word.fs :=
 tieW' Tryd.f104 hints_digest_word ac_digest_word [(4, none)] ht ct_word (fun x hx => w_digest_word tab gl0 x.1 x.2 hx.1 hx.2)
theorem ok_bits_RotateLeft32 (tab : Tab) (ht : TabOk Tryd.prog gl0 tab)  : FOk Tryd.prog gl0 105 ct_rotl.fs :=
 tieW' Tryd.f105 hints_bits_RotateLeft32 ac_bits_RotateLeft32 [(4, none)] ht ct_rotl (fun x hx => w_bits_RotateLeft32 tab gl0 x.1 x.2 hx)
theorem ok_digest_compress1 (tab : Tab) (ht : TabOk Tryd.prog gl0 tab) (h1 : tab.look 104 = some ct_word.fs) (h2 : tab.look 105 = some ct_rotl.fs) : FOk Tryd.prog gl0 81 (ct_comp 5 comp1).fs :=
 tieW' Tryd.f81 hints_digest_compress1 (ac_digest_compress1 104 105) [] ht (ct_comp 5 comp1) (fun x hx => wc_digest_compress1 tab gl0 104 105 h1 h2 x hx)
theorem ok_digest_spread (tab : Tab) (ht : TabOk Tryd.prog gl0 tab)  : FOk Tryd.prog gl0 82 ct_spread.fs :=
 tieF' [] Tryd.f82 hints_digest_spread ac_digest_spread [(2, none)] ht ct_spread (fun x hx => w_digest_spread tab gl0 x hx)
theorem ok_digest_compress256 (tab : Tab) (ht : TabOk Tryd.prog gl0 tab) (h1 : tab.look 104 = some ct_word.fs) (h2 : tab.look 105 = some ct_rotl.fs) : FOk Tryd.prog gl0 83 (ct_comp 8 comp256).fs :=
 tieW' Tryd.f83 hints_digest_compress256 (ac_digest_compress256 104 105 0) [] ht (ct_comp 8 comp256) (fun x hx => w_digest_compress256 tab gl0 104 105 0 h1 h2 rfl x.2 x.1 hx.1 hx.2)
theorem ok_digest_Sum (tab : Tab) (ht : TabOk Tryd.prog gl0 tab) (h1 : tab.look 80 = some ct_pad.fs) (h2 : tab.look 81 = some (ct_comp 5 comp1).fs) (h3 : tab.look 82 = some ct_spread.fs) (h4 : tab.look 83 = some (ct_comp 8 comp256).fs) : FOk Tryd.prog gl0 58 ct_sumA.fs :=
 tieF' [] Tryd.f58 hints_digest_Sum (ac_digest_Sum 80 81 82 83) [(4, none)] ht ct_sumA (fun x hx => w_digest_Sum tab gl0 80 81 82 83 h1 h2 h3 h4 x.1 hx.1 x.2 hx.2)
theorem ok_event_Make (tab : Tab) (ht : TabOk Tryd.prog gl0 tab) (h1 : tab.look 61 = some ct_clone.fs) (h2 : tab.look 58 = some ct_sumA.fs) : FOk Tryd.prog gl0 34 ct_make.fs :=
 tieW' Tryd.f34 hints_event_Make (ac_event_Make 61 58) [(8, (some (4, true)))] ht ct_make (fun x hx => w_event_Make tab gl0 61 58 h1 h2 x.1 x.2.1 x.2.2.1 x.2.2.2 hx.1 hx.2)
theorem ok_digest_Size (tab : Tab) (ht : TabOk Tryd.prog gl0 tab)  : FOk Tryd.prog gl0 53 ct_size.fs :=
 tieW' Tryd.f53 hints_digest_Size ac_digest_Size [(2, none)] ht ct_size (fun x _ => w_digest_Size tab gl0 x)
theorem ok_bits_Mul64 (tab : Tab) (ht : TabOk Tryd.prog gl0 tab)  : FOk Tryd.prog gl0 112 ct_mul64.fs :=
 tieW' Tryd.f112 hints_bits_Mul64 ac_bits_Mul64 [(4, none), (5, none)] ht ct_mul64 (fun x hx => w_bits_Mul64 tab gl0 x hx)
theorem ok_bits_Mul (tab : Tab) (ht : TabOk Tryd.prog gl0 tab) (h1 : tab.look 112 = some ct_mul64.fs) : FOk Tryd.prog gl0 102 ct_mul64.fs :=
 tieW' Tryd.f102 hints_bits_Mul (ac_bits_Mul 111 112) [(4, none), (5, none)] ht ct_mul64 (fun x hx => w_bits_Mul tab gl0 111 112 h1 x hx)
theorem ok_bytealg_MakeNoZero : FOk Tryd.prog gl0 103 ct_mnz.fs := ok_mnz (fn := Tryd.f103) (ps := #[3]) (t := 25) (e := 5) (by kernel_rfl) (by kernel_rfl) (by kernel_rfl) (by kernel_rfl) (by kernel_rfl) (by kernel_rfl)
theorem ok_bytes_Repeat (tab : Tab) (ht : TabOk Tryd.prog gl0 tab) (h1 : tab.look 102 = some ct_mul64.fs) (h2 : tab.look 103 = some ct_mnz.fs) : FOk Tryd.prog gl0 78 ct_repeat.fs :=
 tieF' [] Tryd.f78 hints_bytes_Repeat (ac_bytes_Repeat 102 103) [(4, none)] ht ct_repeat (fun x hx => w_bytes_Repeat tab gl0 102 103 h1 h2 x.1 x.2 hx)
theorem ok_registers_fill (tab : Tab) (ht : TabOk Tryd.prog gl0 tab) (h1 : tab.look 78 = some ct_repeat.fs) : FOk Tryd.prog gl0 52 ct_fill.fs :=
 tieF' [] Tryd.f52 hints_registers_fill (ac_registers_fill 78) [(4, none)] ht ct_fill (fun x hx => w_registers_fill tab gl0 78 h1 x.2 x.1 hx)
theorem ok_registers_New (tab : Tab) (ht : TabOk Tryd.prog gl0 tab) (h1 : tab.look 53 = some ct_size.fs) (h2 : tab.look 52 = some ct_fill.fs) : FOk Tryd.prog gl0 28 ct_new.fs :=
 tieF' [] Tryd.f28 hints_registers_New (ac_registers_New 53 52) [(2, (some (2, true)))] ht ct_new (fun x hx => wc_registers_New tab gl0 53 52 h1 h2 x)
theorem ok_event_Check (tab : Tab) (ht : TabOk Tryd.prog gl0 tab) (h1 : tab.look 53 = some ct_size.fs) : FOk Tryd.prog gl0 39 ct_chkX.fs :=
 tieW' Tryd.f39 hints_event_Check (ac_event_Check 53) [(4, none)] ht ct_chkX (fun x hx => w_event_CheckX tab gl0 53 h1 x.1 x.2 hx)
theorem ok_registers_index (tab : Tab) (ht : TabOk Tryd.prog gl0 tab)  : FOk Tryd.prog gl0 54 ct_index.fs :=
 tieW' Tryd.f54 hints_registers_index ac_registers_index [(2, none)] ht ct_index (fun x _ => w_registers_index tab gl0 x)
theorem ok_registers_least (tab : Tab) (ht : TabOk Tryd.prog gl0 tab)  : FOk Tryd.prog gl0 55 ct_least.fs :=
 tieW' Tryd.f55 hints_registers_least ac_registers_least [(4, none)] ht ct_least (fun x _ => w_registers_least tab gl0 x.1 x.2)
theorem ok_registers_active (tab : Tab) (ht : TabOk Tryd.prog gl0 tab)  : FOk Tryd.prog gl0 79 ct_active.fs :=
 tieW' Tryd.f79 hints_registers_active ac_registers_active [(2, none)] ht ct_active (fun x hx => wc_registers_active tab gl0 x hx)
theorem ok_registers_on (tab : Tab) (ht : TabOk Tryd.prog gl0 tab) (h1 : tab.look 79 = some ct_active.fs) : FOk Tryd.prog gl0 56 ct_on.fs :=
 tieW' Tryd.f56 hints_registers_on (ac_registers_on 79) [(4, none)] ht ct_on (fun x hx => w_registers_on tab gl0 79 h1 x.1 x.2.1 hx.1 x.2.2 hx.2)
theorem ok_registers_twin (tab : Tab) (ht : TabOk Tryd.prog gl0 tab)  : FOk Tryd.prog gl0 57 ct_twin.fs :=
 tieF' [] Tryd.f57 hints_registers_twin ac_registers_twin [(2, (some (2, true)))] ht ct_twin (fun x hx => wc_registers_twin tab gl0 x hx)
theorem ok_registers_Extend (tab : Tab) (ht : TabOk Tryd.prog gl0 tab) (h1 : tab.look 54 = some ct_index.fs) (h2 : tab.look 55 = some ct_least.fs) (h3 : tab.look 56 = some ct_on.fs) (h4 : tab.look 53 = some ct_size.fs) (h5 : tab.look 57 = some ct_twin.fs) (h6 : tab.look 58 = some ct_sumA.fs) : FOk Tryd.prog gl0 29 ct_ext.fs :=
 tieW' Tryd.f29 hints_registers_Extend (ac_registers_Extend 54 55 56 53 57 58) [(8, (some (2, true))), (9, none)] ht ct_ext (fun x hx => w_registers_Extend tab gl0 54 55 56 53 57 58 h1 h2 h3 h4 h5 h6 x hx)
theorem ok_replay_Registers (tab : Tab) (ht : TabOk Tryd.prog gl0 tab) (h1 : tab.look 28 = some ct_new.fs) (h2 : tab.look 39 = some ct_chkX.fs) (h3 : tab.look 29 = some ct_ext.fs) : FOk Tryd.prog gl0 14 ct_rpl.fs :=
 tieW' Tryd.f14 hints_replay_Registers (ac_replay_Registers 28 39 29) [(2, (some (2, true))), (3, none)] ht ct_rpl (fun x hx => w_replay_Registers tab gl0 28 39 29 h1 h2 h3 x.1 x.2.1 x.2.2 hx)
theorem ok_registers_Value (tab : Tab) (ht : TabOk Tryd.prog gl0 tab) (h1 : tab.look 54 = some ct_index.fs) (h2 : tab.look 56 = some ct_on.fs) : FOk Tryd.prog gl0 30 ct_val.fs :=
 tieF' [] Tryd.f30 hints_registers_Value (ac_registers_Value 54 56) [(6, none), (7, none)] ht ct_val (fun x hx => w_registers_Value tab gl0 54 56 h1 h2 x.1 x.2.1 x.2.2.1 x.2.2.2 hx)
theorem ok_bytes_Equal (tab : Tab) (ht : TabOk Tryd.prog gl0 tab)  : FOk Tryd.prog gl0 95 ct_eqB.fs :=
 tieW' Tryd.f95 hints_bytes_Equal ac_bytes_Equal [(4, none)] ht ct_eqB (fun x _ => w_bytes_Equal tab gl0 x)
theorem ok_replay_same (tab : Tab) (ht : TabOk Tryd.prog gl0 tab) (h1 : tab.look 30 = some ct_val.fs) (h2 : tab.look 95 = some ct_eqB.fs) : FOk Tryd.prog gl0 74 ct_rsm2.fs :=
 tieW' Tryd.f74 hints_replay_same (ac_replay_same 30 95) [(8, none), (9, none)] ht ct_rsm2 (fun x hx => w_replay_same tab gl0 30 95 h1 h2 x.1 x.2.1 x.2.2.1 x.2.2.2 hx.1.1 hx.1.2 hx.2.1 hx.2.2)
theorem ok_replay_reached (tab : Tab) (ht : TabOk Tryd.prog gl0 tab) (h1 : tab.look 28 = some ct_new.fs) (h2 : tab.look 74 = some ct_rsm2.fs) (h3 : tab.look 29 = some ct_ext.fs) : FOk Tryd.prog gl0 45 ct_rch.fs :=
 tieW' Tryd.f45 hints_replay_reached (ac_replay_reached 28 74 29) [(6, none)] ht ct_rch (fun x hx => w_replay_reached tab gl0 28 74 29 h1 h2 h3 x.1.1 x.1.2.1 x.1.2.2 x.2.1 x.2.2 hx.1.1 hx.1.2 hx.2.1 hx.2.2)
theorem ok_replay_Reached (tab : Tab) (ht : TabOk Tryd.prog gl0 tab) (h1 : tab.look 14 = some ct_rpl.fs) (h2 : tab.look 45 = some ct_rch.fs) : FOk Tryd.prog gl0 18 ct_rcI.fs :=
 tieW' Tryd.f18 hints_replay_Reached (ac_replay_Reached 14 45) [(6, none)] ht ct_rcI (fun x hx => w_replay_Reached tab gl0 14 45 h1 h2 x.1.1 x.1.2.1 x.1.2.2 x.2.1 x.2.2 hx.1 hx.2)
theorem ok_replay_First (tab : Tab) (ht : TabOk Tryd.prog gl0 tab) (h1 : tab.look 14 = some ct_rpl.fs) (h2 : tab.look 45 = some ct_rch.fs) : FOk Tryd.prog gl0 21 ct_fsI.fs :=
 tieW' Tryd.f21 hints_replay_First (ac_replay_First 14 45) [(4, none)] ht ct_fsI (fun x hx => w_replay_First tab gl0 14 45 h1 h2 x.1.1 x.1.2.1 x.1.2.2 x.2 hx.1 hx.2)
theorem ok_law28_awake (tab : Tab) (ht : TabOk Tryd.prog gl0 tab) (h1 : tab.look 34 = some ct_make.fs) (h2 : tab.look 14 = some ct_rpl.fs) (h3 : tab.look 18 = some ct_rcI.fs) (h4 : tab.look 21 = some ct_fsI.fs) : FOk Tryd.prog gl0 10 ct_awake.fs :=
 tieW' Tryd.f10 hints_law28_awake (ac_law28_awake 34 14 18 21) [(0, none)] ht ct_awake (fun _ _ => w_awake28 tab gl0 34 14 18 21 h1 h2 h3 h4)
theorem ok_draw_Mod (tab : Tab) (ht : TabOk Tryd.prog gl0 tab)  : FOk Tryd.prog gl0 20 ct_mod.fs :=
 tieW' Tryd.f20 hints_draw_Mod ac_draw_Mod [(4, none)] ht ct_mod (fun x hx => w_draw_Mod tab gl0 x.1 x.2 hx.1 hx.2)
theorem ok_draw_Cut (tab : Tab) (ht : TabOk Tryd.prog gl0 tab)  : FOk Tryd.prog gl0 27 ct_cut.fs :=
 tieW' Tryd.f27 hints_draw_Cut ac_draw_Cut [(4, none)] ht ct_cut (fun x hx => w_draw_Cut tab gl0 x.1 x.2 hx.1 hx.2)
theorem ok_law28_few (tab : Tab) (ht : TabOk Tryd.prog gl0 tab) (h1 : tab.look 27 = some ct_cut.fs) : FOk Tryd.prog gl0 11 ct_lfew.fs :=
 tieW' Tryd.f11 hints_law28_few (ac_law28_few 27) [(2, (some (3, true)))] ht ct_lfew (fun x hx => w_law28_few tab gl0 27 h1 x.1 x.2.1 x.2.2 hx)
theorem ok_draw_Active (tab : Tab) (ht : TabOk Tryd.prog gl0 tab) (h1 : tab.look 20 = some ct_mod.fs) : FOk Tryd.prog gl0 13 ct_dact.fs :=
 tieW' Tryd.f13 hints_draw_Active (ac_draw_Active 20) [(2, none)] ht ct_dact (fun x hx => w_draw_Active tab gl0 20 h1 x hx)
theorem ok_draw_New (tab : Tab) (ht : TabOk Tryd.prog gl0 tab)  : FOk Tryd.prog gl0 23 ct_dnew.fs :=
 tieF' [] Tryd.f23 hints_draw_New ac_draw_New [(4, none)] ht ct_dnew (fun x hx => w_draw_New tab gl0 x.1 x.2 hx.1 hx.2)
theorem ok_draw_Codes_Next (tab : Tab) (ht : TabOk Tryd.prog gl0 tab)  : FOk Tryd.prog gl0 35 ct_next.fs :=
 tieW' Tryd.f35 hints_draw_Codes_Next ac_draw_Codes_Next [(4, none)] ht ct_next (fun x hx => w_draw_Next tab gl0 x.1 x.2 hx.1 hx.2.1 hx.2.2)
theorem ok_draw_Codes_Left (tab : Tab) (ht : TabOk Tryd.prog gl0 tab)  : FOk Tryd.prog gl0 62 ct_dlf.fs :=
 tieW' Tryd.f62 hints_draw_Codes_Left ac_draw_Codes_Left [(2, none)] ht ct_dlf (fun x hx => w_draw_Left tab gl0 x hx)
theorem ok_draw_Codes_Line (tab : Tab) (ht : TabOk Tryd.prog gl0 tab) (h1 : tab.look 35 = some ct_next.fs) : FOk Tryd.prog gl0 47 ct_line.fs :=
 tieW' Tryd.f47 hints_draw_Codes_Line (ac_draw_Codes_Line 35) [(2, none)] ht ct_line (fun x hx => w_draw_Line tab gl0 35 h1 x hx)
theorem ok_ref25_has (tab : Tab) (ht : TabOk Tryd.prog gl0 tab)  : FOk Tryd.prog gl0 50 ct_has.fs :=
 tieW' Tryd.f50 hints_ref25_has ac_ref25_has [(4, none)] ht ct_has (fun x hx => w_ref25_has tab gl0 x hx)
theorem ok_ref1_pad (tab : Tab) (ht : TabOk Tryd.prog gl0 tab)  : FOk Tryd.prog gl0 96 ct_pad.fs :=
 tieF' [] Tryd.f96 hints_ref1_pad ac_ref1_pad [(2, none)] ht ct_pad (fun x hx => w_ref1_pad tab gl0 x hx)
theorem ok_ref1_word (tab : Tab) (ht : TabOk Tryd.prog gl0 tab)  : FOk Tryd.prog gl0 97 ct_word.fs :=
 tieW' Tryd.f97 hints_ref1_word ac_ref1_word [(4, none)] ht ct_word (fun x hx => w_ref1_word tab gl0 x.1 x.2 hx.1 hx.2)
theorem ok_ref1_rotl (tab : Tab) (ht : TabOk Tryd.prog gl0 tab)  : FOk Tryd.prog gl0 98 ct_rotl1.fs :=
 tieW' Tryd.f98 hints_ref1_rotl ac_ref1_rotl [(4, none)] ht ct_rotl1 (fun x hx => w_ref1_rotl tab gl0 x.1 x.2 hx)
theorem ok_ref1_bytes (tab : Tab) (ht : TabOk Tryd.prog gl0 tab)  : FOk Tryd.prog gl0 99 ct_spread.fs :=
 tieF' [] Tryd.f99 hints_ref1_bytes ac_ref1_bytes [(2, none)] ht ct_spread (fun x hx => w_ref1_bytes tab gl0 x hx)
theorem ok_ref1_Sum1 (tab : Tab) (ht : TabOk Tryd.prog gl0 tab) (h1 : tab.look 96 = some ct_pad.fs) (h2 : tab.look 97 = some ct_word.fs) (h3 : tab.look 98 = some ct_rotl1.fs) (h4 : tab.look 99 = some ct_spread.fs) : FOk Tryd.prog gl0 76 (ct_sum 20 sum1).fs :=
 tieF' [] Tryd.f76 hints_ref1_Sum1 (ac_ref1_Sum1 96 97 98 99) [(2, none)] ht (ct_sum 20 sum1) (fun x hx => w_ref1_Sum1 tab gl0 96 97 98 99 h1 h2 h3 h4 x hx)
theorem ok_ref1_constants (tab : Tab) (ht : TabOk Tryd.prog gl0 tab)  : FOk Tryd.prog gl0 100 ct_const.fs :=
 tieW' Tryd.f100 hints_ref1_constants ac_ref1_constants [(0, (some (64, true)))] ht ct_const (fun _ _ => w_ref1_constants tab gl0)
theorem ok_ref1_rotr (tab : Tab) (ht : TabOk Tryd.prog gl0 tab)  : FOk Tryd.prog gl0 101 ct_rotr.fs :=
 tieW' Tryd.f101 hints_ref1_rotr ac_ref1_rotr [(4, none)] ht ct_rotr (fun x hx => w_ref1_rotr tab gl0 x.1 x.2 hx)
theorem ok_ref1_Sum256 (tab : Tab) (ht : TabOk Tryd.prog gl0 tab) (h1 : tab.look 100 = some ct_const.fs) (h2 : tab.look 96 = some ct_pad.fs) (h3 : tab.look 97 = some ct_word.fs) (h4 : tab.look 101 = some ct_rotr.fs) (h5 : tab.look 99 = some ct_spread.fs) : FOk Tryd.prog gl0 77 (ct_sum 32 sum256).fs :=
 tieF' [] Tryd.f77 hints_ref1_Sum256 (ac_ref1_Sum256 100 96 97 101 99) [(2, none)] ht (ct_sum 32 sum256) (fun x hx => w_ref1_Sum256 tab gl0 100 96 97 101 99 h1 h2 h3 h4 h5 x hx)
theorem ok_ref1_Sum (tab : Tab) (ht : TabOk Tryd.prog gl0 tab) (h1 : tab.look 76 = some (ct_sum 20 sum1).fs) (h2 : tab.look 77 = some (ct_sum 32 sum256).fs) : FOk Tryd.prog gl0 51 ct_sumA.fs :=
 tieF' [] Tryd.f51 hints_ref1_Sum (ac_ref1_Sum 76 77) [(4, none)] ht ct_sumA (fun x hx => w_ref1_Sum tab gl0 76 77 h1 h2 x.1 hx.1 x.2 hx.2)
theorem ok_ref25_Make (tab : Tab) (ht : TabOk Tryd.prog gl0 tab) (h1 : tab.look 50 = some ct_has.fs) (h2 : tab.look 51 = some ct_sumA.fs) : FOk Tryd.prog gl0 26 ct_make.fs :=
 tieW' Tryd.f26 hints_ref25_Make (ac_ref25_Make 50 51) [(8, (some (4, true)))] ht ct_make (fun x hx => w_ref25_Make tab gl0 50 51 h1 h2 x.1 x.2.1 x.2.2.1 x.2.2.2 hx.1 hx.2)
theorem ok_draw_Digests (tab : Tab) (ht : TabOk Tryd.prog gl0 tab)  : FOk Tryd.prog gl0 48 ct_ddg.fs :=
 tieF' [] Tryd.f48 hints_draw_Digests ac_draw_Digests [(4, none)] ht ct_ddg (fun x _ => w_draw_Digests tab gl0 x.1 x.2)
theorem ok_draw_Codes_Event (tab : Tab) (ht : TabOk Tryd.prog gl0 tab) (h1 : tab.look 47 = some ct_line.fs) (h2 : tab.look 35 = some ct_next.fs) (h3 : tab.look 26 = some ct_make.fs) (h4 : tab.look 48 = some ct_ddg.fs) : FOk Tryd.prog gl0 24 ct_devt.fs :=
 tieW' Tryd.f24 hints_draw_Codes_Event (ac_draw_Codes_Event 47 35 26 48) [(4, (some (4, true)))] ht ct_devt (fun x hx => w_draw_Event tab gl0 47 35 26 48 h1 h2 h3 h4 x.1 hx.1 x.2 hx.2)
theorem ok_draw_Codes_Events (tab : Tab) (ht : TabOk Tryd.prog gl0 tab) (h1 : tab.look 62 = some ct_dlf.fs) (h2 : tab.look 24 = some ct_devt.fs) : FOk Tryd.prog gl0 36 ct_dvs.fs :=
 tieW' Tryd.f36 hints_draw_Codes_Events (ac_draw_Codes_Events 62 24) [(6, none)] ht ct_dvs (fun x hx => w_draw_Events tab gl0 62 24 h1 h2 x.1 x.2.1 x.2.2 hx.1 hx.2.1 hx.2.2)
theorem ok_draw_names (tab : Tab) (ht : TabOk Tryd.prog gl0 tab)  : FOk Tryd.prog gl0 88 ct_nms.fs :=
 tieW' Tryd.f88 hints_draw_names ac_draw_names [(0, (some (5, true)))] ht ct_nms (fun _ _ => w_draw_names tab gl0)
theorem ok_draw_Codes_Payload (tab : Tab) (ht : TabOk Tryd.prog gl0 tab) (h1 : tab.look 35 = some ct_next.fs) (h2 : tab.look 47 = some ct_line.fs) : FOk Tryd.prog gl0 89 ct_pay.fs :=
 tieW' Tryd.f89 hints_draw_Codes_Payload (ac_draw_Codes_Payload 35 47) [(2, none)] ht ct_pay (fun x hx => w_draw_Payload tab gl0 35 47 h1 h2 x hx)
theorem ok_draw_Codes_Image (tab : Tab) (ht : TabOk Tryd.prog gl0 tab) (h1 : tab.look 88 = some ct_nms.fs) (h2 : tab.look 35 = some ct_next.fs) (h3 : tab.look 89 = some ct_pay.fs) : FOk Tryd.prog gl0 63 ct_dim.fs :=
 tieW' Tryd.f63 hints_draw_Codes_Image (ac_draw_Codes_Image 88 35 89) [(4, (some (4, true)))] ht ct_dim (fun x hx => w_draw_Image tab gl0 88 35 89 h1 h2 h3 x.1 x.2 hx.1 hx.2)
theorem ok_draw_Chain (tab : Tab) (ht : TabOk Tryd.prog gl0 tab) (h1 : tab.look 23 = some ct_dnew.fs) (h2 : tab.look 35 = some ct_next.fs) (h3 : tab.look 63 = some ct_dim.fs) : FOk Tryd.prog gl0 37 ct_dch.fs :=
 tieW' Tryd.f37 hints_draw_Chain (ac_draw_Chain 23 35 63) [(2, none)] ht ct_dch (fun x hx => w_draw_Chain tab gl0 23 35 63 h1 h2 h3 x hx)
theorem ok_ref25_Name (tab : Tab) (ht : TabOk Tryd.prog gl0 tab)  : FOk Tryd.prog gl0 108 ct_name.fs :=
 tieW' Tryd.f108 hints_ref25_Name ac_ref25_Name [(2, none)] ht ct_name (fun x hx => w_ref25_Name tab gl0 x hx)
theorem ok_ref25_Lines (tab : Tab) (ht : TabOk Tryd.prog gl0 tab)  : FOk Tryd.prog gl0 67 ct_lns.fs :=
 tieW' Tryd.f67 hints_ref25_Lines ac_ref25_Lines [(2, none)] ht ct_lns (fun x hx => w_ref25_Lines tab gl0 x hx)
theorem ok_ref25_Image (tab : Tab) (ht : TabOk Tryd.prog gl0 tab) (h1 : tab.look 108 = some ct_name.fs) (h2 : tab.look 67 = some ct_lns.fs) : FOk Tryd.prog gl0 90 ct_imc.fs :=
 tieW' Tryd.f90 hints_ref25_Image (ac_ref25_Image 108 67) [(2, none)] ht ct_imc (fun x hx => w_ref25_Image tab gl0 108 67 h1 h2 x hx)
theorem ok_ref25_Chain (tab : Tab) (ht : TabOk Tryd.prog gl0 tab) (h1 : tab.look 90 = some ct_imc.fs) : FOk Tryd.prog gl0 64 ct_chc.fs :=
 tieW' Tryd.f64 hints_ref25_Chain (ac_ref25_Chain 90) [(2, none)] ht ct_chc (fun x hx => w_ref25_Chain tab gl0 90 h1 x hx)
theorem ok_ref25_Separator (tab : Tab) (ht : TabOk Tryd.prog gl0 tab)  : FOk Tryd.prog gl0 65 ct_sep.fs :=
 tieF' [] Tryd.f65 hints_ref25_Separator ac_ref25_Separator [(0, none)] ht ct_sep (fun _ _ => w_ref25_Separator tab gl0)
theorem ok_ref25_Register (tab : Tab) (ht : TabOk Tryd.prog gl0 tab)  : FOk Tryd.prog gl0 91 ct_reg.fs :=
 tieW' Tryd.f91 hints_ref25_Register ac_ref25_Register [(2, none)] ht ct_reg (fun x _ => w_ref25_Register tab gl0 x)
theorem ok_ref3_Uint (tab : Tab) (ht : TabOk Tryd.prog gl0 tab)  : FOk Tryd.prog gl0 87 ct_uint.fs :=
 tieF' [] Tryd.f87 hints_ref3_Uint ac_ref3_Uint [(6, none)] ht ct_uint (fun x hx => w_ref3_Uint tab gl0 x.1 x.2.1 x.2.2 hx.1 hx.2)
theorem ok_ref3_Blob (tab : Tab) (ht : TabOk Tryd.prog gl0 tab) (h1 : tab.look 87 = some ct_uint.fs) : FOk Tryd.prog gl0 113 ct_blob.fs :=
 tieF' [] Tryd.f113 hints_ref3_Blob (ac_ref3_Blob 87) [(4, none)] ht ct_blob (fun x hx => w_ref3_Blob tab gl0 87 h1 x.1 x.2 hx.1 hx.2)
theorem ok_ref25_EncodeImage (tab : Tab) (ht : TabOk Tryd.prog gl0 tab) (h1 : tab.look 90 = some ct_imc.fs) (h2 : tab.look 87 = some ct_uint.fs) (h3 : tab.look 113 = some ct_blob.fs) : FOk Tryd.prog gl0 109 ct_enI.fs :=
 tieW' Tryd.f109 hints_ref25_EncodeImage (ac_ref25_EncodeImage 90 87 113) [(2, none)] ht ct_enI (fun x hx => w_ref25_EncodeImage tab gl0 90 87 113 h1 h2 h3 x hx)
theorem ok_ref25_Digests (tab : Tab) (ht : TabOk Tryd.prog gl0 tab) (h1 : tab.look 109 = some ct_enI.fs) (h2 : tab.look 50 = some ct_has.fs) (h3 : tab.look 51 = some ct_sumA.fs) : FOk Tryd.prog gl0 92 ct_imd.fs :=
 tieW' Tryd.f92 hints_ref25_Digests (ac_ref25_Digests 109 50 51) [(4, none)] ht ct_imd (fun x hx => w_ref25_Digests tab gl0 109 50 51 h1 h2 h3 x.1 x.2 hx.1 hx.2)
theorem ok_ref25_Number_0 (tab : Tab) (ht : TabOk Tryd.prog gl0 tab)  : FOk Tryd.prog gl0 110 (ct_num 0).fs :=
 tieF' [] Tryd.f110 hints_ref25_Number (ac_ref25_Number 110) [(2, none)] ht (ct_num 0) (fun x hx => w_ref25_Number0 tab gl0 110 x hx.1)
theorem ok_ref25_Number_S (k : Nat) (hk : k ≤ 20) (tab : Tab) (ht : TabOk Tryd.prog gl0 tab)  (hs : tab.look 110 = some (ct_num k).fs) : FOk Tryd.prog gl0 110 (ct_num (k + 1)).fs :=
 tieF' [] Tryd.f110 hints_ref25_Number (ac_ref25_Number 110) [(2, none)] ht (ct_num (k + 1)) (fun x hx => w_ref25_NumberS tab gl0 110 k hs x hx.1 hx.2 hk)
theorem ok_ref25_Label (tab : Tab) (ht : TabOk Tryd.prog gl0 tab) (h1 : tab.look 110 = some (ct_num 7).fs) : FOk Tryd.prog gl0 93 ct_lab.fs :=
 tieW' Tryd.f93 hints_ref25_Label (ac_ref25_Label 110) [(4, none)] ht ct_lab (fun x hx => w_ref25_Label tab gl0 110 h1 x.1 x.2 hx.1 hx.2)
theorem ok_ref25_OfImage (tab : Tab) (ht : TabOk Tryd.prog gl0 tab) (h1 : tab.look 90 = some ct_imc.fs) (h2 : tab.look 91 = some ct_reg.fs) (h3 : tab.look 92 = some ct_imd.fs) (h4 : tab.look 93 = some ct_lab.fs) : FOk Tryd.prog gl0 66 ct_ofI.fs :=
 tieW' Tryd.f66 hints_ref25_OfImage (ac_ref25_OfImage 90 91 92 93) [(4, (some (4, true)))] ht ct_ofI (fun x hx => w_ref25_OfImage tab gl0 90 91 92 93 h1 h2 h3 h4 x.1 x.2 hx.1 hx.2)
theorem ok_ref25_Events (tab : Tab) (ht : TabOk Tryd.prog gl0 tab) (h1 : tab.look 64 = some ct_chc.fs) (h2 : tab.look 65 = some ct_sep.fs) (h3 : tab.look 26 = some ct_make.fs) (h4 : tab.look 66 = some ct_ofI.fs) (h5 : tab.look 67 = some ct_lns.fs) : FOk Tryd.prog gl0 38 ct_evI.fs :=
 tieW' Tryd.f38 hints_ref25_Events (ac_ref25_Events 64 65 26 66 67) [(4, none)] ht ct_evI (fun x hx => w_ref25_Events tab gl0 64 65 26 66 67 h1 h2 h3 h4 h5 x.1 x.2 hx)
theorem ok_draw_Log (tab : Tab) (ht : TabOk Tryd.prog gl0 tab) (h1 : tab.look 23 = some ct_dnew.fs) (h2 : tab.look 20 = some ct_mod.fs) (h3 : tab.look 35 = some ct_next.fs) (h4 : tab.look 36 = some ct_dvs.fs) (h5 : tab.look 37 = some ct_dch.fs) (h6 : tab.look 38 = some ct_evI.fs) (h7 : tab.look 24 = some ct_devt.fs) (h8 : tab.look 26 = some ct_make.fs) : FOk Tryd.prog gl0 12 ct_dlg.fs :=
 tieW' Tryd.f12 hints_draw_Log (ac_draw_Log 23 20 35 36 37 38 24 26) [(6, (some (3, true)))] ht ct_dlg (fun x hx => w_draw_Log tab gl0 23 20 35 36 37 38 24 26 h1 h2 h3 h4 h5 h6 h7 h8 x.1 x.2.1 x.2.2 hx.1 hx.2.1 hx.2.2)
theorem ok_wire_Uint (tab : Tab) (ht : TabOk Tryd.prog gl0 tab)  : FOk Tryd.prog gl0 84 ct_uint.fs :=
 tieF' [] Tryd.f84 hints_wire_Uint ac_wire_Uint [(6, none)] ht ct_uint (fun x hx => w_wire_Uint tab gl0 x.1 x.2.1 x.2.2 hx.1 hx.2)
theorem ok_digest_Frame (tab : Tab) (ht : TabOk Tryd.prog gl0 tab)  : FOk Tryd.prog gl0 106 ct_frame.fs :=
 tieF' [] Tryd.f106 hints_digest_Frame ac_digest_Frame [(4, none)] ht ct_frame (fun x hx => w_digest_Frame tab gl0 x.1 hx.1 x.2 hx.2)
theorem ok_digest_Hash (tab : Tab) (ht : TabOk Tryd.prog gl0 tab) (h1 : tab.look 106 = some ct_frame.fs) (h2 : tab.look 58 = some ct_sumA.fs) : FOk Tryd.prog gl0 85 ct_hash.fs :=
 tieF' [] Tryd.f85 hints_digest_Hash (ac_digest_Hash 106 58) [(4, none)] ht ct_hash (fun x hx => w_digest_Hash tab gl0 106 58 h1 h2 x.1 x.2 hx.1 hx.2)
theorem ok_registers_Digest (tab : Tab) (ht : TabOk Tryd.prog gl0 tab) (h1 : tab.look 84 = some ct_uint.fs) (h2 : tab.look 56 = some ct_on.fs) (h3 : tab.look 85 = some ct_hash.fs) : FOk Tryd.prog gl0 59 ct_digs.fs :=
 tieF' [] Tryd.f59 hints_registers_Digest (ac_registers_Digest 84 56 85) [(4, none), (5, none)] ht ct_digs (fun x hx => w_registers_Digest tab gl0 84 56 85 h1 h2 h3 x.1 x.2.1 x.2.2.1 x.2.2.2 hx)
theorem ok_replay_Digest (tab : Tab) (ht : TabOk Tryd.prog gl0 tab) (h1 : tab.look 14 = some ct_rpl.fs) (h2 : tab.look 59 = some ct_digs.fs) : FOk Tryd.prog gl0 32 ct_rdg.fs :=
 tieW' Tryd.f32 hints_replay_Digest (ac_replay_Digest 14 59) [(4, none), (5, none)] ht ct_rdg (fun x hx => w_replay_Digest tab gl0 14 59 h1 h2 x.1.1 x.1.2.1 x.1.2.2 x.2.1 x.2.2 hx)
theorem ok_ref1_Size (tab : Tab) (ht : TabOk Tryd.prog gl0 tab)  : FOk Tryd.prog gl0 71 ct_size.fs :=
 tieW' Tryd.f71 hints_ref1_Size ac_ref1_Size [(2, none)] ht ct_size (fun x _ => w_ref1_Size tab gl0 x)
theorem ok_ref25_digestsFit (tab : Tab) (ht : TabOk Tryd.prog gl0 tab) (h1 : tab.look 50 = some ct_has.fs) (h2 : tab.look 71 = some ct_size.fs) : FOk Tryd.prog gl0 68 ct_fitX.fs :=
 tieW' Tryd.f68 hints_ref25_digestsFit (ac_ref25_digestsFit 50 71) [(4, none)] ht ct_fitX (fun x hx => w_ref25_digestsFitX tab gl0 50 71 h1 h2 x.1 x.2 hx.1 hx.2)
theorem ok_ref25_Event (tab : Tab) (ht : TabOk Tryd.prog gl0 tab) (h1 : tab.look 68 = some ct_fitX.fs) : FOk Tryd.prog gl0 40 ct_chkX.fs :=
 tieW' Tryd.f40 hints_ref25_Event (ac_ref25_Event 68) [(4, none)] ht ct_chkX (fun x hx => w_ref25_EventX tab gl0 68 h1 x.1 x.2 hx)
theorem ok_ref8_fill (tab : Tab) (ht : TabOk Tryd.prog gl0 tab)  : FOk Tryd.prog gl0 94 ct_fill.fs :=
 tieF' [] Tryd.f94 hints_ref8_fill ac_ref8_fill [(4, none)] ht ct_fill (fun x hx => wc_ref8_fill tab gl0 x hx)
theorem ok_ref8_initial (tab : Tab) (ht : TabOk Tryd.prog gl0 tab) (h1 : tab.look 71 = some ct_size.fs) (h2 : tab.look 94 = some ct_fill.fs) : FOk Tryd.prog gl0 69 ct_init.fs :=
 tieF' [] Tryd.f69 hints_ref8_initial (ac_ref8_initial 71 94) [(4, none)] ht ct_init (fun x hx => w_ref8_initial tab gl0 71 94 h1 h2 x.1 hx x.2)
theorem ok_ref8_New (tab : Tab) (ht : TabOk Tryd.prog gl0 tab) (h1 : tab.look 69 = some ct_init.fs) : FOk Tryd.prog gl0 41 ct_new.fs :=
 tieF' [] Tryd.f41 hints_ref8_New (ac_ref8_New 69) [(2, (some (2, true)))] ht ct_new (fun x hx => wc_ref8_New tab gl0 69 h1 x)
theorem ok_ref8_Least (tab : Tab) (ht : TabOk Tryd.prog gl0 tab)  : FOk Tryd.prog gl0 70 ct_rleast.fs :=
 tieW' Tryd.f70 hints_ref8_Least ac_ref8_Least [(4, none)] ht ct_rleast (fun x _ => w_ref8_Least tab gl0 x.1 x.2)
theorem ok_ref8_Active (tab : Tab) (ht : TabOk Tryd.prog gl0 tab)  : FOk Tryd.prog gl0 43 ct_actv.fs :=
 tieW' Tryd.f43 hints_ref8_Active ac_ref8_Active [(4, none)] ht ct_actv (fun x hx => wc_ref8_Active tab gl0 x hx)
theorem ok_ref1_Copy (tab : Tab) (ht : TabOk Tryd.prog gl0 tab)  : FOk Tryd.prog gl0 73 ct_copy.fs :=
 tieF' [] Tryd.f73 hints_ref1_Copy ac_ref1_Copy [(2, none)] ht ct_copy (fun x hx => w_ref1_Copy tab gl0 x hx)
theorem ok_ref8_Copy (tab : Tab) (ht : TabOk Tryd.prog gl0 tab) (h1 : tab.look 73 = some ct_copy.fs) : FOk Tryd.prog gl0 72 ct_twin.fs :=
 tieF' [] Tryd.f72 hints_ref8_Copy (ac_ref8_Copy 73) [(2, (some (2, true)))] ht ct_twin (fun x hx => wc_ref8_Copy tab gl0 73 h1 x hx)
theorem ok_ref8_Extend (tab : Tab) (ht : TabOk Tryd.prog gl0 tab) (h1 : tab.look 70 = some ct_rleast.fs) (h2 : tab.look 43 = some ct_actv.fs) (h3 : tab.look 71 = some ct_size.fs) (h4 : tab.look 72 = some ct_twin.fs) (h5 : tab.look 73 = some ct_copy.fs) (h6 : tab.look 51 = some ct_sumA.fs) : FOk Tryd.prog gl0 42 ct_ext.fs :=
 tieW' Tryd.f42 hints_ref8_Extend (ac_ref8_Extend 70 43 71 72 73 51) [(8, (some (2, true))), (9, none)] ht ct_ext (fun x hx => w_ref8_Extend tab gl0 70 43 71 72 73 51 h1 h2 h3 h4 h5 h6 x hx)
theorem ok_ref25_Replay (tab : Tab) (ht : TabOk Tryd.prog gl0 tab) (h1 : tab.look 40 = some ct_chkX.fs) (h2 : tab.look 41 = some ct_new.fs) (h3 : tab.look 42 = some ct_ext.fs) : FOk Tryd.prog gl0 15 ct_rpl.fs :=
 tieW' Tryd.f15 hints_ref25_Replay (ac_ref25_Replay 40 41 42) [(2, (some (2, true))), (3, none)] ht ct_rpl (fun x hx => w_ref25_Replay tab gl0 40 41 42 h1 h2 h3 x.1 x.2.1 x.2.2 hx)
theorem ok_ref1_Frame (tab : Tab) (ht : TabOk Tryd.prog gl0 tab)  : FOk Tryd.prog gl0 107 ct_frame.fs :=
 tieF' [] Tryd.f107 hints_ref1_Frame ac_ref1_Frame [(4, none)] ht ct_frame (fun x hx => w_ref1_Frame tab gl0 x.1 hx.1 x.2 hx.2)
theorem ok_ref1_Hash (tab : Tab) (ht : TabOk Tryd.prog gl0 tab) (h1 : tab.look 107 = some ct_frame.fs) (h2 : tab.look 77 = some (ct_sum 32 sum256).fs) : FOk Tryd.prog gl0 86 ct_hash.fs :=
 tieF' [] Tryd.f86 hints_ref1_Hash (ac_ref1_Hash 107 77) [(4, none)] ht ct_hash (fun x hx => w_ref1_Hash tab gl0 107 77 h1 h2 x.1 x.2 hx.1 hx.2)
theorem ok_ref8_Digest (tab : Tab) (ht : TabOk Tryd.prog gl0 tab) (h1 : tab.look 43 = some ct_actv.fs) (h2 : tab.look 87 = some ct_uint.fs) (h3 : tab.look 86 = some ct_hash.fs) : FOk Tryd.prog gl0 60 ct_digs.fs :=
 tieF' [] Tryd.f60 hints_ref8_Digest (ac_ref8_Digest 43 87 86) [(4, none), (5, none)] ht ct_digs (fun x hx => w_ref8_Digest tab gl0 43 87 86 h1 h2 h3 x.1 x.2.1 x.2.2.1 x.2.2.2 hx)
theorem ok_ref25_ReplayDigest (tab : Tab) (ht : TabOk Tryd.prog gl0 tab) (h1 : tab.look 15 = some ct_rpl.fs) (h2 : tab.look 60 = some ct_digs.fs) : FOk Tryd.prog gl0 33 ct_rdg.fs :=
 tieW' Tryd.f33 hints_ref25_ReplayDigest (ac_ref25_ReplayDigest 15 60) [(4, none), (5, none)] ht ct_rdg (fun x hx => w_ref25_ReplayDigest tab gl0 15 60 h1 h2 x.1.1 x.1.2.1 x.1.2.2 x.2.1 x.2.2 hx)
theorem ok_ref1_Same (tab : Tab) (ht : TabOk Tryd.prog gl0 tab)  : FOk Tryd.prog gl0 31 ct_same.fs :=
 tieW' Tryd.f31 hints_ref1_Same ac_ref1_Same [(4, none)] ht ct_same (fun x hx => w_ref1_Same tab gl0 x.1 x.2 hx.1 hx.2)
theorem sp_law28_ReplayDigest (tab : Tab) (ht : TabOk Tryd.prog gl0 tab) (h1 : tab.look 10 = some ct_awake.fs) (h2 : tab.look 20 = some ct_mod.fs) (h3 : tab.look 11 = some ct_lfew.fs) (h4 : tab.look 13 = some ct_dact.fs) (h5 : tab.look 12 = some ct_dlg.fs) (h6 : tab.look 32 = some ct_rdg.fs) (h7 : tab.look 33 = some ct_rdg.fs) (h8 : tab.look 31 = some ct_same.fs) (ra rr : Int) (res : List Ev) (hx : lgX res) (cs : List UInt8) (hcs : cs.length ≤ 9223372036854775807) (a : Int) (ha : rI a) (s0 s1 : Int) (hs0 : rI s0) (hs1 : rI s1) (any : Bool) : Spec Tryd.prog gl0 9 [.t (lgT (ra, rr, res)), .t (.sl (cs.map byteT)), .t (.int .i64 a), .t (.agg [.int .i64 s0, .int .i64 s1]), .t (.bool any)] [] (.t (.bool true)) [] :=
 tieL' Tryd.f9 hints_law28_ReplayDigest (ac_law28_ReplayDigest 10 20 11 13 12 32 33 31) [(10, none)] ht (w_ReplayDigest tab gl0 10 20 11 13 12 32 33 31 h1 h2 h3 h4 h5 h6 h7 h8 (ra, rr, res) hx cs hcs a ha s0 s1 hs0 hs1 any)
noncomputable def tab1 : Tab := (61, ct_clone.fs) :: []
theorem tab1_ok : TabOk Tryd.prog gl0 tab1 := TabOk.cons (ok_bytes_Clone [] TabOk.nil ) TabOk.nil
noncomputable def tab2 : Tab := (80, ct_pad.fs) :: tab1
theorem tab2_ok : TabOk Tryd.prog gl0 tab2 := TabOk.cons (ok_digest_pad tab1 tab1_ok ) tab1_ok
noncomputable def tab3 : Tab := (104, ct_word.fs) :: tab2
theorem tab3_ok : TabOk Tryd.prog gl0 tab3 := TabOk.cons (ok_digest_word tab2 tab2_ok ) tab2_ok
noncomputable def tab4 : Tab := (105, ct_rotl.fs) :: tab3
theorem tab4_ok : TabOk Tryd.prog gl0 tab4 := TabOk.cons (ok_bits_RotateLeft32 tab3 tab3_ok ) tab3_ok
noncomputable def tab5 : Tab := (81, (ct_comp 5 comp1).fs) :: tab4
theorem tab5_ok : TabOk Tryd.prog gl0 tab5 := TabOk.cons (ok_digest_compress1 tab4 tab4_ok rfl rfl) tab4_ok
noncomputable def tab6 : Tab := (82, ct_spread.fs) :: tab5
theorem tab6_ok : TabOk Tryd.prog gl0 tab6 := TabOk.cons (ok_digest_spread tab5 tab5_ok ) tab5_ok
noncomputable def tab7 : Tab := (83, (ct_comp 8 comp256).fs) :: tab6
theorem tab7_ok : TabOk Tryd.prog gl0 tab7 := TabOk.cons (ok_digest_compress256 tab6 tab6_ok rfl rfl) tab6_ok
noncomputable def tab8 : Tab := (58, ct_sumA.fs) :: tab7
theorem tab8_ok : TabOk Tryd.prog gl0 tab8 := TabOk.cons (ok_digest_Sum tab7 tab7_ok rfl rfl rfl rfl) tab7_ok
noncomputable def tab9 : Tab := (34, ct_make.fs) :: tab8
theorem tab9_ok : TabOk Tryd.prog gl0 tab9 := TabOk.cons (ok_event_Make tab8 tab8_ok rfl rfl) tab8_ok
noncomputable def tab10 : Tab := (53, ct_size.fs) :: tab9
theorem tab10_ok : TabOk Tryd.prog gl0 tab10 := TabOk.cons (ok_digest_Size tab9 tab9_ok ) tab9_ok
noncomputable def tab11 : Tab := (112, ct_mul64.fs) :: tab10
theorem tab11_ok : TabOk Tryd.prog gl0 tab11 := TabOk.cons (ok_bits_Mul64 tab10 tab10_ok ) tab10_ok
noncomputable def tab12 : Tab := (102, ct_mul64.fs) :: tab11
theorem tab12_ok : TabOk Tryd.prog gl0 tab12 := TabOk.cons (ok_bits_Mul tab11 tab11_ok rfl) tab11_ok
noncomputable def tab13 : Tab := (103, ct_mnz.fs) :: tab12
theorem tab13_ok : TabOk Tryd.prog gl0 tab13 := TabOk.cons ok_bytealg_MakeNoZero tab12_ok
noncomputable def tab14 : Tab := (78, ct_repeat.fs) :: tab13
theorem tab14_ok : TabOk Tryd.prog gl0 tab14 := TabOk.cons (ok_bytes_Repeat tab13 tab13_ok rfl rfl) tab13_ok
noncomputable def tab15 : Tab := (52, ct_fill.fs) :: tab14
theorem tab15_ok : TabOk Tryd.prog gl0 tab15 := TabOk.cons (ok_registers_fill tab14 tab14_ok rfl) tab14_ok
noncomputable def tab16 : Tab := (28, ct_new.fs) :: tab15
theorem tab16_ok : TabOk Tryd.prog gl0 tab16 := TabOk.cons (ok_registers_New tab15 tab15_ok rfl rfl) tab15_ok
noncomputable def tab17 : Tab := (39, ct_chkX.fs) :: tab16
theorem tab17_ok : TabOk Tryd.prog gl0 tab17 := TabOk.cons (ok_event_Check tab16 tab16_ok rfl) tab16_ok
noncomputable def tab18 : Tab := (54, ct_index.fs) :: tab17
theorem tab18_ok : TabOk Tryd.prog gl0 tab18 := TabOk.cons (ok_registers_index tab17 tab17_ok ) tab17_ok
noncomputable def tab19 : Tab := (55, ct_least.fs) :: tab18
theorem tab19_ok : TabOk Tryd.prog gl0 tab19 := TabOk.cons (ok_registers_least tab18 tab18_ok ) tab18_ok
noncomputable def tab20 : Tab := (79, ct_active.fs) :: tab19
theorem tab20_ok : TabOk Tryd.prog gl0 tab20 := TabOk.cons (ok_registers_active tab19 tab19_ok ) tab19_ok
noncomputable def tab21 : Tab := (56, ct_on.fs) :: tab20
theorem tab21_ok : TabOk Tryd.prog gl0 tab21 := TabOk.cons (ok_registers_on tab20 tab20_ok rfl) tab20_ok
noncomputable def tab22 : Tab := (57, ct_twin.fs) :: tab21
theorem tab22_ok : TabOk Tryd.prog gl0 tab22 := TabOk.cons (ok_registers_twin tab21 tab21_ok ) tab21_ok
noncomputable def tab23 : Tab := (29, ct_ext.fs) :: tab22
theorem tab23_ok : TabOk Tryd.prog gl0 tab23 := TabOk.cons (ok_registers_Extend tab22 tab22_ok rfl rfl rfl rfl rfl rfl) tab22_ok
noncomputable def tab24 : Tab := (14, ct_rpl.fs) :: tab23
theorem tab24_ok : TabOk Tryd.prog gl0 tab24 := TabOk.cons (ok_replay_Registers tab23 tab23_ok rfl rfl rfl) tab23_ok
noncomputable def tab25 : Tab := (30, ct_val.fs) :: tab24
theorem tab25_ok : TabOk Tryd.prog gl0 tab25 := TabOk.cons (ok_registers_Value tab24 tab24_ok rfl rfl) tab24_ok
noncomputable def tab26 : Tab := (95, ct_eqB.fs) :: tab25
theorem tab26_ok : TabOk Tryd.prog gl0 tab26 := TabOk.cons (ok_bytes_Equal tab25 tab25_ok ) tab25_ok
noncomputable def tab27 : Tab := (74, ct_rsm2.fs) :: tab26
theorem tab27_ok : TabOk Tryd.prog gl0 tab27 := TabOk.cons (ok_replay_same tab26 tab26_ok rfl rfl) tab26_ok
noncomputable def tab28 : Tab := (45, ct_rch.fs) :: tab27
theorem tab28_ok : TabOk Tryd.prog gl0 tab28 := TabOk.cons (ok_replay_reached tab27 tab27_ok rfl rfl rfl) tab27_ok
noncomputable def tab29 : Tab := (18, ct_rcI.fs) :: tab28
theorem tab29_ok : TabOk Tryd.prog gl0 tab29 := TabOk.cons (ok_replay_Reached tab28 tab28_ok rfl rfl) tab28_ok
noncomputable def tab30 : Tab := (21, ct_fsI.fs) :: tab29
theorem tab30_ok : TabOk Tryd.prog gl0 tab30 := TabOk.cons (ok_replay_First tab29 tab29_ok rfl rfl) tab29_ok
noncomputable def tab31 : Tab := (10, ct_awake.fs) :: tab30
theorem tab31_ok : TabOk Tryd.prog gl0 tab31 := TabOk.cons (ok_law28_awake tab30 tab30_ok rfl rfl rfl rfl) tab30_ok
noncomputable def tab32 : Tab := (20, ct_mod.fs) :: tab31
theorem tab32_ok : TabOk Tryd.prog gl0 tab32 := TabOk.cons (ok_draw_Mod tab31 tab31_ok ) tab31_ok
noncomputable def tab33 : Tab := (27, ct_cut.fs) :: tab32
theorem tab33_ok : TabOk Tryd.prog gl0 tab33 := TabOk.cons (ok_draw_Cut tab32 tab32_ok ) tab32_ok
noncomputable def tab34 : Tab := (11, ct_lfew.fs) :: tab33
theorem tab34_ok : TabOk Tryd.prog gl0 tab34 := TabOk.cons (ok_law28_few tab33 tab33_ok rfl) tab33_ok
noncomputable def tab35 : Tab := (13, ct_dact.fs) :: tab34
theorem tab35_ok : TabOk Tryd.prog gl0 tab35 := TabOk.cons (ok_draw_Active tab34 tab34_ok rfl) tab34_ok
noncomputable def tab36 : Tab := (23, ct_dnew.fs) :: tab35
theorem tab36_ok : TabOk Tryd.prog gl0 tab36 := TabOk.cons (ok_draw_New tab35 tab35_ok ) tab35_ok
noncomputable def tab37 : Tab := (35, ct_next.fs) :: tab36
theorem tab37_ok : TabOk Tryd.prog gl0 tab37 := TabOk.cons (ok_draw_Codes_Next tab36 tab36_ok ) tab36_ok
noncomputable def tab38 : Tab := (62, ct_dlf.fs) :: tab37
theorem tab38_ok : TabOk Tryd.prog gl0 tab38 := TabOk.cons (ok_draw_Codes_Left tab37 tab37_ok ) tab37_ok
noncomputable def tab39 : Tab := (47, ct_line.fs) :: tab38
theorem tab39_ok : TabOk Tryd.prog gl0 tab39 := TabOk.cons (ok_draw_Codes_Line tab38 tab38_ok rfl) tab38_ok
noncomputable def tab40 : Tab := (50, ct_has.fs) :: tab39
theorem tab40_ok : TabOk Tryd.prog gl0 tab40 := TabOk.cons (ok_ref25_has tab39 tab39_ok ) tab39_ok
noncomputable def tab41 : Tab := (96, ct_pad.fs) :: tab40
theorem tab41_ok : TabOk Tryd.prog gl0 tab41 := TabOk.cons (ok_ref1_pad tab40 tab40_ok ) tab40_ok
noncomputable def tab42 : Tab := (97, ct_word.fs) :: tab41
theorem tab42_ok : TabOk Tryd.prog gl0 tab42 := TabOk.cons (ok_ref1_word tab41 tab41_ok ) tab41_ok
noncomputable def tab43 : Tab := (98, ct_rotl1.fs) :: tab42
theorem tab43_ok : TabOk Tryd.prog gl0 tab43 := TabOk.cons (ok_ref1_rotl tab42 tab42_ok ) tab42_ok
noncomputable def tab44 : Tab := (99, ct_spread.fs) :: tab43
theorem tab44_ok : TabOk Tryd.prog gl0 tab44 := TabOk.cons (ok_ref1_bytes tab43 tab43_ok ) tab43_ok
noncomputable def tab45 : Tab := (76, (ct_sum 20 sum1).fs) :: tab44
theorem tab45_ok : TabOk Tryd.prog gl0 tab45 := TabOk.cons (ok_ref1_Sum1 tab44 tab44_ok rfl rfl rfl rfl) tab44_ok
noncomputable def tab46 : Tab := (100, ct_const.fs) :: tab45
theorem tab46_ok : TabOk Tryd.prog gl0 tab46 := TabOk.cons (ok_ref1_constants tab45 tab45_ok ) tab45_ok
noncomputable def tab47 : Tab := (101, ct_rotr.fs) :: tab46
theorem tab47_ok : TabOk Tryd.prog gl0 tab47 := TabOk.cons (ok_ref1_rotr tab46 tab46_ok ) tab46_ok
noncomputable def tab48 : Tab := (77, (ct_sum 32 sum256).fs) :: tab47
theorem tab48_ok : TabOk Tryd.prog gl0 tab48 := TabOk.cons (ok_ref1_Sum256 tab47 tab47_ok rfl rfl rfl rfl rfl) tab47_ok
noncomputable def tab49 : Tab := (51, ct_sumA.fs) :: tab48
theorem tab49_ok : TabOk Tryd.prog gl0 tab49 := TabOk.cons (ok_ref1_Sum tab48 tab48_ok rfl rfl) tab48_ok
noncomputable def tab50 : Tab := (26, ct_make.fs) :: tab49
theorem tab50_ok : TabOk Tryd.prog gl0 tab50 := TabOk.cons (ok_ref25_Make tab49 tab49_ok rfl rfl) tab49_ok
noncomputable def tab51 : Tab := (48, ct_ddg.fs) :: tab50
theorem tab51_ok : TabOk Tryd.prog gl0 tab51 := TabOk.cons (ok_draw_Digests tab50 tab50_ok ) tab50_ok
noncomputable def tab52 : Tab := (24, ct_devt.fs) :: tab51
theorem tab52_ok : TabOk Tryd.prog gl0 tab52 := TabOk.cons (ok_draw_Codes_Event tab51 tab51_ok rfl rfl rfl rfl) tab51_ok
noncomputable def tab53 : Tab := (36, ct_dvs.fs) :: tab52
theorem tab53_ok : TabOk Tryd.prog gl0 tab53 := TabOk.cons (ok_draw_Codes_Events tab52 tab52_ok rfl rfl) tab52_ok
noncomputable def tab54 : Tab := (88, ct_nms.fs) :: tab53
theorem tab54_ok : TabOk Tryd.prog gl0 tab54 := TabOk.cons (ok_draw_names tab53 tab53_ok ) tab53_ok
noncomputable def tab55 : Tab := (89, ct_pay.fs) :: tab54
theorem tab55_ok : TabOk Tryd.prog gl0 tab55 := TabOk.cons (ok_draw_Codes_Payload tab54 tab54_ok rfl rfl) tab54_ok
noncomputable def tab56 : Tab := (63, ct_dim.fs) :: tab55
theorem tab56_ok : TabOk Tryd.prog gl0 tab56 := TabOk.cons (ok_draw_Codes_Image tab55 tab55_ok rfl rfl rfl) tab55_ok
noncomputable def tab57 : Tab := (37, ct_dch.fs) :: tab56
theorem tab57_ok : TabOk Tryd.prog gl0 tab57 := TabOk.cons (ok_draw_Chain tab56 tab56_ok rfl rfl rfl) tab56_ok
noncomputable def tab58 : Tab := (108, ct_name.fs) :: tab57
theorem tab58_ok : TabOk Tryd.prog gl0 tab58 := TabOk.cons (ok_ref25_Name tab57 tab57_ok ) tab57_ok
noncomputable def tab59 : Tab := (67, ct_lns.fs) :: tab58
theorem tab59_ok : TabOk Tryd.prog gl0 tab59 := TabOk.cons (ok_ref25_Lines tab58 tab58_ok ) tab58_ok
noncomputable def tab60 : Tab := (90, ct_imc.fs) :: tab59
theorem tab60_ok : TabOk Tryd.prog gl0 tab60 := TabOk.cons (ok_ref25_Image tab59 tab59_ok rfl rfl) tab59_ok
noncomputable def tab61 : Tab := (64, ct_chc.fs) :: tab60
theorem tab61_ok : TabOk Tryd.prog gl0 tab61 := TabOk.cons (ok_ref25_Chain tab60 tab60_ok rfl) tab60_ok
noncomputable def tab62 : Tab := (65, ct_sep.fs) :: tab61
theorem tab62_ok : TabOk Tryd.prog gl0 tab62 := TabOk.cons (ok_ref25_Separator tab61 tab61_ok ) tab61_ok
noncomputable def tab63 : Tab := (91, ct_reg.fs) :: tab62
theorem tab63_ok : TabOk Tryd.prog gl0 tab63 := TabOk.cons (ok_ref25_Register tab62 tab62_ok ) tab62_ok
noncomputable def tab64 : Tab := (87, ct_uint.fs) :: tab63
theorem tab64_ok : TabOk Tryd.prog gl0 tab64 := TabOk.cons (ok_ref3_Uint tab63 tab63_ok ) tab63_ok
noncomputable def tab65 : Tab := (113, ct_blob.fs) :: tab64
theorem tab65_ok : TabOk Tryd.prog gl0 tab65 := TabOk.cons (ok_ref3_Blob tab64 tab64_ok rfl) tab64_ok
noncomputable def tab66 : Tab := (109, ct_enI.fs) :: tab65
theorem tab66_ok : TabOk Tryd.prog gl0 tab66 := TabOk.cons (ok_ref25_EncodeImage tab65 tab65_ok rfl rfl rfl) tab65_ok
noncomputable def tab67 : Tab := (92, ct_imd.fs) :: tab66
theorem tab67_ok : TabOk Tryd.prog gl0 tab67 := TabOk.cons (ok_ref25_Digests tab66 tab66_ok rfl rfl rfl) tab66_ok
noncomputable def tab68 : Tab := (110, (ct_num 0).fs) :: tab67
theorem tab68_ok : TabOk Tryd.prog gl0 tab68 := TabOk.cons (ok_ref25_Number_0 tab67 tab67_ok ) tab67_ok
noncomputable def tab69 : Tab := (110, (ct_num 1).fs) :: tab68
theorem tab69_ok : TabOk Tryd.prog gl0 tab69 := TabOk.cons (ok_ref25_Number_S 0 (by decide) tab68 tab68_ok rfl) tab68_ok
noncomputable def tab70 : Tab := (110, (ct_num 2).fs) :: tab69
theorem tab70_ok : TabOk Tryd.prog gl0 tab70 := TabOk.cons (ok_ref25_Number_S 1 (by decide) tab69 tab69_ok rfl) tab69_ok
noncomputable def tab71 : Tab := (110, (ct_num 3).fs) :: tab70
theorem tab71_ok : TabOk Tryd.prog gl0 tab71 := TabOk.cons (ok_ref25_Number_S 2 (by decide) tab70 tab70_ok rfl) tab70_ok
noncomputable def tab72 : Tab := (110, (ct_num 4).fs) :: tab71
theorem tab72_ok : TabOk Tryd.prog gl0 tab72 := TabOk.cons (ok_ref25_Number_S 3 (by decide) tab71 tab71_ok rfl) tab71_ok
noncomputable def tab73 : Tab := (110, (ct_num 5).fs) :: tab72
theorem tab73_ok : TabOk Tryd.prog gl0 tab73 := TabOk.cons (ok_ref25_Number_S 4 (by decide) tab72 tab72_ok rfl) tab72_ok
noncomputable def tab74 : Tab := (110, (ct_num 6).fs) :: tab73
theorem tab74_ok : TabOk Tryd.prog gl0 tab74 := TabOk.cons (ok_ref25_Number_S 5 (by decide) tab73 tab73_ok rfl) tab73_ok
noncomputable def tab75 : Tab := (110, (ct_num 7).fs) :: tab74
theorem tab75_ok : TabOk Tryd.prog gl0 tab75 := TabOk.cons (ok_ref25_Number_S 6 (by decide) tab74 tab74_ok rfl) tab74_ok
noncomputable def tab76 : Tab := (93, ct_lab.fs) :: tab75
theorem tab76_ok : TabOk Tryd.prog gl0 tab76 := TabOk.cons (ok_ref25_Label tab75 tab75_ok rfl) tab75_ok
noncomputable def tab77 : Tab := (66, ct_ofI.fs) :: tab76
theorem tab77_ok : TabOk Tryd.prog gl0 tab77 := TabOk.cons (ok_ref25_OfImage tab76 tab76_ok rfl rfl rfl rfl) tab76_ok
noncomputable def tab78 : Tab := (38, ct_evI.fs) :: tab77
theorem tab78_ok : TabOk Tryd.prog gl0 tab78 := TabOk.cons (ok_ref25_Events tab77 tab77_ok rfl rfl rfl rfl rfl) tab77_ok
noncomputable def tab79 : Tab := (12, ct_dlg.fs) :: tab78
theorem tab79_ok : TabOk Tryd.prog gl0 tab79 := TabOk.cons (ok_draw_Log tab78 tab78_ok rfl rfl rfl rfl rfl rfl rfl rfl) tab78_ok
noncomputable def tab80 : Tab := (84, ct_uint.fs) :: tab79
theorem tab80_ok : TabOk Tryd.prog gl0 tab80 := TabOk.cons (ok_wire_Uint tab79 tab79_ok ) tab79_ok
noncomputable def tab81 : Tab := (106, ct_frame.fs) :: tab80
theorem tab81_ok : TabOk Tryd.prog gl0 tab81 := TabOk.cons (ok_digest_Frame tab80 tab80_ok ) tab80_ok
noncomputable def tab82 : Tab := (85, ct_hash.fs) :: tab81
theorem tab82_ok : TabOk Tryd.prog gl0 tab82 := TabOk.cons (ok_digest_Hash tab81 tab81_ok rfl rfl) tab81_ok
noncomputable def tab83 : Tab := (59, ct_digs.fs) :: tab82
theorem tab83_ok : TabOk Tryd.prog gl0 tab83 := TabOk.cons (ok_registers_Digest tab82 tab82_ok rfl rfl rfl) tab82_ok
noncomputable def tab84 : Tab := (32, ct_rdg.fs) :: tab83
theorem tab84_ok : TabOk Tryd.prog gl0 tab84 := TabOk.cons (ok_replay_Digest tab83 tab83_ok rfl rfl) tab83_ok
noncomputable def tab85 : Tab := (71, ct_size.fs) :: tab84
theorem tab85_ok : TabOk Tryd.prog gl0 tab85 := TabOk.cons (ok_ref1_Size tab84 tab84_ok ) tab84_ok
noncomputable def tab86 : Tab := (68, ct_fitX.fs) :: tab85
theorem tab86_ok : TabOk Tryd.prog gl0 tab86 := TabOk.cons (ok_ref25_digestsFit tab85 tab85_ok rfl rfl) tab85_ok
noncomputable def tab87 : Tab := (40, ct_chkX.fs) :: tab86
theorem tab87_ok : TabOk Tryd.prog gl0 tab87 := TabOk.cons (ok_ref25_Event tab86 tab86_ok rfl) tab86_ok
noncomputable def tab88 : Tab := (94, ct_fill.fs) :: tab87
theorem tab88_ok : TabOk Tryd.prog gl0 tab88 := TabOk.cons (ok_ref8_fill tab87 tab87_ok ) tab87_ok
noncomputable def tab89 : Tab := (69, ct_init.fs) :: tab88
theorem tab89_ok : TabOk Tryd.prog gl0 tab89 := TabOk.cons (ok_ref8_initial tab88 tab88_ok rfl rfl) tab88_ok
noncomputable def tab90 : Tab := (41, ct_new.fs) :: tab89
theorem tab90_ok : TabOk Tryd.prog gl0 tab90 := TabOk.cons (ok_ref8_New tab89 tab89_ok rfl) tab89_ok
noncomputable def tab91 : Tab := (70, ct_rleast.fs) :: tab90
theorem tab91_ok : TabOk Tryd.prog gl0 tab91 := TabOk.cons (ok_ref8_Least tab90 tab90_ok ) tab90_ok
noncomputable def tab92 : Tab := (43, ct_actv.fs) :: tab91
theorem tab92_ok : TabOk Tryd.prog gl0 tab92 := TabOk.cons (ok_ref8_Active tab91 tab91_ok ) tab91_ok
noncomputable def tab93 : Tab := (73, ct_copy.fs) :: tab92
theorem tab93_ok : TabOk Tryd.prog gl0 tab93 := TabOk.cons (ok_ref1_Copy tab92 tab92_ok ) tab92_ok
noncomputable def tab94 : Tab := (72, ct_twin.fs) :: tab93
theorem tab94_ok : TabOk Tryd.prog gl0 tab94 := TabOk.cons (ok_ref8_Copy tab93 tab93_ok rfl) tab93_ok
noncomputable def tab95 : Tab := (42, ct_ext.fs) :: tab94
theorem tab95_ok : TabOk Tryd.prog gl0 tab95 := TabOk.cons (ok_ref8_Extend tab94 tab94_ok rfl rfl rfl rfl rfl rfl) tab94_ok
noncomputable def tab96 : Tab := (15, ct_rpl.fs) :: tab95
theorem tab96_ok : TabOk Tryd.prog gl0 tab96 := TabOk.cons (ok_ref25_Replay tab95 tab95_ok rfl rfl rfl) tab95_ok
noncomputable def tab97 : Tab := (107, ct_frame.fs) :: tab96
theorem tab97_ok : TabOk Tryd.prog gl0 tab97 := TabOk.cons (ok_ref1_Frame tab96 tab96_ok ) tab96_ok
noncomputable def tab98 : Tab := (86, ct_hash.fs) :: tab97
theorem tab98_ok : TabOk Tryd.prog gl0 tab98 := TabOk.cons (ok_ref1_Hash tab97 tab97_ok rfl rfl) tab97_ok
noncomputable def tab99 : Tab := (60, ct_digs.fs) :: tab98
theorem tab99_ok : TabOk Tryd.prog gl0 tab99 := TabOk.cons (ok_ref8_Digest tab98 tab98_ok rfl rfl rfl) tab98_ok
noncomputable def tab100 : Tab := (33, ct_rdg.fs) :: tab99
theorem tab100_ok : TabOk Tryd.prog gl0 tab100 := TabOk.cons (ok_ref25_ReplayDigest tab99 tab99_ok rfl rfl) tab99_ok
noncomputable def tab101 : Tab := (31, ct_same.fs) :: tab100
theorem tab101_ok : TabOk Tryd.prog gl0 tab101 := TabOk.cons (ok_ref1_Same tab100 tab100_ok ) tab100_ok
end Go.Eng
end
section
set_option maxRecDepth 20000
namespace Go.Eng
open Go.ChangeShapes Go.WideShapes Go.RowKit
inductive Ty where
 | int (k : IntKind)
 | bool
 | str
 | sl (e : Ty)
 | st (fs : List Ty)
mutual
def Ty.size : Ty → Nat
 | .st fs => Ty.sizeL fs
 | _ => 1
def Ty.sizeL : List Ty → Nat
 | [] => 0
 | f :: r => f.size + Ty.sizeL r
end
def isK (P : Program) (t : TypeId) (k : IntKind) : Bool := match P.underlying t with
 | some (.int k') => decide (k' = k)
 | _ => false
theorem isK_of {P : Program} {t : TypeId} {k : IntKind} (h : isK P t k = true) : P.underlying t = some (.int k) := by
 unfold isK at h
 split at h
 · rename_i h1; rw [h1, of_decide_eq_true h]
 · cases h
mutual
def Ty.ok (P : Program) : Ty → TypeId → Bool
 | .int k, t => isK P t k
 | .bool, t => match P.underlying t with | some .bool => true | _ => false
 | .str, t => match P.underlying t with | some .string => true | _ => false
 | .sl e, t => match P.underlying t with | some (.slice te) => e.ok P te && Nat.beq (P.cellsOf te) e.size && Nat.ble 1 e.size | _ => false
 | .st fs, t => Nat.beq (P.cellsOf t) (Ty.sizeL fs) && match P.underlying t with
   | some (.struct gs) => Ty.okF P fs gs.toList 0
   | some (.array n te) => Nat.beq fs.length n && Ty.okA P fs te
   | _ => false
def Ty.okF (P : Program) : List Ty → List Field → Nat → Bool
 | [], [], _ => true
 | f :: r, g :: gs, off => Nat.beq g.offset off && Nat.beq (P.cellsOf g.type) f.size && f.ok P g.type && Ty.okF P r gs (off + f.size)
 | _, _, _ => false
def Ty.okA (P : Program) : List Ty → TypeId → Bool
 | [], _ => true
 | f :: r, te => f.ok P te && Nat.beq (P.cellsOf te) f.size && Ty.okA P r te
end
mutual
def Ty.is : Ty → T → Prop
 | .int k, x => ∃ n, (Lit.int k n).wf = true ∧ x = .int k n
 | .bool, x => ∃ b, x = .bool b
 | .str, x => ∃ s : ByteArray, s.size ≤ maxLen ∧ x = .str s
 | .sl e, x => ∃ es : List T, es.length ≤ maxLen ∧ (∀ y ∈ es, e.is y) ∧ x = .sl es
 | .st fs, x => ∃ cs, Ty.isL fs cs ∧ x = .agg cs
def Ty.isL : List Ty → List T → Prop
 | [], cs => cs = []
 | f :: r, cs => ∃ x rest, f.is x ∧ Ty.isL r rest ∧ cs = x.cells ++ rest
end
mutual
theorem Ty.is_size : ∀ (ty : Ty) (x : T), ty.is x → x.cells.length = ty.size
 | .int k, x, h => by obtain ⟨n, _, rfl⟩ := h; rfl
 | .bool, x, h => by obtain ⟨n, rfl⟩ := h; rfl
 | .str, x, h => by obtain ⟨n, _, rfl⟩ := h; rfl
 | .sl e, x, h => by obtain ⟨es, _, _, rfl⟩ := h; rfl
 | .st fs, x, h => by
   obtain ⟨cs, h1, rfl⟩ := h
   show cs.length = Ty.sizeL fs
   exact Ty.isL_size fs cs h1
theorem Ty.isL_size : ∀ (fs : List Ty) (cs : List T), Ty.isL fs cs → cs.length = Ty.sizeL fs
 | [], cs, h => by cases h; rfl
 | f :: r, cs, h => by
   obtain ⟨x, rest, h1, h2, rfl⟩ := h
   rw [List.length_append, Ty.is_size f x h1, Ty.isL_size r rest h2, Ty.sizeL]
end
theorem pick_list {α : Type} {Q : Nat → α → Prop} : ∀ (n : Nat), (∀ i, i < n → ∃ y, Q i y) → ∃ l : List α, l.length = n ∧ ∀ i y, l[i]? = some y → Q i y
 | 0, _ => ⟨[], rfl, by simp⟩
 | n + 1, h => by
   obtain ⟨l, hl, hq⟩ := pick_list n (fun i hi => h i (by omega))
   obtain ⟨y, hy⟩ := h n (by omega)
   refine ⟨l ++ [y], by simp [hl], fun i z hz => ?_⟩
   rw [List.getElem?_append] at hz
   split at hz
   · exact hq i z hz
   · have h1 : i - l.length = 0 := by
       rcases Nat.eq_zero_or_pos (i - l.length) with h | h
       · exact h
       · rw [List.getElem?_eq_none (by simp; omega)] at hz; cases hz
     rw [h1] at hz
     simp only [List.getElem?_cons_zero, Option.some.injEq] at hz
     subst hz
     have : i = n := by omega
     subst this; exact hy
theorem cell_some {w : World} {a : Addr} {u : Value} (h : w.cell? a = some u) : a.block < w.heap.size ∧ a.spot = none := by
 unfold World.cell? at h
 split at h
 · rename_i hb
   refine ⟨(Array.getElem?_eq_some_iff.1 hb).1, ?_⟩
   split at h
   · cases h
   · rename_i hs
     simpa using hs
 · cases h
section
variable {H : Type} {enc : TypeId × Value → H} {P : Program} {w : World} {base : Nat} {sp : Nat → Bool} {held : Bool}
structure Reads (w : World) (ds : List T) (cs : List Value) : Prop where
 len : ds.length = cs.length
 one : ∀ u ∈ cs, u.oneCell' = true
 rep : ∀ (i : Nat) (c : T) (u : Value), ds[i]? = some c → cs[i]? = some u → Rep (fun b => b < w.heap.size) w c u
theorem Reads.one1 {x : T} {c : Value} (hc : c.oneCell' = true) (h : Rep (fun b => b < w.heap.size) w x c) : Reads w [x] [c] :=
 ⟨rfl, by simpa using hc, fun i d u hd hu => by
   cases i with
   | zero => simp only [List.getElem?_cons_zero, Option.some.injEq] at hd hu; subst hd; subst hu; exact h
   | succ i => simp at hd⟩
theorem Reads.app {ds es : List T} {cs vs : List Value} (h : Reads w ds cs) (h2 : Reads w es vs) : Reads w (ds ++ es) (cs ++ vs) := by
 refine ⟨by rw [List.length_append, List.length_append, h.len, h2.len], fun u hu => ?_, fun i c u hc hu => ?_⟩
 · rcases List.mem_append.1 hu with h3 | h3
   · exact h.one u h3
   · exact h2.one u h3
 · rw [List.getElem?_append] at hc hu
   rw [h.len] at hc
   split at hc
   · rename_i hl; rw [if_pos hl] at hu; exact h.rep i c u hc hu
   · rename_i hl; rw [if_neg hl] at hu; exact h2.rep _ c u hc hu
theorem Reads.nil : Reads w [] [] := ⟨rfl, by simp, fun i c u hc => by simp at hc⟩
theorem open_fields (n : Nat) (IH : ∀ (ty : Ty) (t : TypeId) (cs : List Value) (x : DataW H × List MemPlace), ty.ok P t = true → cs.length = ty.size → DataW.trod enc P w base sp held n t cs = some x → ∃ y : T, ty.is y ∧ Reads w y.cells cs) {cs : List Value} :
   ∀ (fs : List Ty) (gs : List Field) (off : Nat), Ty.okF P fs gs off = true → off + Ty.sizeL fs = cs.length → (∀ g ∈ gs, ∃ x, DataW.trod enc P w base sp held n g.type ((cs.drop g.offset).take (P.cellsOf g.type)) = some x) →
     ∃ ds, Ty.isL fs ds ∧ Reads w ds (cs.drop off)
 | [], [], off, _, hl, _ => ⟨[], rfl, by
     have : cs.drop off = [] := List.drop_eq_nil_of_le (by simp only [Ty.sizeL] at hl; omega)
     rw [this]; exact Reads.nil⟩
 | [], _ :: _, _, h, _, _ => by simp [Ty.okF] at h
 | _ :: _, [], _, h, _, _ => by simp [Ty.okF] at h
 | f :: r, g :: gs, off, h, hl, hg => by
   simp only [Ty.okF, Bool.and_eq_true] at h
   obtain ⟨⟨⟨h1, h2⟩, h3⟩, h4⟩ := h
   have e1 := Nat.eq_of_beq_eq_true h1
   have e2 := Nat.eq_of_beq_eq_true h2
   simp only [Ty.sizeL] at hl
   obtain ⟨ds, hd1, hd2⟩ := open_fields n IH r gs (off + f.size) h4 (by omega) (fun g' hg' => hg g' (.tail _ hg'))
   obtain ⟨x, hx⟩ := hg g (.head _)
   rw [e1, e2] at hx
   obtain ⟨y, hy1, hy2⟩ := IH f g.type _ x h3 (by simp; omega) hx
   refine ⟨y.cells ++ ds, ⟨y, ds, hy1, hd1, rfl⟩, ?_⟩
   have e3 : cs.drop off = (cs.drop off).take f.size ++ cs.drop (off + f.size) := by
     rw [← List.drop_drop, List.take_append_drop]
   rw [e3]
   exact hy2.app hd2
theorem open_array (n : Nat) (IH : ∀ (ty : Ty) (t : TypeId) (cs : List Value) (x : DataW H × List MemPlace), ty.ok P t = true → cs.length = ty.size → DataW.trod enc P w base sp held n t cs = some x → ∃ y : T, ty.is y ∧ Reads w y.cells cs) {cs : List Value} {te : TypeId} :
   ∀ (fs : List Ty) (i : Nat), Ty.okA P fs te = true → i * P.cellsOf te + Ty.sizeL fs = cs.length → (∀ j, j < fs.length → ∃ x, DataW.trod enc P w base sp held n te ((cs.drop ((i + j) * P.cellsOf te)).take (P.cellsOf te)) = some x) →
     ∃ ds, Ty.isL fs ds ∧ Reads w ds (cs.drop (i * P.cellsOf te))
 | [], i, _, hl, _ => ⟨[], rfl, by
     have : cs.drop (i * P.cellsOf te) = [] := List.drop_eq_nil_of_le (by simp only [Ty.sizeL] at hl; omega)
     rw [this]; exact Reads.nil⟩
 | f :: r, i, h, hl, hg => by
   simp only [Ty.okA, Bool.and_eq_true] at h
   obtain ⟨⟨h3, h2⟩, h4⟩ := h
   have e2 := Nat.eq_of_beq_eq_true h2
   simp only [Ty.sizeL] at hl
   have e4 : (i + 1) * P.cellsOf te = i * P.cellsOf te + f.size := by rw [Nat.add_mul, Nat.one_mul, e2]
   obtain ⟨ds, hd1, hd2⟩ := open_array n IH (cs := cs) r (i + 1) h4 (by rw [e4]; omega) (fun j hj => by
     have := hg (j + 1) (by simp; omega)
     rw [show i + 1 + j = i + (j + 1) by omega]; exact this)
   obtain ⟨x, hx⟩ := hg 0 (by simp)
   rw [Nat.add_zero, e2, ← e2] at hx
   obtain ⟨y, hy1, hy2⟩ := IH f te _ x h3 (by rw [e2] at hl ⊢; rw [List.length_take, List.length_drop]; omega) hx
   refine ⟨y.cells ++ ds, ⟨y, ds, hy1, hd1, rfl⟩, ?_⟩
   have e3 : cs.drop (i * P.cellsOf te) = (cs.drop (i * P.cellsOf te)).take (P.cellsOf te) ++ cs.drop ((i + 1) * P.cellsOf te) := by
     rw [e4, ← e2, ← List.drop_drop, List.take_append_drop]
   rw [e3]
   exact hy2.app hd2
theorem open_cells : ∀ (n : Nat) (ty : Ty) (t : TypeId) (cs : List Value) (x : DataW H × List MemPlace), ty.ok P t = true → cs.length = ty.size → DataW.trod enc P w base sp held n t cs = some x → ∃ y : T, ty.is y ∧ Reads w y.cells cs := by
 intro n
 induction n with
 | zero => intro ty t cs x _ _ h; simp [DataW.trod] at h
 | succ n IH =>
   intro ty t cs x hty hlen h
   cases ty with
   | int k =>
     obtain ⟨m, rfl, _, hw⟩ := DataW.trod_int (isK_of hty) h
     exact ⟨.int k m, ⟨m, hw, rfl⟩, .one1 rfl (.int k m)⟩
   | bool =>
     simp only [Ty.ok] at hty
     split at hty
     · rename_i hu
       obtain ⟨b, rfl, _⟩ := DataW.trod_bool hu h
       exact ⟨.bool b, ⟨b, rfl⟩, .one1 rfl (.bool b)⟩
     · cases hty
   | str =>
     simp only [Ty.ok] at hty
     split at hty
     · rename_i hu
       obtain ⟨s, rfl, _, hs⟩ := DataW.trod_string hu h
       exact ⟨.str s, ⟨s, hs, rfl⟩, .one1 rfl (.str s)⟩
     · cases hty
   | sl e =>
     simp only [Ty.ok] at hty
     split at hty
     · rename_i te hu
       simp only [Bool.and_eq_true] at hty
       obtain ⟨⟨h1, h2⟩, h3⟩ := hty
       have e2 := Nat.eq_of_beq_eq_true h2
       have e3 := Nat.le_of_ble_eq_true h3
       rcases DataW.trod_slice hu h with ⟨rfl, _⟩ | ⟨a, len, cap, elems, rest, m, hm, rfl, _, _, hlc, hcm, hel, hget, _, _⟩
       · exact ⟨.sl [], ⟨[], by simp, by simp, rfl⟩, .one1 rfl .nil⟩
       · cases hm
         have hcells : ∀ i, i < len → ∃ y : T, e.is y ∧ ∃ cs', Reads w y.cells cs' ∧ cs'.length = e.size ∧ ∀ j, j < e.size → w.cell? ((a.add (i * e.size)).add j) = cs'[j]? := by
           intro i hi
           have hg := hget i hi
           have : elems[i]? = some elems[i] := List.getElem?_eq_getElem (by omega)
           rw [this, Option.bind_eq_some_iff] at hg
           obtain ⟨cs', hc, ht⟩ := hg
           obtain ⟨_, hl, hcell⟩ := World.cells?_some hc
           rw [e2] at hl hcell
           obtain ⟨y, hy1, hy2⟩ := IH e te cs' _ h1 hl ht
           exact ⟨y, hy1, cs', hy2, hl, hcell⟩
         obtain ⟨es, hes, hq⟩ := pick_list len hcells
         have hz : ∀ y ∈ es, y.cells.length = e.size := fun y hy => by
           obtain ⟨i, hi⟩ := List.getElem?_of_mem hy
           exact e.is_size y (hq i y hi).1
         have hcellk : ∀ k, k < len * e.size → ∃ (i j : Nat) (y : T) (cs' : List Value) (u : Value), k = i * e.size + j ∧ j < e.size ∧ es[i]? = some y ∧ Reads w y.cells cs' ∧ cs'[j]? = some u ∧ w.cell? (a.add k) = some u := by
           intro k hk
           have hi : k / e.size < len := (Nat.div_lt_iff_lt_mul (by omega)).2 hk
           have hj : k % e.size < e.size := Nat.mod_lt _ (by omega)
           have hy : es[k / e.size]? = some es[k / e.size] := List.getElem?_eq_getElem (by omega)
           obtain ⟨_, cs', hr, hl, hc⟩ := hq _ _ hy
           have hu : cs'[k % e.size]? = some cs'[k % e.size] := List.getElem?_eq_getElem (by omega)
           have ek : k = k / e.size * e.size + k % e.size := by rw [Nat.mul_comm]; exact (Nat.div_add_mod k e.size).symm
           refine ⟨_, _, _, cs', _, ek, hj, hy, hr, hu, ?_⟩
           rw [← hu, ← hc _ hj, Addr.add_add, ← ek]
         refine ⟨.sl es, ⟨es, by omega, fun y hy => ?_, rfl⟩, .one1 rfl ?_⟩
         · obtain ⟨i, hi⟩ := List.getElem?_of_mem hy
           exact (hq i y hi).1
         · have hnl : ((List.range (len * e.size)).map fun k => (w.cell? (a.add k)).getD default).length = len * e.size := by simp
           have hnews : ∀ k u, ((List.range (len * e.size)).map fun k => (w.cell? (a.add k)).getD default)[k]? = some u → k < len * e.size ∧ w.cell? (a.add k) = some u := by
             intro k u hu
             have hk : k < len * e.size := by
               rcases Nat.lt_or_ge k (len * e.size) with h | h
               · exact h
               · rw [List.getElem?_eq_none (by omega)] at hu; cases hu
             obtain ⟨_, _, _, _, u', _, _, _, _, _, hc⟩ := hcellk k hk
             rw [List.getElem?_map, List.getElem?_range hk, Option.map_some, hc, Option.getD_some, Option.some.injEq] at hu
             subst hu
             exact ⟨hk, hc⟩
           have h0 : es ≠ [] → a.block < w.heap.size ∧ a.spot = none := by
             intro hne
             have hlp : 0 < len := by
               rw [← hes]; exact List.length_pos_iff.2 hne
             obtain ⟨_, _, _, _, u', _, _, _, _, _, hc⟩ := hcellk 0 (Nat.mul_pos hlp (by omega))
             have e9 : a.add 0 = a := by simp [Addr.add]
             rw [e9] at hc
             exact cell_some hc
           have key := Rep.sl (F := fun b => b < w.heap.size) (w := w) es a cap e.size _ (fun hne => (h0 hne).2) (by omega) (by rw [hes]; exact hnl) (fun u hu => by
             obtain ⟨k, hk⟩ := List.getElem?_of_mem hu
             obtain ⟨hk1, hk2⟩ := hnews k u hk
             obtain ⟨_, _, _, cs', u', _, _, _, hr, hcu, hc⟩ := hcellk k hk1
             rw [hk2] at hc; cases hc
             exact hr.one u (List.mem_of_getElem? hcu)) (fun hne => (h0 hne).1) (fun k u hk => (hnews k u hk).2) hz
             (fun i y j c u hy hc hu => by
               obtain ⟨hk1, hk2⟩ := hnews _ u hu
               obtain ⟨i', j', y', cs', u', e1, hj', hy', hr, hcu, hc'⟩ := hcellk _ hk1
               rw [hk2] at hc'; cases hc'
               have hj : j < e.size := by rw [← hz y (List.mem_of_getElem? hy)]; exact (List.getElem?_eq_some_iff.1 hc).1
               have ei : i = i' ∧ j = j' := by
                 have h5 := congrArg (· / e.size) e1
                 have h6 := congrArg (· % e.size) e1
                 simp only [Nat.mul_comm _ e.size, Nat.mul_add_div (show 0 < e.size by omega), Nat.mul_add_mod, Nat.div_eq_of_lt hj, Nat.div_eq_of_lt hj', Nat.mod_eq_of_lt hj, Nat.mod_eq_of_lt hj'] at h5 h6
                 exact ⟨by omega, h6⟩
               obtain ⟨rfl, rfl⟩ := ei
               rw [hy] at hy'; cases hy'
               exact hr.rep j c u hc hcu)
           rw [hes] at key
           exact key
     · cases hty
   | st fs =>
     simp only [Ty.ok, Bool.and_eq_true] at hty
     obtain ⟨h0, hty⟩ := hty
     have e0 := Nat.eq_of_beq_eq_true h0
     split at hty
     · rename_i gs hu
       obtain ⟨xs, m, hm, _, hl, hxl, hget⟩ := DataW.trod_struct hu h
       cases hm
       obtain ⟨ds, hd1, hd2⟩ := open_fields n IH (cs := cs) fs gs.toList 0 hty (by omega) (fun g hg => by
         obtain ⟨i, hi⟩ := List.getElem?_of_mem hg
         have hi' : gs[i]? = some g := by simpa using hi
         have hlt : i < xs.length := by rw [hxl]; exact (Array.getElem?_eq_some_iff.1 hi').1
         exact ⟨xs[i], by rw [hget i g hi']; exact List.getElem?_eq_getElem hlt⟩)
       rw [List.drop_zero] at hd2
       exact ⟨.agg ds, ⟨ds, hd1, rfl⟩, hd2⟩
     · rename_i m te hu
       simp only [Bool.and_eq_true] at hty
       have e5 := Nat.eq_of_beq_eq_true hty.1
       obtain ⟨xs, m', hm, _, hl, hxl, hget⟩ := DataW.trod_array hu h
       cases hm
       obtain ⟨ds, hd1, hd2⟩ := open_array n IH (cs := cs) fs 0 hty.2 (by omega) (fun j hj => by
         have hlt : j < xs.length := by omega
         rw [Nat.zero_add]
         exact ⟨xs[j], by rw [hget j (by omega)]; exact List.getElem?_eq_getElem hlt⟩)
       rw [Nat.zero_mul, List.drop_zero] at hd2
       exact ⟨.agg ds, ⟨ds, hd1, rfl⟩, hd2⟩
     · cases hty
theorem open_value {ty : Ty} {t : TypeId} {v : Value} {d : DataW H} {ps : List MemPlace} {b0 : Nat} (hty : ty.ok P t = true) (hval : Value.okWide P w .any b0 t v) (h : DataW.Trod enc P w base sp held t v d ps) :
   ∃ y : T, ty.is y ∧ Rep (fun b => b < w.heap.size) w y v := by
 obtain ⟨n, hn⟩ := h
 have scalar : ∀ c, v = c → c.cells = #[c] → ty.size = 1 → (∀ y : T, ty.is y → y.cells = [y]) → ∃ y : T, ty.is y ∧ Rep (fun b => b < w.heap.size) w y v := by
   intro c hv hc hs hy
   subst hv
   rw [hc] at hn
   obtain ⟨y, h1, h2⟩ := open_cells n ty t _ _ hty (by rw [hs]; rfl) hn
   rw [hy y h1] at h2
   exact ⟨y, h1, h2.rep 0 y v rfl rfl⟩
 cases ty with
 | int k =>
   obtain ⟨m, hv⟩ := okWide_int (isK_of hty) hval
   exact scalar _ hv rfl rfl (fun y hy => by obtain ⟨_, _, rfl⟩ := hy; rfl)
 | bool =>
   simp only [Ty.ok] at hty
   split at hty
   · rename_i hu
     obtain ⟨m, hv⟩ := okWide_bool hu hval
     exact scalar _ hv rfl rfl (fun y hy => by obtain ⟨_, rfl⟩ := hy; rfl)
   · cases hty
 | str =>
   simp only [Ty.ok] at hty
   split at hty
   · rename_i hu
     obtain ⟨m, hv⟩ := okWide_string hu hval
     exact scalar _ hv rfl rfl (fun y hy => by obtain ⟨_, _, rfl⟩ := hy; rfl)
   · cases hty
 | sl e =>
   have hty' := hty
   simp only [Ty.ok] at hty'
   split at hty'
   · rename_i te hu
     obtain ⟨a, l, c, hv⟩ := okWide_slice hu hval
     exact scalar _ hv rfl rfl (fun y hy => by obtain ⟨_, _, _, rfl⟩ := hy; rfl)
   · cases hty'
 | st fs =>
   have hagg : ∃ cs, v = .agg cs ∧ cs.size = P.cellsOf t := by
     have hty' := hty
     simp only [Ty.ok, Bool.and_eq_true] at hty'
     obtain ⟨_, h2⟩ := hty'
     unfold Value.okWide at hval
     split at h2
     · rename_i hu; rw [hu] at hval; obtain ⟨cs, h3, h4, _⟩ := hval; exact ⟨cs, h3, h4⟩
     · rename_i hu; rw [hu] at hval; obtain ⟨cs, h3, h4, _⟩ := hval; exact ⟨cs, h3, h4⟩
     · cases h2
   obtain ⟨cs, rfl, hsz⟩ := hagg
   have hsz2 : cs.size = Ty.sizeL fs := by
     simp only [Ty.ok, Bool.and_eq_true] at hty
     rw [hsz]; exact Nat.eq_of_beq_eq_true hty.1
   obtain ⟨y, h1, h2⟩ := open_cells n (.st fs) t _ _ hty (by show cs.toList.length = Ty.sizeL fs; simpa using hsz2) hn
   obtain ⟨ds, h3, rfl⟩ := h1
   refine ⟨.agg ds, ⟨ds, h3, rfl⟩, .agg ds cs ?_ ?_ ?_⟩
   · have := h2.len; simpa [Value.cells, T.cells] using this.symm
   · intro u hu; exact h2.one u (by simpa [Value.cells] using hu)
   · intro i c u hc hu; exact h2.rep i c u hc (by simpa [Value.cells] using hu)
theorem open_args : ∀ {tys : List Ty} {ts : List TypeId} {vs : List Value} {ds : List (DataW H)} {ps : List MemPlace} {b0 : Nat}, All2 (fun (ty : Ty) (t : TypeId) => ty.ok P t = true) tys ts →
   (∀ (j : Nat) t v, ts[j]? = some t → vs[j]? = some v → Value.okWide P w .any b0 t v) → DataW.TrodAll enc P w base sp held ts vs ds ps →
   ∃ ys : List T, All2 (fun (ty : Ty) (y : T) => ty.is y) tys ys ∧ All2 (RepV (fun _ => none) (fun b => b < w.heap.size) w) (ys.map V.t) vs
 | [], ts, vs, ds, ps, b0, h, hv, hd => by
   cases h
   obtain ⟨rfl, _, _⟩ := trodAll_nil hd
   exact ⟨[], .nil, .nil⟩
 | ty :: tys, ts, vs, ds, ps, b0, h, hv, hd => by
   cases h with
   | cons h1 h2 =>
     obtain ⟨v, vs', d, ds', p, q, rfl, rfl, rfl, hd1, hd2⟩ := trodAll_cons hd
     obtain ⟨y, hy1, hy2⟩ := open_value h1 (hv 0 _ v rfl rfl) hd1
     obtain ⟨ys, h3, h4⟩ := open_args h2 (fun j t v' ht hv' => hv (j + 1) t v' ht hv') hd2
     exact ⟨y :: ys, .cons hy1 h3, .cons (.t hy2) h4⟩
end
end Go.Eng
end
section
set_option maxRecDepth 20000
namespace Go.Eng
open Go.ChangeShapes Go.WideShapes Go.RowKit Go.WideElems
section
variable {H : Type} {enc : TypeId × Value → H} {P : Program}
theorem same_of_old {W W' : World} (hfr : ∀ b, b < W.heap.size → W'.heap[b]? = W.heap[b]?) {p : MemPlace} (hp : p.block < W.heap.size) : W.sameAt W' p := by
 cases p with
 | cell b off => exact World.cell?_of_block (hfr b hp)
 | map b => exact hfr b hp
theorem args_stay (hl : laidOutB P = true) {W W' : World} (hfr : ∀ b, b < W.heap.size → W'.heap[b]? = W.heap[b]?) {sp : Nat → Bool} :
   ∀ {ts : List TypeId} {vs : List Value} {ds : List (DataW H)} {ps : List MemPlace}, (∀ t ∈ ts, P.readableRec t = true ∧ t < P.types.size) → (∀ p ∈ ps, p.block < W.heap.size ∧ sp p.block = true) →
     DataW.TrodAll enc P W 0 (fun _ => true) true ts vs ds ps → DataW.TrodAll enc P W' 0 sp true ts vs ds ps
 | [], vs, ds, ps, _, _, h => by
   obtain ⟨rfl, rfl, rfl⟩ := trodAll_nil h
   exact trodAll_mk0
 | t :: ts, vs, ds, ps, ht, hp, h => by
   obtain ⟨v, vs', d, ds', p, q, rfl, rfl, rfl, h1, h2⟩ := trodAll_cons h
   obtain ⟨hr, hrow⟩ := ht t (.head _)
   exact ⟨p, q, Trod_stays hl hr hrow h1 (fun x hx => same_of_old hfr (hp x (List.mem_append_left _ hx)).1) (fun x hx => (hp x (List.mem_append_left _ hx)).2),
     args_stay hl hfr (fun t' ht' => ht t' (.tail _ ht')) (fun x hx => hp x (List.mem_append_right _ hx)) h2, rfl⟩
theorem law_post {fn : Func} {s : ChangeSpec} {tb : TypeId} {apart fresh handsOn again : Bool} {W W' : World} {args : Array Value} {ds gs : List (DataW H)} {before : List MemPlace}
   (hl : laidOutB P = true) (hts : ∀ t ∈ fn.params.toList, P.readableRec t = true ∧ t < P.types.size) (hrt : fn.resultTypes = #[tb]) (hb : P.underlying tb = some .bool) (hsv : s.vars = [])
   (hfn : (s.fn H (ds ++ gs)).results = [.lit (.bool true)] ∧ (s.fn H (ds ++ gs)).args = ds ∧ (s.fn H (ds ++ gs)).vars = [])
   (hW : DataW.Whole enc P fn.params.toList s.vars apart W args.toList ds gs before)
   (hos : W'.os = W.os) (hout : W'.output = W.output) (hfr : ∀ b, b < W.heap.size → W'.heap[b]? = W.heap[b]?) :
   s.post enc P fn apart fresh handsOn again W args (.bool true) W' := by
 have hlt : ∀ p ∈ before, p.block < W.heap.size := fun p hp => hW.lt p hp
 have hW' := hW
 obtain ⟨p, q, hA, hV, rfl, hz, hn⟩ := hW'
 rw [hsv] at hV
 obtain ⟨rfl, rfl⟩ := trodVars_none hV
 have hres : ∀ (b : Nat) (sp : Nat → Bool) (hd : Bool), DataW.TrodAll enc P W' b sp hd fn.resultTypes.toList ((Value.bool true).resultList fn.resultTypes.size) (s.fn H (ds ++ [])).results [] := by
   intro b sp hd
   rw [hrt, hfn.1]
   exact trodAll_mk1 (shut_bool hb true)
 have hargs : ∀ sp : Nat → Bool, (∀ x ∈ p ++ [], sp x.block = true) → DataW.TrodAll enc P W' 0 sp true fn.params.toList args.toList (s.fn H (ds ++ [])).args p := by
   intro sp hsp
   rw [hfn.2.1]
   exact args_stay hl hfr hts (fun x hx => ⟨hlt x (by simpa using hx), hsp x (by simpa using hx)⟩) hA
 have hvars : ∀ sp : Nat → Bool, DataW.TrodVars enc P W' sp s.vars (s.fn H (ds ++ [])).vars [] := by
   intro sp
   rw [hsv, hfn.2.2]
   rfl
 refine ⟨ds, [], _, [], p, [], hW, hres _ _ _, hargs _ (fun x hx => by simpa using hlt x hx), hvars _, ⟨hos, hout, fun i hi => ?_⟩, fun _ => ?_⟩
 · have e := hfr i hi
   revert e
   generalize W'.heap[i]? = o'
   intro e
   subst e
   split
   · rename_i h1 h2
     rw [h1] at h2
     cases h2
     exact ⟨rfl, rfl, rfl, fun _ _ => rfl⟩
   · rename_i h1 h2
     rw [h1] at h2
     cases h2
     exact .inr ⟨rfl, rfl⟩
   · rfl
 · refine ⟨ok_one hrt rfl (okWide_bool_mk hb _), _, _, ([] ++ p) ++ [], ⟨[] ++ p, [], trodAll_append (hargs _ (fun _ _ => rfl)) (hres _ _ _), hvars _, rfl, ?_, ?_⟩, ?_⟩
   · intro b off hx
     have hx' : MemPlace.cell b off ∈ p ++ [] := by simpa using hx
     have e : W'.frozen? ⟨b, off, none⟩ = W.frozen? ⟨b, off, none⟩ := by
       unfold World.frozen?
       rw [hfr b (hlt _ hx')]
     rw [e]
     exact hz b off hx'
   · intro ha
     have := hn ha
     simpa using this
   · intro x hx _
     simpa using hx
theorem laid_each {w : World} : ∀ {laid : List (String × DataW Unit)} {ps : List MemPlace}, DataW.LaidVars P w laid ps → ∀ x ∈ laid, ∃ g t cs fuel p, P.globalNamed x.1 = some g ∧ (P.globals[g]?).map (·.type) = some t ∧ w.var? P x.1 = some cs ∧
     DataW.trod (fun _ => ()) P w 0 (fun _ => true) false fuel t cs.toList = some (x.2, p)
 | [], _, _, x, hx => by cases hx
 | y :: r, ps, h, x, hx => by
   obtain ⟨g, t, cs, fuel, p, q, h1, h2, h3, h4, h5, _⟩ := h
   rcases List.mem_cons.1 hx with rfl | hx
   · exact ⟨g, t, cs, fuel, p, h1, h2, h3, h4⟩
   · exact laid_each h5 x hx
theorem ro_ints {w : World} {nm : String} {g t e n : Nat} {k : IntKind} {ns : List Int} {cs : Array Value} {fuel : Nat} {p : List MemPlace} {F : Nat → Prop} (hg : P.globalNamed nm = some g) (hv : w.var? P nm = some cs)
   (ht : P.underlying t = some (.array n e)) (he : P.underlying e = some (.int k)) (hc : P.cellsOf e = 1) (hct : P.cellsOf t = n) (hn : 0 < ns.length)
   (h : DataW.trod (fun _ => ()) P w 0 (fun _ => true) false fuel t cs.toList = some (.agg (ns.map fun m => .lit (.int k m)), p)) (hF : g < w.heap.size → F g) :
   RepV (fun _ => none) F w (.ro (ns.map (T.int k))) (.pointer (some ⟨g, 0, none⟩)) := by
 obtain ⟨xs, m, _, hx, hl, hxl, hget⟩ := DataW.trod_array ht h
 simp only [Prod.mk.injEq, DataW.agg.injEq] at hx
 have hlen : ns.length = n := by
   have := congrArg List.length hx.1
   simp only [List.length_map] at this
   omega
 have hcl : cs.toList.length = n := by rw [hl, hct]
 have hcell : ∀ i, i < n → cs.toList[i]? = some (.int k (ns.getD i 0)) := by
   intro i hi
   have h1 := hget i hi
   have h2 : xs[i]? = some xs[i] := List.getElem?_eq_getElem (by omega)
   rw [h2, hc, Nat.mul_one] at h1
   obtain ⟨z, hz1, hz2, _⟩ := DataW.trod_int he h1
   have h3 : cs.toList[i]? = some (.int k z) := by
     have h4 := congrArg (fun l => l[0]?) hz1
     simp only [List.getElem?_take, List.getElem?_drop, Nat.add_zero, List.getElem?_cons_zero] at h4
     simpa using h4
   have h5 := congrArg (fun l => l[i]?) hx.1
   simp only [List.getElem?_map, h2, Option.map_some, hz2] at h5
   have h6 : ns[i]? = some ns[i] := List.getElem?_eq_getElem (by omega)
   rw [h6] at h5
   simp only [Option.map_some, Option.some.injEq, DataW.lit.injEq, Lit.int.injEq, true_and] at h5
   rw [h3, List.getD_eq_getElem?_getD, h6, h5]; rfl
 have hw : ∀ j, w.cell? ((⟨g, 0, none⟩ : Addr).add j) = cs.toList[j]? := by
   intro j
   have e : (⟨g, 0, none⟩ : Addr).add j = ⟨g, j, none⟩ := by
     unfold Addr.add; split
     · rename_i h0; rw [h0]
     · simp
   rw [e, World.var?_cell hg hv j, Array.getElem?_toList]
 refine .ro (ns.map (T.int k)) ⟨g, 0, none⟩ cs.toList rfl (by rw [hcl, List.length_map, hlen]) ?_ (hF ?_) (fun j u hu => (hw j).trans hu) ?_
 · intro u hu
   obtain ⟨i, hi⟩ := List.getElem?_of_mem hu
   rw [hcell i (by rw [← hcl]; exact (List.getElem?_eq_some_iff.1 hi).1)] at hi
   cases hi; rfl
 · have h0 := hw 0
   rw [hcell 0 (by omega)] at h0
   have := (cell_some h0).1
   rw [add_block] at this
   exact this
 · intro j c u hcj hu
   rw [List.getElem?_map, Option.map_eq_some_iff] at hcj
   obtain ⟨z, hz, rfl⟩ := hcj
   rw [hcell j (by rw [← hlen]; exact (List.getElem?_eq_some_iff.1 hz).1)] at hu
   cases hu
   rw [List.getD_eq_getElem?_getD, hz]
   exact .int k z
theorem trodAll_length {w : World} {base : Nat} {sp : Nat → Bool} {held : Bool} : ∀ {ts : List TypeId} {vs : List Value} {ds : List (DataW H)} {ps : List MemPlace}, DataW.TrodAll enc P w base sp held ts vs ds ps → ds.length = ts.length
 | [], _, _, _, h => by obtain ⟨rfl, rfl, rfl⟩ := trodAll_nil h; rfl
 | _ :: _, _, _, _, h => by
   obtain ⟨_, _, _, _, _, _, rfl, rfl, rfl, _, h2⟩ := trodAll_cons h
   simp [trodAll_length h2]
end
theorem law_lifted {H : Type} {enc : TypeId × Value → H} {C : Checked} {os : Os} {f : FuncId} {fn : Func} {s : ChangeSpec} {laid : List (String × DataW Unit)} {tys : List Ty} {G : Nat → Option (List T)} {tb : TypeId} {apart fresh handsOn again : Bool}
   (own : ownKnob C.prog.godebug = none) (started : os.Started) (noInit : C.prog.inits.idxOf? f = none) (hfn : C.prog.funcs[f]? = some fn)
   (witness : ∃ (w : World) (tape : Tape) (i : Input), w.os = os ∧ (w.forCall tape i).Shaped C.prog ∧ i.vars = [] ∧ Input.okWide C.prog (w.forCall tape i) .any w.heap.size f i ∧
     ((s.pre enc C.prog fn [] apart (w.forCall tape i).memory i.args ∧ laidMetH C.prog laid (w.forCall tape i).memory) ∧ sizedMet enc C.prog fn (OpenSpec.ofChange s) apart (w.forCall tape i).memory i.args) ∧ ({} : Assume).holds C.prog (lone (Frame.enter C.prog f i.args .normal) [] (w.forCall tape i)))
   (hl : laidOutB C.prog = true) (hts : fn.params.toList.all (fun t => C.prog.readableRec t && Nat.blt t C.prog.types.size) = true) (hrt : fn.resultTypes = #[tb]) (hb : C.prog.underlying tb = some .bool) (hsv : s.vars = [])
   (hspec : ∀ ds : List (DataW H), ds.length = tys.length → (s.fn H ds).results = [.lit (.bool true)] ∧ (s.fn H ds).args = ds ∧ (s.fn H ds).vars = [])
   (htys : All2 (fun (ty : Ty) (t : TypeId) => ty.ok C.prog t = true) tys fn.params.toList)
   (henv : ∀ W, laidMetH C.prog laid W → EnvOk G (fun b => b < W.heap.size) W)
   (hlaw : ∀ ys, All2 (fun (ty : Ty) (y : T) => ty.is y) tys ys → Spec C.prog G f (ys.map V.t) [] (.t (.bool true)) []) :
   ReturnsInHanded {} C os f .any (fun w args => (s.pre enc C.prog fn [] apart w args ∧ laidMetH C.prog laid w) ∧ sizedMet enc C.prog fn (OpenSpec.ofChange s) apart w args) (s.post enc C.prog fn apart fresh handsOn again) := by
 have hts' : ∀ t ∈ fn.params.toList, C.prog.readableRec t = true ∧ t < C.prog.types.size := by
   intro t ht
   have := List.all_eq_true.1 hts t ht
   rw [Bool.and_eq_true] at this
   exact ⟨this.1, by simpa [Nat.blt_eq] using this.2⟩
 refine returnsInHanded_of_change_and (C := C) (X := fun w _ => laidMetH C.prog laid w) (fun _ _ _ hh h => laidMetH.of_heap hh h) own started noInit hfn witness ?_
 intro W base args ds gs before hval hW _ _ hL _
 have hW' := hW
 obtain ⟨p, q, hA, hV, rfl, _, _⟩ := hW'
 rw [hsv] at hV
 obtain ⟨rfl, rfl⟩ := trodVars_none hV
 obtain ⟨ys, hys, hreps⟩ := open_args htys (fun j t v ht hv => hval j t v (by simpa using ht) (by simpa using hv)) hA
 have hlen : ds.length = tys.length := by rw [trodAll_length hA, htys.length]
 have hcall := hlaw ys hys W (fun _ => none) (fun b => b < W.heap.size) args (henv W hL)
   ⟨fun k o h => by simp at h, fun _ _ => rfl, fun _ _ _ _ _ h => by simp at h, fun _ _ _ h => by simp at h⟩ hreps
 refine hcall.mono fun e W' ⟨x, β', F', he, hp⟩ => ?_
 subst he
 have hx : x = .bool true := by
   have := hp.res
   cases this with
   | t h => cases h; rfl
 subst hx
 exact ⟨_, rfl, law_post hl hts' hrt hb hsv (by rw [List.append_nil]; exact hspec ds hlen) hW hp.os hp.output (fun b hb => hp.frame b hb (fun _ _ h => by simp at h))⟩
end Go.Eng
end
section
set_option maxRecDepth 100000
namespace Go.Proofs.YtlakkalpdcjpnaaDoor
open Go.Eng Go.ChangeShapes Go.WideShapes Go.ChangeAt Go.WideElems Go.RowKit
def theLaid {H : Type} : List (String × DataW H) := [("sealwright/digest.round256", Rows.laid_sealwright_digest_round256)]
theorem s_own : ownKnob Tryd.prog.godebug = none := by kernel_rfl
theorem s_laidOut : laidOutB Tryd.prog = true := by kernel_rfl
theorem s_g : Tryd.prog.globalNamed "sealwright/digest.round256" = some 0 := by kernel_rfl
theorem s_data : (Rows.laid_sealwright_digest_round256 : DataW Unit) = .agg ((k256.map fun x => (x.toNat : Int)).map fun m => .lit (.int .u32 m)) := by rfl
theorem s_env (W : World) (h : laidMetH Tryd.prog theLaid W) : EnvOk gl0 (fun b => b < W.heap.size) W := by
 refine ⟨fun _ h => h, fun g cs hg => ?_⟩
 unfold gl0 at hg
 split at hg
 · rename_i h0
   subst h0
   cases hg
   rw [MakeChecks.laidMetH_plain _ _ _ (by kernel_rfl)] at h
   obtain ⟨ps, hv, _⟩ := h
   obtain ⟨g, t, cs, fuel, p, h1, h2, h3, h4⟩ := laid_each hv _ (.head _)
   obtain rfl := Option.some.inj (s_g.symm.trans h1)
   obtain rfl := Option.some.inj ((show (Tryd.prog.globals[0]?).map (·.type) = some 123 by kernel_rfl).symm.trans h2)
   have h4' : DataW.trod (fun _ => ()) Tryd.prog W 0 (fun _ => true) false fuel 123 cs.toList = some (.agg ((k256.map fun x => (x.toNat : Int)).map fun m => .lit (.int .u32 m)), p) := by rw [← s_data]; exact h4
   have key := ro_ints (F := fun b => b < W.heap.size) h1 h3 Tryd.underlying123 Tryd.underlying104 (by kernel_rfl) (by kernel_rfl) (by decide) h4' (fun h => h)
   have e : (k256.map fun x => (x.toNat : Int)).map (T.int .u32) = k256.map u32T := by rw [List.map_map]; rfl
   rw [e] at key
   exact key
 · cases hg
abbrev s_tb : TypeId := 4
theorem s_bool : Tryd.prog.underlying s_tb = some .bool := Tryd.underlying4
theorem s_shaped (os : Os) (args : Array Value) : ((World.doorLaid Tryd.prog 400 os).forCall (fun _ _ => 0) ⟨#[], args, []⟩).Shaped Tryd.prog := World.shaped_of_RefB (by kernel_rfl) (by kernel_rfl)
theorem door_met (os : Os) (args : Array Value) : laidMetH Tryd.prog theLaid ((World.doorLaid Tryd.prog 400 os).forCall (fun _ _ => 0) ⟨#[], args, []⟩).memory :=
 laidMetH_of_parts3 (fuel := 8) (laidMet_of_run' 8 (by kernel_rfl) (by kernel_rfl)) (by kernel_rfl) (by kernel_rfl)
end Go.Proofs.YtlakkalpdcjpnaaDoor
end
section
set_option maxRecDepth 20000
namespace Go.Eng
theorem is_int {y : T} (h : (Ty.int .i64).is y) : ∃ n : Int, (-9223372036854775808 ≤ n ∧ n < 9223372036854775808) ∧ y = .int .i64 n := by
 obtain ⟨n, hw, rfl⟩ := h
 refine ⟨n, ?_, rfl⟩
 simp only [Lit.wf, Bool.and_eq_true, decide_eq_true_eq] at hw
 obtain ⟨h1, h2⟩ := hw
 have e1 : IntKind.i64.min = -9223372036854775808 := by decide
 have e2 : IntKind.i64.max = 9223372036854775807 := by decide
 rw [e1] at h1
 rw [e2] at h2
 omega
theorem is_u8 {y : T} (h : (Ty.int .u8).is y) : ∃ b : UInt8, y = byteT b := by
 obtain ⟨n, hw, rfl⟩ := h
 simp only [Lit.wf, Bool.and_eq_true, decide_eq_true_eq] at hw
 obtain ⟨h1, h2⟩ := hw
 have e1 : IntKind.u8.min = 0 := by decide
 have e2 : IntKind.u8.max = 255 := by decide
 rw [e1] at h1
 rw [e2] at h2
 refine ⟨UInt8.ofNat n.toNat, ?_⟩
 unfold byteT
 congr 1
 rw [UInt8.toNat_ofNat']
 omega
theorem is_bool {y : T} (h : Ty.bool.is y) : ∃ b : Bool, y = .bool b := h
theorem list_of {α : Type} {f : α → T} {es : List T} (h : ∀ y ∈ es, ∃ a, y = f a) : ∃ l : List α, es = l.map f := by
 induction es with
 | nil => exact ⟨[], rfl⟩
 | cons y r ih =>
   obtain ⟨a, rfl⟩ := h y (.head _)
   obtain ⟨l, rfl⟩ := ih (fun z hz => h z (.tail _ hz))
   exact ⟨a :: l, rfl⟩
theorem mx : maxLen = 9223372036854775807 := by decide
theorem is_bytes {y : T} (h : (Ty.sl (.int .u8)).is y) : ∃ bs : List UInt8, bs.length ≤ 9223372036854775807 ∧ y = .sl (bs.map byteT) := by
 obtain ⟨es, hl, he, rfl⟩ := h
 obtain ⟨bs, rfl⟩ := list_of (f := byteT) (fun y hy => is_u8 (he y hy))
 rw [List.length_map, mx] at hl
 exact ⟨bs, hl, rfl⟩
theorem is_rows {y : T} (h : (Ty.sl (.sl (.int .u8))).is y) : ∃ l : List (List UInt8), l.length ≤ 9223372036854775807 ∧ (∀ d ∈ l, d.length < 9223372036854775808) ∧ y = .sl (l.map bsT) := by
 obtain ⟨es, hl, he, rfl⟩ := h
 obtain ⟨l, hl2⟩ := list_of (f := bsT) (es := es) (fun y hy => by
   obtain ⟨bs, _, h2⟩ := is_bytes (he y hy)
   exact ⟨bs, h2⟩)
 subst hl2
 rw [List.length_map, mx] at hl
 refine ⟨l, hl, fun d hd => ?_, rfl⟩
 obtain ⟨bs, hb, h2⟩ := is_bytes (he (bsT d) (List.mem_map_of_mem hd))
 have h3 : d.map byteT = bs.map byteT := by
   have : T.sl (d.map byteT) = T.sl (bs.map byteT) := h2
   exact T.sl.inj this
 have h4 := congrArg List.length h3
 simp only [List.length_map] at h4
 omega
theorem is_pair {y : T} (h : (Ty.st [.int .i64, .int .i64]).is y) : ∃ a b : Int, (-9223372036854775808 ≤ a ∧ a < 9223372036854775808) ∧ (-9223372036854775808 ≤ b ∧ b < 9223372036854775808) ∧ y = .agg [.int .i64 a, .int .i64 b] := by
 obtain ⟨cs, hc, rfl⟩ := h
 obtain ⟨x, r, hx, hr, rfl⟩ := hc
 obtain ⟨x2, r2, hx2, hr2, rfl⟩ := hr
 cases hr2
 obtain ⟨a, ha, rfl⟩ := is_int hx
 obtain ⟨b, hb, rfl⟩ := is_int hx2
 exact ⟨a, b, ha, hb, rfl⟩
theorem is_rows2 {y : T} (h : (Ty.sl (.sl (.int .u8))).is y) : ∃ l : List (List UInt8), l.length ≤ 9223372036854775807 ∧ (∀ d ∈ l, d.length ≤ 9223372036854775807) ∧ y = .sl (l.map bsT) := by
 obtain ⟨l, h1, h2, h3⟩ := is_rows h
 exact ⟨l, h1, fun d hd => by have := h2 d hd; omega, h3⟩
theorem is_ev {y : T} (h : (Ty.st [.int .i64, .int .i64, .sl (.sl (.int .u8)), .sl (.int .u8)]).is y) : ∃ (a b : Int) (l : List (List UInt8)) (d : List UInt8), (l.length ≤ 9223372036854775807 ∧ (∀ d ∈ l, d.length ≤ 9223372036854775807) ∧ d.length ≤ 9223372036854775807) ∧ y = .agg [.int .i64 a, .int .i64 b, .sl (l.map bsT), .sl (d.map byteT)] := by
 obtain ⟨cs, hc, rfl⟩ := h
 obtain ⟨x, r, hx, hr, rfl⟩ := hc
 obtain ⟨x2, r2, hx2, hr2, rfl⟩ := hr
 obtain ⟨x3, r3, hx3, hr3, rfl⟩ := hr2
 obtain ⟨x4, r4, hx4, hr4, rfl⟩ := hr3
 cases hr4
 obtain ⟨a, _, rfl⟩ := is_int hx
 obtain ⟨b, _, rfl⟩ := is_int hx2
 obtain ⟨l, h1, h2, rfl⟩ := is_rows2 hx3
 obtain ⟨d, h3, rfl⟩ := is_bytes hx4
 exact ⟨a, b, l, d, ⟨h1, h2, h3⟩, rfl⟩
end Go.Eng
end
section
set_option maxRecDepth 20000
namespace Go.Eng
theorem is_lg {y : T} (h : (Ty.st [.int .i64, .int .i64, .sl (.st [.int .i64, .int .i64, .sl (.sl (.int .u8)), .sl (.int .u8)])]).is y) : ∃ (a b : Int) (es : List Ev), lgX es ∧ y = .agg [.int .i64 a, .int .i64 b, .sl (es.map evT)] := by
 obtain ⟨cs, hc, rfl⟩ := h
 obtain ⟨x, r, hx, hr, rfl⟩ := hc
 obtain ⟨x2, r2, hx2, hr2, rfl⟩ := hr
 obtain ⟨x3, r3, hx3, hr3, rfl⟩ := hr2
 cases hr3
 obtain ⟨a, _, rfl⟩ := is_int hx
 obtain ⟨b, _, rfl⟩ := is_int hx2
 obtain ⟨es, hl, he, rfl⟩ := hx3
 have key : ∀ y ∈ es, ∃ e : Ev, y = evT e ∧ evX e := fun y hy => by
   obtain ⟨p, q, ds, d, hm, rfl⟩ := is_ev (he y hy)
   exact ⟨(p, q, ds, d), rfl, hm⟩
 obtain ⟨l, hl2⟩ := list_of (f := evT) (es := es) (fun y hy => by obtain ⟨e, h1, _⟩ := key y hy; exact ⟨e, h1⟩)
 subst hl2
 rw [List.length_map, mx] at hl
 refine ⟨a, b, l, ⟨hl, fun e he2 => ?_⟩, rfl⟩
 obtain ⟨e', h1, h2⟩ := key (evT e) (List.mem_map_of_mem he2)
 cases evT_inj h1
 exact h2
end Go.Eng
end
