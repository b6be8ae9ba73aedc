/- My own text: an abstract machine, its walks over the functions reached, and their tie to the program. -/
import Derived.Test.YtldnhemfgkfiiaaGreatDoorU3
set_option linter.unusedSimpArgs false
set_option linter.unusedVariables false
section
set_option maxRecDepth 20000
set_option maxHeartbeats 64000000
namespace Go.Eng
theorem w_ref8_Extend2 (tab : Tab) (gl : Gl) (n1 n2 n3 n4 n5 n6 : Nat) (h2 : tab.look n1 = some ct_rleast.fs) (h3 : tab.look n2 = some ct_actv.fs) (h4 : tab.look n3 = some ct_size.fs) (h5 : tab.look n4 = some ct_twin.fs) (h7 : tab.look n5 = some ct_copy.fs) (h6 : tab.look n6 = some ct_sumA.fs)
   (b0 b1 : Bank) (u loc : Int) (n : Nat) (d0 d1 : List UInt8) (hu : 0 ≤ u ∧ u < 1000000000) (hk : RM [b0, b1]) (hv0 : (b0.getD n []).length ≤ 64) (hv1 : (b1.getD n []).length ≤ 64) (hd : d0.length < 9223372036854775808 ∧ d1.length < 9223372036854775808) (e1 : ¬(loc < 0 ∨ 4 < loc ∨ 16 ≤ n)) (e2 : ¬ loc < leastI n false) :
   (ac_ref8_Extend n1 n2 n3 n4 n5 n6).wp tab gl (zipF 0 [.t (regT [b0, b1] u), .t (.int .i64 loc), .t (.int .i64 n), .t (.sl [bsT d0, bsT d1])]) (zipF 0 []) (resW [(8, some (2, true)), (9, none)] 0 (fun r o => r = extR [b0, b1] u loc n [d0, d1] ∧ o = [])) := by
 have gg : bkOk b0 ∧ bkOk b1 := by
   obtain ⟨hrk, _⟩ := hk
   cases hrk with
   | two _ _ h0 h1 => exact ⟨h0, h1⟩
 obtain ⟨g0, g1⟩ := gg
 have a6 : ¬ leastI (n : Int) false = 5 := by unfold leastI; split <;> (try split) <;> (try split) <;> simp_all
 simp (disch := omega) only [go_sem, seval, ac_ref8_Extend, h2, rleast_eq, a6, List.map_nil, List.map_cons]
 refine loopW_weak (fs' := [(2, .t (.int .i64 (n : Nat))), (3, .t (.sl [bsT d0, bsT d1])), (4, .ref 4096 0 0), (8, .ref 4112 0 0), (10, .t (.int .i64 0))]) (hs' := [(4112, .live 2 [.agg [.nil, .t (.int .i64 0)]] true true), (4096, .live 2 [.t (regT [b0, b1] u)] true true)]) (Weak.rd id ?_ ?_ rfl) ?_
 · simp (disch := omega) only [go_sem, seval, id]
 · simp (disch := omega) only [go_sem, seval, id]
 rcases g0 with z0 | z0 <;> rcases g1 with z1 | z1
 · have zz : True := trivial
   by_cases p2 : 0 < d0.length
   · have zz : True := trivial
     have hE : extE 0 0 loc n 2 d0.length d1.length = 27 := by unfold extE; rw [if_neg (by omega), if_neg (by omega), if_pos (by omega)]
     refine loop_fuel 3 ?_
     simp (disch := omega) only [go_sem, seval, loopN_succ, ac_ref8_Extend_L0, h3, actv_eq0 hk.1, actv_eq1 hk.1, h4, size_eq0, size_eq1, h5, twin_eq2 hk, h7, copy_eq, h6, sumA_eq0, sumA_eq1, z0, z1, hE, List.map_nil, extR, extEr, List.getD_cons_zero, List.getD_cons_succ, List.length_cons, List.length_nil]
     all_goals repeat refine And.intro rfl ?_
     all_goals rfl
   · have zz : True := trivial
     by_cases p1 : 0 < d1.length
     · have zz : True := trivial
       have hE : extE 0 0 loc n 2 d0.length d1.length = 27 := by unfold extE; rw [if_neg (by omega), if_neg (by omega), if_pos (by omega)]
       refine loop_fuel 3 ?_
       simp (disch := omega) only [go_sem, seval, loopN_succ, ac_ref8_Extend_L0, h3, actv_eq0 hk.1, actv_eq1 hk.1, h4, size_eq0, size_eq1, h5, twin_eq2 hk, h7, copy_eq, h6, sumA_eq0, sumA_eq1, z0, z1, hE, List.map_nil, extR, extEr, List.getD_cons_zero, List.getD_cons_succ, List.length_cons, List.length_nil]
       all_goals repeat refine And.intro rfl ?_
       all_goals rfl
     · have zz : True := trivial
       refine loop_fuel 3 ?_
       simp (disch := omega) only [go_sem, seval, loopN_succ, ac_ref8_Extend_L0, h3, actv_eq0 hk.1, actv_eq1 hk.1, h4, size_eq0, size_eq1, h5, twin_eq2 hk, h7, copy_eq, h6, sumA_eq0, sumA_eq1, z0, z1]
       all_goals repeat refine And.intro rfl ?_
       refine loopW_weak (fs' := [(2, .t (.int .i64 (n : Nat))), (3, .t (.sl [bsT d0, bsT d1])), (4, .ref 4096 0 0), (8, .ref 4112 0 0), (11, .t (.int .i64 0))]) (hs' := [(4112, .live 2 [.agg [.nil, .t (.int .i64 0)]] true true), (4096, .live 2 [.t (regT [b0, b1] u)] true true)]) (Weak.rd id ?_ ?_ rfl) ?_
       · simp (disch := omega) only [go_sem, seval, id]
       · simp (disch := omega) only [go_sem, seval, id]
       have hE : extE 0 0 loc n 2 d0.length d1.length = 0 := by unfold extE; rw [if_neg (by omega), if_neg (by omega), if_neg (by omega), if_neg (by omega)]
       refine loop_fuel 3 ?_
       simp (disch := omega) only [go_sem, seval, loopN_succ, ac_ref8_Extend_L1, h3, actv_eq0 hk.1, actv_eq1 hk.1, h4, size_eq0, size_eq1, h5, twin_eq2 hk, h7, copy_eq, h6, sumA_eq0, sumA_eq1, z0, z1]
       all_goals repeat refine And.intro rfl ?_
       refine loop_upto 2 (fun k => match k with | 0 => [(2, .t (.int .i64 (n : Nat))), (3, .t (.sl [bsT d0, bsT d1])), (4, .ref 4096 0 0), (8, .ref 4112 0 0), (12, .ref 65568 0 0), (13, .t (.int .i64 0))] | 1 => [(2, .t (.int .i64 (n : Nat))), (3, .t (.sl [bsT d0, bsT d1])), (4, .ref 4096 0 0), (8, .ref 4112 0 0), (12, .ref 65568 0 0), (13, .t (.int .i64 1))] | _ => [(2, .t (.int .i64 (n : Nat))), (3, .t (.sl [bsT d0, bsT d1])), (4, .ref 4096 0 0), (8, .ref 4112 0 0), (12, .ref 65568 0 0), (13, .t (.int .i64 2))]) (fun k => match k with | 0 => [(65568, .live 2 [.agg [.sl 65552 0 2, .t (.int .i64 u)]] true true), (65554, .live 1 (((b1).map bsT).map V.t) true false), (65553, .live 1 (((b0).map bsT).map V.t) true false), (65552, .live 1 [.sl 65553 0 0, .sl 65554 0 0] true false), (4112, .live 2 [.agg [.nil, .t (.int .i64 0)]] true true), (4096, .live 2 [.t (regT [b0, b1] u)] true true)] | 1 => [(65568, .live 2 [.agg [.sl 65552 0 2, .t (.int .i64 u)]] true true), (65554, .live 1 (((b1).map bsT).map V.t) true false), (65553, .live 1 (((ext1 0 b0 n d0).map bsT).map V.t) true false), (65552, .live 1 [.sl 65553 0 0, .sl 65554 0 0] true false), (4112, .live 2 [.agg [.nil, .t (.int .i64 0)]] true true), (4096, .live 2 [.t (regT [b0, b1] u)] true true)] | _ => [(65568, .live 2 [.agg [.sl 65552 0 2, .t (.int .i64 u)]] true true), (65554, .live 1 (((ext1 1 b1 n d1).map bsT).map V.t) true false), (65553, .live 1 (((ext1 0 b0 n d0).map bsT).map V.t) true false), (65552, .live 1 [.sl 65553 0 0, .sl 65554 0 0] true false), (4112, .live 2 [.agg [.nil, .t (.int .i64 0)]] true true), (4096, .live 2 [.t (regT [b0, b1] u)] true true)]) ?_ (fun k hk2 => ?_)
       · refine Weak.rd id ?_ ?_ rfl
         all_goals simp (disch := omega) only [go_sem, seval, id, z0, z1]
       · rcases (show k = 0 ∨ k = 1 ∨ k = 2 by omega) with rfl | rfl | rfl
         · have q := List.take_of_length_le (show (b0.getD n [] ++ d0).length ≤ (List.getD b0 n []).length + d0.length by rw [List.length_append]; exact Nat.le_refl _)
           simp (disch := omega) only [go_sem, seval, ac_ref8_Extend_L2, h3, actv_eq0 hk.1, actv_eq1 hk.1, h4, size_eq0, size_eq1, h5, twin_eq2 hk, h7, copy_eq, h6, sumA_eq0, sumA_eq1, z0, z1, ext1_length, q]
           refine Weak.rd id ?_ ?_ rfl
           all_goals simp (disch := omega) only [go_sem, seval, id, ext1, z0, z1]
         · have q := List.take_of_length_le (show (b1.getD n [] ++ d1).length ≤ (List.getD b1 n []).length + d1.length by rw [List.length_append]; exact Nat.le_refl _)
           simp (disch := omega) only [go_sem, seval, ac_ref8_Extend_L2, h3, actv_eq0 hk.1, actv_eq1 hk.1, h4, size_eq0, size_eq1, h5, twin_eq2 hk, h7, copy_eq, h6, sumA_eq0, sumA_eq1, z0, z1, ext1_length, q]
           refine Weak.rd id ?_ ?_ rfl
           all_goals simp (disch := omega) only [go_sem, seval, id, ext1, z0, z1]
         · have t0 : List.take 0 (ext1 0 b0 n d0) = ext1 0 b0 n d0 := List.take_of_length_le (by rw [ext1_length, z0]; exact Nat.le_refl _)
           have t1 : List.take 0 (ext1 1 b1 n d1) = ext1 1 b1 n d1 := List.take_of_length_le (by rw [ext1_length, z1]; exact Nat.le_refl _)
           have y0 : ext1 0 b0 n d0 = [] := List.eq_nil_of_length_eq_zero (by rw [ext1_length, z0])
           have y1 : ext1 1 b1 n d1 = [] := List.eq_nil_of_length_eq_zero (by rw [ext1_length, z1])
           simp (disch := omega) only [go_sem, seval, ac_ref8_Extend_L2, ext1_length, t0, t1, z0, z1, hE, extBk, Int.toNat_natCast, List.map_cons, List.map_nil, y0, y1, extR, extEr, List.getD_cons_zero, List.getD_cons_succ, List.length_cons, List.length_nil]
 · have zz : True := trivial
   by_cases p1 : 0 < d0.length
   · have zz : True := trivial
     have hE : extE 0 16 loc n 2 d0.length d1.length = 27 := by unfold extE; rw [if_neg (by omega), if_neg (by omega), if_pos (by omega)]
     refine loop_fuel 3 ?_
     simp (disch := omega) only [go_sem, seval, loopN_succ, ac_ref8_Extend_L0, h3, actv_eq0 hk.1, actv_eq1 hk.1, h4, size_eq0, size_eq1, h5, twin_eq2 hk, h7, copy_eq, h6, sumA_eq0, sumA_eq1, z0, z1, hE, List.map_nil, extR, extEr, List.getD_cons_zero, List.getD_cons_succ, List.length_cons, List.length_nil]
     all_goals repeat refine And.intro rfl ?_
     all_goals rfl
   · have zz : True := trivial
     refine loop_fuel 3 ?_
     simp (disch := omega) only [go_sem, seval, loopN_succ, ac_ref8_Extend_L0, h3, actv_eq0 hk.1, actv_eq1 hk.1, h4, size_eq0, size_eq1, h5, twin_eq2 hk, h7, copy_eq, h6, sumA_eq0, sumA_eq1, z0, z1]
     all_goals repeat refine And.intro rfl ?_
     refine loopW_weak (fs' := [(2, .t (.int .i64 (n : Nat))), (3, .t (.sl [bsT d0, bsT d1])), (4, .ref 4096 0 0), (8, .ref 4112 0 0), (11, .t (.int .i64 0))]) (hs' := [(4112, .live 2 [.agg [.nil, .t (.int .i64 0)]] true true), (4096, .live 2 [.t (regT [b0, b1] u)] true true)]) (Weak.rd id ?_ ?_ rfl) ?_
     · simp (disch := omega) only [go_sem, seval, id]
     · simp (disch := omega) only [go_sem, seval, id]
     by_cases q1 : d1.length ≠ 32
     · have zz : True := trivial
       have hE : extE 0 16 loc n 2 d0.length d1.length = 24 := by unfold extE; rw [if_neg (by omega), if_neg (by omega), if_neg (by omega), if_pos (by omega)]
       refine loop_fuel 3 ?_
       simp (disch := omega) only [go_sem, seval, loopN_succ, ac_ref8_Extend_L1, h3, actv_eq0 hk.1, actv_eq1 hk.1, h4, size_eq0, size_eq1, h5, twin_eq2 hk, h7, copy_eq, h6, sumA_eq0, sumA_eq1, z0, z1, hE, List.map_nil, extR, extEr, List.getD_cons_zero, List.getD_cons_succ, List.length_cons, List.length_nil]
       all_goals repeat refine And.intro rfl ?_
       all_goals rfl
     · have zz : True := trivial
       have hE : extE 0 16 loc n 2 d0.length d1.length = 0 := by unfold extE; rw [if_neg (by omega), if_neg (by omega), if_neg (by omega), if_neg (by omega)]
       refine loop_fuel 3 ?_
       simp (disch := omega) only [go_sem, seval, loopN_succ, ac_ref8_Extend_L1, h3, actv_eq0 hk.1, actv_eq1 hk.1, h4, size_eq0, size_eq1, h5, twin_eq2 hk, h7, copy_eq, h6, sumA_eq0, sumA_eq1, z0, z1]
       all_goals repeat refine And.intro rfl ?_
       refine loop_upto 2 (fun k => match k with | 0 => [(2, .t (.int .i64 (n : Nat))), (3, .t (.sl [bsT d0, bsT d1])), (4, .ref 4096 0 0), (8, .ref 4112 0 0), (12, .ref 65568 0 0), (13, .t (.int .i64 0))] | 1 => [(2, .t (.int .i64 (n : Nat))), (3, .t (.sl [bsT d0, bsT d1])), (4, .ref 4096 0 0), (8, .ref 4112 0 0), (12, .ref 65568 0 0), (13, .t (.int .i64 1))] | _ => [(2, .t (.int .i64 (n : Nat))), (3, .t (.sl [bsT d0, bsT d1])), (4, .ref 4096 0 0), (8, .ref 4112 0 0), (12, .ref 65568 0 0), (13, .t (.int .i64 2))]) (fun k => match k with | 0 => [(65568, .live 2 [.agg [.sl 65552 0 2, .t (.int .i64 u)]] true true), (65554, .live 1 (((b1).map bsT).map V.t) true false), (65553, .live 1 (((b0).map bsT).map V.t) true false), (65552, .live 1 [.sl 65553 0 0, .sl 65554 0 16] true false), (4112, .live 2 [.agg [.nil, .t (.int .i64 0)]] true true), (4096, .live 2 [.t (regT [b0, b1] u)] true true)] | 1 => [(65568, .live 2 [.agg [.sl 65552 0 2, .t (.int .i64 u)]] true true), (65554, .live 1 (((b1).map bsT).map V.t) true false), (65553, .live 1 (((ext1 0 b0 n d0).map bsT).map V.t) true false), (65552, .live 1 [.sl 65553 0 0, .sl 65554 0 16] true false), (4112, .live 2 [.agg [.nil, .t (.int .i64 0)]] true true), (4096, .live 2 [.t (regT [b0, b1] u)] true true)] | _ => [(65568, .live 2 [.agg [.sl 65552 0 2, .t (.int .i64 u)]] true true), (65554, .live 1 (((ext1 1 b1 n d1).map bsT).map V.t) true false), (65553, .live 1 (((ext1 0 b0 n d0).map bsT).map V.t) true false), (65552, .live 1 [.sl 65553 0 0, .sl 65554 0 16] true false), (4112, .live 2 [.agg [.nil, .t (.int .i64 0)]] true true), (4096, .live 2 [.t (regT [b0, b1] u)] true true)]) ?_ (fun k hk2 => ?_)
       · refine Weak.rd id ?_ ?_ rfl
         all_goals simp (disch := omega) only [go_sem, seval, id, z0, z1]
       · rcases (show k = 0 ∨ k = 1 ∨ k = 2 by omega) with rfl | rfl | rfl
         · have q := List.take_of_length_le (show (b0.getD n [] ++ d0).length ≤ (List.getD b0 n []).length + d0.length by rw [List.length_append]; exact Nat.le_refl _)
           simp (disch := omega) only [go_sem, seval, ac_ref8_Extend_L2, h3, actv_eq0 hk.1, actv_eq1 hk.1, h4, size_eq0, size_eq1, h5, twin_eq2 hk, h7, copy_eq, h6, sumA_eq0, sumA_eq1, z0, z1, ext1_length, q]
           refine Weak.rd id ?_ ?_ rfl
           all_goals simp (disch := omega) only [go_sem, seval, id, ext1, z0, z1]
         · have q := List.take_of_length_le (show (b1.getD n [] ++ d1).length ≤ (List.getD b1 n []).length + d1.length by rw [List.length_append]; exact Nat.le_refl _)
           simp (config := { maxSteps := 2000000 }) (disch := (first | omega | (simp only [lens, lenm]; omega))) only [go_sem, seval, ac_ref8_Extend_L2, h3, actv_eq0 hk.1, actv_eq1 hk.1, h4, size_eq0, size_eq1, h5, twin_eq2 hk, h7, copy_eq, h6, sumA_eq0, sumA_eq1, z0, z1, ext1_length, q]
           repeat refine And.intro rfl ?_
           refine Weak.cv (hv := []) [86352] id ?_ rfl
           simp (config := { maxSteps := 2000000 }) (disch := (first | omega | (simp only [lens, lenm]; omega))) only [go_sem, seval, id, ext1, z0, z1, take_sum1, take_sum256, sumA0, sumA1, sum1_length, sum256_length]
           all_goals rfl
         · have t0 : List.take 0 (ext1 0 b0 n d0) = ext1 0 b0 n d0 := List.take_of_length_le (by rw [ext1_length, z0]; exact Nat.le_refl _)
           have t1 : List.take 16 (ext1 1 b1 n d1) = ext1 1 b1 n d1 := List.take_of_length_le (by rw [ext1_length, z1]; exact Nat.le_refl _)
           have y0 : ext1 0 b0 n d0 = [] := List.eq_nil_of_length_eq_zero (by rw [ext1_length, z0])
           simp (disch := omega) only [go_sem, seval, ac_ref8_Extend_L2, ext1_length, t0, t1, z0, z1, hE, extBk, Int.toNat_natCast, List.map_cons, List.map_nil, y0, extR, extEr, List.getD_cons_zero, List.getD_cons_succ, List.length_cons, List.length_nil]
 · have zz : True := trivial
   by_cases p1 : 0 < d1.length
   · have zz : True := trivial
     have hE : extE 16 0 loc n 2 d0.length d1.length = 27 := by unfold extE; rw [if_neg (by omega), if_neg (by omega), if_pos (by omega)]
     refine loop_fuel 3 ?_
     simp (disch := omega) only [go_sem, seval, loopN_succ, ac_ref8_Extend_L0, h3, actv_eq0 hk.1, actv_eq1 hk.1, h4, size_eq0, size_eq1, h5, twin_eq2 hk, h7, copy_eq, h6, sumA_eq0, sumA_eq1, z0, z1, hE, List.map_nil, extR, extEr, List.getD_cons_zero, List.getD_cons_succ, List.length_cons, List.length_nil]
     all_goals repeat refine And.intro rfl ?_
     all_goals rfl
   · have zz : True := trivial
     refine loop_fuel 3 ?_
     simp (disch := omega) only [go_sem, seval, loopN_succ, ac_ref8_Extend_L0, h3, actv_eq0 hk.1, actv_eq1 hk.1, h4, size_eq0, size_eq1, h5, twin_eq2 hk, h7, copy_eq, h6, sumA_eq0, sumA_eq1, z0, z1]
     all_goals repeat refine And.intro rfl ?_
     refine loopW_weak (fs' := [(2, .t (.int .i64 (n : Nat))), (3, .t (.sl [bsT d0, bsT d1])), (4, .ref 4096 0 0), (8, .ref 4112 0 0), (11, .t (.int .i64 0))]) (hs' := [(4112, .live 2 [.agg [.nil, .t (.int .i64 0)]] true true), (4096, .live 2 [.t (regT [b0, b1] u)] true true)]) (Weak.rd id ?_ ?_ rfl) ?_
     · simp (disch := omega) only [go_sem, seval, id]
     · simp (disch := omega) only [go_sem, seval, id]
     by_cases q1 : d0.length ≠ 20
     · have zz : True := trivial
       have hE : extE 16 0 loc n 2 d0.length d1.length = 24 := by unfold extE; rw [if_neg (by omega), if_neg (by omega), if_neg (by omega), if_pos (by omega)]
       refine loop_fuel 3 ?_
       simp (disch := omega) only [go_sem, seval, loopN_succ, ac_ref8_Extend_L1, h3, actv_eq0 hk.1, actv_eq1 hk.1, h4, size_eq0, size_eq1, h5, twin_eq2 hk, h7, copy_eq, h6, sumA_eq0, sumA_eq1, z0, z1, hE, List.map_nil, extR, extEr, List.getD_cons_zero, List.getD_cons_succ, List.length_cons, List.length_nil]
       all_goals repeat refine And.intro rfl ?_
       all_goals rfl
     · have zz : True := trivial
       have hE : extE 16 0 loc n 2 d0.length d1.length = 0 := by unfold extE; rw [if_neg (by omega), if_neg (by omega), if_neg (by omega), if_neg (by omega)]
       refine loop_fuel 3 ?_
       simp (disch := omega) only [go_sem, seval, loopN_succ, ac_ref8_Extend_L1, h3, actv_eq0 hk.1, actv_eq1 hk.1, h4, size_eq0, size_eq1, h5, twin_eq2 hk, h7, copy_eq, h6, sumA_eq0, sumA_eq1, z0, z1]
       all_goals repeat refine And.intro rfl ?_
       refine loop_upto 2 (fun k => match k with | 0 => [(2, .t (.int .i64 (n : Nat))), (3, .t (.sl [bsT d0, bsT d1])), (4, .ref 4096 0 0), (8, .ref 4112 0 0), (12, .ref 65568 0 0), (13, .t (.int .i64 0))] | 1 => [(2, .t (.int .i64 (n : Nat))), (3, .t (.sl [bsT d0, bsT d1])), (4, .ref 4096 0 0), (8, .ref 4112 0 0), (12, .ref 65568 0 0), (13, .t (.int .i64 1))] | _ => [(2, .t (.int .i64 (n : Nat))), (3, .t (.sl [bsT d0, bsT d1])), (4, .ref 4096 0 0), (8, .ref 4112 0 0), (12, .ref 65568 0 0), (13, .t (.int .i64 2))]) (fun k => match k with | 0 => [(65568, .live 2 [.agg [.sl 65552 0 2, .t (.int .i64 u)]] true true), (65554, .live 1 (((b1).map bsT).map V.t) true false), (65553, .live 1 (((b0).map bsT).map V.t) true false), (65552, .live 1 [.sl 65553 0 16, .sl 65554 0 0] true false), (4112, .live 2 [.agg [.nil, .t (.int .i64 0)]] true true), (4096, .live 2 [.t (regT [b0, b1] u)] true true)] | 1 => [(65568, .live 2 [.agg [.sl 65552 0 2, .t (.int .i64 u)]] true true), (65554, .live 1 (((b1).map bsT).map V.t) true false), (65553, .live 1 (((ext1 0 b0 n d0).map bsT).map V.t) true false), (65552, .live 1 [.sl 65553 0 16, .sl 65554 0 0] true false), (4112, .live 2 [.agg [.nil, .t (.int .i64 0)]] true true), (4096, .live 2 [.t (regT [b0, b1] u)] true true)] | _ => [(65568, .live 2 [.agg [.sl 65552 0 2, .t (.int .i64 u)]] true true), (65554, .live 1 (((ext1 1 b1 n d1).map bsT).map V.t) true false), (65553, .live 1 (((ext1 0 b0 n d0).map bsT).map V.t) true false), (65552, .live 1 [.sl 65553 0 16, .sl 65554 0 0] true false), (4112, .live 2 [.agg [.nil, .t (.int .i64 0)]] true true), (4096, .live 2 [.t (regT [b0, b1] u)] true true)]) ?_ (fun k hk2 => ?_)
       · refine Weak.rd id ?_ ?_ rfl
         all_goals simp (disch := omega) only [go_sem, seval, id, z0, z1]
       · rcases (show k = 0 ∨ k = 1 ∨ k = 2 by omega) with rfl | rfl | rfl
         · have q := List.take_of_length_le (show (b0.getD n [] ++ d0).length ≤ (List.getD b0 n []).length + d0.length by rw [List.length_append]; exact Nat.le_refl _)
           simp (config := { maxSteps := 2000000 }) (disch := (first | omega | (simp only [lens, lenm]; omega))) only [go_sem, seval, ac_ref8_Extend_L2, h3, actv_eq0 hk.1, actv_eq1 hk.1, h4, size_eq0, size_eq1, h5, twin_eq2 hk, h7, copy_eq, h6, sumA_eq0, sumA_eq1, z0, z1, ext1_length, q]
           repeat refine And.intro rfl ?_
           refine Weak.cv (hv := []) [86352] id ?_ rfl
           simp (config := { maxSteps := 2000000 }) (disch := (first | omega | (simp only [lens, lenm]; omega))) only [go_sem, seval, id, ext1, z0, z1, take_sum1, take_sum256, sumA0, sumA1, sum1_length, sum256_length]
           all_goals rfl
         · have q := List.take_of_length_le (show (b1.getD n [] ++ d1).length ≤ (List.getD b1 n []).length + d1.length by rw [List.length_append]; exact Nat.le_refl _)
           simp (disch := omega) only [go_sem, seval, ac_ref8_Extend_L2, h3, actv_eq0 hk.1, actv_eq1 hk.1, h4, size_eq0, size_eq1, h5, twin_eq2 hk, h7, copy_eq, h6, sumA_eq0, sumA_eq1, z0, z1, ext1_length, q]
           refine Weak.rd id ?_ ?_ rfl
           all_goals simp (disch := omega) only [go_sem, seval, id, ext1, z0, z1]
         · have t0 : List.take 16 (ext1 0 b0 n d0) = ext1 0 b0 n d0 := List.take_of_length_le (by rw [ext1_length, z0]; exact Nat.le_refl _)
           have t1 : List.take 0 (ext1 1 b1 n d1) = ext1 1 b1 n d1 := List.take_of_length_le (by rw [ext1_length, z1]; exact Nat.le_refl _)
           have y1 : ext1 1 b1 n d1 = [] := List.eq_nil_of_length_eq_zero (by rw [ext1_length, z1])
           simp (disch := omega) only [go_sem, seval, ac_ref8_Extend_L2, ext1_length, t0, t1, z0, z1, hE, extBk, Int.toNat_natCast, List.map_cons, List.map_nil, y1, extR, extEr, List.getD_cons_zero, List.getD_cons_succ, List.length_cons, List.length_nil]
 · have zz : True := trivial
   refine loop_fuel 3 ?_
   simp (disch := omega) only [go_sem, seval, loopN_succ, ac_ref8_Extend_L0, h3, actv_eq0 hk.1, actv_eq1 hk.1, h4, size_eq0, size_eq1, h5, twin_eq2 hk, h7, copy_eq, h6, sumA_eq0, sumA_eq1, z0, z1]
   all_goals repeat refine And.intro rfl ?_
   refine loopW_weak (fs' := [(2, .t (.int .i64 (n : Nat))), (3, .t (.sl [bsT d0, bsT d1])), (4, .ref 4096 0 0), (8, .ref 4112 0 0), (11, .t (.int .i64 0))]) (hs' := [(4112, .live 2 [.agg [.nil, .t (.int .i64 0)]] true true), (4096, .live 2 [.t (regT [b0, b1] u)] true true)]) (Weak.rd id ?_ ?_ rfl) ?_
   · simp (disch := omega) only [go_sem, seval, id]
   · simp (disch := omega) only [go_sem, seval, id]
   by_cases q2 : d0.length ≠ 20
   · have zz : True := trivial
     have hE : extE 16 16 loc n 2 d0.length d1.length = 24 := by unfold extE; rw [if_neg (by omega), if_neg (by omega), if_neg (by omega), if_pos (by omega)]
     refine loop_fuel 3 ?_
     simp (disch := omega) only [go_sem, seval, loopN_succ, ac_ref8_Extend_L1, h3, actv_eq0 hk.1, actv_eq1 hk.1, h4, size_eq0, size_eq1, h5, twin_eq2 hk, h7, copy_eq, h6, sumA_eq0, sumA_eq1, z0, z1, hE, List.map_nil, extR, extEr, List.getD_cons_zero, List.getD_cons_succ, List.length_cons, List.length_nil]
     all_goals repeat refine And.intro rfl ?_
     all_goals rfl
   · have zz : True := trivial
     by_cases q1 : d1.length ≠ 32
     · have zz : True := trivial
       have hE : extE 16 16 loc n 2 d0.length d1.length = 24 := by unfold extE; rw [if_neg (by omega), if_neg (by omega), if_neg (by omega), if_pos (by omega)]
       refine loop_fuel 3 ?_
       simp (disch := omega) only [go_sem, seval, loopN_succ, ac_ref8_Extend_L1, h3, actv_eq0 hk.1, actv_eq1 hk.1, h4, size_eq0, size_eq1, h5, twin_eq2 hk, h7, copy_eq, h6, sumA_eq0, sumA_eq1, z0, z1, hE, List.map_nil, extR, extEr, List.getD_cons_zero, List.getD_cons_succ, List.length_cons, List.length_nil]
       all_goals repeat refine And.intro rfl ?_
       all_goals rfl
     · have zz : True := trivial
       have hE : extE 16 16 loc n 2 d0.length d1.length = 0 := by unfold extE; rw [if_neg (by omega), if_neg (by omega), if_neg (by omega), if_neg (by omega)]
       refine loop_fuel 3 ?_
       simp (disch := omega) only [go_sem, seval, loopN_succ, ac_ref8_Extend_L1, h3, actv_eq0 hk.1, actv_eq1 hk.1, h4, size_eq0, size_eq1, h5, twin_eq2 hk, h7, copy_eq, h6, sumA_eq0, sumA_eq1, z0, z1]
       all_goals repeat refine And.intro rfl ?_
       refine loop_upto 2 (fun k => match k with | 0 => [(2, .t (.int .i64 (n : Nat))), (3, .t (.sl [bsT d0, bsT d1])), (4, .ref 4096 0 0), (8, .ref 4112 0 0), (12, .ref 65568 0 0), (13, .t (.int .i64 0))] | 1 => [(2, .t (.int .i64 (n : Nat))), (3, .t (.sl [bsT d0, bsT d1])), (4, .ref 4096 0 0), (8, .ref 4112 0 0), (12, .ref 65568 0 0), (13, .t (.int .i64 1))] | _ => [(2, .t (.int .i64 (n : Nat))), (3, .t (.sl [bsT d0, bsT d1])), (4, .ref 4096 0 0), (8, .ref 4112 0 0), (12, .ref 65568 0 0), (13, .t (.int .i64 2))]) (fun k => match k with | 0 => [(65568, .live 2 [.agg [.sl 65552 0 2, .t (.int .i64 u)]] true true), (65554, .live 1 (((b1).map bsT).map V.t) true false), (65553, .live 1 (((b0).map bsT).map V.t) true false), (65552, .live 1 [.sl 65553 0 16, .sl 65554 0 16] true false), (4112, .live 2 [.agg [.nil, .t (.int .i64 0)]] true true), (4096, .live 2 [.t (regT [b0, b1] u)] true true)] | 1 => [(65568, .live 2 [.agg [.sl 65552 0 2, .t (.int .i64 u)]] true true), (65554, .live 1 (((b1).map bsT).map V.t) true false), (65553, .live 1 (((ext1 0 b0 n d0).map bsT).map V.t) true false), (65552, .live 1 [.sl 65553 0 16, .sl 65554 0 16] true false), (4112, .live 2 [.agg [.nil, .t (.int .i64 0)]] true true), (4096, .live 2 [.t (regT [b0, b1] u)] true true)] | _ => [(65568, .live 2 [.agg [.sl 65552 0 2, .t (.int .i64 u)]] true true), (65554, .live 1 (((ext1 1 b1 n d1).map bsT).map V.t) true false), (65553, .live 1 (((ext1 0 b0 n d0).map bsT).map V.t) true false), (65552, .live 1 [.sl 65553 0 16, .sl 65554 0 16] true false), (4112, .live 2 [.agg [.nil, .t (.int .i64 0)]] true true), (4096, .live 2 [.t (regT [b0, b1] u)] true true)]) ?_ (fun k hk2 => ?_)
       · refine Weak.rd id ?_ ?_ rfl
         all_goals simp (disch := omega) only [go_sem, seval, id, z0, z1]
       · rcases (show k = 0 ∨ k = 1 ∨ k = 2 by omega) with rfl | rfl | rfl
         · have q := List.take_of_length_le (show (b0.getD n [] ++ d0).length ≤ (List.getD b0 n []).length + d0.length by rw [List.length_append]; exact Nat.le_refl _)
           simp (config := { maxSteps := 2000000 }) (disch := (first | omega | (simp only [lens, lenm]; omega))) only [go_sem, seval, ac_ref8_Extend_L2, h3, actv_eq0 hk.1, actv_eq1 hk.1, h4, size_eq0, size_eq1, h5, twin_eq2 hk, h7, copy_eq, h6, sumA_eq0, sumA_eq1, z0, z1, ext1_length, q]
           repeat refine And.intro rfl ?_
           refine Weak.cv (hv := []) [86352] id ?_ rfl
           simp (config := { maxSteps := 2000000 }) (disch := (first | omega | (simp only [lens, lenm]; omega))) only [go_sem, seval, id, ext1, z0, z1, take_sum1, take_sum256, sumA0, sumA1, sum1_length, sum256_length]
           all_goals rfl
         · have q := List.take_of_length_le (show (b1.getD n [] ++ d1).length ≤ (List.getD b1 n []).length + d1.length by rw [List.length_append]; exact Nat.le_refl _)
           simp (config := { maxSteps := 2000000 }) (disch := (first | omega | (simp only [lens, lenm]; omega))) only [go_sem, seval, ac_ref8_Extend_L2, h3, actv_eq0 hk.1, actv_eq1 hk.1, h4, size_eq0, size_eq1, h5, twin_eq2 hk, h7, copy_eq, h6, sumA_eq0, sumA_eq1, z0, z1, ext1_length, q]
           repeat refine And.intro rfl ?_
           refine Weak.cv (hv := []) [86352] id ?_ rfl
           simp (config := { maxSteps := 2000000 }) (disch := (first | omega | (simp only [lens, lenm]; omega))) only [go_sem, seval, id, ext1, z0, z1, take_sum1, take_sum256, sumA0, sumA1, sum1_length, sum256_length]
           all_goals rfl
         · have t0 : List.take 16 (ext1 0 b0 n d0) = ext1 0 b0 n d0 := List.take_of_length_le (by rw [ext1_length, z0]; exact Nat.le_refl _)
           have t1 : List.take 16 (ext1 1 b1 n d1) = ext1 1 b1 n d1 := List.take_of_length_le (by rw [ext1_length, z1]; exact Nat.le_refl _)
           simp (disch := omega) only [go_sem, seval, ac_ref8_Extend_L2, ext1_length, t0, t1, z0, z1, hE, extBk, Int.toNat_natCast, List.map_cons, List.map_nil, extR, extEr, List.getD_cons_zero, List.getD_cons_succ, List.length_cons, List.length_nil]
theorem w_registers_Extend_bad (tab : Tab) (gl : Gl) (n1 n2 n3 n4 n5 n6 : Nat) (h1 : tab.look n1 = some ct_index.fs) (h2 : tab.look n2 = some ct_least.fs) (bk : List Bank) (u loc i : Int) (ds : List (List UInt8)) (hd : ds.length < 1000000000)
   (hb : (loc < 0 ∨ 4 < loc ∨ i < 0 ∨ 16 ≤ i ∨ ds.length ≠ 2) ∨ loc < leastI i false) :
   (ac_registers_Extend n1 n2 n3 n4 n5 n6).wp tab gl (zipF 0 [.t (regT bk u), .t (.int .i64 loc), .t (.int .i64 i), .t (.sl (ds.map bsT))]) (zipF 0 []) (resW [(8, some (2, true)), (9, none)] 0 (fun r o => r = .tup [.t (regT [] 0), .t (.int .i64 (if loc < 0 ∨ 4 < loc ∨ i < 0 ∨ 16 ≤ i ∨ ds.length ≠ 2 then 1 else 13))] ∧ o = [])) := by
 by_cases a1 : loc < 0
 · simp (disch := omega) only [go_sem, seval, ac_registers_Extend, a1, List.map_nil]
 · by_cases a2 : 4 < loc
   · simp (disch := omega) only [go_sem, seval, ac_registers_Extend, a1, a2, List.map_nil]
   · by_cases a3 : i < 0
     · simp (disch := omega) only [go_sem, seval, ac_registers_Extend, a1, a2, a3, h1, index_f, List.map_nil]
     · by_cases a4 : 16 ≤ i
       · simp (disch := omega) only [go_sem, seval, ac_registers_Extend, a1, a2, a3, a4, h1, index_f, List.map_nil]
       · by_cases a5 : ds.length = 2
         · have a6 : loc < leastI i false := by rcases hb with h | h; · omega
                                                · exact h
           simp (disch := omega) only [go_sem, seval, ac_registers_Extend, a1, a2, a3, a4, a5, a6, h1, index_t, h2, least_eq, List.map_nil, ne_eq]
         · simp (disch := omega) only [go_sem, seval, ac_registers_Extend, a1, a2, a3, a4, a5, h1, index_t, List.map_nil, ne_eq]
theorem w_ref8_Extend_bad (tab : Tab) (gl : Gl) (n1 n2 n3 n4 n5 n6 : Nat) (h2 : tab.look n1 = some ct_rleast.fs) (bk : List Bank) (u loc i : Int) (ds : List (List UInt8)) (hd : ds.length < 1000000000)
   (hb : (loc < 0 ∨ 4 < loc ∨ i < 0 ∨ 16 ≤ i ∨ ds.length ≠ 2) ∨ loc < leastI i false) :
   (ac_ref8_Extend n1 n2 n3 n4 n5 n6).wp tab gl (zipF 0 [.t (regT bk u), .t (.int .i64 loc), .t (.int .i64 i), .t (.sl (ds.map bsT))]) (zipF 0 []) (resW [(8, some (2, true)), (9, none)] 0 (fun r o => r = .tup [.t (regT [] 0), .t (.int .i64 (if loc < 0 ∨ 4 < loc ∨ i < 0 ∨ 16 ≤ i ∨ ds.length ≠ 2 then 1 else 13))] ∧ o = [])) := by
 have a7 : ¬ leastI i false = 5 := by unfold leastI; split <;> (try split) <;> (try split) <;> simp_all
 by_cases a1 : loc < 0
 · simp (disch := omega) only [go_sem, seval, ac_ref8_Extend, a1, List.map_nil]
 · by_cases a2 : 4 < loc
   · simp (disch := omega) only [go_sem, seval, ac_ref8_Extend, a1, a2, List.map_nil]
   · by_cases a3 : i < 0
     · simp (disch := omega) only [go_sem, seval, ac_ref8_Extend, a1, a2, a3, List.map_nil]
     · by_cases a4 : 16 ≤ i
       · simp (disch := omega) only [go_sem, seval, ac_ref8_Extend, a1, a2, a3, a4, List.map_nil]
       · by_cases a5 : ds.length = 2
         · have a6 : loc < leastI i false := by rcases hb with h | h; · omega
                                                · exact h
           simp (disch := omega) only [go_sem, seval, ac_ref8_Extend, a1, a2, a3, a4, a5, a6, a7, h2, rleast_eq, List.map_nil, ne_eq]
         · simp (disch := omega) only [go_sem, seval, ac_ref8_Extend, a1, a2, a3, a4, a5, List.map_nil, ne_eq]
theorem actv_eqn {u : Int} {a : Nat} (ha : a < 2) : ct_actv.fs [.t (.agg [.sl [], .int .i64 u]), .t (.int .i64 a)] [] = some (.t (.bool false), []) := (actv_eq (bk := []) .nil (by omega)).trans (by simp [onB])
theorem w_registers_Extend0 (tab : Tab) (gl : Gl) (n1 n2 n3 n4 n5 n6 : Nat) (h1 : tab.look n1 = some ct_index.fs) (h2 : tab.look n2 = some ct_least.fs) (h3 : tab.look n3 = some ct_on.fs) (h5 : tab.look n5 = some ct_twin.fs)
   (u loc : Int) (n : Nat) (d0 d1 : List UInt8) (hu : 0 ≤ u ∧ u < 1000000000) (hd : d0.length < 9223372036854775808 ∧ d1.length < 9223372036854775808) (e1 : ¬(loc < 0 ∨ 4 < loc ∨ 16 ≤ n)) (e2 : ¬ loc < leastI n false) :
   (ac_registers_Extend n1 n2 n3 n4 n5 n6).wp tab gl (zipF 0 [.t (regT [] u), .t (.int .i64 loc), .t (.int .i64 n), .t (.sl [bsT d0, bsT d1])]) (zipF 0 []) (resW [(8, some (2, true)), (9, none)] 0 (fun r o => r = extR [] u loc n [d0, d1] ∧ o = [])) := by
 have c0 := on_eqn (u := u) (a := 0) (by omega)
 have c1 := on_eqn (u := u) (a := 1) (by omega)
 rw [show ((0 : Nat) : Int) = 0 from rfl] at c0
 rw [show ((1 : Nat) : Int) = 1 from rfl] at c1
 simp (disch := omega) only [go_sem, seval, ac_registers_Extend, h1, index_t, h2, least_eq, List.map_nil, List.map_cons]
 refine loopW_weak (fs' := [(2, .t (.int .i64 (n : Nat))), (3, .t (.sl [bsT d0, bsT d1])), (4, .ref 4096 0 0), (8, .ref 4112 0 0), (38, .t (.sl [bsT d0, bsT d1])), (39, .t (.int .i64 2)), (40, .t (.int .i64 0))]) (hs' := [(4112, .live 2 [.agg [.nil, .t (.int .i64 0)]] true true), (4096, .live 2 [.t (regT [] u)] true true)]) (Weak.rd id ?_ ?_ rfl) ?_
 · simp (disch := omega) only [go_sem, seval, id]
 · simp (disch := omega) only [go_sem, seval, id, List.map_nil]
 by_cases p : 0 < d0.length ∨ 0 < d1.length
 · have hE : extE 0 0 loc n 2 d0.length d1.length = 27 := by unfold extE; rw [if_neg (by omega), if_neg (by omega), if_pos (by omega)]
   by_cases p0 : 0 < d0.length
   · refine loop_fuel 3 ?_
     simp (disch := omega) only [go_sem, seval, loopN_succ, ac_registers_Extend_L0, h3, c0, c1, hE, List.map_nil, extR, extEr, List.getD_nil, List.getD_cons_zero, List.getD_cons_succ, List.length_cons, List.length_nil]
   · refine loop_fuel 3 ?_
     simp (disch := omega) only [go_sem, seval, loopN_succ, ac_registers_Extend_L0, h3, c0, c1, hE, List.map_nil, extR, extEr, List.getD_nil, List.getD_cons_zero, List.getD_cons_succ, List.length_cons, List.length_nil]
 · have hE : extE 0 0 loc n 2 d0.length d1.length = 0 := by unfold extE; rw [if_neg (by omega), if_neg (by omega), if_neg (by omega), if_neg (by omega)]
   refine loop_fuel 3 ?_
   simp (disch := omega) only [go_sem, seval, loopN_succ, ac_registers_Extend_L0, h3, c0, c1, List.map_nil]
   refine loop_fuel 3 ?_
   simp (disch := omega) only [go_sem, seval, loopN_succ, ac_registers_Extend_L1, h3, c0, c1, h5, twin_eq0, List.map_nil]
   refine loop_fuel 1 ?_
   simp (disch := omega) only [go_sem, seval, loopN_succ, ac_registers_Extend_L2, hE, List.map_nil, extR, extEr, extBk, List.getD_nil, List.getD_cons_zero, List.getD_cons_succ, List.length_cons, List.length_nil]
theorem w_ref8_Extend0 (tab : Tab) (gl : Gl) (n1 n2 n3 n4 n5 n6 : Nat) (h2 : tab.look n1 = some ct_rleast.fs) (h3 : tab.look n2 = some ct_actv.fs) (h5 : tab.look n4 = some ct_twin.fs)
   (u loc : Int) (n : Nat) (d0 d1 : List UInt8) (hu : 0 ≤ u ∧ u < 1000000000) (hd : d0.length < 9223372036854775808 ∧ d1.length < 9223372036854775808) (e1 : ¬(loc < 0 ∨ 4 < loc ∨ 16 ≤ n)) (e2 : ¬ loc < leastI n false) :
   (ac_ref8_Extend n1 n2 n3 n4 n5 n6).wp tab gl (zipF 0 [.t (regT [] u), .t (.int .i64 loc), .t (.int .i64 n), .t (.sl [bsT d0, bsT d1])]) (zipF 0 []) (resW [(8, some (2, true)), (9, none)] 0 (fun r o => r = extR [] u loc n [d0, d1] ∧ o = [])) := by
 have a6 : ¬ leastI (n : Int) false = 5 := by unfold leastI; split <;> (try split) <;> (try split) <;> simp_all
 have c0 := actv_eqn (u := u) (a := 0) (by omega)
 have c1 := actv_eqn (u := u) (a := 1) (by omega)
 rw [show ((0 : Nat) : Int) = 0 from rfl] at c0
 rw [show ((1 : Nat) : Int) = 1 from rfl] at c1
 simp (disch := omega) only [go_sem, seval, ac_ref8_Extend, h2, rleast_eq, a6, List.map_nil, List.map_cons]
 refine loopW_weak (fs' := [(2, .t (.int .i64 (n : Nat))), (3, .t (.sl [bsT d0, bsT d1])), (4, .ref 4096 0 0), (8, .ref 4112 0 0), (10, .t (.int .i64 0))]) (hs' := [(4112, .live 2 [.agg [.nil, .t (.int .i64 0)]] true true), (4096, .live 2 [.t (regT [] u)] true true)]) (Weak.rd id ?_ ?_ rfl) ?_
 · simp (disch := omega) only [go_sem, seval, id]
 · simp (disch := omega) only [go_sem, seval, id, List.map_nil]
 by_cases p : 0 < d0.length ∨ 0 < d1.length
 · have hE : extE 0 0 loc n 2 d0.length d1.length = 27 := by unfold extE; rw [if_neg (by omega), if_neg (by omega), if_pos (by omega)]
   by_cases p0 : 0 < d0.length
   · refine loop_fuel 3 ?_
     simp (disch := omega) only [go_sem, seval, loopN_succ, ac_ref8_Extend_L0, h3, c0, c1, hE, List.map_nil, extR, extEr, List.getD_nil, List.getD_cons_zero, List.getD_cons_succ, List.length_cons, List.length_nil]
     all_goals repeat refine And.intro rfl ?_
     all_goals rfl
   · refine loop_fuel 3 ?_
     simp (disch := omega) only [go_sem, seval, loopN_succ, ac_ref8_Extend_L0, h3, c0, c1, hE, List.map_nil, extR, extEr, List.getD_nil, List.getD_cons_zero, List.getD_cons_succ, List.length_cons, List.length_nil]
     all_goals repeat refine And.intro rfl ?_
     all_goals rfl
 · have hE : extE 0 0 loc n 2 d0.length d1.length = 0 := by unfold extE; rw [if_neg (by omega), if_neg (by omega), if_neg (by omega), if_neg (by omega)]
   refine loop_fuel 3 ?_
   simp (disch := omega) only [go_sem, seval, loopN_succ, ac_ref8_Extend_L0, h3, c0, c1, List.map_nil]
   all_goals repeat refine And.intro rfl ?_
   refine loop_fuel 3 ?_
   simp (disch := omega) only [go_sem, seval, loopN_succ, ac_ref8_Extend_L1, h3, c0, c1, h5, twin_eq0, List.map_nil]
   all_goals repeat refine And.intro rfl ?_
   refine loop_fuel 3 ?_
   simp (disch := omega) only [go_sem, seval, loopN_succ, ac_ref8_Extend_L2, h3, c0, c1, hE, List.map_nil, extR, extEr, extBk, List.getD_nil, List.getD_cons_zero, List.getD_cons_succ, List.length_cons, List.length_nil]
def RV (bk : List Bank) : Prop := RK bk ∧ ∀ b ∈ bk, ∀ x ∈ b, x.length ≤ 64
theorem RV.rm {bk : List Bank} (h : RV bk) : RM bk := by
 refine ⟨h.1, fun b hb => ⟨?_, fun x hx => Nat.lt_of_le_of_lt (h.2 b hb x hx) (by omega)⟩⟩
 have : bkOk b := by
   obtain ⟨hk, _⟩ := h
   cases hk with
   | nil => simp at hb
   | two b0 b1 h0 h1 =>
     simp only [List.mem_cons, List.not_mem_nil, or_false] at hb
     rcases hb with rfl | rfl
     · exact h0
     · exact h1
 rcases this with h | h <;> omega
theorem getD_le {b : Bank} {m n : Nat} (h : ∀ x ∈ b, x.length ≤ m) : (b.getD n []).length ≤ m := by
 by_cases hi : n < List.length b
 · have : b.getD n [] = b[n] := by simp [List.getD, hi]
   rw [this]; exact h _ (List.getElem_mem hi)
 · simp [List.getD, List.getElem?_eq_none (Nat.le_of_not_lt hi)]
abbrev ExtIn := List Bank × Int × Int × Int × List (List UInt8)
def extPre (x : ExtIn) : Prop := RV x.1 ∧ (0 ≤ x.2.1 ∧ x.2.1 < 1000000000) ∧ x.2.2.2.2.length < 1000000000 ∧ ∀ d ∈ x.2.2.2.2, d.length < 9223372036854775808
def ct_ext : Ct where
 α := ExtIn
 as x := [.t (regT x.1 x.2.1), .t (.int .i64 x.2.2.1), .t (.int .i64 x.2.2.2.1), .t (.sl (x.2.2.2.2.map bsT))]
 ins _ := []
 pre := extPre
 r x := extR x.1 x.2.1 x.2.2.1 x.2.2.2.1 x.2.2.2.2
 outs _ := []
 inj := by
   rintro ⟨a, u, l, i, ds⟩ ⟨b, v, l', i', ds'⟩ h _
   simp only [List.cons.injEq, V.t.injEq, T.int.injEq, T.sl.injEq, true_and, and_true, mapBs_inj] at h
   obtain ⟨h1, rfl, rfl, rfl⟩ := h
   obtain ⟨rfl, rfl⟩ := regT_inj h1
   exact ⟨rfl, rfl⟩
theorem extR_bad {bk : List Bank} {u loc i : Int} {ds : List (List UInt8)} (hb : (loc < 0 ∨ 4 < loc ∨ i < 0 ∨ 16 ≤ i ∨ ds.length ≠ 2) ∨ loc < leastI i false) :
   extR bk u loc i ds = .tup [.t (regT [] 0), .t (.int .i64 (if loc < 0 ∨ 4 < loc ∨ i < 0 ∨ 16 ≤ i ∨ ds.length ≠ 2 then 1 else 13))] := by
 have he : extE (bk.getD 0 []).length (bk.getD 1 []).length loc i ds.length (ds.getD 0 []).length (ds.getD 1 []).length = if loc < 0 ∨ 4 < loc ∨ i < 0 ∨ 16 ≤ i ∨ ds.length ≠ 2 then 1 else 13 := by
   unfold extE
   by_cases h : loc < 0 ∨ 4 < loc ∨ i < 0 ∨ 16 ≤ i ∨ ds.length ≠ 2
   · rw [if_pos h, if_pos h]
   · have h2 : loc < leastI i false := by rcases hb with h' | h'; exact absurd h' h; exact h'
     rw [if_neg h, if_neg h, if_pos h2]
 unfold extR
 rw [he]
 split
 · split at * <;> simp_all
 · rfl
theorem w_registers_Extend (tab : Tab) (gl : Gl) (n1 n2 n3 n4 n5 n6 : Nat) (h1 : tab.look n1 = some ct_index.fs) (h2 : tab.look n2 = some ct_least.fs) (h3 : tab.look n3 = some ct_on.fs) (h4 : tab.look n4 = some ct_size.fs) (h5 : tab.look n5 = some ct_twin.fs) (h6 : tab.look n6 = some ct_sumA.fs) (x : ct_ext.α) (hx : ct_ext.pre x) :
   (ac_registers_Extend n1 n2 n3 n4 n5 n6).wp tab gl (zipF 0 (ct_ext.as x)) (zipF 0 (ct_ext.ins x)) (resW [(8, some (2, true)), (9, none)] (ct_ext.ins x).length (fun r o => r = ct_ext.r x ∧ o = ct_ext.outs x)) := by
 obtain ⟨bk, u, loc, i, ds⟩ := x
 obtain ⟨hv, hu, hd, hd2⟩ := hx
 simp only [ct_ext] at *
 by_cases hb : (loc < 0 ∨ 4 < loc ∨ i < 0 ∨ 16 ≤ i ∨ ds.length ≠ 2) ∨ loc < leastI i false
 · rw [extR_bad hb]
   exact w_registers_Extend_bad tab gl n1 n2 n3 n4 n5 n6 h1 h2 bk u loc i ds hd hb
 · obtain ⟨n, rfl⟩ := Int.eq_ofNat_of_zero_le (show 0 ≤ i by omega)
   match ds, hd2, hb with
   | [d0, d1], hd2, hb =>
     have m0 := hd2 d0 (by simp)
     have m1 := hd2 d1 (by simp)
     have e1 : ¬(loc < 0 ∨ 4 < loc ∨ 16 ≤ n) := by omega
     have e2 : ¬ loc < leastI n false := by omega
     have hm := hv.rm
     obtain ⟨hk, hl⟩ := hv
     cases hk with
     | nil => exact w_registers_Extend0 tab gl n1 n2 n3 n4 n5 n6 h1 h2 h3 h5 u loc n d0 d1 hu ⟨m0, m1⟩ e1 e2
     | two b0 b1 g0 g1 => exact w_registers_Extend2 tab gl n1 n2 n3 n4 n5 n6 h1 h2 h3 h4 h5 h6 b0 b1 u loc n d0 d1 hu hm (getD_le (hl b0 (by simp))) (getD_le (hl b1 (by simp))) ⟨m0, m1⟩ e1 e2
   | [], _, hb => simp at hb
   | [_], _, hb => simp at hb
   | _ :: _ :: _ :: _, _, hb => simp at hb
theorem w_ref8_Extend (tab : Tab) (gl : Gl) (n1 n2 n3 n4 n5 n6 : Nat) (h2 : tab.look n1 = some ct_rleast.fs) (h3 : tab.look n2 = some ct_actv.fs) (h4 : tab.look n3 = some ct_size.fs) (h5 : tab.look n4 = some ct_twin.fs) (h7 : tab.look n5 = some ct_copy.fs) (h6 : tab.look n6 = some ct_sumA.fs) (x : ct_ext.α) (hx : ct_ext.pre x) :
   (ac_ref8_Extend n1 n2 n3 n4 n5 n6).wp tab gl (zipF 0 (ct_ext.as x)) (zipF 0 (ct_ext.ins x)) (resW [(8, some (2, true)), (9, none)] (ct_ext.ins x).length (fun r o => r = ct_ext.r x ∧ o = ct_ext.outs x)) := by
 obtain ⟨bk, u, loc, i, ds⟩ := x
 obtain ⟨hv, hu, hd, hd2⟩ := hx
 simp only [ct_ext] at *
 by_cases hb : (loc < 0 ∨ 4 < loc ∨ i < 0 ∨ 16 ≤ i ∨ ds.length ≠ 2) ∨ loc < leastI i false
 · rw [extR_bad hb]
   exact w_ref8_Extend_bad tab gl n1 n2 n3 n4 n5 n6 h2 bk u loc i ds hd hb
 · obtain ⟨n, rfl⟩ := Int.eq_ofNat_of_zero_le (show 0 ≤ i by omega)
   match ds, hd2, hb with
   | [d0, d1], hd2, hb =>
     have m0 := hd2 d0 (by simp)
     have m1 := hd2 d1 (by simp)
     have e1 : ¬(loc < 0 ∨ 4 < loc ∨ 16 ≤ n) := by omega
     have e2 : ¬ loc < leastI n false := by omega
     have hm := hv.rm
     obtain ⟨hk, hl⟩ := hv
     cases hk with
     | nil => exact w_ref8_Extend0 tab gl n1 n2 n3 n4 n5 n6 h2 h3 h5 u loc n d0 d1 hu ⟨m0, m1⟩ e1 e2
     | two b0 b1 g0 g1 => exact w_ref8_Extend2 tab gl n1 n2 n3 n4 n5 n6 h2 h3 h4 h5 h7 h6 b0 b1 u loc n d0 d1 hu hm (getD_le (hl b0 (by simp))) (getD_le (hl b1 (by simp))) ⟨m0, m1⟩ e1 e2
   | [], _, hb => simp at hb
   | [_], _, hb => simp at hb
   | _ :: _ :: _ :: _, _, hb => simp at hb
def ct_lists : Ct where
 α := List (List UInt8) × List (List UInt8)
 as x := [.t (.sl (x.1.map bsT)), .t (.sl (x.2.map bsT))]
 ins _ := []
 pre x := modL x.1 ∧ modL x.2
 r x := .t (.bool (decide (x.1 = x.2)))
 outs _ := []
 inj := by
   rintro ⟨a, b⟩ ⟨c, d⟩ h _
   simp [mapBs_inj] at h
   obtain ⟨rfl, rfl⟩ := h
   exact ⟨rfl, rfl⟩
theorem RM.bank {bk : List Bank} (h : RM bk) (a : Nat) : modL (bk.getD a []) := by
 by_cases ha : a < bk.length
 · have e : bk.getD a [] = bk[a] := by simp [List.getD, ha]
   rw [e]; exact h.2 _ (List.getElem_mem ha)
 · have e : bk.getD a [] = [] := by simp [List.getD, List.getElem?_eq_none (Nat.le_of_not_lt ha)]
   rw [e]; exact ⟨by simp, by simp⟩
def ct_new : Ct where
 α := Int
 as s := [.t (.int .i64 s)]
 ins _ := []
 pre _ := True
 r s := twR (newBk s) 0
 outs s := twO (newBk s)
 inj := by
   rintro a b h _
   simp only [List.cons.injEq, V.t.injEq, T.int.injEq, true_and, and_true] at h
   subst h
   exact ⟨rfl, rfl⟩
def ct_val : Ct where
 α := List Bank × Int × Int × Int
 as x := [.t (regT x.1 x.2.1), .t (.int .i64 x.2.2.1), .t (.int .i64 x.2.2.2)]
 ins _ := []
 pre x := RM x.1
 r x := valR x.1 x.2.2.1 x.2.2.2
 outs x := valO x.1 x.2.2.1 x.2.2.2
 inj := by
   rintro ⟨a, u, l, i⟩ ⟨b, v, l', i'⟩ h _
   simp only [List.cons.injEq, V.t.injEq, T.int.injEq, true_and, and_true] at h
   obtain ⟨h1, rfl, rfl⟩ := h
   obtain ⟨rfl, rfl⟩ := regT_inj h1
   exact ⟨rfl, rfl⟩
theorem newB_ok {a : Nat} (ha : a < 2) : bkOk (newB a) := .inr newB_length
theorem newB_le {a : Nat} (ha : a < 2) : ∀ x ∈ newB a, x.length ≤ 64 := by
 intro x hx
 simp only [newB, List.mem_map, List.mem_range] at hx
 obtain ⟨i, _, rfl⟩ := hx
 simp only [List.length_replicate]
 have : a = 0 ∨ a = 1 := by omega
 rcases this with rfl | rfl <;> decide
theorem newBk_rv {s : Int} : RV (newBk s) := by
 unfold newBk
 split
 · exact ⟨.nil, by simp⟩
 · refine ⟨.two _ _ ?_ ?_, ?_⟩
   · split
     · exact newB_ok (by omega)
     · exact .inl rfl
   · split
     · exact newB_ok (by omega)
     · exact .inl rfl
   · intro b hb
     simp only [List.mem_cons, List.not_mem_nil, or_false] at hb
     rcases hb with rfl | rfl
     · split
       · exact newB_le (by omega)
       · simp
     · split
       · exact newB_le (by omega)
       · simp
def ct_awake : Ct where
 α := Unit
 as _ := []
 ins _ := []
 pre _ := True
 r _ := .t (.bool true)
 outs _ := []
 inj := by rintro a b h _; exact ⟨rfl, rfl⟩
theorem awake_eq : ct_awake.fs [] [] = some (.t (.bool true), []) := ct_awake.eq () trivial
end Go.Eng
end
section
set_option maxRecDepth 20000
namespace Go.Eng
theorem wc_digest_compress1 (tab : Tab) (gl : Gl) (n1 n2 : Nat) (h1 : tab.look n1 = some ct_word.fs) (h2 : tab.look n2 = some ct_rotl.fs) (x : (ct_comp 5 comp1).α) (hx : (ct_comp 5 comp1).pre x) :
   (ac_digest_compress1 n1 n2).wp tab gl (zipF 0 ((ct_comp 5 comp1).as x)) (zipF 0 ((ct_comp 5 comp1).ins x)) (resW [] ((ct_comp 5 comp1).ins x).length (fun r o => r = (ct_comp 5 comp1).r x ∧ o = (ct_comp 5 comp1).outs x)) := by
 obtain ⟨hs, bs⟩ := x
 obtain ⟨hb, hh⟩ := hx
 match hs, hh with
 | [x0, x1, x2, x3, x4], _ => exact w_digest_compress1 tab gl n1 n2 h1 h2 bs x0 x1 x2 x3 x4 hb
theorem wc_registers_active (tab : Tab) (gl : Gl) (x : ct_active.α) (hx : ct_active.pre x) :
   ac_registers_active.wp tab gl (zipF 0 (ct_active.as x)) (zipF 0 (ct_active.ins x)) (resW [(2, none)] (ct_active.ins x).length (fun r o => r = ct_active.r x ∧ o = ct_active.outs x)) := by
 obtain ⟨bk, u⟩ := x
 have hx' : RK bk := hx
 clear hx
 cases hx' with
 | nil => exact w_registers_active0 tab gl u
 | two b0 b1 h0 h1 => exact w_registers_active2 tab gl b0 b1 (by rcases h0 with h | h <;> omega) (by rcases h1 with h | h <;> omega) u
theorem wc_registers_twin (tab : Tab) (gl : Gl) (x : ct_twin.α) (hx : ct_twin.pre x) :
   ac_registers_twin.wp tab gl (zipF 0 (ct_twin.as x)) (zipF 0 (ct_twin.ins x)) (resF [] [(2, some (2, true))] (ct_twin.ins x).length (fun r o => r = ct_twin.r x ∧ o = ct_twin.outs x)) := by
 obtain ⟨bk, u⟩ := x
 obtain ⟨hk, hm⟩ := hx
 have hk' : RK bk := hk
 clear hk
 cases hk' with
 | nil => exact w_registers_twin0 tab gl u
 | two b0 b1 h0 h1 => exact w_registers_twin2 tab gl b0 b1 u (hm b0 (.head _)) (hm b1 (.tail _ (.head _)))
theorem wc_registers_New (tab : Tab) (gl : Gl) (n1 n2 : Nat) (h1 : tab.look n1 = some ct_size.fs) (h2 : tab.look n2 = some ct_fill.fs) (x : ct_new.α) :
   (ac_registers_New n1 n2).wp tab gl (zipF 0 (ct_new.as x)) (zipF 0 (ct_new.ins x)) (resF [] [(2, some (2, true))] (ct_new.ins x).length (fun r o => r = ct_new.r x ∧ o = ct_new.outs x)) := by
 have x' : Int := x
 by_cases h : (show Int from x) % 4 = 0
 · have := w_registers_New0 tab gl n1 n2 x h
   show (ac_registers_New n1 n2).wp tab gl (zipF 0 [.t (.int .i64 x)]) (zipF 0 []) (resF [] [(2, some (2, true))] 0 (fun r o => r = twR (newBk x) 0 ∧ o = twO (newBk x)))
   have e : newBk x = [] := if_pos h
   rw [e]; exact this
 · exact w_registers_New tab gl n1 n2 h1 h2 x h
theorem wc_ref8_New (tab : Tab) (gl : Gl) (n1 : Nat) (h1 : tab.look n1 = some ct_init.fs) (x : ct_new.α) :
   (ac_ref8_New n1).wp tab gl (zipF 0 (ct_new.as x)) (zipF 0 (ct_new.ins x)) (resF [] [(2, some (2, true))] (ct_new.ins x).length (fun r o => r = ct_new.r x ∧ o = ct_new.outs x)) := by
 by_cases h : (show Int from x) % 4 = 0
 · have := w_ref8_New0 tab gl n1 x h
   show (ac_ref8_New n1).wp tab gl (zipF 0 [.t (.int .i64 x)]) (zipF 0 []) (resF [] [(2, some (2, true))] 0 (fun r o => r = twR (newBk x) 0 ∧ o = twO (newBk x)))
   have e : newBk x = [] := if_pos h
   rw [e]; exact this
 · exact w_ref8_New tab gl n1 h1 x h
theorem wc_ref8_fill (tab : Tab) (gl : Gl) (x : ct_fill.α) (hx : ct_fill.pre x) :
   ac_ref8_fill.wp tab gl (zipF 0 (ct_fill.as x)) (zipF 0 (ct_fill.ins x)) (resF [] [(4, none)] (ct_fill.ins x).length (fun r o => r = ct_fill.r x ∧ o = ct_fill.outs x)) := by
 obtain ⟨n, x⟩ := x
 have hx' : n = 20 ∨ n = 32 := hx
 exact w_ref8_fill tab gl x n (by omega)
theorem wc_ref8_Active (tab : Tab) (gl : Gl) (x : ct_actv.α) (hx : ct_actv.pre x) :
   ac_ref8_Active.wp tab gl (zipF 0 (ct_actv.as x)) (zipF 0 (ct_actv.ins x)) (resW [(4, none)] (ct_actv.ins x).length (fun r o => r = ct_actv.r x ∧ o = ct_actv.outs x)) := by
 obtain ⟨bk, u, a⟩ := x
 obtain ⟨hk, ha⟩ := hx
 have hk' : RK bk := hk
 have ha' : a < 1000000000 := ha
 refine w_ref8_Active tab gl bk u a ha' ?_ ?_
 · cases hk' <;> simp
 · intro b hb
   clear hk
   cases hk' with
   | nil => simp at hb
   | two b0 b1 h0 h1 =>
     simp only [List.mem_cons, List.not_mem_nil, or_false] at hb
     rcases hb with rfl | rfl
     · rcases h0 with h | h <;> omega
     · rcases h1 with h | h <;> omega
end Go.Eng
end
section
set_option maxRecDepth 20000
set_option maxHeartbeats 16000000
namespace Go.Eng
def stN (x : List UInt8) (b : Bank) : Nat → Bank
 | 0 => b
 | k + 1 => (stN x b k).set (12 + k) x
theorem stN_length {x : List UInt8} {b : Bank} {k : Nat} : List.length (stN x b k) = List.length b := by
 induction k with
 | zero => rfl
 | succ k ih => simp only [stN, List.length_set, ih]
def resBk (bk : List Bank) : List Bank := match bk with
 | [b0, b1] => [stN (List.replicate 20 255) b0 4, stN (List.replicate 32 255) b1 4]
 | bk => bk
end Go.Eng
end
section
set_option maxRecDepth 20000
set_option maxHeartbeats 16000000
namespace Go.Eng
theorem wc_ref8_Copy (tab : Tab) (gl : Gl) (n1 : Nat) (h1 : tab.look n1 = some ct_copy.fs) (x : ct_twin.α) (hx : ct_twin.pre x) :
   (ac_ref8_Copy n1).wp tab gl (zipF 0 (ct_twin.as x)) (zipF 0 (ct_twin.ins x)) (resF [] [(2, some (2, true))] (ct_twin.ins x).length (fun r o => r = ct_twin.r x ∧ o = ct_twin.outs x)) := by
 obtain ⟨bk, u⟩ := x
 obtain ⟨hk, hm⟩ := hx
 have hk' : RK bk := hk
 clear hk
 cases hk' with
 | nil => exact w_ref8_Copy0 tab gl n1 u
 | two b0 b1 h0 h1' => exact w_ref8_Copy2 tab gl n1 h1 b0 b1 u (hm b0 (.head _)) (hm b1 (.tail _ (.head _)))
theorem RV.of2 {b0 b1 : Bank} (h0 : bkOk b0) (h1 : bkOk b1) (m0 : ∀ x ∈ b0, x.length ≤ 64) (m1 : ∀ x ∈ b1, x.length ≤ 64) : RV [b0, b1] := by
 refine ⟨.two _ _ h0 h1, fun b hb => ?_⟩
 simp only [List.mem_cons, List.not_mem_nil, or_false] at hb
 rcases hb with rfl | rfl
 · exact m0
 · exact m1
theorem bkOk_len {b c : Bank} (h : bkOk b) (hl : List.length c = List.length b) : bkOk c := by
 rcases h with h | h
 · exact .inl (by rw [hl, h])
 · exact .inr (by rw [hl, h])
theorem set_le {b : Bank} {i : Nat} {y : List UInt8} (h : ∀ x ∈ b, x.length ≤ 64) (hy : y.length ≤ 64) : ∀ x ∈ b.set i y, x.length ≤ 64 := by
 intro x hx
 rcases List.mem_or_eq_of_mem_set hx with h1 | rfl
 · exact h x h1
 · exact hy
theorem RV.cases {bk : List Bank} (h : RV bk) : bk = [] ∨ ∃ b0 b1, bk = [b0, b1] ∧ bkOk b0 ∧ bkOk b1 ∧ (∀ x ∈ b0, x.length ≤ 64) ∧ (∀ x ∈ b1, x.length ≤ 64) := by
 obtain ⟨hk, hm⟩ := h
 cases hk with
 | nil => exact .inl rfl
 | two b0 b1 h0 h1 => exact .inr ⟨b0, b1, rfl, h0, h1, hm b0 (.head _), hm b1 (.tail _ (.head _))⟩
theorem ext1_le {a : Nat} (ha : a < 2) {b : Bank} {i : Nat} {d : List UInt8} (h : ∀ x ∈ b, x.length ≤ 64) : ∀ x ∈ ext1 a b i d, x.length ≤ 64 := by
 unfold ext1
 split
 · refine set_le h ?_
   have : a = 0 ∨ a = 1 := by omega
   rcases this with rfl | rfl
   · rw [sumA0, sum1_length]; omega
   · rw [sumA1, sum256_length]; omega
 · exact h
theorem stN_le {y : List UInt8} {b : Bank} (hy : y.length ≤ 64) (h : ∀ x ∈ b, x.length ≤ 64) : ∀ k, ∀ x ∈ stN y b k, x.length ≤ 64
 | 0 => h
 | k + 1 => set_le (stN_le hy h k) hy
theorem RV.ext {bk : List Bank} (h : RV bk) (i : Nat) (ds : List (List UInt8)) : RV (extBk bk i ds) := by
 rcases h.cases with rfl | ⟨b0, b1, rfl, h0, h1, m0, m1⟩
 · exact h
 · exact .of2 (bkOk_len h0 ext1_length) (bkOk_len h1 ext1_length) (ext1_le (by omega) m0) (ext1_le (by omega) m1)
theorem RV.res {bk : List Bank} (h : RV bk) : RV (resBk bk) := by
 rcases h.cases with rfl | ⟨b0, b1, rfl, h0, h1, m0, m1⟩
 · exact h
 · exact .of2 (bkOk_len h0 stN_length) (bkOk_len h1 stN_length) (stN_le (by rw [List.length_replicate]; omega) m0 4) (stN_le (by rw [List.length_replicate]; omega) m1 4)
end Go.Eng
end
section
set_option maxRecDepth 20000
set_option maxHeartbeats 64000000
namespace Go.Eng
def extP (x : List Bank × Int) (l i : Int) (ds : List (List UInt8)) : List Bank × Int := if extEr x.1 l i ds = 0 then (extBk x.1 i.toNat ds, x.2 + 1) else x
def Ans (x : List Bank × Int) (v : V) (y : List Bank × Int) : Prop := ∃ (bk : List Bank) (u e : Int), v = .tup [.t (.agg [.sl (bk.map bankT), .int .i64 u]), .t (.int .i64 e)] ∧ ((e = 0 ∧ y = (bk, u)) ∨ (e ≠ 0 ∧ y = x))
def RS (n : Nat) (x : List Bank × Int) : Prop := RV x.1 ∧ 0 ≤ x.2 ∧ x.2 ≤ n
theorem RS.up {n m : Nat} {x : List Bank × Int} (h : RS n x) (hm : n ≤ m) : RS m x := ⟨h.1, h.2.1, by have := h.2.2; omega⟩
theorem RS.ext {n : Nat} {x : List Bank × Int} (h : RS n x) (l i : Int) (ds : List (List UInt8)) : RS (n + 1) (extP x l i ds) := by
 unfold extP
 split
 · exact ⟨h.1.ext _ _, by have := h.2.1; simp only; omega, by have := h.2.2; simp only; omega⟩
 · exact h.up (by omega)
theorem Ans.rv {x : List Bank × Int} {v : V} {y : List Bank × Int} (h : Ans x v y) (hv : ∃ bk' u' e, v = .tup [.t (regT bk' u'), .t (.int .i64 e)] ∧ RV bk' ∧ (e = 0 → u' = x.2 + 1)) : ∃ bk' u' e, v = .tup [.t (.agg [.sl (bk'.map bankT), .int .i64 u']), .t (.int .i64 e)] ∧ RM bk' := by
 obtain ⟨bk', u', e, h1, h2, _⟩ := hv
 exact ⟨bk', u', e, h1, h2.rm⟩
theorem RK.cases {bk : List Bank} (h : RK bk) : bk = [] ∨ ∃ b0 b1, bk = [b0, b1] ∧ bkOk b0 ∧ bkOk b1 := by
 cases h with
 | nil => exact .inl rfl
 | two b0 b1 h0 h1 => exact .inr ⟨b0, b1, rfl, h0, h1⟩
theorem getD_set {α : Type} {l : List α} {i j : Nat} {x d : α} (h : i ≠ j) : (l.set i x).getD j d = l.getD j d := by
 rw [List.getD_eq_getElem?_getD, List.getD_eq_getElem?_getD, List.getElem?_set_ne h]
theorem extBk_two {b0 b1 : Bank} {i : Nat} {ds : List (List UInt8)} : extBk [b0, b1] i ds = [ext1 0 b0 i (ds.getD 0 []), ext1 1 b1 i (ds.getD 1 [])] := rfl
def ct_uint : Ct where
 α := List UInt8 × Nat × Int
 as x := [.t (.sl (x.1.map byteT)), .t (.int .i64 x.2.1), .t (.int .i64 x.2.2)]
 ins _ := []
 pre x := x.1.length < 1000000000 ∧ 1 ≤ x.2.1 ∧ x.2.1 ≤ 8
 r x := .sl 0 0 (x.1.length + x.2.1)
 outs x := [.live 1 (((x.1 ++ beI x.2.1 x.2.2 x.2.1).map byteT).map V.t) true false]
 inj := by
   rintro ⟨a, s, n⟩ ⟨c, t, m⟩ h _
   simp only [List.cons.injEq, V.t.injEq, T.sl.injEq, T.int.injEq, true_and, and_true, mapB_inj, Int.natCast_inj] at h
   obtain ⟨rfl, rfl, rfl⟩ := h
   exact ⟨rfl, rfl⟩
theorem uint2 {b : List UInt8} {n : Int} (hb : b.length < 1000000000) : ct_uint.fs [.t (.sl (b.map byteT)), .t (.int .i64 2), .t (.int .i64 n)] [] = some (.sl 0 0 (b.length + 2), [.live 1 (((b ++ beI 2 n 2).map byteT).map V.t) true false]) := ct_uint.eq (b, 2, n) ⟨hb, by show 1 ≤ 2; omega, by show 2 ≤ 8; omega⟩
theorem beI_len {s k : Nat} {n : Int} : (beI s n k).length = k := by simp [beI]
def selL (bk : List Bank) (a : Nat) (s : Int) : Nat → List UInt8
 | 0 => []
 | i + 1 => if s / 2 ^ i % 2 = 1 then selL bk a s i ++ valL bk a i else selL bk a s i
theorem be32_len {n : Nat} : (be32 n).length = 4 := rfl
theorem selL_z {bk : List Bank} {a : Nat} {s : Int} : selL bk a s 0 = [] := rfl
theorem selL_pos {bk : List Bank} {a i : Nat} {s : Int} (h : s / 2 ^ i % 2 = 1) : selL bk a s (i + 1) = selL bk a s i ++ valL bk a i := if_pos h
theorem selL_neg {bk : List Bank} {a i : Nat} {s : Int} (h : ¬ s / 2 ^ i % 2 = 1) : selL bk a s (i + 1) = selL bk a s i := if_neg h
def PD (A B : Prop) (k : Nat) : Prop := (1 ≤ k → A) ∧ (2 ≤ k → B)
def badS (s : Int) : Prop := s < 0 ∨ 65535 < s
instance {s : Int} : Decidable (badS s) := inferInstanceAs (Decidable (_ ∨ _))
def headS (s0 s1 : Int) : List UInt8 := beI 2 s0 2 ++ beI 2 s1 2
def valS (bk : List Bank) (s0 s1 : Int) : List UInt8 := selL bk 0 s0 16 ++ selL bk 1 s1 16
def digE (bk : List Bank) (s0 s1 : Int) : Int := if badS s0 ∨ badS s1 then 1 else if (s0 ≠ 0 ∧ onB bk 0 = false) ∨ (s1 ≠ 0 ∧ onB bk 1 = false) then 27 else 0
def digR (bk : List Bank) (s0 s1 : Int) : V := if digE bk s0 s1 = 0 then .tup [.sl 0 0 32, .t (.int .i64 0)] else .tup [.nil, .t (.int .i64 (digE bk s0 s1))]
def digO (bk : List Bank) (s0 s1 : Int) : List Ob := if digE bk s0 s1 = 0 then [.live 1 (((hashL 5 [headS s0 s1, valS bk s0 s1]).map byteT).map V.t) true false] else []
theorem selL_le {bk : List Bank} (h : RV bk) (a : Nat) (s : Int) : ∀ i, (selL bk a s i).length ≤ 64 * i
 | 0 => by simp [selL]
 | i + 1 => by
   have ih := selL_le h a s i
   have hv : (valL bk a i).length ≤ 64 := by
     unfold valL
     rcases h.cases with rfl | ⟨b0, b1, rfl, _, _, m0, m1⟩
     · simp
     · match a with
       | 0 => exact getD_le m0
       | 1 => exact getD_le m1
       | a + 2 => simp
   unfold selL
   split
   · rw [List.length_append]; omega
   · omega
def ct_hash : Ct where
 α := Nat × List (List UInt8)
 as x := [.t (.int .i64 x.1), .t (.sl (x.2.map bsT))]
 ins _ := []
 pre x := x.1 < 256 ∧ (frameL x.1 x.2).length < 1000000000
 r _ := .sl 0 0 32
 outs x := [.live 1 (((hashL x.1 x.2).map byteT).map V.t) true false]
 inj := by
   rintro ⟨a, b⟩ ⟨c, d⟩ h _
   simp [mapBs_inj, Int.natCast_inj] at h
   obtain ⟨rfl, rfl⟩ := h
   exact ⟨rfl, rfl⟩
theorem hash_eq2 {x y : List UInt8} (h : (frameL 5 [x, y]).length < 1000000000) : ct_hash.fs [.t (.int .i64 5), .t (.sl [.sl (x.map byteT), .sl (y.map byteT)])] [] = some (.sl 0 0 32, [.live 1 (((hashL 5 [x, y]).map byteT).map V.t) true false]) := ct_hash.eq (5, [x, y]) ⟨by show 5 < 256; omega, h⟩
theorem w_registers_Digest (tab : Tab) (gl : Gl) (n1 n2 n3 : Nat) (h1 : tab.look n1 = some ct_uint.fs) (h2 : tab.look n2 = some ct_on.fs) (h3 : tab.look n3 = some ct_hash.fs) (bk : List Bank) (u s0 s1 : Int) (hv : RV bk) :
   (ac_registers_Digest n1 n2 n3).wp tab gl (zipF 0 [.t (regT bk u), .t (.agg [.int .i64 s0, .int .i64 s1])]) (zipF 0 []) (resF [] [(4, none), (5, none)] 0 (fun r o => r = digR bk s0 s1 ∧ o = digO bk s0 s1)) := by
 simp (disch := omega) only [go_sem, seval, ac_registers_Digest]
 have t2 : List.take 2 (beI 2 s0 2) = beI 2 s0 2 := List.take_of_length_le (by rw [beI_len]; exact Nat.le_refl _)
 have t4 : List.take 4 (beI 2 s0 2 ++ beI 2 s1 2) = beI 2 s0 2 ++ beI 2 s1 2 := List.take_of_length_le (by rw [List.length_append, beI_len, beI_len]; exact Nat.le_refl _)
 by_cases b0 : badS s0
 · have hE : digE bk s0 s1 = 1 := by unfold digE; rw [if_pos (.inl b0)]
   rw [digR, digO, hE]
   unfold badS at b0
   refine loop_fuel 1 ?_
   by_cases c0 : s0 < 0
   · simp (disch := omega) only [go_sem, seval, loopN_succ, ac_registers_Digest_L0, c0]
   · simp (disch := omega) only [go_sem, seval, loopN_succ, ac_registers_Digest_L0, c0]
 have hb0 : ¬ s0 < 0 ∧ ¬ 65535 < s0 := by unfold badS at b0; omega
 obtain ⟨c0, d0⟩ := hb0
 have hm := hv.rm
 have hu := uint2 (b := []) (n := s0) (by decide)
 simp only [List.map_nil, List.length_nil, List.nil_append] at hu
 by_cases b1 : badS s1
 · have hE : digE bk s0 s1 = 1 := by unfold digE; rw [if_pos (.inr b1)]
   rw [digR, digO, hE]
   unfold badS at b1
   refine loop_fuel 2 ?_
   by_cases c1 : s1 < 0
   · simp (disch := omega) only [go_sem, seval, loopN_succ, ac_registers_Digest_L0, c0, d0, c1, h1, hu, List.map_nil]
   · simp (disch := omega) only [go_sem, seval, loopN_succ, ac_registers_Digest_L0, c0, d0, c1, h1, hu, List.map_nil]
 have hb1 : ¬ s1 < 0 ∧ ¬ 65535 < s1 := by unfold badS at b1; omega
 obtain ⟨c1, d1⟩ := hb1
 refine loop_upto 2 (fun k => match k with
   | 0 => [(2, .ref 4096 0 0), (3, .ref 4112 0 0), (6, .t (.sl (([] : List UInt8).map byteT))), (7, .nil), (13, .t (.agg [.int .i64 s0, .int .i64 s1])), (14, .t (.int .i64 0))]
   | 1 => [(2, .ref 4096 0 0), (3, .ref 4112 0 0), (6, .t (.sl ((beI 2 s0 2).map byteT))), (7, .nil), (13, .t (.agg [.int .i64 s0, .int .i64 s1])), (14, .t (.int .i64 1))]
   | _ => [(2, .ref 4096 0 0), (3, .ref 4112 0 0), (6, .t (.sl ((headS s0 s1).map byteT))), (7, .nil), (13, .t (.agg [.int .i64 s0, .int .i64 s1])), (14, .t (.int .i64 2))])
   (fun _ => [(4112, .live 1 [.t (.int .i64 s0), .t (.int .i64 s1)] true true), (4096, .live 2 [.t (regT bk u)] true true)]) ?_ (fun k hk => ?_)
 · refine Weak.rd id ?_ ?_ rfl
   all_goals simp (disch := omega) only [go_sem, seval, id, List.map_nil]
 · rcases (show k = 0 ∨ k = 1 ∨ k = 2 by omega) with rfl | rfl | rfl
   · simp (disch := omega) only [go_sem, seval, ac_registers_Digest_L0, c0, d0, h1, hu, List.map_nil]
     refine Weak.cv (hv := []) [32800] id ?_ rfl
     simp (disch := omega) only [go_sem, seval, id, beI_len, t2]
     rfl
   · have hu := uint2 (b := beI 2 s0 2) (n := s1) (by rw [beI_len]; omega)
     rw [beI_len] at hu
     simp (disch := omega) only [go_sem, seval, ac_registers_Digest_L0, c1, d1, h1, hu]
     refine Weak.cv (hv := []) [32800] id ?_ rfl
     simp (disch := omega) only [go_sem, seval, id, beI_len, headS, t4]
     rfl
   · simp (disch := omega) only [go_sem, seval, ac_registers_Digest_L0]
     refine loop_uptoP 2 (PD (s0 = 0 ∨ onB bk 0 = true) (s1 = 0 ∨ onB bk 1 = true)) (fun k => match k with | 0 => [(2, .ref 4096 0 0), (6, .t (.sl ((headS s0 s1).map byteT))), (7, .sl 9100 0 (List.length ([] : List UInt8))), (27, .t (.agg [.int .i64 s0, .int .i64 s1])), (28, .t (.int .i64 0))] | 1 => [(2, .ref 4096 0 0), (6, .t (.sl ((headS s0 s1).map byteT))), (7, .sl 9100 0 (List.length (selL bk 0 s0 16))), (27, .t (.agg [.int .i64 s0, .int .i64 s1])), (28, .t (.int .i64 1))] | _ => [(2, .ref 4096 0 0), (6, .t (.sl ((headS s0 s1).map byteT))), (7, .sl 9100 0 (List.length (selL bk 0 s0 16 ++ selL bk 1 s1 16))), (27, .t (.agg [.int .i64 s0, .int .i64 s1])), (28, .t (.int .i64 2))]) (fun k => match k with | 0 => [(9100, .live 1 ((([] : List UInt8).map byteT).map V.t) true false), (4096, .live 2 [.t (regT bk u)] true true)] | 1 => [(9100, .live 1 (((selL bk 0 s0 16).map byteT).map V.t) true false), (4096, .live 2 [.t (regT bk u)] true true)] | _ => [(9100, .live 1 (((selL bk 0 s0 16 ++ selL bk 1 s1 16).map byteT).map V.t) true false), (4096, .live 2 [.t (regT bk u)] true true)]) ⟨fun h => absurd h (by omega), fun h => absurd h (by omega)⟩ ?_ (fun k hk hP => ?_)
     · refine Weak.cv0 (hv := [(9100, .live 1 [] true false)]) (ho := [(4096, .live 2 [.t (regT bk u)] true true)]) id ?_ ?_ rfl rfl
       all_goals simp (disch := omega) only [go_sem, seval, id, List.map_cons, List.map_nil, List.length_nil]
     · rcases (show k = 0 ∨ k = 1 ∨ k = 2 by omega) with rfl | rfl | rfl
       · by_cases z : s0 = 0
         · have zz : (s0 == 0) = true := by simpa using z
           simp (disch := omega) only [go_sem, seval, ac_registers_Digest_L1, zz]
           refine loop_upto 16 (fun i => [(2, .ref 4096 0 0), (6, .t (.sl ((headS s0 s1).map byteT))), (7, .sl 9100 0 (List.length (selL bk 0 s0 i))), (10, .t (.int .i64 0)), (11, .t (.int .i64 s0)), (27, .t (.agg [.int .i64 s0, .int .i64 s1])), (28, .t (.int .i64 0)), (40, .t (.int .i64 (i : Nat)))]) (fun i => [(9100, .live 1 (((selL bk 0 s0 i).map byteT).map V.t) true false), (4096, .live 2 [.t (regT bk u)] true true)]) ?_ (fun i hi => ?_)
           · refine Weak.rd id ?_ ?_ rfl
             all_goals simp (disch := omega) only [go_sem, seval, id, selL_z, List.append_nil]
           · have l0 := selL_le hv 0 s0 16
             have l1 := selL_le hv 0 s0 i
             by_cases hlt : i < 16
             · have hsh : s0.fdiv (2 ^ i) = s0 / 2 ^ i := Int.fdiv_eq_ediv_of_nonneg _ (Int.le_of_lt (Int.pow_pos (by decide)))
               have hb : ¬ s0 / 2 ^ i % 2 = 1 := by rw [z]; simp
               simp (disch := omega) only [go_sem, seval, ac_registers_Digest_L2, hsh, hb]
               refine ⟨hlt, Weak.rd id ?_ ?_ rfl⟩
               all_goals simp (disch := omega) only [go_sem, seval, id, selL_neg (bk := bk) (a := 0) hb]
             · have e : i = 16 := by omega
               subst e
               simp (disch := omega) only [go_sem, seval, ac_registers_Digest_L2]
               refine ⟨⟨fun _ => .inl z, fun h => absurd h (by omega)⟩, Weak.rd id ?_ ?_ rfl⟩
               all_goals simp (disch := omega) only [go_sem, seval, id]
         · have zz : (s0 == 0) = false := by simpa using z
           have c0 := on_eq (u := u) (a := 0) hv.1 (by omega)
           rw [show ((0 : Nat) : Int) = 0 from rfl] at c0
           cases ho : onB bk 0
           · rw [ho] at c0
             have hE : digE bk s0 s1 = 27 := by
               unfold digE
               rw [if_neg (by rintro (h | h); exact b0 h; exact b1 h), if_pos (.inl ⟨z, ho⟩)]
             rw [digR, digO, hE]
             simp (disch := omega) only [go_sem, seval, ac_registers_Digest_L1, zz, h2, c0]
           · rw [ho] at c0
             have hbl := hv.1.len ho
             have hbn : List.length (bk.getD 0 []) = 16 := by simpa [onB] using ho
             simp (disch := omega) only [go_sem, seval, ac_registers_Digest_L1, zz, h2, c0]
             refine loop_upto 16 (fun i => [(2, .ref 4096 0 0), (6, .t (.sl ((headS s0 s1).map byteT))), (7, .sl 9100 0 (List.length (selL bk 0 s0 i))), (10, .t (.int .i64 0)), (11, .t (.int .i64 s0)), (27, .t (.agg [.int .i64 s0, .int .i64 s1])), (28, .t (.int .i64 0)), (40, .t (.int .i64 (i : Nat)))]) (fun i => [(9100, .live 1 (((selL bk 0 s0 i).map byteT).map V.t) true false), (4096, .live 2 [.t (regT bk u)] true true)]) ?_ (fun i hi => ?_)
             · refine Weak.rd id ?_ ?_ rfl
               all_goals simp (disch := omega) only [go_sem, seval, id, selL_z, List.append_nil]
             · have l0 := selL_le hv 0 s0 16
               have l1 := selL_le hv 0 s0 i
               by_cases hlt : i < 16
               · have hsh : s0.fdiv (2 ^ i) = s0 / 2 ^ i := Int.fdiv_eq_ediv_of_nonneg _ (Int.le_of_lt (Int.pow_pos (by decide)))
                 by_cases hb : s0 / 2 ^ i % 2 = 1
                 · have hvl := hm.val 0 i
                   have hx : (bk.getD 0 []).getD i [] = valL bk 0 i := rfl
                   simp (disch := omega) only [go_sem, seval, ac_registers_Digest_L2, hsh, hb, hx]
                   refine ⟨hlt, Weak.rd (fun j => if j = 9100 then 77968 else j) ?_ ?_ rfl⟩
                   all_goals simp (disch := omega) only [go_sem, seval, selL_pos (bk := bk) (a := 0) hb, List.append_assoc]
                   all_goals try omega
                 · simp (disch := omega) only [go_sem, seval, ac_registers_Digest_L2, hsh, hb]
                   refine ⟨hlt, Weak.rd id ?_ ?_ rfl⟩
                   all_goals simp (disch := omega) only [go_sem, seval, id, selL_neg (bk := bk) (a := 0) hb]
               · have e : i = 16 := by omega
                 subst e
                 simp (disch := omega) only [go_sem, seval, ac_registers_Digest_L2]
                 refine ⟨⟨fun _ => (by first | exact .inr ho | trivial), fun h => absurd h (by omega)⟩, Weak.rd id ?_ ?_ rfl⟩
                 all_goals simp (disch := omega) only [go_sem, seval, id]
       · by_cases z : s1 = 0
         · have zz : (s1 == 0) = true := by simpa using z
           simp (disch := omega) only [go_sem, seval, ac_registers_Digest_L1, zz]
           refine loop_upto 16 (fun i => [(2, .ref 4096 0 0), (6, .t (.sl ((headS s0 s1).map byteT))), (7, .sl 9100 0 (List.length (selL bk 0 s0 16 ++ selL bk 1 s1 i))), (10, .t (.int .i64 1)), (11, .t (.int .i64 s1)), (27, .t (.agg [.int .i64 s0, .int .i64 s1])), (28, .t (.int .i64 1)), (40, .t (.int .i64 (i : Nat)))]) (fun i => [(9100, .live 1 (((selL bk 0 s0 16 ++ selL bk 1 s1 i).map byteT).map V.t) true false), (4096, .live 2 [.t (regT bk u)] true true)]) ?_ (fun i hi => ?_)
           · refine Weak.rd id ?_ ?_ rfl
             all_goals simp (disch := omega) only [go_sem, seval, id, selL_z, List.append_nil]
           · have l0 := selL_le hv 0 s0 16
             have l1 := selL_le hv 1 s1 i
             by_cases hlt : i < 16
             · have hsh : s1.fdiv (2 ^ i) = s1 / 2 ^ i := Int.fdiv_eq_ediv_of_nonneg _ (Int.le_of_lt (Int.pow_pos (by decide)))
               have hb : ¬ s1 / 2 ^ i % 2 = 1 := by rw [z]; simp
               simp (disch := omega) only [go_sem, seval, ac_registers_Digest_L2, hsh, hb]
               refine ⟨hlt, Weak.rd id ?_ ?_ rfl⟩
               all_goals simp (disch := omega) only [go_sem, seval, id, selL_neg (bk := bk) (a := 1) hb]
             · have e : i = 16 := by omega
               subst e
               simp (disch := omega) only [go_sem, seval, ac_registers_Digest_L2]
               refine ⟨⟨fun _ => hP.1 (by omega), fun _ => .inl z⟩, Weak.rd id ?_ ?_ rfl⟩
               all_goals simp (disch := omega) only [go_sem, seval, id]
         · have zz : (s1 == 0) = false := by simpa using z
           have c1 := on_eq (u := u) (a := 1) hv.1 (by omega)
           rw [show ((1 : Nat) : Int) = 1 from rfl] at c1
           cases ho : onB bk 1
           · rw [ho] at c1
             have hE : digE bk s0 s1 = 27 := by
               unfold digE
               rw [if_neg (by rintro (h | h); exact b0 h; exact b1 h), if_pos (.inr ⟨z, ho⟩)]
             rw [digR, digO, hE]
             simp (disch := omega) only [go_sem, seval, ac_registers_Digest_L1, zz, h2, c1]
           · rw [ho] at c1
             have hbl := hv.1.len ho
             have hbn : List.length (bk.getD 1 []) = 16 := by simpa [onB] using ho
             simp (disch := omega) only [go_sem, seval, ac_registers_Digest_L1, zz, h2, c1]
             refine loop_upto 16 (fun i => [(2, .ref 4096 0 0), (6, .t (.sl ((headS s0 s1).map byteT))), (7, .sl 9100 0 (List.length (selL bk 0 s0 16 ++ selL bk 1 s1 i))), (10, .t (.int .i64 1)), (11, .t (.int .i64 s1)), (27, .t (.agg [.int .i64 s0, .int .i64 s1])), (28, .t (.int .i64 1)), (40, .t (.int .i64 (i : Nat)))]) (fun i => [(9100, .live 1 (((selL bk 0 s0 16 ++ selL bk 1 s1 i).map byteT).map V.t) true false), (4096, .live 2 [.t (regT bk u)] true true)]) ?_ (fun i hi => ?_)
             · refine Weak.rd id ?_ ?_ rfl
               all_goals simp (disch := omega) only [go_sem, seval, id, selL_z, List.append_nil]
             · have l0 := selL_le hv 0 s0 16
               have l1 := selL_le hv 1 s1 i
               by_cases hlt : i < 16
               · have hsh : s1.fdiv (2 ^ i) = s1 / 2 ^ i := Int.fdiv_eq_ediv_of_nonneg _ (Int.le_of_lt (Int.pow_pos (by decide)))
                 by_cases hb : s1 / 2 ^ i % 2 = 1
                 · have hvl := hm.val 1 i
                   have hx : (bk.getD 1 []).getD i [] = valL bk 1 i := rfl
                   simp (disch := omega) only [go_sem, seval, ac_registers_Digest_L2, hsh, hb, hx]
                   refine ⟨hlt, Weak.rd (fun j => if j = 9100 then 77968 else j) ?_ ?_ rfl⟩
                   all_goals simp (disch := omega) only [go_sem, seval, selL_pos (bk := bk) (a := 1) hb, List.append_assoc]
                   all_goals try omega
                 · simp (disch := omega) only [go_sem, seval, ac_registers_Digest_L2, hsh, hb]
                   refine ⟨hlt, Weak.rd id ?_ ?_ rfl⟩
                   all_goals simp (disch := omega) only [go_sem, seval, id, selL_neg (bk := bk) (a := 1) hb]
               · have e : i = 16 := by omega
                 subst e
                 simp (disch := omega) only [go_sem, seval, ac_registers_Digest_L2]
                 refine ⟨⟨fun _ => hP.1 (by omega), fun _ => by first | exact .inr ho | trivial⟩, Weak.rd id ?_ ?_ rfl⟩
                 all_goals simp (disch := omega) only [go_sem, seval, id]
       · have l0 := selL_le hv 0 s0 16
         have l1 := selL_le hv 1 s1 16
         have p0 := hP.1 (by omega)
         have p1 := hP.2 (by omega)
         have hE : digE bk s0 s1 = 0 := by
           unfold digE
           rw [if_neg (by rintro (h | h); exact b0 h; exact b1 h), if_neg]
           rintro (⟨h1, h2⟩ | ⟨h1, h2⟩)
           · rcases p0 with h | h
             · exact h1 h
             · rw [h] at h2; cases h2
           · rcases p1 with h | h
             · exact h1 h
             · rw [h] at h2; cases h2
         have hv2 : (valS bk s0 s1).length ≤ 2048 := by unfold valS; rw [List.length_append]; omega
         have hh2 : (headS s0 s1).length = 4 := by unfold headS; rw [List.length_append, beI_len, beI_len]
         have hvs : selL bk 0 s0 16 ++ selL bk 1 s1 16 = valS bk s0 s1 := rfl
         rw [digR, digO, if_pos hE, if_pos hE]
         have hf : (frameL 5 [headS s0 s1, valS bk s0 s1]).length < 1000000000 := by
           simp only [frameL, List.flatMap_cons, List.flatMap_nil, List.length_cons, List.length_append, List.length_nil, be32_len]
           omega
         have hq := hash_eq2 hf
         have tv : List.take (valS bk s0 s1).length (valS bk s0 s1) = valS bk s0 s1 := List.take_of_length_le (Nat.le_refl _)
         simp (disch := omega) only [go_sem, seval, ac_registers_Digest_L1, hvs, h3, hq, tv]
theorem new_casesX (s : Int) : (newBk s = [] ∧ ct_new.fs [.t (.int .i64 s)] [] = some (.agg [.nil, .t (.int .i64 0)], [])) ∨ ∃ b0 b1 : Bank, newBk s = [b0, b1] ∧ bkOk b0 ∧ bkOk b1 ∧ ct_new.fs [.t (.int .i64 s)] [] = some (.agg [.sl 0 0 2, .t (.int .i64 0)], [.live 1 [.sl 1 0 b0.length, .sl 2 0 b1.length] true false, .live 1 ((b0.map bsT).map V.t) true false, .live 1 ((b1.map bsT).map V.t) true false]) := by
 have h := ct_new.eq s trivial
 rcases (newBk_rv (s := s)).cases with e | ⟨b0, b1, e, h0, h1, _, _⟩
 · refine .inl ⟨e, h.trans ?_⟩
   show some (twR (newBk s) 0, twO (newBk s)) = _
   rw [e]; rfl
 · refine .inr ⟨b0, b1, e, h0, h1, h.trans ?_⟩
   show some (twR (newBk s) 0, twO (newBk s)) = _
   rw [e]; rfl
def dcSet (s : Rd) : Int := (rdUint s 1).1
def rgBad (s : Rd) : Prop := (rdUint s 1).2.2.2 = 0 ∧ 4 ≤ dcSet s
instance {s : Rd} : Decidable (rgBad s) := inferInstanceAs (Decidable (_ ∧ _))
theorem val_on {bk : List Bank} {u : Int} (h : RM bk) {a n : Nat} (ha : a < 2) (hn : n < 16) (ho : onB bk a = true) : ct_val.fs [.t (.agg [.sl (bk.map bankT), .int .i64 u]), .t (.int .i64 a), .t (.int .i64 n)] [] = some (.tup [.sl 0 0 (valL bk a n).length, .t (.int .i64 0)], [.live 1 (((valL bk a n).map byteT).map V.t) true false]) := by
 have he := ct_val.eq (bk, u, (a : Int), (n : Int)) h
 have he2 : ct_val.fs [.t (.agg [.sl (bk.map bankT), .int .i64 u]), .t (.int .i64 a), .t (.int .i64 n)] [] = some (valR bk a n, valO bk a n) := he
 have hb : ¬ badR (a : Int) (n : Int) := by unfold badR; omega
 rw [he2, valR, valO, if_neg hb, if_neg hb, Int.toNat_natCast, Int.toNat_natCast, if_pos ho, if_pos ho]
theorem getD_set_eq {α : Type} {l : List α} {i : Nat} {x d : α} (h : i < l.length) : (l.set i x).getD i d = x := by
 rw [List.getD_eq_getElem?_getD, List.getElem?_set_self h]; rfl
theorem ext1_val {a : Nat} {b : Bank} {i n : Nat} {d : List UInt8} (h : n ≠ i) : (ext1 a b i d).getD n [] = b.getD n [] := by
 unfold ext1
 split
 · exact getD_set (Ne.symm h)
 · rfl
def ct_col : Ct where
 α := List UInt8 × List UInt8
 as x := [.t (.sl (x.1.map byteT)), .t (.sl (x.2.map byteT)), .t (.int .i64 32)]
 ins _ := []
 pre x := x.1.length < 1000000000 ∧ x.2.length < 1000000000
 r x := .t (.bool (!decide (x.1 = x.2) && decide (sum256 x.1 = sum256 x.2)))
 outs _ := []
 inj := by
   rintro ⟨a, b⟩ ⟨c, d⟩ h _
   simp only [List.cons.injEq, V.t.injEq, T.sl.injEq, and_true, mapB_inj] at h
   obtain ⟨rfl, rfl⟩ := h
   exact ⟨rfl, rfl⟩
theorem col_eq {a b : List UInt8} (h : a.length < 1000000000 ∧ b.length < 1000000000) : ct_col.fs [.t (.sl (a.map byteT)), .t (.sl (b.map byteT)), .t (.int .i64 32)] [] = some (.t (.bool (!decide (a = b) && decide (sum256 a = sum256 b))), []) := ct_col.eq (a, b) h
def RZ (bk : List Bank) : Prop := ∀ a, a < 2 → ∀ x ∈ bk.getD a [], x.length = szA a
theorem set_z {b : Bank} {i z : Nat} {y : List UInt8} (h : ∀ x ∈ b, x.length = z) (hy : y.length = z) : ∀ x ∈ b.set i y, x.length = z := by
 intro x hx
 rcases List.mem_or_eq_of_mem_set hx with h1 | rfl
 · exact h x h1
 · exact hy
theorem stN_z {y : List UInt8} {b : Bank} {z : Nat} (hy : y.length = z) (h : ∀ x ∈ b, x.length = z) : ∀ k, ∀ x ∈ stN y b k, x.length = z
 | 0 => h
 | k + 1 => set_z (stN_z hy h k) hy
theorem RZ.two {b0 b1 : Bank} (h0 : ∀ x ∈ b0, x.length = 20) (h1 : ∀ x ∈ b1, x.length = 32) : RZ [b0, b1] := by
 intro a ha
 match a, ha with
 | 0, _ => exact h0
 | 1, _ => exact h1
theorem RZ.nil : RZ [] := by
 intro a ha x hx
 simp at hx
theorem RZ.ext {bk : List Bank} {i : Nat} {ds : List (List UInt8)} (hv : RV bk) (h : RZ bk) : RZ (extBk bk i ds) := by
 rcases hv.1.cases with rfl | ⟨b0, b1, rfl, g0, g1⟩
 · exact RZ.nil
 · rw [extBk_two]
   refine RZ.two ?_ ?_
   · unfold ext1; split
     · exact set_z (h 0 (by omega)) (sumA_length (a := 0))
     · exact h 0 (by omega)
   · unfold ext1; split
     · exact set_z (h 1 (by omega)) (sumA_length (a := 1))
     · exact h 1 (by omega)
theorem RZ.res {bk : List Bank} (hv : RV bk) (h : RZ bk) : RZ (resBk bk) := by
 rcases hv.1.cases with rfl | ⟨b0, b1, rfl, g0, g1⟩
 · exact RZ.nil
 · exact RZ.two (stN_z List.length_replicate (h 0 (by omega)) 4) (stN_z List.length_replicate (h 1 (by omega)) 4)
theorem newB_z {a : Nat} : ∀ x ∈ newB a, x.length = szA a := by
 intro x hx
 unfold newB at hx
 obtain ⟨i, _, rfl⟩ := List.mem_map.1 hx
 exact List.length_replicate
theorem RZ.new {s : Int} : RZ (newBk s) := by
 unfold newBk
 split
 · exact RZ.nil
 · refine RZ.two ?_ ?_
   · split
     · exact newB_z (a := 0)
     · intro x hx; simp at hx
   · split
     · exact newB_z (a := 1)
     · intro x hx; simp at hx
theorem beV_app {l : List UInt8} {x : UInt8} : beV (l ++ [x]) = 256 * beV l + x.toNat := by simp [beV]
theorem beV_beI {size : Nat} {n : Int} : ∀ k, k ≤ size → beV (beI size n k) = m64 n / 2 ^ (8 * (size - k)) % 256 ^ k
 | 0, _ => by simp [beI, beV, Nat.mod_one]
 | k + 1, h => by
   have ih := beV_beI (size := size) (n := n) k (by omega)
   rw [beI_succ, beV_app, ih]
   have e1 : 8 * (size - k) = 8 * (size - 1 - k) + 8 := by omega
   have e2 : size - (k + 1) = size - 1 - k := by omega
   rw [e1, e2, Nat.pow_add, ← Nat.div_div_eq_div_mul]
   generalize m64 n / 2 ^ (8 * (size - 1 - k)) = q
   have e3 : (UInt8.ofNat q).toNat = q % 256 := by rw [UInt8.toNat_ofNat']
   have e4 : q / 2 ^ 8 = q / 256 := rfl
   have e5 : 256 ^ (k + 1) = 256 * 256 ^ k := by rw [Nat.pow_succ, Nat.mul_comm]
   rw [e3, e4, e5, Nat.mod_mul, Nat.add_comm]
theorem beV_all {size : Nat} {n : Int} : beV (beI size n size) = m64 n % 256 ^ size := by
 rw [beV_beI size (Nat.le_refl _)]; simp
end Go.Eng
end
section
namespace Go.Eng
def strT (s : List UInt8) : T := .str ⟨s.toArray⟩
theorem str_fold {s : List UInt8} : T.str ⟨s.toArray⟩ = strT s := Eq.trans (Eq.refl _) rfl
theorem baList_loop (b : ByteArray) : ∀ (n i : Nat) (r : List UInt8), n = b.size - i → ByteArray.toList.loop b i r = r.reverse ++ b.data.toList.drop i
 | 0, i, r, h => by
   unfold ByteArray.toList.loop
   rw [if_neg (by omega)]
   have : b.data.toList.drop i = [] := List.drop_eq_nil_of_le (by have : b.data.toList.length = b.size := rfl; omega)
   rw [this, List.append_nil]
 | n + 1, i, r, h => by
   unfold ByteArray.toList.loop
   have hi : i < b.size := by omega
   have hl : b.data.toList.length = b.size := rfl
   rw [if_pos hi, baList_loop b n (i + 1) _ (by omega)]
   have e : b.data.toList.drop i = b.data.toList[i]'(by omega) :: b.data.toList.drop (i + 1) := List.drop_eq_getElem_cons (by omega)
   rw [e]
   have e2 : b.get! i = b.data.toList[i]'(by omega) := by
     show b.data[i]! = _
     have hi' : i < b.data.size := hi
     rw [getElem!_pos b.data i hi']; simp
   rw [e2]; simp
theorem baList {s : List UInt8} : (ByteArray.mk s.toArray).toList = s := by
 unfold ByteArray.toList
 rw [baList_loop _ _ 0 [] rfl]; simp
theorem bin_s_eq {a b : List UInt8} : binT .eql (strT a) (strT b) = some (.bool (decide (a = b))) := by
 show some (T.bool ((ByteArray.mk a.toArray).toList == (ByteArray.mk b.toArray).toList)) = _
 rw [baList, baList]
 by_cases h : a = b <;> simp [h]
theorem bin_s_ne {a b : List UInt8} : binT .neq (strT a) (strT b) = some (.bool (!decide (a = b))) := by
 show some (T.bool (!((ByteArray.mk a.toArray).toList == (ByteArray.mk b.toArray).toList))) = _
 rw [baList, baList]
 by_cases h : a = b <;> simp [h]
theorem bin_s_add {a b : List UInt8} (h : a.length + b.length ≤ 9223372036854775807) : binT .add (strT a) (strT b) = some (strT (a ++ b)) := by
 show (if (ByteArray.mk a.toArray).size + (ByteArray.mk b.toArray).size ≤ maxLen then some (T.str (ByteArray.mk a.toArray ++ ByteArray.mk b.toArray)) else none) = _
 have h1 : (ByteArray.mk a.toArray).size = a.length := rfl
 have h2 : (ByteArray.mk b.toArray).size = b.length := rfl
 have h3 : maxLen = 9223372036854775807 := by decide
 rw [h1, h2, h3, if_pos h]
 have e : ByteArray.mk a.toArray ++ ByteArray.mk b.toArray = ⟨(a ++ b).toArray⟩ := by
   apply ByteArray.ext
   simp [ByteArray.data_append]
 rw [e]; rfl
theorem slen_strT {a : List UInt8} : semSlen [.t (strT a)] = .ret (.t (.int .i64 a.length), []) := Eq.trans (Eq.refl _) rfl
theorem sindex_strT {a : List UInt8} {k : IntKind} {i : Nat} (h : i < a.length) : semSindex [.t (strT a), .t (.int k (i : Nat))] = .ret (.t (byteT (a.getD i 0)), []) := by
 have e : (ByteArray.mk a.toArray).data.toList[(i : Int).toNat]? = some (a.getD i 0) := by simp [List.getD, h]
 simp only [strT, semSindex, intArg, Q.of, Q.bind, Q.assert, e]
 rw [if_pos (by omega)]
theorem s2b_strT {a : List UInt8} {nb : Nat} : semS2b nb [.t (strT a)] = Q.assert (sizeOk a.length 1) (.free nb (.ret (.sl nb 0 a.length, [(nb, .live 1 ((a.map byteT).map V.t) true false)]))) := by
 have h1 : (ByteArray.mk a.toArray).size = a.length := rfl
 have h2 : ((ByteArray.mk a.toArray).data.toList.map fun b => V.t (byteT b)) = (a.map byteT).map V.t := by simp [List.map_map, Function.comp_def]
 simp only [strT, semS2b, h1, h2]
theorem bytesOf_rows {bs : List UInt8} : bytesOf ((bs.map byteT).map V.t) = some bs := by
 have := bytesOf_bytes (bs := bs)
 rw [List.map_map]; exact this
theorem strT_inj {a b : List UInt8} : (strT a = strT b) = (a = b) := by
 apply propext
 constructor
 · intro h
   have h1 := congrArg (fun x => match x with | T.str s => s.data.toList | _ => []) h
   simpa [strT] using h1
 · rintro rfl; rfl
theorem tc_strT {s : List UInt8} : (strT s).cells = [strT s] := Eq.trans (Eq.refl _) rfl
theorem vc_strT {s : List UInt8} : (V.t (strT s)).cells = [V.t (strT s)] := Eq.trans (Eq.refl _) rfl
theorem vp_strT {s : List UInt8} : (V.t (strT s)).plain = true := Eq.trans (Eq.refl _) rfl
theorem single_strT {s : List UInt8} : (V.t (strT s)).single = true := Eq.trans (Eq.refl _) rfl
theorem flat_strT {s : List UInt8} : (strT s).flat = true := Eq.trans (Eq.refl _) rfl
attribute [go_sem ↓] bin_s_eq bin_s_ne bin_s_add slen_strT sindex_strT s2b_strT
attribute [go_sem] str_fold bytesOf_rows strT_inj tc_strT vc_strT vp_strT single_strT flat_strT
end Go.Eng
end
section
namespace Go.Eng
def ac_event_Check_L0 (n_digest_Size : Nat) : AC :=
 (.seq
 (rG 36864 [bT 49 .lss 48 47])
 (.seq
 (.cond (.tmp 49)
 .skip
 (.exit 1))
 (.seq
 (.block 2
 (.seq
 (rG 40960 [mv 50 48,oO 51 (.iaddr 1) [.tmp 46, .tmp 48],oO 52 (.load 1 false) [.tmp 51],mv 5 50,mv 6 52])
 (.seq
 (rG 45056 [mC 7 (.t (.int .i64 0))])
 (.seq
 (.seq
 (rG 49152 [oO 53 (.faddr 1) [.tmp 2],oO 54 (.load 1 false) [.tmp 53],bN 55 .neq 54 5,mv 56 55,mG 57 1 56,mG 58 5 56,oG 59 56 (.bin .shr) [.tmp 57, .tmp 58],oG 60 56 (.bin .and) [.tmp 59, .cst (.t (.int .i64 1))],oG 61 56 (.bin .eql) [.tmp 60, .cst (.t (.int .i64 1))],oO 62 .pick [.tmp 56, .tmp 61, .cst (.t (.bool false))]])
 (.cond (.tmp 62)
 (rG 53248 [mv 63 5,cL 64 n_digest_Size false [.tmp 63],mv 7 64])
 .skip))
 (.seq
 (rG 57344 [mv 65 6,oO 66 .len [.tmp 65],mv 67 7,bT 68 .neq 66 67])
 (.cond (.tmp 68)
 (.seq
 (rG 61440 [mC 4 (.t (.int .i64 27))])
 .ret)
 .skip))))))
 (rG 65536 [bN 69 .add 48 1,mv 48 69]))))
def ac_event_Check (n_digest_Size : Nat) : AC :=
 (.seq
 (rG 4096 [oO 2 .box [.tmp 0],mC 4 (.t (.int .i64 0))])
 (.seq
 (.block 0
 (.seq
 (rG 8192 [mv 9 1,bN 10 .lss 9 1,mv 11 10,mF 12 1 11,oF 13 11 (.bin .gtr) [.tmp 12, .cst (.t (.int .i64 3))],oO 14 .pick [.tmp 11, .cst (.t (.bool true)), .tmp 13],mv 15 14,oF 16 15 (.faddr 0) [.tmp 2],oF 17 15 (.load 1 false) [.tmp 16],oF 18 15 (.bin .lss) [.tmp 17, .cst (.t (.int .i64 0))],oO 19 .pick [.tmp 15, .cst (.t (.bool true)), .tmp 18],mv 20 19,oF 21 20 (.faddr 0) [.tmp 2],oF 22 20 (.load 1 false) [.tmp 21],oF 23 20 (.bin .gtr) [.tmp 22, .cst (.t (.int .i64 11))],oO 24 .pick [.tmp 20, .cst (.t (.bool true)), .tmp 23],mv 25 24,oF 26 25 (.faddr 1) [.tmp 2],oF 27 25 (.load 1 false) [.tmp 26],oF 28 25 (.bin .lss) [.tmp 27, .cst (.t (.int .i64 1))],oO 29 .pick [.tmp 25, .cst (.t (.bool true)), .tmp 28],mv 30 29,oF 31 30 (.faddr 1) [.tmp 2],oF 32 30 (.load 1 false) [.tmp 31],oF 33 30 (.bin .gtr) [.tmp 32, .cst (.t (.int .i64 5))],oO 34 .pick [.tmp 30, .cst (.t (.bool true)), .tmp 33],mv 8 34])
 (.cond (.tmp 8)
 (.seq
 (rG 12288 [mC 4 (.t (.int .i64 1))])
 .ret)
 (.seq
 (rG 16384 [oO 36 (.faddr 3) [.tmp 2],oO 37 (.load 1 false) [.tmp 36],oO 38 .len [.tmp 37],bN 39 .gtr 38 64,mv 35 39])
 (.cond (.tmp 35)
 (.seq
 (rG 20480 [mC 4 (.t (.int .i64 4))])
 .ret)
 (.seq
 (rG 24576 [oO 41 (.faddr 2) [.tmp 2],oO 42 (.load 1 false) [.tmp 41],oO 43 .len [.tmp 42],bN 44 .neq 43 2,mv 40 44])
 (.cond (.tmp 40)
 (.seq
 (rG 28672 [mC 4 (.t (.int .i64 27))])
 .ret)
 .skip)))))))
 (.seq
 (.seq
 (rG 32768 [oO 45 (.faddr 2) [.tmp 2],oO 46 (.load 1 false) [.tmp 45],oO 47 .len [.tmp 46],mC 48 (.t (.int .i64 0))])
 (.block 1
 (.loop (ac_event_Check_L0 n_digest_Size))))
 (.seq
 (rG 69632 [mC 4 (.t (.int .i64 0))])
 .ret))))
def hints_event_Check : List (Nat × List Nat) := []
def ac_event_Make_L0 (n_digest_Sum : Nat) : AC :=
 (.seq
 (rG 16384 [bT 21 .lss 20 19])
 (.seq
 (.cond (.tmp 21)
 .skip
 (.exit 0))
 (.seq
 (.block 1
 (.seq
 (rG 20480 [mv 22 20,mv 10 22])
 (.seq
 (rG 24576 [mv 23 1,bN 24 .neq 23 5,mv 25 24,mG 26 2 25,mG 27 10 25,oG 28 25 (.bin .shr) [.tmp 26, .tmp 27],oG 29 25 (.bin .and) [.tmp 28, .cst (.t (.int .i64 1))],oG 30 25 (.bin .eql) [.tmp 29, .cst (.t (.int .i64 1))],oO 31 .pick [.tmp 25, .tmp 30, .cst (.t (.bool false))]])
 (.cond (.tmp 31)
 (.reg 28672 (some [0, 1, 0, 0, 0, 24, 63, 127]) [oO 32 (.faddr 2) [.tmp 9],oO 33 (.load 1 false) [.tmp 32],mv 34 10,mv 35 10,mv 36 3,cL 37 n_digest_Sum false [.tmp 35, .tmp 36],oO 38 (.iaddr 1) [.tmp 33, .tmp 34],oS 1 38 37])
 .skip))))
 (rG 32768 [bN 39 .add 20 1,mv 20 39]))))
def ac_event_Make (n_bytes_Clone n_digest_Sum : Nat) : AC :=
 (.seq
 (rG 4096 [oO 8 (.new 4 [(.agg [(.t (.int .i64 0)), (.t (.int .i64 0)), .nil, .nil])]) []])
 (.seq
 (.reg 8192 (some [0, 0, 0, 0, 8, 31, 0, 127]) [mv 11 0,mv 12 1,oO 13 (.mkslice 1 24 .nil) [.cst (.t (.int .i64 2)), .cst (.t (.int .i64 2))],mv 14 3,cL 15 n_bytes_Clone true [.tmp 14],oO 16 (.build [(.t (.int .i64 0)), (.t (.int .i64 0)), .nil, .nil] [(0, 1), (1, 1), (2, 1), (3, 1)]) [.tmp 11, .tmp 12, .tmp 13, .tmp 15],oO 9 (.new 4 [(.agg [(.t (.int .i64 0)), (.t (.int .i64 0)), .nil, .nil])]) [],oS 4 9 16])
 (.seq
 (.seq
 (rG 12288 [oO 17 (.faddr 2) [.tmp 9],oO 18 (.load 1 false) [.tmp 17],oO 19 .len [.tmp 18],mC 20 (.t (.int .i64 0))])
 (.block 0
 (.loop (ac_event_Make_L0 n_digest_Sum))))
 (.seq
 (rG 36864 [oO 40 (.load 4 true) [.tmp 9],oS 4 8 40])
 .ret))))
def hints_event_Make : List (Nat × List Nat) := [(1, [4])]
def ac_ref25_Event (n_ref25_digestsFit : Nat) : AC :=
 (.seq
 (rG 4096 [oO 2 .box [.tmp 0],mC 4 (.t (.int .i64 0))])
 (.seq
 (.seq
 (rG 8192 [mv 5 1,bN 6 .lss 5 1,mv 7 6,mF 8 1 7,oF 9 7 (.bin .gtr) [.tmp 8, .cst (.t (.int .i64 3))],oO 10 .pick [.tmp 7, .cst (.t (.bool true)), .tmp 9],mv 11 10,oF 12 11 (.faddr 0) [.tmp 2],oF 13 11 (.load 1 false) [.tmp 12],oF 14 11 (.bin .lss) [.tmp 13, .cst (.t (.int .i64 0))],oO 15 .pick [.tmp 11, .cst (.t (.bool true)), .tmp 14],mv 16 15,oF 17 16 (.faddr 0) [.tmp 2],oF 18 16 (.load 1 false) [.tmp 17],oF 19 16 (.bin .gtr) [.tmp 18, .cst (.t (.int .i64 11))],oO 20 .pick [.tmp 16, .cst (.t (.bool true)), .tmp 19],mv 21 20,oF 22 21 (.faddr 1) [.tmp 2],oF 23 21 (.load 1 false) [.tmp 22],oF 24 21 (.bin .lss) [.tmp 23, .cst (.t (.int .i64 1))],oO 25 .pick [.tmp 21, .cst (.t (.bool true)), .tmp 24],mv 26 25,oF 27 26 (.faddr 1) [.tmp 2],oF 28 26 (.load 1 false) [.tmp 27],oF 29 26 (.bin .gtr) [.tmp 28, .cst (.t (.int .i64 5))],oO 30 .pick [.tmp 26, .cst (.t (.bool true)), .tmp 29]])
 (.cond (.tmp 30)
 (.seq
 (rG 12288 [mC 4 (.t (.int .i64 1))])
 .ret)
 .skip))
 (.seq
 (.seq
 (rG 16384 [oO 31 (.faddr 3) [.tmp 2],oO 32 (.load 1 false) [.tmp 31],oO 33 .len [.tmp 32],bN 34 .gtr 33 64])
 (.cond (.tmp 34)
 (.seq
 (rG 20480 [mC 4 (.t (.int .i64 4))])
 .ret)
 .skip))
 (.seq
 (.seq
 (rG 24576 [oO 35 (.load 4 true) [.tmp 2],mv 36 1,cL 37 n_ref25_digestsFit false [.tmp 35, .tmp 36],oO 38 (.un .not) [.tmp 37]])
 (.cond (.tmp 38)
 (.seq
 (rG 28672 [mC 4 (.t (.int .i64 27))])
 .ret)
 .skip))
 (.seq
 (rG 32768 [mC 4 (.t (.int .i64 0))])
 .ret)))))
def hints_ref25_Event : List (Nat × List Nat) := []
def ac_ref25_digestsFit_L0 (n_ref25_has n_ref1_Size : Nat) : AC :=
 (.seq
 (.seq
 (rG 20480 [mv 11 5,bN 12 .lss 11 2])
 (.cond (.tmp 12)
 .skip
 (.exit 0)))
 (.seq
 (.block 1
 (.seq
 (rG 28672 [mC 6 (.t (.int .i64 0))])
 (.seq
 (.seq
 (rG 32768 [oO 15 (.faddr 1) [.tmp 2],oO 16 (.load 1 false) [.tmp 15],bN 17 .neq 16 5,mv 18 17,mG 19 1 18,mG 20 5 18,cG 21 18 n_ref25_has false [.tmp 19, .tmp 20],oO 22 .pick [.tmp 18, .tmp 21, .cst (.t (.bool false))]])
 (.cond (.tmp 22)
 (rG 36864 [mv 23 5,cL 24 n_ref1_Size false [.tmp 23],mv 6 24])
 .skip))
 (.seq
 (rG 40960 [oO 25 (.faddr 2) [.tmp 2],oO 26 (.load 1 false) [.tmp 25],mv 27 5,oO 28 (.iaddr 1) [.tmp 26, .tmp 27],oO 29 (.load 1 false) [.tmp 28],oO 30 .len [.tmp 29],mv 31 6,bT 32 .neq 30 31])
 (.cond (.tmp 32)
 (.seq
 (rG 45056 [mC 4 (.t (.bool false))])
 .ret)
 .skip)))))
 (rG 24576 [mv 13 5,bN 14 .add 13 1,mv 5 14])))
def ac_ref25_digestsFit (n_ref25_has n_ref1_Size : Nat) : AC :=
 (.seq
 (rG 4096 [oO 2 .box [.tmp 0],mC 4 (.t (.bool false))])
 (.seq
 (.seq
 (rG 8192 [oO 7 (.faddr 2) [.tmp 2],oO 8 (.load 1 false) [.tmp 7],oO 9 .len [.tmp 8],bN 10 .neq 9 2])
 (.cond (.tmp 10)
 (.seq
 (rG 12288 [mC 4 (.t (.bool false))])
 .ret)
 .skip))
 (.seq
 (.seq
 (rG 16384 [mC 5 (.t (.int .i64 0))])
 (.block 0
 (.loop (ac_ref25_digestsFit_L0 n_ref25_has n_ref1_Size))))
 (.seq
 (rG 49152 [mC 4 (.t (.bool true))])
 .ret))))
def hints_ref25_digestsFit : List (Nat × List Nat) := []
def ac_ref25_has : AC :=
 (.seq
 (rG 4096 [mC 4 (.t (.bool false))])
 (.seq
 (rG 8192 [mv 5 0,mv 6 1,oO 7 (.conv .u64) [.tmp 6],bT 8 .shr 5 7,bN 9 .and 8 1,bN 10 .eql 9 1,mv 4 10])
 .ret))
def hints_ref25_has : List (Nat × List Nat) := []
def ac_ref25_Make_L0 (n_ref25_has n_ref1_Sum : Nat) : AC :=
 (.seq
 (.seq
 (rG 16384 [mv 16 10,bN 17 .lss 16 2])
 (.cond (.tmp 17)
 .skip
 (.exit 0)))
 (.seq
 (.block 1
 (.seq
 (rG 24576 [mv 20 2,mv 21 10,cL 22 n_ref25_has false [.tmp 20, .tmp 21],mv 23 22,mG 24 1 23,oG 25 23 (.bin .neq) [.tmp 24, .cst (.t (.int .i64 5))],oO 26 .pick [.tmp 23, .tmp 25, .cst (.t (.bool false))]])
 (.cond (.tmp 26)
 (.reg 28672 (some [0, 1, 0, 0, 0, 24, 63, 127]) [oO 27 (.faddr 2) [.tmp 9],oO 28 (.load 1 false) [.tmp 27],mv 29 10,mv 30 10,mv 31 3,cL 32 n_ref1_Sum false [.tmp 30, .tmp 31],oO 33 (.iaddr 1) [.tmp 28, .tmp 29],oS 1 33 32])
 .skip)))
 (rG 20480 [mv 18 10,bN 19 .add 18 1,mv 10 19])))
def ac_ref25_Make (n_ref25_has n_ref1_Sum : Nat) : AC :=
 (.seq
 (rG 4096 [oO 8 (.new 4 [(.agg [(.t (.int .i64 0)), (.t (.int .i64 0)), .nil, .nil])]) []])
 (.seq
 (rG 8192 [mv 11 0,mv 12 1,oO 13 (.mkslice 1 24 .nil) [.cst (.t (.int .i64 2)), .cst (.t (.int .i64 2))],mv 14 3,oO 15 (.build [(.t (.int .i64 0)), (.t (.int .i64 0)), .nil, .nil] [(0, 1), (1, 1), (2, 1), (3, 1)]) [.tmp 11, .tmp 12, .tmp 13, .tmp 14],oO 9 (.new 4 [(.agg [(.t (.int .i64 0)), (.t (.int .i64 0)), .nil, .nil])]) [],oS 4 9 15])
 (.seq
 (.seq
 (rG 12288 [mC 10 (.t (.int .i64 0))])
 (.block 0
 (.loop (ac_ref25_Make_L0 n_ref25_has n_ref1_Sum))))
 (.seq
 (rG 32768 [oO 34 (.load 4 true) [.tmp 9],oS 4 8 34])
 .ret))))
def hints_ref25_Make : List (Nat × List Nat) := []
def ac_ref25_Separator : AC :=
 (.seq
 (rG 4096 [mC 0 .nil])
 (.seq
 (rG 8192 [oO 1 (.bslice 1 4 (.t (byteT 0)) [0, 1, 2, 3]) [.cst (.t (byteT 0)), .cst (.t (byteT 0)), .cst (.t (byteT 0)), .cst (.t (byteT 0))],mv 0 1])
 .ret))
def hints_ref25_Separator : List (Nat × List Nat) := []
def ac_draw_Strong (n_draw_Mod : Nat) : AC :=
 (.seq
 (rG 4096 [mC 2 (.t (.int .i64 0))])
 (.seq
 (rG 8192 [mv 3 0,cL 4 n_draw_Mod false [.tmp 3, .cst (.t (.int .i64 2))],oO 5 (.bin .add) [.cst (.t (.int .i64 2)), .tmp 4],mv 2 5])
 .ret))
def hints_draw_Strong : List (Nat × List Nat) := []
def ac_draw_New : AC :=
 (.seq
 (rG 4096 [mC 4 (.t .pnil)])
 (.seq
 (.seq
 (rG 8192 [mv 5 0,oO 6 .len [.tmp 5],mv 7 1,bT 8 .gtr 6 7])
 (.cond (.tmp 8)
 (rG 12288 [mv 9 0,mv 10 1,oO 11 (.slice 1 false true false) [.tmp 9, .tmp 10],mv 0 11])
 .skip))
 (.seq
 (rG 16384 [mv 12 0,oO 13 (.build [.nil, (.t (.int .i64 0))] [(0, 1)]) [.tmp 12],oO 14 .box [.tmp 13],mv 4 14])
 .ret)))
def hints_draw_New : List (Nat × List Nat) := []
def ac_draw_Codes_Next : AC :=
 (.seq
 (rG 4096 [mC 4 (.t (.int .i64 0))])
 (.seq
 (.seq
 (.reg 8192 (some [0, 1, 3, 7, 0, 16, 48, 112, 240, 511]) [mv 5 0,oO 6 .nilchk [.tmp 5],oO 7 (.faddr 1) [.tmp 6],oO 8 (.load 1 false) [.tmp 7],mv 9 0,oO 10 .nilchk [.tmp 9],oO 11 (.faddr 0) [.tmp 10],oO 12 (.load 1 false) [.tmp 11],oO 13 .len [.tmp 12],bT 14 .geq 8 13])
 (.cond (.tmp 14)
 (.seq
 (rG 12288 [mC 4 (.t (.int .i64 0))])
 .ret)
 .skip))
 (.seq
 (rG 16384 [mv 15 0,oO 16 .nilchk [.tmp 15],oO 17 (.faddr 1) [.tmp 16],oO 18 (.load 1 false) [.tmp 17],bN 19 .add 18 1,oO 20 .nilchk [.tmp 15],oO 21 (.faddr 1) [.tmp 20],oS 1 21 19])
 (.seq
 (.reg 20480 (some [0, 1, 3, 7, 0, 16, 48, 112, 240, 511, 1023, 2047, 0, 8191, 16383]) [mv 22 0,oO 23 .nilchk [.tmp 22],oO 24 (.faddr 0) [.tmp 23],oO 25 (.load 1 false) [.tmp 24],mv 26 0,oO 27 .nilchk [.tmp 26],oO 28 (.faddr 1) [.tmp 27],oO 29 (.load 1 false) [.tmp 28],bN 30 .sub 29 1,oO 31 (.iaddr 1) [.tmp 25, .tmp 30],oO 32 (.load 1 false) [.tmp 31],oO 33 (.conv .i64) [.tmp 32],mv 34 1,bT 35 .rem 33 34,mv 4 35])
 .ret))))
def hints_draw_Codes_Next : List (Nat × List Nat) := []
def ac_draw_Codes_Line (n_draw_Codes_Next : Nat) : AC :=
 (.seq
 (rG 4096 [mC 2 .nil])
 (.seq
 (rG 8192 [oO 4 (.build [(.t (strT [])), (.t (strT [])), (.t (strT [])), (.t (strT [])), (.t (strT [])), (.t (strT []))] [(0, 1), (1, 1), (2, 1), (3, 1), (4, 1), (5, 1)]) [.cst (.t (strT [97, 61, 49])), .cst (.t (strT [99, 111, 117, 110, 116, 61, 53])), .cst (.t (strT [99, 111, 117, 110, 116, 61, 49, 55])), .cst (.t (strT [104, 111, 115, 116, 61, 120])), .cst (.t (strT [109, 111, 100, 101, 32, 98])), .cst (.t (strT [126]))],oO 3 (.new 1 [(.t (strT [])), (.t (strT [])), (.t (strT [])), (.t (strT [])), (.t (strT [])), (.t (strT []))]) [],oS 6 3 4])
 (.seq
 (rG 12288 [mv 5 0,cL 6 n_draw_Codes_Next true [.tmp 5, .cst (.t (.int .i64 6))],oO 7 (.aaddr 6 1) [.tmp 3, .tmp 6],oO 8 (.load 1 false) [.tmp 7],oO 9 .s2b [.tmp 8],mv 2 9])
 .ret)))
def hints_draw_Codes_Line : List (Nat × List Nat) := [(2, [1])]
def ac_bytes_Clone : AC :=
 (.seq
 (rG 4096 [mC 2 .nil])
 (.seq
 (.seq
 (rG 8192 [mv 3 0,oO 4 (.nileq false) [.tmp 3, .cst .nil]])
 (.cond (.tmp 4)
 (.seq
 (rG 12288 [mC 2 .nil])
 .ret)
 .skip))
 (.seq
 (rG 16384 [oO 5 (.bslice 1 0 (.t (byteT 0)) []) [],mv 6 0,oO 7 (.append 1 1) [.tmp 5, .tmp 6],mv 2 7])
 .ret)))
def hints_bytes_Clone : List (Nat × List Nat) := []
def ac_wire_Blob (n_wire_Uint : Nat) : AC :=
 (.seq
 (rG 4096 [mC 4 .nil])
 (.seq
 (rG 8192 [mv 5 1,mv 6 1,oO 7 .len [.tmp 6],oO 8 .min [.tmp 7, .cst (.t (.int .i64 65535))],oO 9 (.slice 1 false true false) [.tmp 5, .tmp 8],mv 1 9])
 (.seq
 (rG 12288 [mv 10 0,mv 11 1,oO 12 .len [.tmp 11],cL 13 n_wire_Uint false [.tmp 10, .cst (.t (.int .i64 2)), .tmp 12],mv 14 1,oO 15 (.append 1 1) [.tmp 13, .tmp 14],mv 4 15])
 .ret)))
def hints_wire_Blob : List (Nat × List Nat) := []
def ac_ref3_Blob (n_ref3_Uint : Nat) : AC :=
 (.seq
 (rG 4096 [mC 4 .nil])
 (.seq
 (.seq
 (rG 8192 [mv 5 1,oO 6 .len [.tmp 5],bN 7 .gtr 6 65535])
 (.cond (.tmp 7)
 (rG 12288 [mv 8 1,oO 9 (.slice 1 false true false) [.tmp 8, .cst (.t (.int .i64 65535))],mv 1 9])
 .skip))
 (.seq
 (rG 16384 [mv 10 0,mv 11 1,oO 12 .len [.tmp 11],cL 13 n_ref3_Uint false [.tmp 10, .cst (.t (.int .i64 2)), .tmp 12],mv 14 1,oO 15 (.append 1 1) [.tmp 13, .tmp 14],mv 4 15])
 .ret)))
def hints_ref3_Blob : List (Nat × List Nat) := []
end Go.Eng
end
section
set_option maxRecDepth 20000
set_option maxHeartbeats 64000000
namespace Go.Eng
abbrev Ev := Int × Int × List (List UInt8) × List UInt8
def evT (e : Ev) : T := .agg [.int .i64 e.1, .int .i64 e.2.1, .sl (e.2.2.1.map bsT), .sl (e.2.2.2.map byteT)]
theorem evT_def {a b : Int} {c : List (List UInt8)} {d : List UInt8} : evT (a, b, c, d) = .agg [.int .i64 a, .int .i64 b, .sl (c.map bsT), .sl (d.map byteT)] := Eq.trans (Eq.refl _) rfl
theorem evT_inj {e f : Ev} (h : evT e = evT f) : e = f := by
 obtain ⟨a, b, c, d⟩ := e
 obtain ⟨a', b', c', d'⟩ := f
 simp only [evT_def, T.agg.injEq, List.cons.injEq, T.int.injEq, T.sl.injEq, true_and, and_true, mapBs_inj, mapB_inj] at h
 obtain ⟨rfl, rfl, rfl, rfl⟩ := h
 rfl
def evM (e : Ev) : Prop := modL e.2.2.1 ∧ e.2.2.2.length < 1000000000
def wantL (kind act : Int) (a : Nat) : Nat := if kind ≠ 5 ∧ act / 2 ^ a % 2 = 1 then szA a else 0
def badE (r k act : Int) : Prop := act < 1 ∨ 3 < act ∨ r < 0 ∨ 11 < r ∨ k < 1 ∨ 5 < k
instance {r k act : Int} : Decidable (badE r k act) := by unfold badE; infer_instance
def fitE (k act : Int) (ds : List (List UInt8)) : Bool := decide (ds.length = 2) && decide ((ds.getD 0 []).length = wantL k act 0) && decide ((ds.getD 1 []).length = wantL k act 1)
def chkE (e : Ev) (act : Int) : Int := if badE e.1 e.2.1 act then 1 else if 64 < e.2.2.2.length then 4 else if fitE e.2.1 act e.2.2.1 then 0 else 27
theorem wantL_note {act : Int} {a : Nat} : wantL 5 act a = 0 := if_neg (by simp)
theorem len2 {α : Type} {l : List α} (h : l.length = 2) : ∃ a b, l = [a, b] := by
 match l, h with
 | [a, b], _ => exact ⟨a, b, rfl⟩
theorem fitE_two {k act : Int} {d0 d1 : List UInt8} : fitE k act [d0, d1] = (decide (d0.length = wantL k act 0) && decide (d1.length = wantL k act 1)) := by simp [fitE]
theorem goodE {r k act : Int} (hb : ¬ badE r k act) : (¬ act < 1 ∧ ¬ 3 < act) ∧ (¬ r < 0 ∧ ¬ 11 < r) ∧ (¬ k < 1 ∧ ¬ 5 < k) := by
 unfold badE at hb; omega
def ct_has : Ct where
 α := Int × Nat
 as x := [.t (.int .i64 x.1), .t (.int .i64 x.2)]
 ins _ := []
 pre x := (0 ≤ x.1 ∧ x.1 < 4) ∧ x.2 < 2
 r x := .t (.bool (decide (x.1 / 2 ^ x.2 % 2 = 1)))
 outs _ := []
 inj := by
   rintro ⟨a, b⟩ ⟨c, d⟩ h _
   simp only [List.cons.injEq, V.t.injEq, T.int.injEq, true_and, and_true, Int.natCast_inj] at h
   obtain ⟨rfl, rfl⟩ := h
   exact ⟨rfl, rfl⟩
theorem w_ref25_has (tab : Tab) (gl : Gl) (x : ct_has.α) (hx : ct_has.pre x) : ac_ref25_has.wp tab gl (zipF 0 (ct_has.as x)) (zipF 0 []) (resW [(4, none)] 0 (fun r o => r = ct_has.r x ∧ o = [])) := by
 obtain ⟨s, a⟩ := x
 obtain ⟨⟨h1, h2⟩, h3⟩ := hx
 simp only at h1 h2 h3
 show ac_ref25_has.wp tab gl (zipF 0 [.t (.int .i64 s), .t (.int .i64 a)]) (zipF 0 []) (resW [(4, none)] 0 (fun r o => r = .t (.bool (decide (s / 2 ^ a % 2 = 1))) ∧ o = []))
 rcases (show s = 0 ∨ s = 1 ∨ s = 2 ∨ s = 3 by omega) with rfl | rfl | rfl | rfl <;> rcases (show a = 0 ∨ a = 1 by omega) with rfl | rfl
 all_goals simp (disch := omega) only [go_sem, seval, ac_ref25_has]
 all_goals rfl
theorem has_eq {s : Int} {a : Nat} (h : (0 ≤ s ∧ s < 4) ∧ a < 2) : ct_has.fs [.t (.int .i64 s), .t (.int .i64 a)] [] = some (.t (.bool (decide (s / 2 ^ a % 2 = 1))), []) := ct_has.eq (s, a) h
theorem has_eq0 {s : Int} (h : 0 ≤ s ∧ s < 4) : ct_has.fs [.t (.int .i64 s), .t (.int .i64 0)] [] = some (.t (.bool (decide (s % 2 = 1))), []) := by
 have := has_eq (s := s) (a := 0) ⟨h, by omega⟩
 simpa using this
theorem has_eq1 {s : Int} (h : 0 ≤ s ∧ s < 4) : ct_has.fs [.t (.int .i64 s), .t (.int .i64 1)] [] = some (.t (.bool (decide (s / 2 % 2 = 1))), []) := by
 have := has_eq (s := s) (a := 1) ⟨h, by omega⟩
 simpa using this
theorem wantL0 {k s : Int} : wantL k s 0 = if k ≠ 5 ∧ s % 2 = 1 then 20 else 0 := by unfold wantL; simp [szA]
theorem wantL1 {k s : Int} : wantL k s 1 = if k ≠ 5 ∧ s / 2 % 2 = 1 then 32 else 0 := by unfold wantL; simp [szA]
theorem lists2_eq {a b : List (List UInt8)} (ha : modL a) (hb : modL b) : ct_lists.fs [.t (.sl (a.map bsT)), .t (.sl (b.map bsT))] [] = some (.t (.bool (decide (a = b))), []) := ct_lists.eq (a, b) ⟨ha, hb⟩
def ct_clone : Ct where
 α := List UInt8
 as x := [.t (.sl (x.map byteT))]
 ins _ := []
 pre x := x.length < 1000000000
 r x := .t (.sl (x.map byteT))
 outs _ := []
 inj := by
   intro a b h _
   simp only [List.cons.injEq, V.t.injEq, T.sl.injEq, and_true, mapB_inj] at h
   subst h; exact ⟨rfl, rfl⟩
theorem clone_eq {x : List UInt8} (h : x.length < 1000000000) : ct_clone.fs [.t (.sl (x.map byteT))] [] = some (.t (.sl (x.map byteT)), []) := ct_clone.eq x h
theorem w_bytes_Clone (tab : Tab) (gl : Gl) (x : List UInt8) (hx : x.length < 1000000000) : ac_bytes_Clone.wp tab gl (zipF 0 [.t (.sl (x.map byteT))]) (zipF 0 []) (resW [(2, none)] 0 (fun r o => r = .t (.sl (x.map byteT)) ∧ o = [])) := by
 match x, hx with
 | [], hx => simp (disch := omega) only [go_sem, seval, ac_bytes_Clone, List.map_nil]
 | a :: r, hx =>
   simp only [List.length_cons] at hx
   simp (disch := omega) only [go_sem, seval, ac_bytes_Clone, List.map_cons, List.take_length]
def mkD (k act : Int) (d : List UInt8) (a : Nat) : List UInt8 := if k ≠ 5 ∧ act / 2 ^ a % 2 = 1 then sumA a d else []
def mkE (r k act : Int) (d : List UInt8) : Ev := (r, k, [mkD k act d 0, mkD k act d 1], d)
def ct_make : Ct where
 α := Int × Int × Int × List UInt8
 as x := [.t (.int .i64 x.1), .t (.int .i64 x.2.1), .t (.int .i64 x.2.2.1), .t (.sl (x.2.2.2.map byteT))]
 ins _ := []
 pre x := (0 ≤ x.2.2.1 ∧ x.2.2.1 < 4) ∧ x.2.2.2.length < 1000000000
 r x := .t (evT (mkE x.1 x.2.1 x.2.2.1 x.2.2.2))
 outs _ := []
 inj := by
   rintro ⟨a, b, c, d⟩ ⟨a', b', c', d'⟩ h _
   simp only [List.cons.injEq, V.t.injEq, T.int.injEq, T.sl.injEq, true_and, and_true, mapB_inj] at h
   obtain ⟨rfl, rfl, rfl, rfl⟩ := h
   exact ⟨rfl, rfl⟩
def mkA (k act : Int) (d : List UInt8) (i a : Nat) : List UInt8 := if a < i then mkD k act d a else []
theorem mkA_0 {k act : Int} {d : List UInt8} {a : Nat} : mkA k act d 0 a = [] := if_neg (by omega)
theorem mkA_10 {k act : Int} {d : List UInt8} : mkA k act d 1 0 = mkD k act d 0 := if_pos (by omega)
theorem mkA_11 {k act : Int} {d : List UInt8} : mkA k act d 1 1 = [] := if_neg (by omega)
theorem mkA_2 {k act : Int} {d : List UInt8} {a : Nat} (h : a < 2) : mkA k act d 2 a = mkD k act d a := if_pos h
theorem mkD0 {k act : Int} {d : List UInt8} : mkD k act d 0 = if k ≠ 5 ∧ act % 2 = 1 then sum1 d else [] := by unfold mkD; simp [sumA]
theorem mkD1 {k act : Int} {d : List UInt8} : mkD k act d 1 = if k ≠ 5 ∧ act / 2 % 2 = 1 then sum256 d else [] := by unfold mkD; simp [sumA]
theorem w_event_Make (tab : Tab) (gl : Gl) (n1 n2 : Nat) (h1 : tab.look n1 = some ct_clone.fs) (h2 : tab.look n2 = some ct_sumA.fs) (r k act : Int) (d : List UInt8) (ha : 0 ≤ act ∧ act < 4) (hd : d.length < 1000000000) :
   (ac_event_Make n1 n2).wp tab gl (zipF 0 [.t (.int .i64 r), .t (.int .i64 k), .t (.int .i64 act), .t (.sl (d.map byteT))]) (zipF 0 []) (resW [(8, some (4, true))] 0 (fun r' o => r' = .t (evT (mkE r k act d)) ∧ o = [])) := by
 have hc := clone_eq hd
 have s0 := sumA_eq0 hd
 have s1 := sumA_eq1 hd
 have e0 := mkD0 (k := k) (act := act) (d := d)
 have e1 := mkD1 (k := k) (act := act) (d := d)
 have l0 : (sum1 d).length = 20 := sum1_length
 have l1 : (sum256 d).length = 32 := sum256_length
 have t0 : List.take 20 (sum1 d) = sum1 d := take_sum1
 have t1 : List.take 32 (sum256 d) = sum256 d := take_sum256
 generalize sum1 d = S0 at *
 generalize sum256 d = S1 at *
 simp (disch := omega) only [go_sem, seval, ac_event_Make, h1, hc]
 repeat refine And.intro rfl ?_
 refine loop_upto 2 (fun i => [(1, .t (.int .i64 k)), (2, .t (.int .i64 act)), (3, .t (.sl (d.map byteT))), (8, .ref 4096 0 0), (9, .ref 8288 0 0), (19, .t (.int .i64 2)), (20, .t (.int .i64 (i : Nat)))])
   (fun i => [(8288, .live 4 [.agg [.t (.int .i64 r), .t (.int .i64 k), .sl 8224 0 2, .t (.sl (d.map byteT))]] true true), (8224, .live 1 [.t (.sl ((mkA k act d i 0).map byteT)), .t (.sl ((mkA k act d i 1).map byteT))] true false), (4096, .live 4 [.agg [.t (.int .i64 0), .t (.int .i64 0), .nil, .nil]] true true)]) ?_ (fun i hi => ?_)
 · refine Weak.rd id ?_ ?_ rfl
   all_goals simp (disch := omega) only [go_sem, seval, id, mkA_0, List.map_nil]
 · rcases (show i = 0 ∨ i = 1 ∨ i = 2 by omega) with rfl | rfl | rfl
   · rcases (show k = 5 ∨ k ≠ 5 by omega) with rfl | hk
     · rw [if_neg (by simp)] at e0
       simp (disch := omega) only [go_sem, seval, ac_event_Make_L0, mkA_0]
       refine Weak.rd id ?_ ?_ rfl
       all_goals simp (disch := omega) only [go_sem, seval, id, mkA_10, mkA_11, e0, List.map_nil]
     · have k5 : (k == 5) = false := by simpa using hk
       have b5 : (k != 5) = true := by simpa using hk
       rcases (show act = 0 ∨ act = 1 ∨ act = 2 ∨ act = 3 by omega) with rfl | rfl | rfl | rfl
       all_goals simp only [hk, ne_eq, not_false_eq_true, true_and, Int.reduceMod, Int.reduceEq, if_true, if_false] at e0
       all_goals simp (disch := omega) only [go_sem, seval, ac_event_Make_L0, mkA_0, k5, b5, h2, s0, Int.reduceFDiv]
       all_goals first
         | (refine ⟨rfl, Weak.cv (hv := []) [28752] id ?_ rfl⟩
            simp (disch := omega) only [go_sem, seval, id, mkA_10, mkA_11, e0, l0, t0, List.map_nil]
            rfl)
         | (refine Weak.rd id ?_ ?_ rfl
            all_goals simp (disch := omega) only [go_sem, seval, id, mkA_10, mkA_11, e0, List.map_nil])
   · rcases (show k = 5 ∨ k ≠ 5 by omega) with rfl | hk
     · rw [if_neg (by simp)] at e1
       simp (disch := omega) only [go_sem, seval, ac_event_Make_L0, mkA_10, mkA_11]
       refine Weak.rd id ?_ ?_ rfl
       all_goals simp (disch := omega) only [go_sem, seval, id, mkA_2, e1, List.map_nil]
     · have k5 : (k == 5) = false := by simpa using hk
       have b5 : (k != 5) = true := by simpa using hk
       rcases (show act = 0 ∨ act = 1 ∨ act = 2 ∨ act = 3 by omega) with rfl | rfl | rfl | rfl
       all_goals simp only [hk, ne_eq, not_false_eq_true, true_and, Int.reduceDiv, Int.reduceMod, Int.reduceEq, if_true, if_false] at e1
       all_goals simp (disch := omega) only [go_sem, seval, ac_event_Make_L0, mkA_10, mkA_11, k5, b5, h2, s1, Int.reduceFDiv]
       all_goals first
         | (refine ⟨rfl, Weak.cv (hv := []) [28752] id ?_ rfl⟩
            simp (disch := omega) only [go_sem, seval, id, mkA_2, e1, l1, t1, List.map_nil]
            rfl)
         | (refine Weak.rd id ?_ ?_ rfl
            all_goals simp (disch := omega) only [go_sem, seval, id, mkA_2, e1, List.map_nil])
   · simp (disch := omega) only [go_sem, seval, ac_event_Make_L0, mkA_2, mkE, evT_def, List.map_cons, List.map_nil]
theorem w_ref25_Make (tab : Tab) (gl : Gl) (n1 n2 : Nat) (h1 : tab.look n1 = some ct_has.fs) (h2 : tab.look n2 = some ct_sumA.fs) (r k act : Int) (d : List UInt8) (ha : 0 ≤ act ∧ act < 4) (hd : d.length < 1000000000) :
   (ac_ref25_Make n1 n2).wp tab gl (zipF 0 [.t (.int .i64 r), .t (.int .i64 k), .t (.int .i64 act), .t (.sl (d.map byteT))]) (zipF 0 []) (resW [(8, some (4, true))] 0 (fun r' o => r' = .t (evT (mkE r k act d)) ∧ o = [])) := by
 have q0 := has_eq0 ha
 have q1 := has_eq1 ha
 have s0 := sumA_eq0 hd
 have s1 := sumA_eq1 hd
 have e0 := mkD0 (k := k) (act := act) (d := d)
 have e1 := mkD1 (k := k) (act := act) (d := d)
 have l0 : (sum1 d).length = 20 := sum1_length
 have l1 : (sum256 d).length = 32 := sum256_length
 have t0 : List.take 20 (sum1 d) = sum1 d := take_sum1
 have t1 : List.take 32 (sum256 d) = sum256 d := take_sum256
 generalize sum1 d = S0 at *
 generalize sum256 d = S1 at *
 simp (disch := omega) only [go_sem, seval, ac_ref25_Make]
 repeat refine And.intro rfl ?_
 refine loop_upto 2 (fun i => [(1, .t (.int .i64 k)), (2, .t (.int .i64 act)), (3, .t (.sl (d.map byteT))), (8, .ref 4096 0 0), (9, .ref 8272 0 0), (10, .t (.int .i64 (i : Nat)))])
   (fun i => [(8272, .live 4 [.agg [.t (.int .i64 r), .t (.int .i64 k), .sl 8224 0 2, .t (.sl (d.map byteT))]] true true), (8224, .live 1 [.t (.sl ((mkA k act d i 0).map byteT)), .t (.sl ((mkA k act d i 1).map byteT))] true false), (4096, .live 4 [.agg [.t (.int .i64 0), .t (.int .i64 0), .nil, .nil]] true true)]) ?_ (fun i hi => ?_)
 · refine Weak.rd id ?_ ?_ rfl
   all_goals simp (disch := omega) only [go_sem, seval, id, mkA_0, List.map_nil]
 · have k5 : ∀ h : k ≠ 5, (k == 5) = false := fun h => by simpa using h
   have b5 : ∀ h : k ≠ 5, (k != 5) = true := fun h => by simpa using h
   rcases (show i = 0 ∨ i = 1 ∨ i = 2 by omega) with rfl | rfl | rfl
   · by_cases b0 : act % 2 = 1
     · rcases (show k = 5 ∨ k ≠ 5 by omega) with rfl | hk
       · rw [if_neg (by simp)] at e0
         simp (disch := omega) only [go_sem, seval, ac_ref25_Make_L0, mkA_0, h1, q0, b0]
         refine Weak.rd id ?_ ?_ rfl
         all_goals simp (disch := omega) only [go_sem, seval, id, mkA_10, mkA_11, e0, List.map_nil]
       · rw [if_pos ⟨hk, b0⟩] at e0
         simp (disch := omega) only [go_sem, seval, ac_ref25_Make_L0, mkA_0, h1, q0, b0, k5 hk, b5 hk, h2, s0]
         refine ⟨rfl, Weak.cv (hv := []) [28752] id ?_ rfl⟩
         simp (disch := omega) only [go_sem, seval, id, mkA_10, mkA_11, e0, l0, t0, List.map_nil]
         rfl
     · rw [if_neg (by simp [b0])] at e0
       simp (disch := omega) only [go_sem, seval, ac_ref25_Make_L0, mkA_0, h1, q0, b0]
       refine Weak.rd id ?_ ?_ rfl
       all_goals simp (disch := omega) only [go_sem, seval, id, mkA_10, mkA_11, e0, List.map_nil]
   · by_cases b0 : act / 2 % 2 = 1
     · rcases (show k = 5 ∨ k ≠ 5 by omega) with rfl | hk
       · rw [if_neg (by simp)] at e1
         simp (disch := omega) only [go_sem, seval, ac_ref25_Make_L0, mkA_10, mkA_11, h1, q1, b0]
         refine Weak.rd id ?_ ?_ rfl
         all_goals simp (disch := omega) only [go_sem, seval, id, mkA_2, e1, List.map_nil]
       · rw [if_pos ⟨hk, b0⟩] at e1
         simp (disch := omega) only [go_sem, seval, ac_ref25_Make_L0, mkA_10, mkA_11, h1, q1, b0, k5 hk, b5 hk, h2, s1]
         refine ⟨rfl, Weak.cv (hv := []) [28752] id ?_ rfl⟩
         simp (disch := omega) only [go_sem, seval, id, mkA_2, e1, l1, t1, List.map_nil]
         rfl
     · rw [if_neg (by simp [b0])] at e1
       simp (disch := omega) only [go_sem, seval, ac_ref25_Make_L0, mkA_10, mkA_11, h1, q1, b0]
       refine Weak.rd id ?_ ?_ rfl
       all_goals simp (disch := omega) only [go_sem, seval, id, mkA_2, e1, List.map_nil]
   · simp (disch := omega) only [go_sem, seval, ac_ref25_Make_L0, mkA_2, mkE, evT_def, List.map_cons, List.map_nil]
def sep4 : List UInt8 := [0, 0, 0, 0]
def ct_sep : Ct where
 α := Unit
 as _ := []
 ins _ := []
 pre _ := True
 r _ := .sl 0 0 4
 outs _ := [.live 1 ((sep4.map byteT).map V.t) true true]
 inj := by intro a b _ _; exact ⟨rfl, rfl⟩
theorem sep_eq : ct_sep.fs [] [] = some (.sl 0 0 4, [.live 1 ((sep4.map byteT).map V.t) true true]) := ct_sep.eq () trivial
theorem w_ref25_Separator (tab : Tab) (gl : Gl) : ac_ref25_Separator.wp tab gl (zipF 0 []) (zipF 0 []) (resF [] [(0, none)] 0 (fun r o => r = .sl 0 0 4 ∧ o = [.live 1 ((sep4.map byteT).map V.t) true true])) := by
 simp (disch := omega) only [go_sem, seval, ac_ref25_Separator, sep4, List.map_cons, List.map_nil]
def okC (c : UInt8) : Bool := !decide (c.toNat < 32) && !decide (c.toNat > 126)
def blL (b x : List UInt8) : List UInt8 := b ++ beI 2 (x.length : Int) 2 ++ x
theorem blL_len {b x : List UInt8} : (blL b x).length = b.length + 2 + x.length := by unfold blL; rw [List.length_append, List.length_append, beI_len]
def ct_blob : Ct where
 α := List UInt8 × List UInt8
 as x := [.t (.sl (x.1.map byteT)), .t (.sl (x.2.map byteT))]
 ins _ := []
 pre x := x.1.length < 100000000 ∧ x.2.length ≤ 65535
 r x := .sl 0 0 (x.1.length + 2 + x.2.length)
 outs x := [.live 1 (((blL x.1 x.2).map byteT).map V.t) true false]
 inj := by
   rintro ⟨a, b⟩ ⟨c, d⟩ h _
   simp only [List.cons.injEq, V.t.injEq, T.sl.injEq, and_true, mapB_inj] at h
   obtain ⟨rfl, rfl⟩ := h
   exact ⟨rfl, rfl⟩
theorem blob_eq {b x : List UInt8} (h : b.length < 100000000 ∧ x.length ≤ 65535) : ct_blob.fs [.t (.sl (b.map byteT)), .t (.sl (x.map byteT))] [] = some (.sl 0 0 (b.length + 2 + x.length), [.live 1 (((blL b x).map byteT).map V.t) true false]) := ct_blob.eq (b, x) h
theorem w_wire_Blob (tab : Tab) (gl : Gl) (n1 : Nat) (h1 : tab.look n1 = some ct_uint.fs) (b x : List UInt8) (hb : b.length < 100000000) (hx : x.length ≤ 65535) :
   (ac_wire_Blob n1).wp tab gl (zipF 0 [.t (.sl (b.map byteT)), .t (.sl (x.map byteT))]) (zipF 0 []) (resF [] [(4, none)] 0 (fun r o => r = .sl 0 0 (b.length + 2 + x.length) ∧ o = [.live 1 (((blL b x).map byteT).map V.t) true false])) := by
 have hu := uint2 (b := b) (n := (x.length : Int)) (by omega)
 have hl : (b ++ beI 2 (x.length : Int) 2).length = b.length + 2 := by rw [List.length_append, beI_len]
 have hbl : blL b x = b ++ beI 2 (x.length : Int) 2 ++ x := rfl
 have hno : ¬ 65535 < (x.length : Int) := by omega
 rw [hbl]
 generalize b ++ beI 2 (x.length : Int) 2 = B at *
 simp (disch := omega) only [go_sem, seval, ac_wire_Blob, h1, hu, hl, hno, List.take_length]
theorem w_ref3_Blob (tab : Tab) (gl : Gl) (n1 : Nat) (h1 : tab.look n1 = some ct_uint.fs) (b x : List UInt8) (hb : b.length < 100000000) (hx : x.length ≤ 65535) :
   (ac_ref3_Blob n1).wp tab gl (zipF 0 [.t (.sl (b.map byteT)), .t (.sl (x.map byteT))]) (zipF 0 []) (resF [] [(4, none)] 0 (fun r o => r = .sl 0 0 (b.length + 2 + x.length) ∧ o = [.live 1 (((blL b x).map byteT).map V.t) true false])) := by
 have hu := uint2 (b := b) (n := (x.length : Int)) (by omega)
 have hl : (b ++ beI 2 (x.length : Int) 2).length = b.length + 2 := by rw [List.length_append, beI_len]
 have hbl : blL b x = b ++ beI 2 (x.length : Int) 2 ++ x := rfl
 have hno : ¬ 65535 < (x.length : Int) := by omega
 rw [hbl]
 generalize b ++ beI 2 (x.length : Int) 2 = B at *
 simp (disch := omega) only [go_sem, seval, ac_ref3_Blob, h1, hu, hl, hno, List.take_length]
def wrBad (r k : Int) (n m : Nat) : Prop := r < 0 ∨ 11 < r ∨ k < 1 ∨ 5 < k ∨ n ≠ 2 ∨ 64 < m
instance {r k : Int} {n m : Nat} : Decidable (wrBad r k n m) := by unfold wrBad; infer_instance
theorem shl8_i64 {a : Nat} {k' : IntKind} (h : a < 1000000) : binI .shl .i64 (a : Int) k' 8 = some (.int .i64 ((256 * a : Nat) : Int)) := by
 change (if (8 : Int) < 0 then none else some (T.int .i64 (IntKind.i64.wrap ((a : Int) * 2 ^ min (8 : Int).toNat 64)))) = _
 rw [if_neg (by omega), show (a : Int) * 2 ^ min (8 : Int).toNat 64 = ((256 * a : Nat) : Int) by
   rw [show min (8 : Int).toNat 64 = 8 from rfl]; omega, wrap_i64_id (by omega)]
theorem or8_i64 {a : Nat} {x : UInt8} (h : a < 1000000) : binI .or .i64 ((256 * a : Nat) : Int) .i64 (x.toNat : Int) = some (.int .i64 ((256 * a + x.toNat : Nat) : Int)) := by
 have hx := x.toNat_lt
 change some (T.int .i64 (IntKind.i64.wrap ((BitVec.ofInt 64 ((256 * a : Nat) : Int) ||| BitVec.ofInt 64 (x.toNat : Int)).toNat : Int))) = _
 have e : (BitVec.ofInt 64 ((256 * a : Nat) : Int) ||| BitVec.ofInt 64 (x.toNat : Int)).toNat = 256 * a + x.toNat := by
   rw [BitVec.toNat_or, BitVec.toNat_ofInt, BitVec.toNat_ofInt, Int.emod_eq_of_lt (by omega) (by omega), Int.emod_eq_of_lt (by omega) (by omega), Int.toNat_natCast, Int.toNat_natCast, or8 (by omega)]
 rw [e, wrap_i64_id (by omega)]
attribute [go_sem ↓] shl8_i64 or8_i64
abbrev Cd := List UInt8 × Nat
def cdOb (c : Cd) : Ob := .live 2 [.t (.agg [.sl (c.1.map byteT), .int .i64 (c.2 : Int)])] true true
abbrev cdO (c : Cd) : Ob := .live 2 [.t (.agg [.sl (c.1.map byteT), .int .i64 (c.2 : Int)])] true true
theorem cdOb_eq {b : List UInt8} {a : Nat} : cdOb (b, a) = .live 2 [.t (.agg [.sl (b.map byteT), .int .i64 (a : Int)])] true true := rfl
theorem cdOb_inj {s t : Cd} (h : cdOb s = cdOb t) : s = t := by
 obtain ⟨b, a⟩ := s
 obtain ⟨b', a'⟩ := t
 simp only [cdOb_eq, Ob.live.injEq, List.cons.injEq, V.t.injEq, T.agg.injEq, T.sl.injEq, T.int.injEq, mapB_inj, Int.natCast_inj] at h
 simp only [Prod.mk.injEq]
 exact ⟨h.2.1.1.1, h.2.1.1.2.1.2⟩
def cdOk (c : Cd) : Prop := c.2 ≤ c.1.length ∧ c.1.length < 1000000000
def nx (c : Cd) (n : Nat) : Nat × Cd := if c.1.length ≤ c.2 then (0, c) else ((c.1.getD c.2 0).toNat % n, (c.1, c.2 + 1))
theorem nx_ok {c : Cd} {n : Nat} (h : cdOk c) : cdOk (nx c n).2 := by
 unfold nx cdOk at *
 split
 · exact h
 · exact ⟨by simp only; omega, h.2⟩
theorem nx_lt {c : Cd} {n : Nat} (h : 1 ≤ n) : (nx c n).1 < n := by
 unfold nx
 split
 · exact h
 · exact Nat.mod_lt _ (by omega)
def ct_next : Ct where
 α := Cd × Nat
 as x := [.ref 0 0 0, .t (.int .i64 x.2)]
 ins x := [cdOb x.1]
 pre x := cdOk x.1 ∧ 1 ≤ x.2 ∧ x.2 ≤ 1000000000
 r x := .t (.int .i64 (nx x.1 x.2).1)
 outs x := [cdOb (nx x.1 x.2).2]
 inj := by
   rintro ⟨s, a⟩ ⟨t, c⟩ h1 h2
   simp only [List.cons.injEq, V.t.injEq, T.int.injEq, true_and, and_true, Int.natCast_inj] at h1
   simp only [List.cons.injEq, and_true] at h2
   subst h1
   cases cdOb_inj h2
   exact ⟨rfl, rfl⟩
theorem next_eq {c : Cd} {n : Nat} (h : cdOk c ∧ 1 ≤ n ∧ n ≤ 1000000000) : ct_next.fs [.ref 0 0 0, .t (.int .i64 n)] [cdO c] = some (.t (.int .i64 (nx c n).1), [cdO (nx c n).2]) := ct_next.eq (c, n) h
theorem w_draw_Next (tab : Tab) (gl : Gl) (c : Cd) (n : Nat) (hc : cdOk c) (h1 : 1 ≤ n) (h2 : n ≤ 1000000000) :
   ac_draw_Codes_Next.wp tab gl (zipF 0 [.ref 0 0 0, .t (.int .i64 n)]) (zipF 0 [cdOb c]) (resW [(4, none)] 1 (fun r o => r = .t (.int .i64 (nx c n).1) ∧ o = [cdOb (nx c n).2])) := by
 obtain ⟨b, a⟩ := c
 obtain ⟨q1, q2⟩ := hc
 simp only at q1 q2
 by_cases h : b.length ≤ a
 · have e : nx (b, a) n = (0, (b, a)) := if_pos h
   rw [e]
   simp (disch := omega) only [go_sem, seval, ac_draw_Codes_Next, cdOb_eq, h]
   rfl
 · have e : nx (b, a) n = ((b.getD a 0).toNat % n, (b, a + 1)) := if_neg h
   rw [e]
   simp (disch := omega) only [go_sem, seval, ac_draw_Codes_Next, cdOb_eq, h]
   exact ⟨rfl, rfl, by rw [Int.tmod_eq_emod_of_nonneg (Int.natCast_nonneg _)]; norm_cast⟩
def ct_dnew : Ct where
 α := List UInt8 × Nat
 as x := [.t (.sl (x.1.map byteT)), .t (.int .i64 x.2)]
 ins _ := []
 pre x := x.1.length ≤ 9223372036854775807 ∧ x.2 ≤ 1000000
 r _ := .ref 0 0 0
 outs x := [cdOb (x.1.take x.2, 0)]
 inj := by
   rintro ⟨a, b⟩ ⟨c, d⟩ h _
   simp only [List.cons.injEq, V.t.injEq, T.sl.injEq, T.int.injEq, true_and, and_true, mapB_inj, Int.natCast_inj] at h
   obtain ⟨rfl, rfl⟩ := h
   exact ⟨rfl, rfl⟩
theorem dnew_eq {b : List UInt8} {n : Nat} (h : b.length ≤ 9223372036854775807 ∧ n ≤ 1000000) : ct_dnew.fs [.t (.sl (b.map byteT)), .t (.int .i64 n)] [] = some (.ref 0 0 0, [cdO (b.take n, 0)]) := ct_dnew.eq (b, n) h
theorem w_draw_New (tab : Tab) (gl : Gl) (b : List UInt8) (n : Nat) (h1 : b.length ≤ 9223372036854775807) (h2 : n ≤ 1000000) :
   ac_draw_New.wp tab gl (zipF 0 [.t (.sl (b.map byteT)), .t (.int .i64 n)]) (zipF 0 []) (resF [] [(4, none)] 0 (fun r o => r = .ref 0 0 0 ∧ o = [cdOb (b.take n, 0)])) := by
 by_cases h : n < b.length
 · simp (disch := omega) only [go_sem, seval, ac_draw_New, cdOb_eq, h]
 · have e : b.take n = b := List.take_of_length_le (by omega)
   simp (disch := omega) only [go_sem, seval, ac_draw_New, cdOb_eq, h, e]
def ct_mod : Ct where
 α := Int × Int
 as x := [.t (.int .i64 x.1), .t (.int .i64 x.2)]
 ins _ := []
 pre x := (-9223372036854775808 ≤ x.1 ∧ x.1 < 9223372036854775808) ∧ (-9223372036854775808 ≤ x.2 ∧ x.2 < 9223372036854775808)
 r x := .t (.int .i64 (modI x.1 x.2))
 outs _ := []
 inj := by
   rintro ⟨a, b⟩ ⟨c, d⟩ h _
   simp only [List.cons.injEq, V.t.injEq, T.int.injEq, true_and, and_true] at h
   obtain ⟨rfl, rfl⟩ := h
   exact ⟨rfl, rfl⟩
theorem mod_eq {a b : Int} (h : (-9223372036854775808 ≤ a ∧ a < 9223372036854775808) ∧ (-9223372036854775808 ≤ b ∧ b < 9223372036854775808)) : ct_mod.fs [.t (.int .i64 a), .t (.int .i64 b)] [] = some (.t (.int .i64 (modI a b)), []) := ct_mod.eq (a, b) h
theorem mkD_len {k act : Int} {d : List UInt8} {a : Nat} : (mkD k act d a).length = wantL k act a := by
 unfold mkD wantL
 split
 · exact sumA_length
 · rfl
theorem wantL_le {k act : Int} {a : Nat} : wantL k act a ≤ 32 := by
 unfold wantL szA
 split
 · split
   · omega
   · split <;> omega
 · omega
theorem mkE_m {r k act : Int} {d : List UInt8} (h : d.length < 1000000000) : evM (mkE r k act d) := by
 have w0 := wantL_le (k := k) (act := act) (a := 0)
 have w1 := wantL_le (k := k) (act := act) (a := 1)
 refine ⟨⟨by simp [mkE], fun x hx => ?_⟩, h⟩
 simp only [mkE, List.mem_cons, List.not_mem_nil, or_false] at hx
 rcases hx with rfl | rfl <;> (rw [mkD_len]; omega)
theorem mkE_ok {r k act : Int} {d : List UInt8} (hr : 0 ≤ r ∧ r ≤ 11) (hk : 1 ≤ k ∧ k ≤ 5) (ha : 1 ≤ act ∧ act ≤ 3) (hd : d.length ≤ 64) : chkE (mkE r k act d) act = 0 := by
 unfold chkE mkE
 simp only
 rw [if_neg (by unfold badE; omega), if_neg (by omega), if_pos]
 rw [fitE_two, mkD_len, mkD_len, decide_eq_true rfl, decide_eq_true rfl]; rfl
theorem modI_lt {a m : Int} (h : 1 ≤ m) : 0 ≤ modI a m ∧ modI a m < m := by
 unfold modI
 rw [if_neg (by omega)]
 exact ⟨Int.emod_nonneg _ (by omega), Int.emod_lt_of_pos _ (by omega)⟩
def lineL (i : Nat) : List UInt8 := match i with
 | 0 => [97, 61, 49]
 | 1 => [99, 111, 117, 110, 116, 61, 53]
 | 2 => [99, 111, 117, 110, 116, 61, 49, 55]
 | 3 => [104, 111, 115, 116, 61, 120]
 | 4 => [109, 111, 100, 101, 32, 98]
 | _ => [126]
theorem lineL_len {i : Nat} : 1 ≤ (lineL i).length ∧ (lineL i).length ≤ 8 := by
 unfold lineL; split <;> decide
def ct_line : Ct where
 α := Cd
 as _ := [.ref 0 0 0]
 ins x := [cdOb x]
 pre x := cdOk x
 r x := .t (.sl ((lineL (nx x 6).1).map byteT))
 outs x := [cdOb (nx x 6).2]
 inj := by
   intro s t _ h2
   simp only [List.cons.injEq, and_true] at h2
   cases cdOb_inj h2
   exact ⟨rfl, rfl⟩
theorem line_eq {c : Cd} (h : cdOk c) : ct_line.fs [.ref 0 0 0] [cdO c] = some (.t (.sl ((lineL (nx c 6).1).map byteT)), [cdO (nx c 6).2]) := ct_line.eq c h
theorem w_draw_Line (tab : Tab) (gl : Gl) (n1 : Nat) (h1 : tab.look n1 = some ct_next.fs) (c : Cd) (hc : cdOk c) :
   (ac_draw_Codes_Line n1).wp tab gl (zipF 0 [.ref 0 0 0]) (zipF 0 [cdOb c]) (resW [(2, none)] 1 (fun r o => r = .t (.sl ((lineL (nx c 6).1).map byteT)) ∧ o = [cdOb (nx c 6).2])) := by
 have hn := next_eq (c := c) (n := 6) ⟨hc, by omega, by omega⟩
 have hl := nx_lt (c := c) (n := 6) (by omega)
 have k6 : ((6 : Nat) : Int) = 6 := rfl
 rw [k6] at hn
 generalize nx c 6 = q at *
 obtain ⟨i, b', a'⟩ := q
 obtain ⟨b, a⟩ := c
 simp only at hl hn
 rcases (show i = 0 ∨ i = 1 ∨ i = 2 ∨ i = 3 ∨ i = 4 ∨ i = 5 by omega) with rfl | rfl | rfl | rfl | rfl | rfl
 all_goals simp only [cdO, Int.natCast_zero, Int.natCast_one, Int.cast_ofNat_Int] at hn
 all_goals simp (disch := omega) only [go_sem, ↓reduceIte, Nat.reduceAdd, Nat.reduceEqDiff, Nat.reduceSub, Nat.reduceLeDiff, Nat.reduceBEq, Int.reduceLT, Int.reduceLE, reduceCtorEq, ac_draw_Codes_Line, cdOb_eq, h1, hn, lineL, List.map_cons, List.map_nil]
theorem nxF (n : Nat) {c : Cd} (h : cdOk c) (h1 : 1 ≤ n) (h2 : n ≤ 1000000000) : ∃ i b a, nx c n = (i, (b, a)) ∧ i < n ∧ cdOk (b, a) ∧ ct_next.fs [.ref 0 0 0, .t (.int .i64 n)] [.live 2 [.t (.agg [.sl (c.1.map byteT), .int .i64 (c.2 : Int)])] true true] = some (.t (.int .i64 i), [.live 2 [.t (.agg [.sl (b.map byteT), .int .i64 (a : Int)])] true true]) := by
 have e := next_eq (c := c) (n := n) ⟨h, h1, h2⟩
 have l := nx_lt (c := c) (n := n) h1
 have k := nx_ok (n := n) h
 obtain ⟨⟨i, b, a⟩, hq⟩ : ∃ q, nx c n = q := ⟨_, rfl⟩
 rw [hq] at e l k
 exact ⟨i, b, a, hq, l, k, e⟩
def rI (n : Int) : Prop := -9223372036854775808 ≤ n ∧ n < 9223372036854775808
def ct_dstr : Ct where
 α := Int
 as x := [.t (.int .i64 x)]
 ins _ := []
 pre x := rI x
 r x := .t (.int .i64 (2 + modI x 2))
 outs _ := []
 inj := by
   intro a b h _
   simp only [List.cons.injEq, V.t.injEq, T.int.injEq, true_and, and_true] at h
   subst h; exact ⟨rfl, rfl⟩
theorem dstr_eq {a : Int} (h : rI a) : ct_dstr.fs [.t (.int .i64 a)] [] = some (.t (.int .i64 (2 + modI a 2)), []) := ct_dstr.eq a h
theorem w_draw_Strong (tab : Tab) (gl : Gl) (n1 : Nat) (h1 : tab.look n1 = some ct_mod.fs) (a : Int) (ha : rI a) :
   (ac_draw_Strong n1).wp tab gl (zipF 0 [.t (.int .i64 a)]) (zipF 0 []) (resW [(2, none)] 0 (fun r o => r = .t (.int .i64 (2 + modI a 2)) ∧ o = [])) := by
 have hm := mod_eq (a := a) (b := 2) ⟨ha, by omega⟩
 have lm := modI_lt (a := a) (m := 2) (by omega)
 generalize modI a 2 = M at *
 simp (disch := omega) only [go_sem, seval, ac_draw_Strong, h1, hm]
def evX (e : Ev) : Prop := e.2.2.1.length ≤ 9223372036854775807 ∧ (∀ x ∈ e.2.2.1, x.length ≤ 9223372036854775807) ∧ e.2.2.2.length ≤ 9223372036854775807
end Go.Eng
end
section
namespace Go.Eng
variable {tab : Tab} {gl : Gl} {fs : Fs} {hs : Hs} {Qx : Post}
def invG {σ : Type} (Inv : σ → Prop) (μ : σ → Nat) (fI : σ → Fs) (hI : σ → Hs) (s : σ) (fs : Fs) (hs : Hs) : Prop := ∃ t, Inv t ∧ μ t < μ s ∧ Weak fs hs (fI t) (hI t)
def invK {σ : Type} (Inv : σ → Prop) (μ : σ → Nat) (fI : σ → Fs) (hI : σ → Hs) (s : σ) (Qx : Post) : Post := fun e fs' hs' => match e with | .normal => invG Inv μ fI hI s fs' hs' | e => Qx e fs' hs'
theorem invK_normal {σ : Type} {Inv : σ → Prop} {μ : σ → Nat} {fI : σ → Fs} {hI : σ → Hs} {s : σ} : invK Inv μ fI hI s Qx .normal fs hs = invG Inv μ fI hI s fs hs := Eq.trans (Eq.refl _) rfl
theorem invK_exit {σ : Type} {Inv : σ → Prop} {μ : σ → Nat} {fI : σ → Fs} {hI : σ → Hs} {s : σ} {id : Nat} : invK Inv μ fI hI s Qx (.exit id) fs hs = Qx (.exit id) fs hs := Eq.trans (Eq.refl _) rfl
theorem invK_ret {σ : Type} {Inv : σ → Prop} {μ : σ → Nat} {fI : σ → Fs} {hI : σ → Hs} {s : σ} : invK Inv μ fI hI s Qx .ret fs hs = Qx .ret fs hs := Eq.trans (Eq.refl _) rfl
attribute [go_sem] invK_normal invK_exit invK_ret
theorem invG.of {σ : Type} {Inv : σ → Prop} {μ : σ → Nat} {fI : σ → Fs} {hI : σ → Hs} {s : σ} (t : σ) (h1 : Inv t) (h2 : μ t < μ s) (h3 : Weak fs hs (fI t) (hI t)) : invG Inv μ fI hI s fs hs := ⟨t, h1, h2, h3⟩
theorem loop_inv {a : AC} {σ : Type} (Inv : σ → Prop) (μ : σ → Nat) (fI : σ → Fs) (hI : σ → Hs) (s0 : σ) (hP : Inv s0) (h0 : Weak fs hs (fI s0) (hI s0)) (h : ∀ s, Inv s → a.wp tab gl (fI s) (hI s) (invK Inv μ fI hI s Qx)) : loopW tab gl a fs hs Qx := by
 refine loop_rule (ι := { s : σ // Inv s }) (fun i => (fI i.1, hI i.1)) (fun i => μ i.1) ⟨s0, hP⟩ h0 (fun i => ?_)
 refine wp_post_mono (fun e f g hq => ?_) (h i.1 i.2)
 cases e with
 | normal =>
   obtain ⟨t, h1, h2, h3⟩ := hq
   exact ⟨⟨t, h1⟩, h2, h3⟩
 | exit id => exact hq
 | ret => exact hq
end Go.Eng
end
section
set_option maxRecDepth 20000
set_option maxHeartbeats 64000000
namespace Go.Eng
abbrev Im := Int × List UInt8 × Int × List UInt8
def imT (x : Im) : T := .agg [.int .i64 x.1, strT x.2.1, .int .i64 x.2.2.1, .sl (x.2.2.2.map byteT)]
theorem imT_def {a v : Int} {s p : List UInt8} : imT (a, s, v, p) = .agg [.int .i64 a, strT s, .int .i64 v, .sl (p.map byteT)] := Eq.trans (Eq.refl _) rfl
theorem imT_inj {e f : Im} (h : imT e = imT f) : e = f := by
 obtain ⟨a, b, c, d⟩ := e
 obtain ⟨a', b', c', d'⟩ := f
 simp only [imT_def, T.agg.injEq, List.cons.injEq, T.int.injEq, T.sl.injEq, true_and, and_true, strT_inj, mapB_inj] at h
 obtain ⟨rfl, rfl, rfl, rfl⟩ := h
 rfl
def imM (x : Im) : Prop := x.2.1.length ≤ 9223372036854775807 ∧ x.2.2.2.length < 1000000000 ∧ rI x.1 ∧ rI x.2.2.1
def okN (c : UInt8) : Bool := (!decide (c.toNat < 97) && !decide (c.toNat > 122)) || ((!decide (c.toNat < 48) && !decide (c.toNat > 57)) || decide (c = 45))
def nameB (s : List UInt8) : Bool := (!decide (s.length < 1) && !decide (12 < s.length)) && s.all okN
def lnS (out : List (List UInt8)) (line : List UInt8) : List UInt8 → List (List UInt8)
 | [] => if 0 < line.length then [] else out
 | c :: r => if c = 10 then (if line.length = 0 ∨ 4 ≤ out.length then [] else lnS (out ++ [line]) [] r) else if okC c = true then lnS out (line ++ [c]) r else []
def lnL (p : List UInt8) : List (List UInt8) := lnS [] [] p
def badI (r v : Int) : Prop := r < 1 ∨ 4 < r ∨ v < 0 ∨ 1000000 < v
instance {r v : Int} : Decidable (badI r v) := by unfold badI; infer_instance
def chkI (x : Im) : Int := if badI x.1 x.2.2.1 then 1 else if nameB x.2.1 = false then 43 else if 64 < x.2.2.2.length then 4 else if x.1 = 4 ∧ (lnL x.2.2.2).length = 0 then 40 else 0
def encI (x : Im) : List UInt8 := blL (blL (beI 1 x.1 1 ++ beI 4 x.2.2.1 4) x.2.1) x.2.2.2
def encI' (x : Im) : List UInt8 := if chkI x = 0 then encI x else []
def regI (r : Int) : Int := if r = 1 then 0 else if r = 2 then 4 else if r = 3 then 8 else if r = 4 then 9 else -1
def decL : Nat → Nat → List UInt8
 | 0, n => [UInt8.ofNat (48 + n)]
 | k + 1, n => if n < 10 then [UInt8.ofNat (48 + n)] else decL k (n / 10) ++ [UInt8.ofNat (48 + n % 10)]
def numL (n : Nat) : List UInt8 := decL 7 n
def labL (s : List UInt8) (n : Nat) : List UInt8 := s ++ [32] ++ numL n
def digI (x : Im) (act : Int) (a : Nat) : List UInt8 := if 0 < (encI' x).length ∧ act / 2 ^ a % 2 = 1 then sumA a (encI' x) else []
def ofI (x : Im) (act : Int) : Ev := if chkI x ≠ 0 ∨ x.1 = 4 then (0, 0, [], []) else (regI x.1, 1, [digI x act 0, digI x act 1], labL x.2.1 x.2.2.1.toNat)
def chF (pre : List Im) : List Im → Int
 | [] => if pre.any (fun y => decide (y.1 = 1)) && pre.any (fun y => decide (y.1 = 3)) then 0 else 40
 | x :: r => if chkI x ≠ 0 then chkI x else if pre ≠ [] ∧ x.1 < (pre.getLastD (0, [], 0, [])).1 then 41 else if pre.any (fun y => decide (y.1 = x.1) && decide (y.2.1 = x.2.1)) then 42 else chF (pre ++ [x]) r
def chkC (l : List Im) : Int := if l.length = 0 ∨ 8 < l.length then 1 else chF [] l
def evsR (act r : Int) (l : List Im) : List Ev := (l.filter (fun x => decide (x.1 = r))).flatMap fun x => if r = 4 then (lnL x.2.2.2).map (mkE 9 3 act) else [ofI x act]
def seps (act : Int) : List Ev := (List.range 8).map fun (i : Nat) => mkE (i : Int) 2 act sep4
def evsC (act : Int) (l : List Im) : List Ev := (evsR act 1 l ++ evsR act 2 l) ++ seps act ++ (evsR act 3 l ++ evsR act 4 l)
def evsI (l : List Im) (act : Int) : List Ev := if chkC l ≠ 0 ∨ act < 1 ∨ 3 < act then [] else evsC act l
theorem lnS_len {p : List UInt8} : ∀ {out : List (List UInt8)} {line : List UInt8}, out.length ≤ 4 → (lnS out line p).length ≤ 4 := by
 induction p with
 | nil => intro out line h; unfold lnS; split <;> simp_all
 | cons c r ih =>
   intro out line h
   unfold lnS
   split
   · split
     · simp
     · rename_i hq
       exact ih (by simp; omega)
   · split
     · exact ih h
     · simp
theorem lnL_len {p : List UInt8} : (lnL p).length ≤ 4 := lnS_len (by simp)
theorem lnS_el {p : List UInt8} : ∀ {out : List (List UInt8)} {line : List UInt8} {n : Nat}, (∀ x ∈ out, x.length ≤ n) → line.length + p.length ≤ n → ∀ x ∈ lnS out line p, x.length ≤ n := by
 induction p with
 | nil => intro out line n h1 h2 x hx; unfold lnS at hx; split at hx <;> simp_all
 | cons c r ih =>
   intro out line n h1 h2
   simp only [List.length_cons] at h2
   unfold lnS
   split
   · split
     · simp
     · refine ih (fun x hx => ?_) (by simp; omega)
       simp only [List.mem_append, List.mem_cons, List.not_mem_nil, or_false] at hx
       rcases hx with hx | rfl
       · exact h1 x hx
       · omega
   · split
     · exact ih h1 (by simp; omega)
     · simp
theorem lnL_el {p : List UInt8} : ∀ x ∈ lnL p, x.length ≤ p.length := lnS_el (by simp) (by simp)
theorem decL_len : ∀ {k n : Nat}, 1 ≤ (decL k n).length ∧ (decL k n).length ≤ k + 1
 | 0, n => by simp [decL]
 | k + 1, n => by
   unfold decL
   split
   · simp
   · have := decL_len (k := k) (n := n / 10)
     simp; omega
def nmL (i : Nat) : List UInt8 := match i with
 | 0 => [97]
 | 1 => [103, 114, 117, 98]
 | 2 => [108, 105, 110, 117, 120]
 | 3 => [110, 101, 116, 45, 48]
 | _ => [116, 119, 101, 108, 118, 101, 45, 98, 121, 116, 101, 115]
def payN : Nat → Cd → List UInt8 → List UInt8 × Cd
 | 0, c, b => (b, c)
 | k + 1, c, b => payN k (nx c 6).2 (b ++ lineL (nx c 6).1 ++ [10])
def payG (c : Cd) : List UInt8 × Cd := payN (1 + (nx c 4).1) (nx c 4).2 []
def vrG (c : Cd) : Int × Cd := if (nx (nx c 5).2 9).1 = 8 then ((1000000 - ((nx (nx (nx c 5).2 9).2 3).1 : Int)), (nx (nx (nx c 5).2 9).2 3).2) else (((nx c 5).1 : Int), (nx (nx c 5).2 9).2)
def byN : Nat → Cd → List UInt8 → List UInt8 × Cd
 | 0, c, b => (b, c)
 | k + 1, c, b => byN k (nx c 256).2 (b ++ [UInt8.ofNat (nx c 256).1])
def plG (c : Cd) (role : Int) : List UInt8 × Cd := if role = 4 then payG c else byN (nx c 7).1 (nx c 7).2 []
def imG (c : Cd) (role : Int) : Im × Cd := ((role, nmL (nx c 5).1, (vrG (nx c 5).2).1, (plG (vrG (nx c 5).2).2 role).1), (plG (vrG (nx c 5).2).2 role).2)
def isD (l : List Im) (x : Im) : Bool := l.any (fun y => decide (y.1 = x.1) && decide (y.2.1 = x.2.1))
def chN : Nat → Cd → Int → List Im → List Im × Cd
 | 0, c, _, l => (l, c)
 | k + 1, c, r, l => chN k (imG c r).2 r (if isD l (imG c r).1 then l else l ++ [(imG c r).1])
def chK (c : Cd) (r : Int) : Nat × Cd := if r = 1 ∨ r = 3 then (1 + (nx (nx c 3).2 2).1, (nx (nx c 3).2 2).2) else nx c 3
def chR (r : Int) (s : List Im × Cd) : List Im × Cd := chN (chK s.2 r).1 (chK s.2 r).2 r s.1
def chG (b : List UInt8) : List Im := (chR 4 (chR 3 (chR 2 (chR 1 ([], (b.take 200, 0)))))).1
def ev0 : Ev := (0, 0, [], [])
theorem okC10 {c : UInt8} (h : okC c = true) : c ≠ 10 := by rintro rfl; revert h; decide
theorem lnS_app {s r : List UInt8} {out : List (List UInt8)} : ∀ {l : List UInt8}, s.all okC = true → lnS out l (s ++ r) = lnS out (l ++ s) r := by
 induction s with
 | nil => intro l _; simp
 | cons c s ih =>
   intro l h
   simp only [List.all_cons, Bool.and_eq_true] at h
   rw [List.cons_append, lnS, if_neg (okC10 h.1), if_pos h.1, ih h.2]; simp
theorem lnS_nl {r l : List UInt8} {out : List (List UInt8)} (h1 : 0 < l.length) (h2 : out.length < 4) : lnS out l (10 :: r) = lnS (out ++ [l]) [] r := by
 rw [lnS, if_pos rfl, if_neg (by omega)]
theorem lineL_ok {i : Nat} : (lineL i).all okC = true := by unfold lineL; split <;> decide
theorem payN_ok : ∀ {k : Nat} {c : Cd} {b : List UInt8} {out : List (List UInt8)}, (∀ r, lnS [] [] (b ++ r) = lnS out [] r) → out.length + k ≤ 4 → (lnL (payN k c b).1).length = out.length + k ∧ (payN k c b).1.length ≤ b.length + 9 * k
 | 0, c, b, out, h, hk => by
   have := h []
   rw [List.append_nil] at this
   refine ⟨?_, by simp [payN]⟩
   show (lnS [] [] b).length = _
   rw [this]; simp [lnS]
 | k + 1, c, b, out, h, hk => by
   have hl := lineL_len (i := (nx c 6).1)
   have := payN_ok (k := k) (c := (nx c 6).2) (b := b ++ lineL (nx c 6).1 ++ [10]) (out := out ++ [lineL (nx c 6).1]) (fun r => by
     rw [List.append_assoc, List.append_assoc, h, lnS_app lineL_ok]
     exact lnS_nl hl.1 (by omega)) (by simp; omega)
   simp only [List.length_append, List.length_cons, List.length_nil] at this
   refine ⟨by unfold payN; omega, ?_⟩
   unfold payN
   omega
theorem payG_ok {c : Cd} : 1 ≤ (lnL (payG c).1).length ∧ (payG c).1.length ≤ 36 := by
 have hn := nx_lt (c := c) (n := 4) (by omega)
 have := payN_ok (k := 1 + (nx c 4).1) (c := (nx c 4).2) (b := []) (out := []) (fun r => rfl) (by simp; omega)
 simp only [List.length_nil] at this
 unfold payG
 omega
theorem payN_cd : ∀ {k : Nat} {c : Cd} {b : List UInt8}, cdOk c → cdOk (payN k c b).2
 | 0, _, _, h => h
 | k + 1, _, _, h => payN_cd (k := k) (nx_ok h)
theorem byN_cd : ∀ {k : Nat} {c : Cd} {b : List UInt8}, cdOk c → cdOk (byN k c b).2
 | 0, _, _, h => h
 | k + 1, _, _, h => byN_cd (k := k) (nx_ok h)
theorem byN_len : ∀ {k : Nat} {c : Cd} {b : List UInt8}, (byN k c b).1.length = b.length + k
 | 0, _, _ => rfl
 | k + 1, c, b => by
   have := byN_len (k := k) (c := (nx c 256).2) (b := b ++ [UInt8.ofNat (nx c 256).1])
   unfold byN
   rw [this]; simp; omega
theorem plG_cd {c : Cd} {r : Int} (h : cdOk c) : cdOk (plG c r).2 := by
 unfold plG
 split
 · exact payN_cd (nx_ok h)
 · exact byN_cd (nx_ok h)
theorem plG_len {c : Cd} {r : Int} : (plG c r).1.length ≤ 36 := by
 unfold plG
 split
 · exact payG_ok.2
 · have := nx_lt (c := c) (n := 7) (by omega)
   rw [byN_len]; simp; omega
theorem vrG_cd {c : Cd} (h : cdOk c) : cdOk (vrG c).2 := by
 unfold vrG
 split
 · exact nx_ok (nx_ok (nx_ok h))
 · exact nx_ok (nx_ok h)
theorem vrG_le {c : Cd} : 0 ≤ (vrG c).1 ∧ (vrG c).1 ≤ 1000000 := by
 unfold vrG
 split
 · have := nx_lt (c := (nx (nx c 5).2 9).2) (n := 3) (by omega)
   simp only; omega
 · have := nx_lt (c := c) (n := 5) (by omega)
   simp only; omega
theorem nmL_ok {i : Nat} : nameB (nmL i) = true := by unfold nmL; split <;> decide
theorem imG_cd {c : Cd} {r : Int} (h : cdOk c) : cdOk (imG c r).2 := plG_cd (vrG_cd (nx_ok h))
theorem imG_role {c : Cd} {r : Int} : (imG c r).1.1 = r := rfl
theorem imG_ok {c : Cd} {r : Int} (hr : 1 ≤ r ∧ r ≤ 4) : chkI (imG c r).1 = 0 := by
 have hv := vrG_le (c := (nx c 5).2)
 have hl := plG_len (c := (vrG (nx c 5).2).2) (r := r)
 unfold chkI imG
 simp only
 rw [if_neg (by unfold badI; omega), nmL_ok, if_neg (by decide), if_neg (by omega), if_neg]
 rintro ⟨rfl, h⟩
 have hp := payG_ok (c := (vrG (nx c 5).2).2)
 have e : (plG (vrG (nx c 5).2).2 4).1 = (payG (vrG (nx c 5).2).2).1 := by unfold plG; rw [if_pos rfl]
 rw [e] at h
 omega
theorem chkI_good {x : Im} (h : chkI x = 0) : (1 ≤ x.1 ∧ x.1 ≤ 4) ∧ (0 ≤ x.2.2.1 ∧ x.2.2.1 ≤ 1000000) ∧ nameB x.2.1 = true ∧ x.2.2.2.length ≤ 64 ∧ (x.1 = 4 → 1 ≤ (lnL x.2.2.2).length) := by
 unfold chkI at h
 split at h
 · simp at h
 · rename_i h1
   split at h
   · simp at h
   · rename_i h2
     split at h
     · simp at h
     · rename_i h3
       split at h
       · simp at h
       · rename_i h4
         unfold badI at h1
         refine ⟨by omega, by omega, by simpa using h2, by omega, fun h5 => ?_⟩
         by_cases h6 : (lnL x.2.2.2).length = 0
         · exact absurd ⟨h5, h6⟩ h4
         · omega
theorem nameB_len {s : List UInt8} (h : nameB s = true) : 1 ≤ s.length ∧ s.length ≤ 12 := by
 unfold nameB at h
 simp only [Bool.and_eq_true, Bool.not_eq_true', decide_eq_false_iff_not] at h
 omega
theorem chkI_m {x : Im} (h : chkI x = 0) : imM x := by
 obtain ⟨h1, h2, h3, h4, h5⟩ := chkI_good h
 have h6 := nameB_len h3
 exact ⟨by omega, by omega, by unfold rI; omega, by unfold rI; omega⟩
def chP (l : List Im) : Prop := ∀ r, chF [] (l ++ r) = chF l r
theorem chP_nil : chP [] := fun _ => rfl
theorem chP_snoc {l : List Im} {x : Im} (h : chP l) (h1 : chkI x = 0) (h2 : ∀ y ∈ l, y.1 ≤ x.1) (h3 : isD l x = false) : chP (l ++ [x]) := by
 intro r
 rw [List.append_assoc, h, List.cons_append, List.nil_append, chF, if_neg (by omega), if_neg, if_neg (by unfold isD at h3; rw [h3]; decide)]
 rintro ⟨h4, h5⟩
 have hg : l.getLastD (0, [], 0, []) = l.getLast h4 := by
   rw [List.getLastD_eq_getLast?, List.getLast?_eq_some_getLast h4]; rfl
 rw [hg] at h5
 have := h2 _ (List.getLast_mem h4)
 omega
structure ChO (r : Int) (l : List Im) : Prop where
 p : chP l
 ok : ∀ x ∈ l, chkI x = 0
 le : ∀ x ∈ l, x.1 ≤ r
theorem ChO.up {r q : Int} {l : List Im} (h : ChO r l) (hq : r ≤ q) : ChO q l := ⟨h.p, h.ok, fun x hx => by have := h.le x hx; omega⟩
theorem isD_any {l : List Im} {x : Im} (h : isD l x = true) : ∃ y ∈ l, y.1 = x.1 := by
 unfold isD at h
 obtain ⟨y, hy, h2⟩ := List.any_eq_true.1 h
 simp only [Bool.and_eq_true, decide_eq_true_eq] at h2
 exact ⟨y, hy, h2.1⟩
theorem chN_ok {r : Int} (hr : 1 ≤ r ∧ r ≤ 4) : ∀ {k : Nat} {c : Cd} {l : List Im}, ChO r l → cdOk c → ChO r (chN k c r l).1 ∧ cdOk (chN k c r l).2 ∧ (∀ x ∈ l, x ∈ (chN k c r l).1) ∧ (chN k c r l).1.length ≤ l.length + k ∧ (1 ≤ k → ∃ y ∈ (chN k c r l).1, y.1 = r)
 | 0, c, l, h, hc => ⟨h, hc, fun _ hx => hx, by simp [chN], by omega⟩
 | k + 1, c, l, h, hc => by
   unfold chN
   cases hd : isD l (imG c r).1
   · have h' : ChO r (l ++ [(imG c r).1]) := by
       refine ⟨chP_snoc h.p (imG_ok hr) (fun y hy => h.le y hy) hd, fun x hx => ?_, fun x hx => ?_⟩
       · simp only [List.mem_append, List.mem_cons, List.not_mem_nil, or_false] at hx
         rcases hx with hx | rfl
         · exact h.ok x hx
         · exact imG_ok hr
       · simp only [List.mem_append, List.mem_cons, List.not_mem_nil, or_false] at hx
         rcases hx with hx | rfl
         · exact h.le x hx
         · exact Int.le_of_eq imG_role
     obtain ⟨g1, g2, g3, g4, g5⟩ := chN_ok hr (k := k) h' (imG_cd (r := r) hc)
     rw [if_neg (by decide)]
     refine ⟨g1, g2, fun x hx => g3 x (by simp [hx]), by simp at g4; omega, fun _ => ⟨_, g3 (imG c r).1 (by simp), imG_role⟩⟩
   · obtain ⟨g1, g2, g3, g4, g5⟩ := chN_ok hr (k := k) h (imG_cd (r := r) hc)
     rw [if_pos rfl]
     obtain ⟨y, hy, hy2⟩ := isD_any hd
     exact ⟨g1, g2, g3, by omega, fun _ => ⟨y, g3 y hy, hy2⟩⟩
theorem chK_ok {c : Cd} {r : Int} (hc : cdOk c) : cdOk (chK c r).2 ∧ (chK c r).1 ≤ 2 ∧ (r = 1 ∨ r = 3 → 1 ≤ (chK c r).1) := by
 unfold chK
 split
 · have := nx_lt (c := (nx c 3).2) (n := 2) (by omega)
   exact ⟨nx_ok (nx_ok hc), by simp only; omega, fun _ => by simp only; omega⟩
 · rename_i h
   have := nx_lt (c := c) (n := 3) (by omega)
   exact ⟨nx_ok hc, by omega, fun h' => absurd h' h⟩
theorem chR_ok {r : Int} (hr : 1 ≤ r ∧ r ≤ 4) {s : List Im × Cd} (h : ChO r s.1) (hc : cdOk s.2) : ChO r (chR r s).1 ∧ cdOk (chR r s).2 ∧ (∀ x ∈ s.1, x ∈ (chR r s).1) ∧ (chR r s).1.length ≤ s.1.length + 2 ∧ (r = 1 ∨ r = 3 → ∃ y ∈ (chR r s).1, y.1 = r) := by
 obtain ⟨k1, k2, k3⟩ := chK_ok (r := r) hc
 obtain ⟨g1, g2, g3, g4, g5⟩ := chN_ok hr (k := (chK s.2 r).1) h k1
 exact ⟨g1, g2, g3, by unfold chR; omega, fun h => g5 (k3 h)⟩
theorem chG_ok {b : List UInt8} : chkC (chG b) = 0 ∧ (∀ x ∈ chG b, chkI x = 0) ∧ (chG b).length ≤ 8 := by
 have c0 : cdOk (b.take 200, 0) := ⟨Nat.zero_le _, by simp only [List.length_take]; omega⟩
 obtain ⟨a1, a2, a3, a4, a5⟩ := chR_ok (r := 1) (by omega) (s := ([], (b.take 200, 0))) ⟨chP_nil, by simp, by simp⟩ c0
 obtain ⟨b1, b2, b3, b4, b5⟩ := chR_ok (r := 2) (by omega) (a1.up (by omega)) a2
 obtain ⟨c1, c2, c3, c4, c5⟩ := chR_ok (r := 3) (by omega) (b1.up (by omega)) b2
 obtain ⟨d1, d2, d3, d4, d5⟩ := chR_ok (r := 4) (by omega) (c1.up (by omega)) c2
 have hg : (chR 4 (chR 3 (chR 2 (chR 1 ([], (b.take 200, 0)))))).1 = chG b := rfl
 rw [hg] at d1 d3 d4
 simp only [List.length_nil] at a4
 obtain ⟨y, hy, hy1⟩ := a5 (.inl rfl)
 obtain ⟨z, hz, hz1⟩ := c5 (.inr rfl)
 have my := d3 _ (c3 _ (b3 _ hy))
 have mz := d3 _ hz
 refine ⟨?_, d1.ok, by omega⟩
 have hp : 0 < (chG b).length := List.length_pos_of_mem my
 unfold chkC
 rw [if_neg (by omega)]
 have := d1.p []
 rw [List.append_nil] at this
 rw [this, chF, List.any_eq_true.2 ⟨y, my, by simp [hy1]⟩, List.any_eq_true.2 ⟨z, mz, by simp [hz1]⟩]
 rfl
theorem chF_ok : ∀ {l pre : List Im}, chF pre l = 0 → ∀ x ∈ l, chkI x = 0
 | [], _, _, x, hx => by simp at hx
 | y :: l, pre, h, x, hx => by
   unfold chF at h
   split at h
   · omega
   · rename_i h1
     split at h
     · simp at h
     · split at h
       · simp at h
       · rcases List.mem_cons.1 hx with rfl | hx
         · omega
         · exact chF_ok h x hx
theorem chkC_ok {l : List Im} (h : chkC l = 0) : (∀ x ∈ l, chkI x = 0) ∧ 1 ≤ l.length ∧ l.length ≤ 8 := by
 unfold chkC at h
 split at h
 · simp at h
 · exact ⟨chF_ok h, by omega⟩
def evV (act : Int) (e : Ev) : Prop := chkE e act = 0 ∧ evM e
theorem digI_len {x : Im} {act : Int} {a : Nat} (h : chkI x = 0) : (digI x act a).length = wantL 1 act a := by
 have he : 0 < (encI' x).length := by
   unfold encI'
   rw [if_pos h]
   unfold encI
   rw [blL_len]; omega
 unfold digI wantL
 by_cases hb : act / 2 ^ a % 2 = 1
 · rw [if_pos ⟨he, hb⟩, if_pos ⟨by decide, hb⟩]; exact sumA_length
 · rw [if_neg (fun h => hb h.2), if_neg (fun h => hb h.2)]; rfl
theorem labL_len {s : List UInt8} {n : Nat} : (labL s n).length ≤ s.length + 9 := by
 have := decL_len (k := 7) (n := n)
 unfold labL numL
 simp only [List.length_append, List.length_cons, List.length_nil]; omega
theorem regI_le {r : Int} (h : 1 ≤ r ∧ r ≤ 3) : 0 ≤ regI r ∧ regI r ≤ 11 := by
 unfold regI
 split
 · omega
 · split
   · omega
   · split <;> omega
theorem ofI_ok {x : Im} {act : Int} (ha : 1 ≤ act ∧ act ≤ 3) (h : chkI x = 0) (h4 : x.1 ≠ 4) : evV act (ofI x act) := by
 obtain ⟨h1, h2, h3, _, _⟩ := chkI_good h
 have h6 := nameB_len h3
 have h7 := labL_len (s := x.2.1) (n := x.2.2.1.toNat)
 have h8 := regI_le (r := x.1) (by omega)
 have d0 := digI_len (act := act) (a := 0) h
 have d1 := digI_len (act := act) (a := 1) h
 have w0 := wantL_le (k := 1) (act := act) (a := 0)
 have w1 := wantL_le (k := 1) (act := act) (a := 1)
 unfold ofI
 rw [if_neg (by omega)]
 refine ⟨?_, ⟨by simp, fun y hy => ?_⟩, by simp only; omega⟩
 · unfold chkE
   simp only
   rw [if_neg (by unfold badE; omega), if_neg (by omega), if_pos]
   rw [fitE_two, d0, d1, decide_eq_true rfl, decide_eq_true rfl]; rfl
 · simp only [List.mem_cons, List.not_mem_nil, or_false] at hy
   rcases hy with rfl | rfl <;> omega
theorem mkE_v {r k act : Int} {d : List UInt8} (hr : 0 ≤ r ∧ r ≤ 11) (hk : 1 ≤ k ∧ k ≤ 5) (ha : 1 ≤ act ∧ act ≤ 3) (hd : d.length ≤ 64) : evV act (mkE r k act d) := ⟨mkE_ok hr hk ha hd, mkE_m (by omega)⟩
theorem evsR_ok {act r : Int} {l : List Im} (ha : 1 ≤ act ∧ act ≤ 3) (h : ∀ x ∈ l, chkI x = 0) : ∀ e ∈ evsR act r l, evV act e := by
 intro e he
 unfold evsR at he
 obtain ⟨x, hx, he⟩ := List.mem_flatMap.1 he
 obtain ⟨hx, hr⟩ := List.mem_filter.1 hx
 have hr : x.1 = r := by simpa using hr
 split at he
 · obtain ⟨s, hs, rfl⟩ := List.mem_map.1 he
   have := lnL_el s hs
   have := (chkI_good (h x hx)).2.2.2.1
   exact mkE_v (by omega) (by omega) ha (by omega)
 · rename_i h4
   simp only [List.mem_cons, List.not_mem_nil, or_false] at he
   subst he
   exact ofI_ok ha (h x hx) (by omega)
theorem flat_len {α γ : Type} {f : α → List γ} {n : Nat} : ∀ {l : List α}, (∀ x ∈ l, (f x).length ≤ n) → (l.flatMap f).length ≤ l.length * n
 | [], _ => by simp
 | a :: l, h => by
   have h1 := h a (by simp)
   have h2 := flat_len (l := l) (fun x hx => h x (by simp [hx]))
   rw [List.flatMap_cons, List.length_append, List.length_cons, Nat.add_mul]
   omega
theorem evsR_len {act r : Int} {l : List Im} : (evsR act r l).length ≤ (l.filter (fun x => decide (x.1 = r))).length * 4 := by
 unfold evsR
 refine flat_len (fun x _ => ?_)
 split
 · rw [List.length_map]; exact lnL_len
 · simp
theorem seps_len {act : Int} : (seps act).length = 8 := by simp [seps]
theorem evsC_len {act : Int} {l : List Im} : 8 ≤ (evsC act l).length ∧ (evsC act l).length ≤ 8 + 16 * l.length := by
 have f : ∀ r : Int, (evsR act r l).length ≤ l.length * 4 := fun r => Nat.le_trans evsR_len (Nat.mul_le_mul_right _ (List.length_filter_le _ _))
 have := f 1
 have := f 2
 have := f 3
 have := f 4
 unfold evsC
 simp only [List.length_append, seps_len]
 omega
theorem evsC_ok {act : Int} {l : List Im} (ha : 1 ≤ act ∧ act ≤ 3) (h : ∀ x ∈ l, chkI x = 0) : ∀ e ∈ evsC act l, evV act e := by
 intro e he
 unfold evsC at he
 simp only [List.mem_append] at he
 rcases he with ((he | he) | he) | (he | he)
 · exact evsR_ok ha h e he
 · exact evsR_ok ha h e he
 · unfold seps at he
   obtain ⟨i, hi, rfl⟩ := List.mem_map.1 he
   have := List.mem_range.1 hi
   exact mkE_v (by omega) (by omega) ha (by decide)
 · exact evsR_ok ha h e he
 · exact evsR_ok ha h e he
end Go.Eng
end
section
namespace Go.Eng
def ac_draw_names : AC :=
 (.seq
 (rG 4096 [oO 0 (.new 1 [(.t (strT [])), (.t (strT [])), (.t (strT [])), (.t (strT [])), (.t (strT []))]) []])
 (.seq
 (rG 8192 [oO 1 (.build [(.t (strT [])), (.t (strT [])), (.t (strT [])), (.t (strT [])), (.t (strT []))] [(0, 1), (1, 1), (2, 1), (3, 1), (4, 1)]) [.cst (.t (strT [97])), .cst (.t (strT [103, 114, 117, 98])), .cst (.t (strT [108, 105, 110, 117, 120])), .cst (.t (strT [110, 101, 116, 45, 48])), .cst (.t (strT [116, 119, 101, 108, 118, 101, 45, 98, 121, 116, 101, 115]))],oS 5 0 1])
 .ret))
def hints_draw_names : List (Nat × List Nat) := []
def ac_draw_Codes_Payload_L0 (n_draw_Codes_Line : Nat) : AC :=
 (.seq
 (.seq
 (rG 16384 [mv 8 4,bN 9 .gtr 8 0])
 (.cond (.tmp 9)
 .skip
 (.exit 0)))
 (.seq
 (.block 1
 (rG 24576 [mv 12 3,mv 13 0,cL 14 n_draw_Codes_Line true [.tmp 13],oO 15 (.append 1 1) [.tmp 12, .tmp 14],oO 16 (.bslice 1 1 (.t (byteT 0)) [0]) [.cst (.t (byteT 10))],oO 17 (.append 1 1) [.tmp 15, .tmp 16],mv 3 17]))
 (rG 20480 [mv 10 4,bN 11 .sub 10 1,mv 4 11])))
def ac_draw_Codes_Payload (n_draw_Codes_Next n_draw_Codes_Line : Nat) : AC :=
 (.seq
 (rG 4096 [mC 2 .nil])
 (.seq
 (rG 8192 [mC 3 .nil])
 (.seq
 (.seq
 (rG 12288 [mv 5 0,cL 6 n_draw_Codes_Next true [.tmp 5, .cst (.t (.int .i64 4))],oO 7 (.bin .add) [.cst (.t (.int .i64 1)), .tmp 6],mv 4 7])
 (.block 0
 (.loop (ac_draw_Codes_Payload_L0 n_draw_Codes_Line))))
 (.seq
 (rG 28672 [mv 18 3,mv 2 18])
 .ret))))
def hints_draw_Codes_Payload : List (Nat × List Nat) := [(2, [1]), (5, [2])]
def ac_draw_Codes_Image_L0 (n_draw_Codes_Next : Nat) : AC :=
 (.seq
 (.seq
 (rG 40960 [mv 32 6,oO 33 (.faddr 3) [.tmp 5],oO 34 (.load 1 false) [.tmp 33],oO 35 .len [.tmp 34],bT 36 .lss 32 35])
 (.cond (.tmp 36)
 .skip
 (.exit 0)))
 (.seq
 (.block 1
 (.reg 49152 (some [0, 1, 0, 0, 8, 24, 63, 127]) [oO 39 (.faddr 3) [.tmp 5],oO 40 (.load 1 false) [.tmp 39],mv 41 6,mv 42 0,cL 43 n_draw_Codes_Next true [.tmp 42, .cst (.t (.int .i64 256))],oO 44 (.conv .u8) [.tmp 43],oO 45 (.iaddr 1) [.tmp 40, .tmp 41],oS 1 45 44]))
 (rG 45056 [mv 37 6,bN 38 .add 37 1,mv 6 38])))
def ac_draw_Codes_Image (n_draw_names n_draw_Codes_Next n_draw_Codes_Payload : Nat) : AC :=
 (.seq
 (rG 4096 [oO 4 (.new 4 [(.agg [(.t (.int .i64 0)), (.t (strT [])), (.t (.int .i64 0)), .nil])]) []])
 (.seq
 (.reg 8192 (some [0, 0, 0, 6, 14, 0, 46, 127, 0, 511]) [mv 7 1,cL 8 n_draw_names false [],mv 9 0,cL 10 n_draw_Codes_Next true [.tmp 9, .cst (.t (.int .i64 5))],oO 11 (.index 5 1 false) [.tmp 8, .tmp 10],mv 12 0,cL 13 n_draw_Codes_Next true [.tmp 12, .cst (.t (.int .i64 5))],oO 14 (.build [(.t (.int .i64 0)), (.t (strT [])), (.t (.int .i64 0)), .nil] [(0, 1), (1, 1), (2, 1)]) [.tmp 7, .tmp 11, .tmp 13],oO 5 (.new 4 [(.agg [(.t (.int .i64 0)), (.t (strT [])), (.t (.int .i64 0)), .nil])]) [],oS 4 5 14])
 (.seq
 (.seq
 (rG 12288 [mv 15 0,cL 16 n_draw_Codes_Next true [.tmp 15, .cst (.t (.int .i64 9))],bN 17 .eql 16 8])
 (.cond (.tmp 17)
 (rG 16384 [mv 18 0,cL 19 n_draw_Codes_Next true [.tmp 18, .cst (.t (.int .i64 3))],oO 20 (.bin .sub) [.cst (.t (.int .i64 1000000)), .tmp 19],oO 21 (.faddr 2) [.tmp 5],oS 1 21 20])
 .skip))
 (.seq
 (.seq
 (rG 20480 [mv 22 1,bN 23 .eql 22 4])
 (.cond (.tmp 23)
 (.seq
 (rG 24576 [mv 24 0,cL 25 n_draw_Codes_Payload true [.tmp 24],oO 26 (.faddr 3) [.tmp 5],oS 1 26 25])
 (.seq
 (rG 28672 [oO 27 (.load 4 true) [.tmp 5],oS 4 4 27])
 .ret))
 .skip))
 (.seq
 (rG 32768 [mv 28 0,cL 29 n_draw_Codes_Next true [.tmp 28, .cst (.t (.int .i64 7))],oO 30 (.mkslice 1 1 (.t (byteT 0))) [.tmp 29, .tmp 29],oO 31 (.faddr 3) [.tmp 5],oS 1 31 30])
 (.seq
 (.seq
 (rG 36864 [mC 6 (.t (.int .i64 0))])
 (.block 0
 (.loop (ac_draw_Codes_Image_L0 n_draw_Codes_Next))))
 (.seq
 (rG 53248 [oO 46 (.load 4 true) [.tmp 5],oS 4 4 46])
 .ret)))))))
def hints_draw_Codes_Image : List (Nat × List Nat) := [(1, [3, 6]), (2, [1]), (3, [1]), (5, [1]), (7, [1]), (11, [4])]
def ac_ref25_Name_L0 : AC :=
 (.seq
 (.seq
 (rG 20480 [mv 13 3,mv 14 0,oO 15 .slen [.tmp 14],bT 16 .lss 13 15])
 (.cond (.tmp 16)
 .skip
 (.exit 0)))
 (.seq
 (.block 1
 (.seq
 (rG 28672 [mv 19 0,mv 20 3,oO 21 .sindex [.tmp 19, .tmp 20],mv 4 21])
 (.seq
 (rG 32768 [mv 22 4,oO 23 (.bin .lss) [.tmp 22, .cst (.t (byteT 97))],mv 24 23,mF 25 4 24,oF 26 24 (.bin .gtr) [.tmp 25, .cst (.t (byteT 122))],oO 27 .pick [.tmp 24, .cst (.t (.bool true)), .tmp 26],mv 28 27,mG 29 4 28,oG 30 28 (.bin .lss) [.tmp 29, .cst (.t (byteT 48))],mG 31 30 28,mF 32 4 31,oF 33 31 (.bin .gtr) [.tmp 32, .cst (.t (byteT 57))],oG 34 28 .pick [.tmp 31, .cst (.t (.bool true)), .tmp 33],oO 35 .pick [.tmp 28, .tmp 34, .cst (.t (.bool false))],mv 36 35,mG 37 4 36,oG 38 36 (.bin .neq) [.tmp 37, .cst (.t (byteT 45))],oO 39 .pick [.tmp 36, .tmp 38, .cst (.t (.bool false))]])
 (.cond (.tmp 39)
 (.seq
 (rG 36864 [mC 2 (.t (.bool false))])
 .ret)
 .skip))))
 (rG 24576 [mv 17 3,bN 18 .add 17 1,mv 3 18])))
def ac_ref25_Name : AC :=
 (.seq
 (rG 4096 [mC 2 (.t (.bool false))])
 (.seq
 (.seq
 (rG 8192 [mv 5 0,oO 6 .slen [.tmp 5],bN 7 .lss 6 1,mv 8 7,mF 9 0 8,oF 10 8 .slen [.tmp 9],oF 11 8 (.bin .gtr) [.tmp 10, .cst (.t (.int .i64 12))],oO 12 .pick [.tmp 8, .cst (.t (.bool true)), .tmp 11]])
 (.cond (.tmp 12)
 (.seq
 (rG 12288 [mC 2 (.t (.bool false))])
 .ret)
 .skip))
 (.seq
 (.seq
 (rG 16384 [mC 3 (.t (.int .i64 0))])
 (.block 0
 (.loop ac_ref25_Name_L0)))
 (.seq
 (rG 40960 [mC 2 (.t (.bool true))])
 .ret))))
def hints_ref25_Name : List (Nat × List Nat) := []
def ac_ref25_Lines_L0 : AC :=
 (.seq
 (.seq
 (rG 20480 [mv 7 5,oO 8 (.faddr 3) [.tmp 1],oO 9 (.load 1 false) [.tmp 8],oO 10 .len [.tmp 9],bT 11 .lss 7 10])
 (.cond (.tmp 11)
 .skip
 (.exit 0)))
 (.seq
 (.block 1
 (.seq
 (rG 28672 [oO 14 (.faddr 3) [.tmp 1],oO 15 (.load 1 false) [.tmp 14],mv 16 5,oO 17 (.iaddr 1) [.tmp 15, .tmp 16],oO 18 (.load 1 false) [.tmp 17],mv 6 18])
 (.seq
 (.seq
 (rG 32768 [mv 19 6,oO 20 (.bin .eql) [.tmp 19, .cst (.t (byteT 10))]])
 (.cond (.tmp 20)
 (.seq
 (.seq
 (rG 36864 [mv 21 4,oO 22 .len [.tmp 21],bN 23 .eql 22 0,mv 24 23,mF 25 3 24,oF 26 24 .len [.tmp 25],oF 27 24 (.bin .geq) [.tmp 26, .cst (.t (.int .i64 4))],oO 28 .pick [.tmp 24, .cst (.t (.bool true)), .tmp 27]])
 (.cond (.tmp 28)
 (.seq
 (rG 40960 [mC 2 .nil])
 .ret)
 .skip))
 (.seq
 (rG 45056 [mv 29 3,mv 30 4,oO 31 (.bslice 1 1 .nil [0]) [.tmp 30],oO 32 (.append 1 24) [.tmp 29, .tmp 31],mv 3 32])
 (.seq
 (rG 49152 [mC 4 .nil])
 (.exit 1))))
 .skip))
 (.seq
 (.seq
 (rG 53248 [mv 33 6,oO 34 (.bin .lss) [.tmp 33, .cst (.t (byteT 32))],mv 35 34,mF 36 6 35,oF 37 35 (.bin .gtr) [.tmp 36, .cst (.t (byteT 126))],oO 38 .pick [.tmp 35, .cst (.t (.bool true)), .tmp 37]])
 (.cond (.tmp 38)
 (.seq
 (rG 57344 [mC 2 .nil])
 .ret)
 .skip))
 (rG 61440 [mv 39 4,mv 40 6,oO 41 (.bslice 1 1 (.t (byteT 0)) [0]) [.tmp 40],oO 42 (.append 1 1) [.tmp 39, .tmp 41],mv 4 42])))))
 (rG 24576 [mv 12 5,bN 13 .add 12 1,mv 5 13])))
def ac_ref25_Lines : AC :=
 (.seq
 (rG 4096 [oO 1 .box [.tmp 0],mC 2 .nil])
 (.seq
 (rG 8192 [mC 3 .nil])
 (.seq
 (rG 12288 [mC 4 .nil])
 (.seq
 (.seq
 (rG 16384 [mC 5 (.t (.int .i64 0))])
 (.block 0
 (.loop ac_ref25_Lines_L0)))
 (.seq
 (.seq
 (rG 65536 [mv 43 4,oO 44 .len [.tmp 43],bN 45 .gtr 44 0])
 (.cond (.tmp 45)
 (.seq
 (rG 69632 [mC 2 .nil])
 .ret)
 .skip))
 (.seq
 (rG 73728 [mv 46 3,mv 2 46])
 .ret))))))
def hints_ref25_Lines : List (Nat × List Nat) := []
def ac_ref25_Image (n_ref25_Name n_ref25_Lines : Nat) : AC :=
 (.seq
 (rG 4096 [oO 1 .box [.tmp 0],mC 2 (.t (.int .i64 0))])
 (.seq
 (.seq
 (rG 8192 [oO 3 (.faddr 0) [.tmp 1],oO 4 (.load 1 false) [.tmp 3],bN 5 .lss 4 1,mv 6 5,oF 7 6 (.faddr 0) [.tmp 1],oF 8 6 (.load 1 false) [.tmp 7],oF 9 6 (.bin .gtr) [.tmp 8, .cst (.t (.int .i64 4))],oO 10 .pick [.tmp 6, .cst (.t (.bool true)), .tmp 9],mv 11 10,oF 12 11 (.faddr 2) [.tmp 1],oF 13 11 (.load 1 false) [.tmp 12],oF 14 11 (.bin .lss) [.tmp 13, .cst (.t (.int .i64 0))],oO 15 .pick [.tmp 11, .cst (.t (.bool true)), .tmp 14],mv 16 15,oF 17 16 (.faddr 2) [.tmp 1],oF 18 16 (.load 1 false) [.tmp 17],oF 19 16 (.bin .gtr) [.tmp 18, .cst (.t (.int .i64 1000000))],oO 20 .pick [.tmp 16, .cst (.t (.bool true)), .tmp 19]])
 (.cond (.tmp 20)
 (.seq
 (rG 12288 [mC 2 (.t (.int .i64 1))])
 .ret)
 .skip))
 (.seq
 (.seq
 (rG 16384 [oO 21 (.faddr 1) [.tmp 1],oO 22 (.load 1 false) [.tmp 21],cL 23 n_ref25_Name false [.tmp 22],oO 24 (.un .not) [.tmp 23]])
 (.cond (.tmp 24)
 (.seq
 (rG 20480 [mC 2 (.t (.int .i64 43))])
 .ret)
 .skip))
 (.seq
 (.seq
 (rG 24576 [oO 25 (.faddr 3) [.tmp 1],oO 26 (.load 1 false) [.tmp 25],oO 27 .len [.tmp 26],bN 28 .gtr 27 64])
 (.cond (.tmp 28)
 (.seq
 (rG 28672 [mC 2 (.t (.int .i64 4))])
 .ret)
 .skip))
 (.seq
 (.seq
 (rG 32768 [oO 29 (.faddr 0) [.tmp 1],oO 30 (.load 1 false) [.tmp 29],bN 31 .eql 30 4,mv 32 31,oG 33 32 (.load 4 true) [.tmp 1],cG 34 32 n_ref25_Lines true [.tmp 33],oG 35 32 .len [.tmp 34],oG 36 32 (.bin .eql) [.tmp 35, .cst (.t (.int .i64 0))],oO 37 .pick [.tmp 32, .tmp 36, .cst (.t (.bool false))]])
 (.cond (.tmp 37)
 (.seq
 (rG 36864 [mC 2 (.t (.int .i64 40))])
 .ret)
 .skip))
 (.seq
 (rG 40960 [mC 2 (.t (.int .i64 0))])
 .ret))))))
def hints_ref25_Image : List (Nat × List Nat) := [(7, [5])]
def ac_ref25_EncodeImage (n_ref25_Image n_ref3_Uint n_ref3_Blob : Nat) : AC :=
 (.seq
 (rG 4096 [oO 1 .box [.tmp 0],mC 2 .nil])
 (.seq
 (.seq
 (rG 8192 [oO 4 (.load 4 true) [.tmp 1],cL 5 n_ref25_Image false [.tmp 4],bN 6 .neq 5 0])
 (.cond (.tmp 6)
 (.seq
 (rG 12288 [mC 2 .nil])
 .ret)
 .skip))
 (.seq
 (rG 16384 [oO 7 (.faddr 0) [.tmp 1],oO 8 (.load 1 false) [.tmp 7],cL 9 n_ref3_Uint false [.cst .nil, .cst (.t (.int .i64 1)), .tmp 8],mv 3 9])
 (.seq
 (rG 20480 [mv 10 3,oO 11 (.faddr 2) [.tmp 1],oO 12 (.load 1 false) [.tmp 11],cL 13 n_ref3_Uint false [.tmp 10, .cst (.t (.int .i64 4)), .tmp 12],mv 3 13])
 (.seq
 (rG 24576 [mv 14 3,oO 15 (.faddr 1) [.tmp 1],oO 16 (.load 1 false) [.tmp 15],oO 17 .s2b [.tmp 16],cL 18 n_ref3_Blob false [.tmp 14, .tmp 17],mv 3 18])
 (.seq
 (rG 28672 [mv 19 3,oO 20 (.faddr 3) [.tmp 1],oO 21 (.load 1 false) [.tmp 20],cL 22 n_ref3_Blob false [.tmp 19, .tmp 21],mv 2 22])
 .ret))))))
def hints_ref25_EncodeImage : List (Nat × List Nat) := []
def ac_ref25_Register : AC :=
 (.seq
 (rG 4096 [mC 2 (.t (.int .i64 0))])
 (.seq
 (.seq
 (rG 8192 [mv 3 0])
 (.block 0
 (.seq
 (rG 12288 [bN 5 .eql 3 1,mv 4 5])
 (.cond (.tmp 4)
 (.seq
 (rG 16384 [mC 2 (.t (.int .i64 0))])
 .ret)
 (.seq
 (rG 20480 [bN 7 .eql 3 2,mv 6 7])
 (.cond (.tmp 6)
 (.seq
 (rG 24576 [mC 2 (.t (.int .i64 4))])
 .ret)
 (.seq
 (rG 28672 [bN 9 .eql 3 3,mv 8 9])
 (.cond (.tmp 8)
 (.seq
 (rG 32768 [mC 2 (.t (.int .i64 8))])
 .ret)
 (.seq
 (rG 36864 [bN 11 .eql 3 4,mv 10 11])
 (.cond (.tmp 10)
 (.seq
 (rG 40960 [mC 2 (.t (.int .i64 9))])
 .ret)
 .skip))))))))))
 (.seq
 (rG 45056 [mC 2 (.t (.int .i64 (-1)))])
 .ret)))
def hints_ref25_Register : List (Nat × List Nat) := []
def ac_ref25_Digests_L0 (n_ref25_has n_ref1_Sum : Nat) : AC :=
 (.seq
 (.seq
 (rG 20480 [mv 11 7,bN 12 .lss 11 2])
 (.cond (.tmp 12)
 .skip
 (.exit 0)))
 (.seq
 (.block 1
 (.seq
 (rG 28672 [mv 15 6,oO 16 .len [.tmp 15],bN 17 .gtr 16 0,mv 18 17,mG 19 1 18,mG 20 7 18,cG 21 18 n_ref25_has false [.tmp 19, .tmp 20],oO 22 .pick [.tmp 18, .tmp 21, .cst (.t (.bool false))]])
 (.cond (.tmp 22)
 (rG 32768 [mv 23 5,mv 24 7,mv 25 7,mv 26 6,cL 27 n_ref1_Sum false [.tmp 25, .tmp 26],oO 28 (.iaddr 1) [.tmp 23, .tmp 24],oS 1 28 27])
 .skip)))
 (rG 24576 [mv 13 7,bN 14 .add 13 1,mv 7 14])))
def ac_ref25_Digests (n_ref25_EncodeImage n_ref25_has n_ref1_Sum : Nat) : AC :=
 (.seq
 (rG 4096 [oO 2 .box [.tmp 0],mC 4 .nil])
 (.seq
 (rG 8192 [oO 8 (.mkslice 1 24 .nil) [.cst (.t (.int .i64 2)), .cst (.t (.int .i64 2))],mv 5 8])
 (.seq
 (rG 12288 [oO 9 (.load 4 true) [.tmp 2],cL 10 n_ref25_EncodeImage true [.tmp 9],mv 6 10])
 (.seq
 (.seq
 (rG 16384 [mC 7 (.t (.int .i64 0))])
 (.block 0
 (.loop (ac_ref25_Digests_L0 n_ref25_has n_ref1_Sum))))
 (.seq
 (rG 36864 [mv 29 5,mv 4 29])
 .ret)))))
def hints_ref25_Digests : List (Nat × List Nat) := [(2, [1])]
def ac_ref25_Number (n_ref25_Number : Nat) : AC :=
 (.seq
 (rG 4096 [mC 2 .nil])
 (.seq
 (.seq
 (rG 8192 [mv 3 0,bN 4 .lss 3 10])
 (.cond (.tmp 4)
 (.seq
 (rG 12288 [mv 5 0,oO 6 (.bin .add) [.cst (.t (.int .i64 48)), .tmp 5],oO 7 (.conv .u8) [.tmp 6],oO 8 (.bslice 1 1 (.t (byteT 0)) [0]) [.tmp 7],mv 2 8])
 .ret)
 .skip))
 (.seq
 (rG 16384 [mv 9 0,bN 10 .quo 9 10,cL 11 n_ref25_Number false [.tmp 10],mv 12 0,bN 13 .rem 12 10,oO 14 (.bin .add) [.cst (.t (.int .i64 48)), .tmp 13],oO 15 (.conv .u8) [.tmp 14],oO 16 (.bslice 1 1 (.t (byteT 0)) [0]) [.tmp 15],oO 17 (.append 1 1) [.tmp 11, .tmp 16],mv 2 17])
 .ret)))
def hints_ref25_Number : List (Nat × List Nat) := []
def ac_ref25_Label (n_ref25_Number : Nat) : AC :=
 (.seq
 (rG 4096 [mC 4 .nil])
 (.seq
 (rG 8192 [mv 5 0,oO 6 .s2b [.tmp 5],oO 7 (.bslice 1 1 (.t (byteT 0)) [0]) [.cst (.t (byteT 32))],oO 8 (.append 1 1) [.tmp 6, .tmp 7],mv 9 1,cL 10 n_ref25_Number false [.tmp 9],oO 11 (.append 1 1) [.tmp 8, .tmp 10],mv 4 11])
 .ret))
def hints_ref25_Label : List (Nat × List Nat) := []
def ac_ref25_OfImage (n_ref25_Image n_ref25_Register n_ref25_Digests n_ref25_Label : Nat) : AC :=
 (.seq
 (rG 4096 [oO 2 .box [.tmp 0],oO 4 (.new 4 [(.agg [(.t (.int .i64 0)), (.t (.int .i64 0)), .nil, .nil])]) []])
 (.seq
 (.seq
 (rG 8192 [oO 5 (.load 4 true) [.tmp 2],cL 6 n_ref25_Image false [.tmp 5],bN 7 .neq 6 0,mv 8 7,oF 9 8 (.faddr 0) [.tmp 2],oF 10 8 (.load 1 false) [.tmp 9],oF 11 8 (.bin .eql) [.tmp 10, .cst (.t (.int .i64 4))],oO 12 .pick [.tmp 8, .cst (.t (.bool true)), .tmp 11]])
 (.cond (.tmp 12)
 (.seq
 (rG 12288 [oO 13 (.build [(.t (.int .i64 0)), (.t (.int .i64 0)), .nil, .nil] []) [],oS 4 4 13])
 .ret)
 .skip))
 (.seq
 (.reg 16384 (some [0, 1, 3, 0, 0, 31, 0, 64, 0, 256, 1023, 2047, 4095]) [oO 14 (.faddr 0) [.tmp 2],oO 15 (.load 1 false) [.tmp 14],cL 16 n_ref25_Register false [.tmp 15],oO 17 (.load 4 true) [.tmp 2],mv 18 1,cL 19 n_ref25_Digests true [.tmp 17, .tmp 18],oO 20 (.faddr 1) [.tmp 2],oO 21 (.load 1 false) [.tmp 20],oO 22 (.faddr 2) [.tmp 2],oO 23 (.load 1 false) [.tmp 22],cL 24 n_ref25_Label true [.tmp 21, .tmp 23],oO 25 (.build [(.t (.int .i64 0)), (.t (.int .i64 0)), .nil, .nil] [(0, 1), (1, 1), (2, 1), (3, 1)]) [.tmp 16, .cst (.t (.int .i64 1)), .tmp 19, .tmp 24],oS 4 4 25])
 .ret)))
def hints_ref25_OfImage : List (Nat × List Nat) := [(3, [5, 10])]
end Go.Eng
end
section
set_option maxRecDepth 20000
set_option maxHeartbeats 64000000
namespace Go.Eng
def ct_name : Ct where
 α := List UInt8
 as x := [.t (strT x)]
 ins _ := []
 pre x := x.length ≤ 9223372036854775807
 r x := .t (.bool (nameB x))
 outs _ := []
 inj := by
   intro a b h _
   simp only [List.cons.injEq, V.t.injEq, strT_inj, and_true] at h
   subst h; exact ⟨rfl, rfl⟩
theorem name_eq {s : List UInt8} (h : s.length ≤ 9223372036854775807) : ct_name.fs [.t (strT s)] [] = some (.t (.bool (nameB s)), []) := ct_name.eq s h
theorem allN_take {s : List UInt8} {i : Nat} (h : i < s.length) : (s.take (i + 1)).all okN = ((s.take i).all okN && okN (s.getD i 0)) := by
 rw [take_s (d := 0) h, List.all_append]; simp
theorem allN_not {s : List UInt8} {i : Nat} (h : i < s.length) (hc : okN (s.getD i 0) = false) : s.all okN = false := by
 have e : s.getD i 0 = s[i] := by simp [List.getD, h]
 rw [e] at hc
 exact Bool.eq_false_iff.2 fun ha => by
   have := List.all_eq_true.1 ha _ (List.getElem_mem h)
   rw [hc] at this; cases this
theorem w_ref25_Name (tab : Tab) (gl : Gl) (s : List UInt8) (hs : s.length ≤ 9223372036854775807) :
   ac_ref25_Name.wp tab gl (zipF 0 [.t (strT s)]) (zipF 0 []) (resW [(2, none)] 0 (fun r o => r = .t (.bool (nameB s)) ∧ o = [])) := by
 by_cases c1 : s.length < 1
 · have hr : nameB s = false := by unfold nameB; rw [decide_eq_true c1]; rfl
   simp (disch := omega) only [go_sem, seval, ac_ref25_Name, c1, hr]
 by_cases c2 : 12 < s.length
 · have hr : nameB s = false := by unfold nameB; rw [decide_eq_true c2]; simp
   simp (disch := omega) only [go_sem, seval, ac_ref25_Name, c1, c2, hr]
 have hr : nameB s = s.all okN := by unfold nameB; rw [decide_eq_false c1, decide_eq_false c2]; simp
 rw [hr]
 simp (disch := omega) only [go_sem, seval, ac_ref25_Name, c1, c2]
 refine loop_uptoP s.length (fun i => (s.take i).all okN = true) (fun i => [(0, .t (strT s)), (3, .t (.int .i64 (i : Nat)))]) (fun _ => []) rfl ?_ (fun i hi hP => ?_)
 · refine Weak.rd id ?_ ?_ rfl
   all_goals simp (disch := omega) only [go_sem, seval, id]
 · by_cases hlt : i < s.length
   · have hs := allN_take hlt
     rw [hP, Bool.true_and] at hs
     obtain ⟨c, hc⟩ : ∃ c, s.getD i 0 = c := ⟨_, rfl⟩
     cases hok : okN (s.getD i 0)
     · have hn := allN_not hlt hok
       rw [hc] at hok
       unfold okN at hok
       by_cases a1 : c.toNat < 97 <;> by_cases a2 : c.toNat > 122 <;> by_cases a3 : c.toNat < 48 <;> by_cases a4 : c.toNat > 57 <;> by_cases a5 : c = 45
       all_goals simp only [a1, a2, a3, a4, a5, decide_true, decide_false, Bool.not_true, Bool.not_false, Bool.and_true, Bool.true_and, Bool.and_false, Bool.false_and, Bool.or_true, Bool.true_or, Bool.or_false, Bool.false_or, reduceCtorEq] at hok
       all_goals have a5b : decide (c = 45) = false := decide_eq_false a5
       all_goals have a2' : (122 < c.toNat) = (c.toNat > 122) := rfl
       all_goals have a4' : (57 < c.toNat) = (c.toNat > 57) := rfl
       all_goals simp (disch := omega) only [go_sem, seval, ac_ref25_Name_L0, hc, a1, a2, a3, a4, a5, a2', a4', hn]
     · rw [hc] at hok
       rw [hc, hok] at hs
       unfold okN at hok
       by_cases a1 : c.toNat < 97 <;> by_cases a2 : c.toNat > 122 <;> by_cases a3 : c.toNat < 48 <;> by_cases a4 : c.toNat > 57 <;> by_cases a5 : c = 45
       all_goals simp only [a1, a2, a3, a4, a5, decide_true, decide_false, Bool.not_true, Bool.not_false, Bool.and_true, Bool.true_and, Bool.and_false, Bool.false_and, Bool.or_true, Bool.true_or, Bool.or_false, Bool.false_or, reduceCtorEq] at hok
       all_goals have a2' : (122 < c.toNat) = (c.toNat > 122) := rfl
       all_goals have a4' : (57 < c.toNat) = (c.toNat > 57) := rfl
       all_goals simp (disch := omega) only [go_sem, seval, ac_ref25_Name_L0, hc, a1, a2, a3, a4, a5, a2', a4']
       all_goals refine ⟨hlt, hs, Weak.rd id ?_ ?_ rfl⟩
       all_goals simp (disch := omega) only [go_sem, seval, id]
   · have e : i = s.length := by omega
     subst e
     rw [List.take_length] at hP
     simp (disch := omega) only [go_sem, seval, ac_ref25_Name_L0, hP]
def ct_lns : Ct where
 α := Im
 as x := [.t (imT x)]
 ins _ := []
 pre x := imM x
 r x := .t (.sl ((lnL x.2.2.2).map bsT))
 outs _ := []
 inj := by
   intro a b h _
   simp only [List.cons.injEq, V.t.injEq, and_true] at h
   cases imT_inj h
   exact ⟨rfl, rfl⟩
theorem lns_eq {a v : Int} {s p : List UInt8} (h : imM (a, s, v, p)) : ct_lns.fs [.t (.agg [.int .i64 a, strT s, .int .i64 v, .sl (p.map byteT)])] [] = some (.t (.sl ((lnL p).map bsT)), []) := ct_lns.eq (a, s, v, p) h
theorem drop_cons' {p : List UInt8} {i : Nat} (h : i < p.length) : p.drop i = p.getD i 0 :: p.drop (i + 1) := by
 rw [List.drop_eq_getElem_cons h]; simp [List.getD, h]
theorem w_ref25_Lines (tab : Tab) (gl : Gl) (x : Im) (hm : imM x) :
   ac_ref25_Lines.wp tab gl (zipF 0 [.t (imT x)]) (zipF 0 []) (resW [(2, none)] 0 (fun r o => r = .t (.sl ((lnL x.2.2.2).map bsT)) ∧ o = [])) := by
 obtain ⟨a, s, v, p⟩ := x
 have hp := hm.2.1
 simp only at hp ⊢
 simp (disch := omega) only [go_sem, seval, ac_ref25_Lines, imT_def]
 refine loop_inv (σ := Nat × List (List UInt8) × List UInt8) (fun t => t.1 ≤ p.length ∧ lnS t.2.1 t.2.2 (p.drop t.1) = lnL p ∧ t.2.1.length ≤ 4 ∧ t.2.2.length ≤ t.1) (fun t => p.length - t.1)
   (fun t => [(1, .ref 4096 0 0), (3, .sl 9000 0 t.2.1.length), (4, .sl 9001 0 t.2.2.length), (5, .t (.int .i64 (t.1 : Nat)))])
   (fun t => [(9001, .live 1 ((t.2.2.map byteT).map V.t) true false), (9000, .live 1 ((t.2.1.map bsT).map V.t) true false), (4096, .live 4 [.t (.agg [.int .i64 a, strT s, .int .i64 v, .sl (p.map byteT)])] true true)]) (0, [], []) ⟨Nat.zero_le _, rfl, by simp, by simp⟩ ?_ ?_
 · refine Weak.cv0 (hv := [(9001, .live 1 [] true false), (9000, .live 1 [] true false)]) (ho := [(4096, .live 4 [.t (.agg [.int .i64 a, strT s, .int .i64 v, .sl (p.map byteT)])] true true)]) id ?_ ?_ rfl rfl
   all_goals simp (disch := omega) only [go_sem, seval, id]
 · rintro ⟨i, out, line⟩ ⟨hi, hE, ho, hl⟩
   simp only at hi hE ho hl ⊢
   by_cases hlt : i < p.length
   · rw [drop_cons' hlt] at hE
     obtain ⟨c, hc⟩ : ∃ c, p.getD i 0 = c := ⟨_, rfl⟩
     rw [hc] at hE
     by_cases c10 : c = 10
     · have hcb : decide (c = 10) = true := decide_eq_true c10
       rw [lnS, if_pos c10] at hE
       by_cases z1 : line.length = 0
       · rw [if_pos (.inl z1)] at hE
         have z1i : ((line.length : Int) == 0) = true := by simp [z1]
         rw [← hE]
         simp (disch := omega) only [go_sem, seval, ac_ref25_Lines_L0, hc, hcb, z1, List.map_nil]
       · have z1i : ((line.length : Int) == 0) = false := by simpa using (by omega : ¬ (line.length : Int) = 0)
         by_cases z2 : 4 ≤ out.length
         · rw [if_pos (.inr z2)] at hE
           rw [← hE]
           simp (disch := omega) only [go_sem, seval, ac_ref25_Lines_L0, hc, hcb, z1, z1i, z2, List.map_nil]
         · rw [if_neg (by omega)] at hE
           simp (disch := omega) only [go_sem, seval, ac_ref25_Lines_L0, hc, hcb, z1, z1i, z2]
           refine invG.of (i + 1, out ++ [line], []) ⟨by simp only; omega, hE, by simp; omega, by simp⟩ (by simp only; omega) ?_
           refine Weak.cv (hv := [(9001, .live 1 [] true false)]) (ho := [(9000, .live 1 (((out ++ [line]).map bsT).map V.t) true false), (4096, .live 4 [.t (.agg [.int .i64 a, strT s, .int .i64 v, .sl (p.map byteT)])] true true)]) [9001] (fun j => if j = 9000 then 45104 else j) ?_ rfl
           simp (disch := omega) only [go_sem, seval, id, List.map_cons, List.map_nil, List.take_length]
           rfl
     · have hcb : decide (c = 10) = false := decide_eq_false c10
       rw [lnS, if_neg c10] at hE
       cases hok : okC c
       · rw [hok, if_neg (by decide)] at hE
         rw [← hE]
         unfold okC at hok
         by_cases a1 : c.toNat < 32
         · simp (disch := omega) only [go_sem, seval, ac_ref25_Lines_L0, hc, hcb, a1, List.map_nil]
         · have a2 : 126 < c.toNat := by
             rw [decide_eq_false a1] at hok
             simpa using hok
           simp (disch := omega) only [go_sem, seval, ac_ref25_Lines_L0, hc, hcb, a1, a2, List.map_nil]
       · rw [hok, if_pos rfl] at hE
         unfold okC at hok
         simp only [Bool.and_eq_true, Bool.not_eq_true', decide_eq_false_iff_not] at hok
         obtain ⟨a1, a2⟩ := hok
         have a3 : ¬ 126 < c.toNat := a2
         simp (disch := omega) only [go_sem, seval, ac_ref25_Lines_L0, hc, hcb, a1, a3]
         refine invG.of (i + 1, out, line ++ [c]) ⟨by simp only; omega, hE, ho, by simp; omega⟩ (by simp only; omega) (Weak.rd (fun j => if j = 9001 then 61488 else j) ?_ ?_ rfl)
         all_goals simp (disch := omega) only [go_sem, seval, id, List.map_cons, List.map_nil]
   · have e : p.drop i = [] := List.drop_eq_nil_of_le (by omega)
     rw [e, lnS] at hE
     by_cases z : 0 < line.length
     · rw [if_pos z] at hE
       rw [← hE]
       simp (disch := omega) only [go_sem, seval, ac_ref25_Lines_L0, z, List.map_nil]
     · rw [if_neg z] at hE
       rw [← hE]
       have z0 : line.length = 0 := by omega
       simp (disch := omega) only [go_sem, seval, ac_ref25_Lines_L0, z, z0, List.take_length]
def ct_imc : Ct where
 α := Im
 as x := [.t (imT x)]
 ins _ := []
 pre x := imM x
 r x := .t (.int .i64 (chkI x))
 outs _ := []
 inj := by
   intro a b h _
   simp only [List.cons.injEq, V.t.injEq, and_true] at h
   cases imT_inj h
   exact ⟨rfl, rfl⟩
theorem imc_eq {a v : Int} {s p : List UInt8} (h : imM (a, s, v, p)) : ct_imc.fs [.t (.agg [.int .i64 a, strT s, .int .i64 v, .sl (p.map byteT)])] [] = some (.t (.int .i64 (chkI (a, s, v, p))), []) := ct_imc.eq (a, s, v, p) h
theorem w_ref25_Image (tab : Tab) (gl : Gl) (n1 n2 : Nat) (h1 : tab.look n1 = some ct_name.fs) (h2 : tab.look n2 = some ct_lns.fs) (x : Im) (hm : imM x) :
   (ac_ref25_Image n1 n2).wp tab gl (zipF 0 [.t (imT x)]) (zipF 0 []) (resW [(2, none)] 0 (fun r o => r = .t (.int .i64 (chkI x)) ∧ o = [])) := by
 obtain ⟨a, s, v, p⟩ := x
 have hp := hm.2.1
 have hN := name_eq hm.1
 have hL := lns_eq hm
 have lL := lnL_len (p := p)
 simp only at hp hN
 have hl2 : ((lnL p).map bsT).length = (lnL p).length := List.length_map _
 by_cases hb : badI a v
 · have hr : chkI (a, s, v, p) = 1 := if_pos hb
   rw [hr]
   by_cases c1 : a < 1
   · simp (disch := omega) only [go_sem, seval, ac_ref25_Image, imT_def, c1]
   by_cases c2 : 4 < a
   · simp (disch := omega) only [go_sem, seval, ac_ref25_Image, imT_def, c1, c2]
   by_cases c3 : v < 0
   · simp (disch := omega) only [go_sem, seval, ac_ref25_Image, imT_def, c1, c2, c3]
   have c4 : 1000000 < v := by unfold badI at hb; omega
   simp (disch := omega) only [go_sem, seval, ac_ref25_Image, imT_def, c1, c2, c3, c4]
 · have hb' := hb
   unfold badI at hb'
   have c1 : ¬ a < 1 := by omega
   have c2 : ¬ 4 < a := by omega
   have c3 : ¬ v < 0 := by omega
   have c4 : ¬ 1000000 < v := by omega
   cases hn : nameB s
   · have hr : chkI (a, s, v, p) = 43 := by unfold chkI; rw [if_neg hb, if_pos hn]
     rw [hr]
     rw [hn] at hN
     simp (disch := omega) only [go_sem, seval, ac_ref25_Image, imT_def, c1, c2, c3, c4, h1, hN]
   · rw [hn] at hN
     have hn2 : ¬ nameB s = false := by rw [hn]; decide
     by_cases c5 : 64 < p.length
     · have hr : chkI (a, s, v, p) = 4 := by unfold chkI; rw [if_neg hb, if_neg hn2, if_pos c5]
       rw [hr]
       simp (disch := omega) only [go_sem, seval, ac_ref25_Image, imT_def, c1, c2, c3, c4, h1, hN, c5]
     · have hr : chkI (a, s, v, p) = if a = 4 ∧ (lnL p).length = 0 then 40 else 0 := by unfold chkI; rw [if_neg hb, if_neg hn2, if_neg c5]
       rw [hr]
       generalize lnL p = L at *
       by_cases c6 : a = 4
       · subst c6
         by_cases c7 : L.length = 0
         · simp (disch := omega) only [go_sem, seval, ac_ref25_Image, imT_def, c3, c4, h1, hN, c5, h2, hL, c7]
         · have c8 : ((L.length : Int) == 0) = false := by simpa using (by omega : ¬ (L.length : Int) = 0)
           simp (disch := omega) only [go_sem, seval, ac_ref25_Image, imT_def, c3, c4, h1, hN, c5, h2, hL, c7, c8]
       · have c8 : (a == 4) = false := by simpa using c6
         simp (disch := omega) only [go_sem, seval, ac_ref25_Image, imT_def, c1, c2, c3, c4, h1, hN, c5, c6, c8]
def ct_enI : Ct where
 α := Im
 as x := [.t (imT x)]
 ins _ := []
 pre x := imM x
 r x := .t (.sl ((encI' x).map byteT))
 outs _ := []
 inj := by
   intro a b h _
   simp only [List.cons.injEq, V.t.injEq, and_true] at h
   cases imT_inj h
   exact ⟨rfl, rfl⟩
theorem enI_eq {a v : Int} {s p : List UInt8} (h : imM (a, s, v, p)) : ct_enI.fs [.t (.agg [.int .i64 a, strT s, .int .i64 v, .sl (p.map byteT)])] [] = some (.t (.sl ((encI' (a, s, v, p)).map byteT)), []) := ct_enI.eq (a, s, v, p) h
theorem uintN {b : List UInt8} {k : Nat} {n : Int} (hb : b.length < 1000000000 ∧ 1 ≤ k ∧ k ≤ 8) : ct_uint.fs [.t (.sl (b.map byteT)), .t (.int .i64 k), .t (.int .i64 n)] [] = some (.sl 0 0 (b.length + k), [.live 1 (((b ++ beI k n k).map byteT).map V.t) true false]) := ct_uint.eq (b, k, n) hb
theorem w_ref25_EncodeImage (tab : Tab) (gl : Gl) (n1 n2 n3 : Nat) (h1 : tab.look n1 = some ct_imc.fs) (h2 : tab.look n2 = some ct_uint.fs) (h3 : tab.look n3 = some ct_blob.fs) (x : Im) (hm : imM x) :
   (ac_ref25_EncodeImage n1 n2 n3).wp tab gl (zipF 0 [.t (imT x)]) (zipF 0 []) (resW [(2, none)] 0 (fun r o => r = .t (.sl ((encI' x).map byteT)) ∧ o = [])) := by
 obtain ⟨a, s, v, p⟩ := x
 have hC := imc_eq hm
 by_cases hz : chkI (a, s, v, p) = 0
 · obtain ⟨g1, g2, g3, g4, g5⟩ := chkI_good hz
   have g6 := nameB_len g3
   simp only at g1 g2 g3 g4 g6
   have hr : encI' (a, s, v, p) = blL (blL (beI 1 a 1 ++ beI 4 v 4) s) p := if_pos hz
   rw [hr]
   rw [hz] at hC
   have u1 : ct_uint.fs [.t (.sl []), .t (.int .i64 1), .t (.int .i64 a)] [] = _ := uintN (b := []) (k := 1) (n := a) ⟨by decide, by decide, by decide⟩
   rw [List.nil_append] at u1
   have l1 : (beI 1 a 1).length = 1 := beI_len
   have u2 : ct_uint.fs [.t (.sl ((beI 1 a 1).map byteT)), .t (.int .i64 4), .t (.int .i64 v)] [] = _ := uintN (b := beI 1 a 1) (k := 4) (n := v) ⟨by rw [l1]; decide, by decide, by decide⟩
   have l2 : (beI 1 a 1 ++ beI 4 v 4).length = 5 := by rw [List.length_append, beI_len, beI_len]
   have b1 := blob_eq (b := beI 1 a 1 ++ beI 4 v 4) (x := s) ⟨by omega, by omega⟩
   have l3 : (blL (beI 1 a 1 ++ beI 4 v 4) s).length = 5 + 2 + s.length := by rw [blL_len, l2]
   have b2 := blob_eq (b := blL (beI 1 a 1 ++ beI 4 v 4) s) (x := p) ⟨by omega, by omega⟩
   have l4 : (blL (blL (beI 1 a 1 ++ beI 4 v 4) s) p).length = 5 + 2 + s.length + 2 + p.length := by rw [blL_len, l3]
   rw [l1] at u2
   rw [l2] at b1
   rw [l3] at b2
   generalize blL (blL (beI 1 a 1 ++ beI 4 v 4) s) p = B4 at *
   generalize blL (beI 1 a 1 ++ beI 4 v 4) s = B3 at *
   generalize beI 1 a 1 ++ beI 4 v 4 = B2 at *
   generalize beI 1 a 1 = B1 at *
   have t1 : List.take 1 B1 = B1 := List.take_of_length_le (by omega)
   have t2 : List.take 5 B2 = B2 := List.take_of_length_le (by omega)
   have t3 : List.take (5 + 2 + s.length) B3 = B3 := List.take_of_length_le (by omega)
   have t4 : List.take (5 + 2 + s.length + 2 + p.length) B4 = B4 := List.take_of_length_le (by omega)
   simp (disch := omega) only [go_sem, seval, ac_ref25_EncodeImage, imT_def, h1, hC, h2, u1, l1, t1, u2, l2, t2, h3, b1, l3, t3, b2, l4, t4, List.length_nil, List.map_nil, List.take_length]
 · have hr : encI' (a, s, v, p) = [] := if_neg hz
   rw [hr]
   have hz' : (chkI (a, s, v, p) != 0) = true := by simpa using hz
   simp (disch := omega) only [go_sem, seval, ac_ref25_EncodeImage, imT_def, h1, hC, hz', List.map_nil]
def ct_reg : Ct where
 α := Int
 as x := [.t (.int .i64 x)]
 ins _ := []
 pre _ := True
 r x := .t (.int .i64 (regI x))
 outs _ := []
 inj := by
   intro a b h _
   simp only [List.cons.injEq, V.t.injEq, T.int.injEq, true_and, and_true] at h
   subst h; exact ⟨rfl, rfl⟩
theorem reg_eq {a : Int} : ct_reg.fs [.t (.int .i64 a)] [] = some (.t (.int .i64 (regI a)), []) := ct_reg.eq a trivial
theorem w_ref25_Register (tab : Tab) (gl : Gl) (a : Int) : ac_ref25_Register.wp tab gl (zipF 0 [.t (.int .i64 a)]) (zipF 0 []) (resW [(2, none)] 0 (fun r o => r = .t (.int .i64 (regI a)) ∧ o = [])) := by
 by_cases c1 : a = 1
 · subst c1
   simp (disch := omega) only [go_sem, seval, ac_ref25_Register, regI]
 by_cases c2 : a = 2
 · subst c2
   simp (disch := omega) only [go_sem, seval, ac_ref25_Register, regI]
 by_cases c3 : a = 3
 · subst c3
   simp (disch := omega) only [go_sem, seval, ac_ref25_Register, regI]
 by_cases c4 : a = 4
 · subst c4
   simp (disch := omega) only [go_sem, seval, ac_ref25_Register, regI]
 have d1 : (a == 1) = false := by simpa using c1
 have d2 : (a == 2) = false := by simpa using c2
 have d3 : (a == 3) = false := by simpa using c3
 have d4 : (a == 4) = false := by simpa using c4
 have hr : regI a = -1 := by unfold regI; rw [if_neg c1, if_neg c2, if_neg c3, if_neg c4]
 simp (disch := omega) only [go_sem, seval, ac_ref25_Register, d1, d2, d3, d4, hr]
def ct_imd : Ct where
 α := Im × Int
 as x := [.t (imT x.1), .t (.int .i64 x.2)]
 ins _ := []
 pre x := imM x.1 ∧ 0 ≤ x.2 ∧ x.2 < 4
 r x := .t (.sl [bsT (digI x.1 x.2 0), bsT (digI x.1 x.2 1)])
 outs _ := []
 inj := by
   rintro ⟨e, a⟩ ⟨f, b⟩ h _
   simp only [List.cons.injEq, V.t.injEq, T.int.injEq, true_and, and_true] at h
   obtain ⟨h1, rfl⟩ := h
   cases imT_inj h1
   exact ⟨rfl, rfl⟩
theorem imd_eq {a v : Int} {s p : List UInt8} {act : Int} (h : imM (a, s, v, p) ∧ 0 ≤ act ∧ act < 4) : ct_imd.fs [.t (.agg [.int .i64 a, strT s, .int .i64 v, .sl (p.map byteT)]), .t (.int .i64 act)] [] = some (.t (.sl [bsT (digI (a, s, v, p) act 0), bsT (digI (a, s, v, p) act 1)]), []) := ct_imd.eq ((a, s, v, p), act) h
theorem encI_len {x : Im} (h : imM x) : (encI' x).length ≤ 100 := by
 unfold encI'
 split
 · rename_i hz
   obtain ⟨g1, g2, g3, g4, g5⟩ := chkI_good hz
   have g6 := nameB_len g3
   unfold encI
   rw [blL_len, blL_len, List.length_append, beI_len, beI_len]
   omega
 · simp
theorem w_ref25_Digests (tab : Tab) (gl : Gl) (n1 n2 n3 : Nat) (h1 : tab.look n1 = some ct_enI.fs) (h2 : tab.look n2 = some ct_has.fs) (h3 : tab.look n3 = some ct_sumA.fs) (x : Im) (act : Int) (hm : imM x) (ha : 0 ≤ act ∧ act < 4) :
   (ac_ref25_Digests n1 n2 n3).wp tab gl (zipF 0 [.t (imT x), .t (.int .i64 act)]) (zipF 0 []) (resW [(4, none)] 0 (fun r o => r = .t (.sl [bsT (digI x act 0), bsT (digI x act 1)]) ∧ o = [])) := by
 have hl := encI_len hm
 have e0 : digI x act 0 = if 0 < (encI' x).length ∧ act % 2 = 1 then sum1 (encI' x) else [] := by unfold digI; simp [sumA]
 have e1 : digI x act 1 = if 0 < (encI' x).length ∧ act / 2 % 2 = 1 then sum256 (encI' x) else [] := by unfold digI; simp [sumA]
 obtain ⟨a, s, v, p⟩ := x
 have hE := enI_eq hm
 have q0 := has_eq0 ha
 have q1 := has_eq1 ha
 generalize encI' (a, s, v, p) = B at *
 have s0 := sumA_eq0 (bs := B) (by omega)
 have s1 := sumA_eq1 (bs := B) (by omega)
 have l0 : (sum1 B).length = 20 := sum1_length
 have l1 : (sum256 B).length = 32 := sum256_length
 have t0 : List.take 20 (sum1 B) = sum1 B := take_sum1
 have t1 : List.take 32 (sum256 B) = sum256 B := take_sum256
 generalize sum1 B = S0 at *
 generalize sum256 B = S1 at *
 simp only [bsT_def]
 simp (disch := omega) only [go_sem, seval, ac_ref25_Digests, imT_def, h1, hE]
 repeat refine And.intro rfl ?_
 refine loop_upto 2 (fun i => [(1, .t (.int .i64 act)), (5, .sl 8192 0 2), (6, .t (.sl (B.map byteT))), (7, .t (.int .i64 (i : Nat)))])
   (fun i => [(8192, .live 1 [.t (.sl ((if 0 < i then digI (a, s, v, p) act 0 else []).map byteT)), .t (.sl ((if 1 < i then digI (a, s, v, p) act 1 else []).map byteT))] true false), (4096, .live 4 [.t (.agg [.int .i64 a, strT s, .int .i64 v, .sl (p.map byteT)])] true true)]) ?_ (fun i hi => ?_)
 · refine Weak.rd id ?_ ?_ rfl
   all_goals simp (disch := omega) only [go_sem, seval, id, List.map_nil, Nat.lt_irrefl, Nat.not_lt_zero]
 · rcases (show i = 0 ∨ i = 1 ∨ i = 2 by omega) with rfl | rfl | rfl
   · by_cases z : 0 < B.length
     · by_cases b0 : act % 2 = 1
       · rw [if_pos ⟨z, b0⟩] at e0
         simp (disch := omega) only [go_sem, seval, ac_ref25_Digests_L0, h2, q0, b0, z, h3, s0, List.map_nil, Nat.lt_irrefl, Nat.not_lt_zero]
         refine Weak.cv (hv := []) [32832] id ?_ rfl
         simp (disch := omega) only [go_sem, seval, id, e0, l0, t0, List.map_nil]
         rfl
       · rw [if_neg (fun h => b0 h.2)] at e0
         simp (disch := omega) only [go_sem, seval, ac_ref25_Digests_L0, h2, q0, b0, z, List.map_nil, Nat.lt_irrefl, Nat.not_lt_zero]
         refine Weak.rd id ?_ ?_ rfl
         all_goals simp (disch := omega) only [go_sem, seval, id, e0, List.map_nil, Nat.lt_irrefl]
     · rw [if_neg (fun h => z h.1)] at e0
       simp (disch := omega) only [go_sem, seval, ac_ref25_Digests_L0, z, List.map_nil, Nat.lt_irrefl, Nat.not_lt_zero]
       refine Weak.rd id ?_ ?_ rfl
       all_goals simp (disch := omega) only [go_sem, seval, id, e0, List.map_nil, Nat.lt_irrefl]
   · by_cases z : 0 < B.length
     · by_cases b0 : act / 2 % 2 = 1
       · rw [if_pos ⟨z, b0⟩] at e1
         simp (disch := omega) only [go_sem, seval, ac_ref25_Digests_L0, h2, q1, b0, z, h3, s1, List.map_nil, Nat.lt_irrefl, Nat.not_lt_zero]
         refine Weak.cv (hv := []) [32832] id ?_ rfl
         simp (disch := omega) only [go_sem, seval, id, e1, l1, t1, List.map_nil]
         rfl
       · rw [if_neg (fun h => b0 h.2)] at e1
         simp (disch := omega) only [go_sem, seval, ac_ref25_Digests_L0, h2, q1, b0, z, List.map_nil, Nat.lt_irrefl, Nat.not_lt_zero]
         refine Weak.rd id ?_ ?_ rfl
         all_goals simp (disch := omega) only [go_sem, seval, id, e1, List.map_nil, Nat.lt_irrefl]
     · rw [if_neg (fun h => z h.1)] at e1
       simp (disch := omega) only [go_sem, seval, ac_ref25_Digests_L0, z, List.map_nil, Nat.lt_irrefl, Nat.not_lt_zero]
       refine Weak.rd id ?_ ?_ rfl
       all_goals simp (disch := omega) only [go_sem, seval, id, e1, List.map_nil, Nat.lt_irrefl]
   · simp (disch := omega) only [go_sem, seval, ac_ref25_Digests_L0]
def ct_num (k : Nat) : Ct where
 α := Nat
 as x := [.t (.int .i64 x)]
 ins _ := []
 pre x := x < 10 ^ (k + 1) ∧ x < 1000000000
 r x := .sl 0 0 (decL k x).length
 outs x := [.live 1 (((decL k x).map byteT).map V.t) true (decide (x < 10))]
 inj := by
   intro a b h _
   simp only [List.cons.injEq, V.t.injEq, T.int.injEq, true_and, and_true, Int.natCast_inj] at h
   subst h; exact ⟨rfl, rfl⟩
theorem num_eq {k n : Nat} (h : n < 10 ^ (k + 1) ∧ n < 1000000000) : (ct_num k).fs [.t (.int .i64 n)] [] = some (.sl 0 0 (decL k n).length, [.live 1 (((decL k n).map byteT).map V.t) true (decide (n < 10))]) := (ct_num k).eq n h
theorem conv8 {m : Nat} : IntKind.u8.wrap (m : Int) = ((UInt8.ofNat m).toNat : Int) := by
 rw [wrap_u8, UInt8.toNat_ofNat']; omega
theorem w_ref25_Number0 (tab : Tab) (gl : Gl) (n1 : Nat) (n : Nat) (hn : n < 10) :
   (ac_ref25_Number n1).wp tab gl (zipF 0 [.t (.int .i64 n)]) (zipF 0 []) (resF [] [(2, none)] 0 (fun r o => r = .sl 0 0 (decL 0 n).length ∧ o = [.live 1 (((decL 0 n).map byteT).map V.t) true (decide (n < 10))])) := by
 have h1 : (n : Int) < 10 := by omega
 have e : decL 0 n = [UInt8.ofNat (48 + n)] := rfl
 rw [e, decide_eq_true hn]
 have hw : T.int .u8 (IntKind.u8.wrap ((48 : Int) + n)) = byteT (UInt8.ofNat (48 + n)) := by
   rw [show (48 : Int) + n = ((48 + n : Nat) : Int) by omega, conv8]; rfl
 simp (disch := omega) only [go_sem, seval, ac_ref25_Number, hw]
theorem w_ref25_NumberS (tab : Tab) (gl : Gl) (n1 k : Nat) (h1 : tab.look n1 = some (ct_num k).fs) (n : Nat) (hn : n < 10 ^ (k + 2)) (hn2 : n < 1000000000) (hk : k ≤ 20) :
   (ac_ref25_Number n1).wp tab gl (zipF 0 [.t (.int .i64 n)]) (zipF 0 []) (resF [] [(2, none)] 0 (fun r o => r = .sl 0 0 (decL (k + 1) n).length ∧ o = [.live 1 (((decL (k + 1) n).map byteT).map V.t) true (decide (n < 10))])) := by
 by_cases h10 : n < 10
 · have h1 : (n : Int) < 10 := by omega
   have e : decL (k + 1) n = [UInt8.ofNat (48 + n)] := if_pos h10
   rw [e, decide_eq_true h10]
   have hw : T.int .u8 (IntKind.u8.wrap ((48 : Int) + n)) = byteT (UInt8.ofNat (48 + n)) := by
     rw [show (48 : Int) + n = ((48 + n : Nat) : Int) by omega, conv8]; rfl
   simp (disch := omega) only [go_sem, seval, ac_ref25_Number, hw]
 · have h1' : ¬ (n : Int) < 10 := by omega
   have e : decL (k + 1) n = decL k (n / 10) ++ [UInt8.ofNat (48 + n % 10)] := if_neg h10
   rw [e, decide_eq_false h10]
   have hp : n / 10 < 10 ^ (k + 1) := by rw [Nat.div_lt_iff_lt_mul (by omega)]; rw [← Nat.pow_succ]; exact hn
   have hN := num_eq (k := k) (n := n / 10) ⟨hp, by omega⟩
   have hl := decL_len (k := k) (n := n / 10)
   have hw : T.int .u8 (IntKind.u8.wrap ((48 : Int) + ((n % 10 : Nat) : Int))) = byteT (UInt8.ofNat (48 + n % 10)) := by
     rw [show (48 : Int) + ((n % 10 : Nat) : Int) = ((48 + n % 10 : Nat) : Int) by omega, conv8]; rfl
   have hd : ((n : Int).tdiv 10) = ((n / 10 : Nat) : Int) := by rw [Int.tdiv_eq_ediv_of_nonneg (by omega)]; omega
   have hm : ((n : Int).tmod 10) = ((n % 10 : Nat) : Int) := by rw [Int.tmod_eq_emod_of_nonneg (by omega)]; omega
   generalize decL k (n / 10) = D at *
   generalize decide (n / 10 < 10) = fu at *
   simp (disch := omega) only [go_sem, seval, ac_ref25_Number, h1', hd, hm, hw, h1, hN, List.map_cons, List.map_nil]
def ct_lab : Ct where
 α := List UInt8 × Nat
 as x := [.t (strT x.1), .t (.int .i64 x.2)]
 ins _ := []
 pre x := x.1.length < 1000000 ∧ x.2 ≤ 1000000
 r x := .t (.sl ((labL x.1 x.2).map byteT))
 outs _ := []
 inj := by
   rintro ⟨a, b⟩ ⟨c, d⟩ h _
   simp only [List.cons.injEq, V.t.injEq, T.int.injEq, strT_inj, true_and, and_true, Int.natCast_inj] at h
   obtain ⟨rfl, rfl⟩ := h
   exact ⟨rfl, rfl⟩
theorem lab_eq {s : List UInt8} {n : Nat} (h : s.length < 1000000 ∧ n ≤ 1000000) : ct_lab.fs [.t (strT s), .t (.int .i64 n)] [] = some (.t (.sl ((labL s n).map byteT)), []) := ct_lab.eq (s, n) h
theorem w_ref25_Label (tab : Tab) (gl : Gl) (n1 : Nat) (h1 : tab.look n1 = some (ct_num 7).fs) (s : List UInt8) (n : Nat) (hs : s.length < 1000000) (hn : n ≤ 1000000) :
   (ac_ref25_Label n1).wp tab gl (zipF 0 [.t (strT s), .t (.int .i64 n)]) (zipF 0 []) (resW [(4, none)] 0 (fun r o => r = .t (.sl ((labL s n).map byteT)) ∧ o = [])) := by
 have hN := num_eq (k := 7) (n := n) ⟨by omega, by omega⟩
 have hl := decL_len (k := 7) (n := n)
 have e : labL s n = s ++ [32] ++ decL 7 n := rfl
 rw [e]
 generalize decL 7 n = D at *
 generalize decide (n < 10) = fu at *
 have ht : List.take (s.length + 1 + D.length) (s ++ [32] ++ D) = s ++ [32] ++ D := List.take_of_length_le (by simp; omega)
 simp (disch := omega) only [go_sem, seval, ac_ref25_Label, h1, hN, List.map_cons, List.map_nil, List.take_length, ht]
def ct_ofI : Ct where
 α := Im × Int
 as x := [.t (imT x.1), .t (.int .i64 x.2)]
 ins _ := []
 pre x := imM x.1 ∧ 0 ≤ x.2 ∧ x.2 < 4
 r x := .t (evT (ofI x.1 x.2))
 outs _ := []
 inj := by
   rintro ⟨e, a⟩ ⟨f, b⟩ h _
   simp only [List.cons.injEq, V.t.injEq, T.int.injEq, true_and, and_true] at h
   obtain ⟨h1, rfl⟩ := h
   cases imT_inj h1
   exact ⟨rfl, rfl⟩
theorem ofI_eq {x : Im} {act : Int} (h : imM x ∧ 0 ≤ act ∧ act < 4) : ct_ofI.fs [.t (imT x), .t (.int .i64 act)] [] = some (.t (evT (ofI x act)), []) := ct_ofI.eq (x, act) h
theorem w_ref25_OfImage (tab : Tab) (gl : Gl) (n1 n2 n3 n4 : Nat) (h1 : tab.look n1 = some ct_imc.fs) (h2 : tab.look n2 = some ct_reg.fs) (h3 : tab.look n3 = some ct_imd.fs) (h4 : tab.look n4 = some ct_lab.fs) (x : Im) (act : Int) (hm : imM x) (ha : 0 ≤ act ∧ act < 4) :
   (ac_ref25_OfImage n1 n2 n3 n4).wp tab gl (zipF 0 [.t (imT x), .t (.int .i64 act)]) (zipF 0 []) (resW [(4, some (4, true))] 0 (fun r o => r = .t (evT (ofI x act)) ∧ o = [])) := by
 obtain ⟨a, s, v, p⟩ := x
 have hC := imc_eq hm
 have hD := imd_eq (act := act) ⟨hm, ha⟩
 have hR := reg_eq (a := a)
 by_cases hz : chkI (a, s, v, p) = 0
 · obtain ⟨g1, g2, g3, g4, g5⟩ := chkI_good hz
   have g6 := nameB_len g3
   simp only at g1 g2 g3 g4 g6
   rw [hz] at hC
   by_cases c4 : a = 4
   · subst c4
     have hr : ofI (4, s, v, p) act = (0, 0, [], []) := if_pos (.inr rfl)
     rw [hr]
     simp (disch := omega) only [go_sem, seval, ac_ref25_OfImage, imT_def, evT_def, h1, hC, List.map_nil]
   · have d4 : (a == 4) = false := by simpa using c4
     obtain ⟨m, rfl⟩ := Int.eq_ofNat_of_zero_le g2.1
     have hL := lab_eq (s := s) (n := m) ⟨by omega, by omega⟩
     have hr : ofI (a, s, (m : Int), p) act = (regI a, 1, [digI (a, s, (m : Int), p) act 0, digI (a, s, (m : Int), p) act 1], labL s m) := by
       unfold ofI; rw [if_neg (by simp only; omega)]; rfl
     rw [hr]
     generalize digI (a, s, (m : Int), p) act 0 = D0 at *
     generalize digI (a, s, (m : Int), p) act 1 = D1 at *
     generalize labL s m = L at *
     generalize regI a = R at *
     simp (disch := omega) only [go_sem, seval, ac_ref25_OfImage, imT_def, evT_def, h1, hC, d4, h2, hR, h3, hD, h4, hL, List.map_nil, List.map_cons]
     all_goals rfl
 · have hr : ofI (a, s, v, p) act = (0, 0, [], []) := if_pos (.inl hz)
   rw [hr]
   have hz' : (chkI (a, s, v, p) != 0) = true := by simpa using hz
   simp (disch := omega) only [go_sem, seval, ac_ref25_OfImage, imT_def, evT_def, h1, hC, hz', List.map_nil]
def ct_nms : Ct where
 α := Unit
 as _ := []
 ins _ := []
 pre _ := True
 r _ := .t (.agg [strT (nmL 0), strT (nmL 1), strT (nmL 2), strT (nmL 3), strT (nmL 4)])
 outs _ := []
 inj := by intro a b _ _; exact ⟨rfl, rfl⟩
theorem nms_eq : ct_nms.fs [] [] = some (.t (.agg [strT (nmL 0), strT (nmL 1), strT (nmL 2), strT (nmL 3), strT (nmL 4)]), []) := ct_nms.eq () trivial
theorem w_draw_names (tab : Tab) (gl : Gl) : ac_draw_names.wp tab gl (zipF 0 []) (zipF 0 []) (resW [(0, some (5, true))] 0 (fun r o => r = .t (.agg [strT (nmL 0), strT (nmL 1), strT (nmL 2), strT (nmL 3), strT (nmL 4)]) ∧ o = [])) := by
 simp (disch := omega) only [go_sem, seval, ac_draw_names, nmL]
def ct_pay : Ct where
 α := Cd
 as _ := [.ref 0 0 0]
 ins x := [cdOb x]
 pre x := cdOk x
 r x := .t (.sl ((payG x).1.map byteT))
 outs x := [cdOb (payG x).2]
 inj := by
   intro s t _ h2
   simp only [List.cons.injEq, and_true] at h2
   cases cdOb_inj h2
   exact ⟨rfl, rfl⟩
theorem pay_eq {c : Cd} (h : cdOk c) : ct_pay.fs [.ref 0 0 0] [cdO c] = some (.t (.sl ((payG c).1.map byteT)), [cdO (payG c).2]) := ct_pay.eq c h
theorem w_draw_Payload (tab : Tab) (gl : Gl) (n1 n2 : Nat) (h1 : tab.look n1 = some ct_next.fs) (h2 : tab.look n2 = some ct_line.fs) (c : Cd) (hc : cdOk c) :
   (ac_draw_Codes_Payload n1 n2).wp tab gl (zipF 0 [.ref 0 0 0]) (zipF 0 [cdOb c]) (resW [(2, none)] 1 (fun r o => r = .t (.sl ((payG c).1.map byteT)) ∧ o = [cdOb (payG c).2])) := by
 have e : payG c = payN (1 + (nx c 4).1) (nx c 4).2 [] := rfl
 rw [e]
 obtain ⟨i, b, a, e, l, ok, hN⟩ := nxF 4 hc (by omega) (by omega)
 rw [show ((4 : Nat) : Int) = 4 from rfl] at hN
 rw [e]
 simp only
 obtain ⟨cb, ca⟩ := c
 generalize hP : payN (1 + i) (b, a) [] = P
 simp (disch := omega) only [go_sem, seval, ac_draw_Codes_Payload, cdOb_eq, h1, hN]
 refine loop_inv (σ := Nat × Cd × List UInt8) (fun s => cdOk s.2.1 ∧ s.2.2.length + 9 * s.1 ≤ 100 ∧ payN s.1 s.2.1 s.2.2 = P) (fun s => s.1)
   (fun s => [(0, .ref 0 0 0), (3, .sl 9000 0 s.2.2.length), (4, .t (.int .i64 (s.1 : Nat)))]) (fun s => [(9000, .live 1 ((s.2.2.map byteT).map V.t) true false), (0, cdO s.2.1)]) (1 + i, (b, a), []) ⟨ok, by simp; omega, hP⟩ ?_ ?_
 · refine Weak.cv0 (hv := [(9000, .live 1 [] true false)]) (ho := [(0, cdO (b, a))]) id ?_ ?_ rfl rfl
   all_goals simp (disch := omega) only [go_sem, seval, id]
 · rintro ⟨k, ⟨b1, a1⟩, p⟩ ⟨ok1, hl, hp⟩
   simp only at ok1 hl hp ⊢
   cases k with
   | zero =>
     rw [← hp]
     simp (disch := omega) only [go_sem, seval, ac_draw_Codes_Payload_L0, payN, cdOb_eq, List.take_length]
   | succ k =>
     have hL := line_eq ok1
     have ll := lineL_len (i := (nx (b1, a1) 6).1)
     have lok := nx_ok (n := 6) ok1
     have hp' : payN k (nx (b1, a1) 6).2 (p ++ lineL (nx (b1, a1) 6).1 ++ [10]) = P := hp
     generalize nx (b1, a1) 6 = q at *
     obtain ⟨j, b2, a2⟩ := q
     simp only [cdO] at *
     generalize lineL j = L at *
     have hkk : ((k + 1 : Nat) : Int) - 1 = k := by omega
     simp (disch := omega) only [go_sem, seval, ac_draw_Codes_Payload_L0, h2, hL, hkk, List.take_length]
     refine invG.of (k, (b2, a2), p ++ L ++ [10]) ⟨lok, by simp; omega, hp'⟩ (by simp) (Weak.rd (fun j => if j = 9000 then 24656 else j) ?_ ?_ rfl)
     all_goals simp (disch := omega) only [go_sem, seval, id, List.map_cons, List.map_nil, List.append_assoc]
     all_goals try omega
def ct_dim : Ct where
 α := Cd × Nat
 as x := [.ref 0 0 0, .t (.int .i64 x.2)]
 ins x := [cdOb x.1]
 pre x := cdOk x.1 ∧ 1 ≤ x.2 ∧ x.2 ≤ 4
 r x := .t (imT (imG x.1 x.2).1)
 outs x := [cdOb (imG x.1 x.2).2]
 inj := by
   rintro ⟨s, a⟩ ⟨t, c⟩ h1 h2
   simp only [List.cons.injEq, V.t.injEq, T.int.injEq, true_and, and_true, Int.natCast_inj] at h1
   simp only [List.cons.injEq, and_true] at h2
   subst h1
   cases cdOb_inj h2
   exact ⟨rfl, rfl⟩
theorem dim_eq {c : Cd} {r : Nat} (h : cdOk c ∧ 1 ≤ r ∧ r ≤ 4) : ct_dim.fs [.ref 0 0 0, .t (.int .i64 r)] [cdO c] = some (.t (imT (imG c r).1), [cdO (imG c r).2]) := ct_dim.eq (c, r) h
theorem nm_get {i : Nat} (h : i < 5) : [V.t (strT (nmL 0)), V.t (strT (nmL 1)), V.t (strT (nmL 2)), V.t (strT (nmL 3)), V.t (strT (nmL 4))][i]? = some (.t (strT (nmL i))) := by
 rcases (show i = 0 ∨ i = 1 ∨ i = 2 ∨ i = 3 ∨ i = 4 by omega) with rfl | rfl | rfl | rfl | rfl <;> rfl
theorem set_rep {d : List UInt8} {j n : Nat} {x : UInt8} (h : d.length = j) (hj : j < n) : (d ++ List.replicate (n - j) 0).set j x = d ++ [x] ++ List.replicate (n - (j + 1)) 0 := by
 rw [List.set_append_right _ _ (by omega), h, Nat.sub_self, show n - j = (n - (j + 1)) + 1 by omega, List.replicate_succ, List.set_cons_zero]
 simp
theorem w_draw_Image (tab : Tab) (gl : Gl) (n1 n2 n3 : Nat) (h1 : tab.look n1 = some ct_nms.fs) (h2 : tab.look n2 = some ct_next.fs) (h3 : tab.look n3 = some ct_pay.fs) (c : Cd) (r : Nat) (hc : cdOk c) (hr : 1 ≤ r ∧ r ≤ 4) :
   (ac_draw_Codes_Image n1 n2 n3).wp tab gl (zipF 0 [.ref 0 0 0, .t (.int .i64 r)]) (zipF 0 [cdOb c]) (resW [(4, some (4, true))] 1 (fun r' o => r' = .t (imT (imG c r).1) ∧ o = [cdOb (imG c r).2])) := by
 have hn0 := nms_eq
 obtain ⟨i, bI, aI, eI, lI, okI, hI⟩ := nxF 5 hc (by omega) (by omega)
 obtain ⟨v, bV, aV, eV, lV, okV, hV⟩ := nxF 5 okI (by omega) (by omega)
 obtain ⟨w, bW, aW, eW, lW, okW, hW⟩ := nxF 9 okV (by omega) (by omega)
 obtain ⟨bC, aC⟩ := c
 simp only [show ((5 : Nat) : Int) = 5 from rfl, show ((9 : Nat) : Int) = 9 from rfl] at hI hV hW
 have hg := nm_get lI
 by_cases w8 : w = 8
 · subst w8
   obtain ⟨j, bX, aX, eJ, lJ, okX, hJ⟩ := nxF 3 okW (by omega) (by omega)
   simp only [show ((3 : Nat) : Int) = 3 from rfl, show ((8 : Nat) : Int) = 8 from rfl] at hJ hW
   obtain ⟨U, nV⟩ : ∃ U : Nat, (1000000 : Int) - j = U := ⟨1000000 - j, by omega⟩
   have hVr : vrG (bI, aI) = ((U : Int), (bX, aX)) := by unfold vrG; rw [eV]; simp only; rw [eW]; simp only [↓reduceIte]; rw [eJ, ← nV]
   by_cases r4 : r = 4
   · subst r4
     have hP := pay_eq okX
     have okP := payN_cd (k := 1 + (nx (bX, aX) 4).1) (b := []) (nx_ok (n := 4) okX)
     have eP : (plG (bX, aX) ((4 : Nat) : Int)) = payG (bX, aX) := by unfold plG; exact if_pos rfl
     have eG : imG (bC, aC) ((4 : Nat) : Int) = ((((4 : Nat) : Int), nmL i, ((U : Int) : Int), (payG (bX, aX)).1), (payG (bX, aX)).2) := by unfold imG; rw [eI, hVr, eP]
     rw [eG]
     generalize payG (bX, aX) = q at *
     obtain ⟨L, bP, aP⟩ := q
     simp only [cdO] at hP
     simp (disch := omega) only [go_sem, seval, ac_draw_Codes_Image, imT_def, cdOb_eq, h1, hn0, h2, hI, hV, hW, hg, hJ, nV, h3, hP]
     all_goals rfl
   · have r4b : ((r : Int) == 4) = false := by simpa using (by omega : ¬ (r : Int) = 4)
     obtain ⟨k, bK, aK, eK, lK, okK, hK⟩ := nxF 7 okX (by omega) (by omega)
     simp only [show ((7 : Nat) : Int) = 7 from rfl] at hK
     have eP : (plG (bX, aX) (r : Int)) = byN k (bK, aK) [] := by unfold plG; rw [if_neg (by omega), eK]
     have eG : imG (bC, aC) (r : Int) = (((r : Int), nmL i, ((U : Int) : Int), (byN k (bK, aK) []).1), (byN k (bK, aK) []).2) := by unfold imG; rw [eI, hVr, eP]
     rw [eG]
     generalize hP : byN k (bK, aK) [] = P
     simp (disch := omega) only [go_sem, seval, ac_draw_Codes_Image, cdOb_eq, h1, hn0, h2, hI, hV, hW, hg, hJ, nV, r4b, hK]
     repeat refine And.intro rfl ?_
     refine loop_inv (σ := Nat × Cd × List UInt8) (fun s => cdOk s.2.1 ∧ s.1 ≤ k ∧ s.2.2.length = s.1 ∧ byN (k - s.1) s.2.1 s.2.2 = P) (fun s => k - s.1)
       (fun s => [(0, .ref 0 0 0), (4, .ref 4096 0 0), (5, .ref 8320 0 0), (6, .t (.int .i64 (s.1 : Nat)))])
       (fun s => [(32800, .live 1 (((s.2.2 ++ List.replicate (k - s.1) 0).map byteT).map V.t) true false), (8320, .live 4 [.agg [.t (.int .i64 (r : Int)), .t (strT (nmL i)), .t (.int .i64 (U : Int)), .sl 32800 0 k]] true true), (4096, .live 4 [.agg [.t (.int .i64 0), .t (strT []), .t (.int .i64 0), .nil]] true true), (0, cdO s.2.1)]) (0, (bK, aK), []) ⟨okK, Nat.zero_le _, rfl, hP⟩ ?_ ?_
     · refine Weak.rd id ?_ ?_ rfl
       all_goals simp (disch := omega) only [go_sem, seval, id, List.nil_append]
     · rintro ⟨j, ⟨b1, a1⟩, d⟩ ⟨ok1, hj, hd, hp⟩
       simp only at ok1 hj hd hp ⊢
       by_cases hlt : j < k
       · obtain ⟨x, b2, a2, e2, l2, ok2, hX⟩ := nxF 256 ok1 (by omega) (by omega)
         simp only [show ((256 : Nat) : Int) = 256 from rfl] at hX
         have hst := set_rep (x := UInt8.ofNat x) (n := k) hd hlt
         have hp' : byN (k - (j + 1)) (b2, a2) (d ++ [UInt8.ofNat x]) = P := by
           rw [show k - j = (k - (j + 1)) + 1 by omega, byN, e2] at hp
           exact hp
         have hw : T.int .u8 (IntKind.u8.wrap (x : Int)) = byteT (UInt8.ofNat x) := by rw [conv8]; rfl
         have hL : (d ++ List.replicate (k - j) 0).length = k := by simp; omega
         generalize d ++ List.replicate (k - j) 0 = D at *
         simp (disch := omega) only [go_sem, seval, ac_draw_Codes_Image_L0, h2, hX, hw, hL]
         repeat refine And.intro rfl ?_
         refine invG.of (j + 1, (b2, a2), d ++ [UInt8.ofNat x]) ⟨ok2, by simp only; omega, by simp; omega, hp'⟩ (by simp only; omega) (Weak.rd id ?_ ?_ rfl)
         all_goals simp (disch := omega) only [go_sem, seval, id, hst]
       · have e : j = k := by omega
         subst e
         rw [Nat.sub_self] at hp ⊢
         rw [← hp]
         have hb : byN 0 (b1, a1) d = (d, (b1, a1)) := rfl
         rw [hb]
         simp only [List.replicate_zero, List.append_nil]
         have ht : List.take j d = d := List.take_of_length_le (by omega)
         simp (disch := omega) only [go_sem, seval, ac_draw_Codes_Image_L0, imT_def, cdOb_eq, hd, ht]
 · have w8b : ((w : Int) == 8) = false := by simpa using (by omega : ¬ (w : Int) = 8)
   have hVr : vrG (bI, aI) = ((v : Int), (bW, aW)) := by unfold vrG; rw [eV]; simp only; rw [eW]; simp only [if_neg w8]
   obtain ⟨bX, hbX⟩ : ∃ b, b = bW := ⟨_, rfl⟩
   obtain ⟨aX, haX⟩ : ∃ a, a = aW := ⟨_, rfl⟩
   rw [← hbX, ← haX] at okW hW hVr
   have okX := okW
   by_cases r4 : r = 4
   · subst r4
     have hP := pay_eq okX
     have okP := payN_cd (k := 1 + (nx (bX, aX) 4).1) (b := []) (nx_ok (n := 4) okX)
     have eP : (plG (bX, aX) ((4 : Nat) : Int)) = payG (bX, aX) := by unfold plG; exact if_pos rfl
     have eG : imG (bC, aC) ((4 : Nat) : Int) = ((((4 : Nat) : Int), nmL i, ((v : Int) : Int), (payG (bX, aX)).1), (payG (bX, aX)).2) := by unfold imG; rw [eI, hVr, eP]
     rw [eG]
     generalize payG (bX, aX) = q at *
     obtain ⟨L, bP, aP⟩ := q
     simp only [cdO] at hP
     simp (disch := omega) only [go_sem, seval, ac_draw_Codes_Image, imT_def, cdOb_eq, h1, hn0, h2, hI, hV, hW, hg, w8b, h3, hP]
     all_goals rfl
   · have r4b : ((r : Int) == 4) = false := by simpa using (by omega : ¬ (r : Int) = 4)
     obtain ⟨k, bK, aK, eK, lK, okK, hK⟩ := nxF 7 okX (by omega) (by omega)
     simp only [show ((7 : Nat) : Int) = 7 from rfl] at hK
     have eP : (plG (bX, aX) (r : Int)) = byN k (bK, aK) [] := by unfold plG; rw [if_neg (by omega), eK]
     have eG : imG (bC, aC) (r : Int) = (((r : Int), nmL i, ((v : Int) : Int), (byN k (bK, aK) []).1), (byN k (bK, aK) []).2) := by unfold imG; rw [eI, hVr, eP]
     rw [eG]
     generalize hP : byN k (bK, aK) [] = P
     simp (disch := omega) only [go_sem, seval, ac_draw_Codes_Image, cdOb_eq, h1, hn0, h2, hI, hV, hW, hg, w8b, r4b, hK]
     repeat refine And.intro rfl ?_
     refine loop_inv (σ := Nat × Cd × List UInt8) (fun s => cdOk s.2.1 ∧ s.1 ≤ k ∧ s.2.2.length = s.1 ∧ byN (k - s.1) s.2.1 s.2.2 = P) (fun s => k - s.1)
       (fun s => [(0, .ref 0 0 0), (4, .ref 4096 0 0), (5, .ref 8320 0 0), (6, .t (.int .i64 (s.1 : Nat)))])
       (fun s => [(32800, .live 1 (((s.2.2 ++ List.replicate (k - s.1) 0).map byteT).map V.t) true false), (8320, .live 4 [.agg [.t (.int .i64 (r : Int)), .t (strT (nmL i)), .t (.int .i64 (v : Int)), .sl 32800 0 k]] true true), (4096, .live 4 [.agg [.t (.int .i64 0), .t (strT []), .t (.int .i64 0), .nil]] true true), (0, cdO s.2.1)]) (0, (bK, aK), []) ⟨okK, Nat.zero_le _, rfl, hP⟩ ?_ ?_
     · refine Weak.rd id ?_ ?_ rfl
       all_goals simp (disch := omega) only [go_sem, seval, id, List.nil_append]
     · rintro ⟨j, ⟨b1, a1⟩, d⟩ ⟨ok1, hj, hd, hp⟩
       simp only at ok1 hj hd hp ⊢
       by_cases hlt : j < k
       · obtain ⟨x, b2, a2, e2, l2, ok2, hX⟩ := nxF 256 ok1 (by omega) (by omega)
         simp only [show ((256 : Nat) : Int) = 256 from rfl] at hX
         have hst := set_rep (x := UInt8.ofNat x) (n := k) hd hlt
         have hp' : byN (k - (j + 1)) (b2, a2) (d ++ [UInt8.ofNat x]) = P := by
           rw [show k - j = (k - (j + 1)) + 1 by omega, byN, e2] at hp
           exact hp
         have hw : T.int .u8 (IntKind.u8.wrap (x : Int)) = byteT (UInt8.ofNat x) := by rw [conv8]; rfl
         have hL : (d ++ List.replicate (k - j) 0).length = k := by simp; omega
         generalize d ++ List.replicate (k - j) 0 = D at *
         simp (disch := omega) only [go_sem, seval, ac_draw_Codes_Image_L0, h2, hX, hw, hL]
         repeat refine And.intro rfl ?_
         refine invG.of (j + 1, (b2, a2), d ++ [UInt8.ofNat x]) ⟨ok2, by simp only; omega, by simp; omega, hp'⟩ (by simp only; omega) (Weak.rd id ?_ ?_ rfl)
         all_goals simp (disch := omega) only [go_sem, seval, id, hst]
       · have e : j = k := by omega
         subst e
         rw [Nat.sub_self] at hp ⊢
         rw [← hp]
         have hb : byN 0 (b1, a1) d = (d, (b1, a1)) := rfl
         rw [hb]
         simp only [List.replicate_zero, List.append_nil]
         have ht : List.take j d = d := List.take_of_length_le (by omega)
         simp (disch := omega) only [go_sem, seval, ac_draw_Codes_Image_L0, imT_def, cdOb_eq, hd, ht]
end Go.Eng
end
section
namespace Go.Eng
def ac_draw_Chain_L2 : AC :=
 (.seq
 (.seq
 (rG 61440 [mv 34 9,mv 35 4,oO 36 .len [.tmp 35],bT 37 .lss 34 36])
 (.cond (.tmp 37)
 .skip
 (.exit 4)))
 (.seq
 (.block 5
 (.reg 69632 (some [0, 1, 3, 3, 15, 31, 63, 3, 131, 511, 1023, 2047, 2047, 8191, 16383, 32767, 2047, 67583, 262143, 524287, 1048575, 2097151]) [mv 40 8,mv 41 40,mF 42 4 41,mF 43 9 41,oF 44 41 (.iaddr 4) [.tmp 42, .tmp 43],oF 45 41 (.faddr 0) [.tmp 44],oF 46 41 (.load 1 false) [.tmp 45],oF 47 41 (.faddr 0) [.tmp 7],oF 48 41 (.load 1 false) [.tmp 47],oF 49 41 (.bin .eql) [.tmp 46, .tmp 48],mF 50 49 41,mG 51 4 50,mG 52 9 50,oG 53 50 (.iaddr 4) [.tmp 51, .tmp 52],oG 54 50 (.faddr 1) [.tmp 53],oG 55 50 (.load 1 false) [.tmp 54],oG 56 50 (.faddr 1) [.tmp 7],oG 57 50 (.load 1 false) [.tmp 56],oG 58 50 (.bin .eql) [.tmp 55, .tmp 57],oF 59 41 .pick [.tmp 50, .tmp 58, .cst (.t (.bool false))],oO 60 .pick [.tmp 41, .cst (.t (.bool true)), .tmp 59],mv 8 60]))
 (rG 65536 [mv 38 9,bN 39 .add 38 1,mv 9 39])))
def ac_draw_Chain_L1 (n_draw_Codes_Image : Nat) : AC :=
 (.seq
 (.seq
 (rG 40960 [mv 27 6,bN 28 .gtr 27 0])
 (.cond (.tmp 28)
 .skip
 (.exit 2)))
 (.seq
 (.block 3
 (.seq
 (rG 49152 [mv 31 3,mv 32 5,cL 33 n_draw_Codes_Image true [.tmp 31, .tmp 32],oO 7 (.new 4 [(.agg [(.t (.int .i64 0)), (.t (strT [])), (.t (.int .i64 0)), .nil])]) [],oS 4 7 33])
 (.seq
 (rG 53248 [mC 8 (.t (.bool false))])
 (.seq
 (.seq
 (rG 57344 [mC 9 (.t (.int .i64 0))])
 (.block 4
 (.loop ac_draw_Chain_L2)))
 (.seq
 (rG 73728 [mv 61 8,oO 62 (.un .not) [.tmp 61]])
 (.cond (.tmp 62)
 (rG 77824 [mv 63 4,oO 64 (.load 4 true) [.tmp 7],oO 65 (.bslice 4 1 (.agg [(.t (.int .i64 0)), (.t (strT [])), (.t (.int .i64 0)), .nil]) [0]) [.tmp 64],oO 66 (.append 4 56) [.tmp 63, .tmp 65],mv 4 66])
 .skip))))))
 (rG 45056 [mv 29 6,bN 30 .sub 29 1,mv 6 30])))
def ac_draw_Chain_L0 (n_draw_Codes_Next n_draw_Codes_Image : Nat) : AC :=
 (.seq
 (.seq
 (rG 20480 [mv 12 5,bN 13 .leq 12 4])
 (.cond (.tmp 13)
 .skip
 (.exit 0)))
 (.seq
 (.block 1
 (.seq
 (rG 28672 [mv 16 3,cL 17 n_draw_Codes_Next true [.tmp 16, .cst (.t (.int .i64 3))],mv 6 17])
 (.seq
 (.seq
 (rG 32768 [mv 18 5,bN 19 .eql 18 1,mv 20 19,mF 21 5 20,oF 22 20 (.bin .eql) [.tmp 21, .cst (.t (.int .i64 3))],oO 23 .pick [.tmp 20, .cst (.t (.bool true)), .tmp 22]])
 (.cond (.tmp 23)
 (rG 36864 [mv 24 3,cL 25 n_draw_Codes_Next true [.tmp 24, .cst (.t (.int .i64 2))],oO 26 (.bin .add) [.cst (.t (.int .i64 1)), .tmp 25],mv 6 26])
 .skip))
 (.block 2
 (.loop (ac_draw_Chain_L1 n_draw_Codes_Image))))))
 (rG 24576 [mv 14 5,bN 15 .add 14 1,mv 5 15])))
def ac_draw_Chain (n_draw_New n_draw_Codes_Next n_draw_Codes_Image : Nat) : AC :=
 (.seq
 (rG 4096 [mC 2 .nil])
 (.seq
 (rG 8192 [mv 10 0,cL 11 n_draw_New true [.tmp 10, .cst (.t (.int .i64 200))],mv 3 11])
 (.seq
 (rG 12288 [mC 4 .nil])
 (.seq
 (.seq
 (rG 16384 [mC 5 (.t (.int .i64 1))])
 (.block 0
 (.loop (ac_draw_Chain_L0 n_draw_Codes_Next n_draw_Codes_Image))))
 (.seq
 (rG 81920 [mv 67 4,mv 2 67])
 .ret)))))
def hints_draw_Chain : List (Nat × List Nat) := [(1, [1]), (6, [1]), (8, [1]), (11, [2])]
def ac_ref25_Chain_L1 : AC :=
 (.seq
 (.seq
 (rG 57344 [mv 46 7,mv 47 5,bT 48 .lss 46 47])
 (.cond (.tmp 48)
 .skip
 (.exit 2)))
 (.seq
 (.block 3
 (.seq
 (.reg 65536 (some [0, 0, 3, 7, 15, 0, 0, 96, 224, 480, 1023, 2047, 4095, 4095, 16383, 32767, 65535, 4095, 4095, 397311, 921599, 1970175, 4194303, 8388607]) [mv 51 0,mv 52 7,oO 53 (.iaddr 4) [.tmp 51, .tmp 52],oO 54 (.faddr 0) [.tmp 53],oO 55 (.load 1 false) [.tmp 54],mv 56 0,mv 57 5,oO 58 (.iaddr 4) [.tmp 56, .tmp 57],oO 59 (.faddr 0) [.tmp 58],oO 60 (.load 1 false) [.tmp 59],bT 61 .eql 55 60,mv 62 61,mG 63 0 62,mG 64 7 62,oG 65 62 (.iaddr 4) [.tmp 63, .tmp 64],oG 66 62 (.faddr 1) [.tmp 65],oG 67 62 (.load 1 false) [.tmp 66],mG 68 0 62,mG 69 5 62,oG 70 62 (.iaddr 4) [.tmp 68, .tmp 69],oG 71 62 (.faddr 1) [.tmp 70],oG 72 62 (.load 1 false) [.tmp 71],oG 73 62 (.bin .eql) [.tmp 67, .tmp 72],oO 74 .pick [.tmp 62, .tmp 73, .cst (.t (.bool false))]])
 (.cond (.tmp 74)
 (.seq
 (rG 69632 [mC 2 (.t (.int .i64 42))])
 .ret)
 .skip)))
 (rG 61440 [mv 49 7,bN 50 .add 49 1,mv 7 50])))
def ac_ref25_Chain_L0 (n_ref25_Image : Nat) : AC :=
 (.seq
 (.seq
 (rG 24576 [mv 16 5,mv 17 0,oO 18 .len [.tmp 17],bT 19 .lss 16 18])
 (.cond (.tmp 19)
 .skip
 (.exit 0)))
 (.seq
 (.block 1
 (.seq
 (.seq
 (rG 32768 [mv 22 0,mv 23 5,oO 24 (.iaddr 4) [.tmp 22, .tmp 23],oO 25 (.load 4 true) [.tmp 24],cL 26 n_ref25_Image false [.tmp 25],mv 6 26])
 (.seq
 (rG 36864 [mv 27 6,bN 28 .neq 27 0])
 (.cond (.tmp 28)
 (.seq
 (rG 40960 [mv 29 6,mv 2 29])
 .ret)
 .skip)))
 (.seq
 (.seq
 (.reg 45056 (some [0, 1, 3, 7, 7, 31, 63, 127, 7, 7, 519, 1799, 3847, 7943, 16383, 32767]) [mv 30 5,bN 31 .gtr 30 0,mv 32 31,mG 33 0 32,mG 34 5 32,oG 35 32 (.iaddr 4) [.tmp 33, .tmp 34],oG 36 32 (.faddr 0) [.tmp 35],oG 37 32 (.load 1 false) [.tmp 36],mG 38 0 32,mG 39 5 32,oG 40 32 (.bin .sub) [.tmp 39, .cst (.t (.int .i64 1))],oG 41 32 (.iaddr 4) [.tmp 38, .tmp 40],oG 42 32 (.faddr 0) [.tmp 41],oG 43 32 (.load 1 false) [.tmp 42],oG 44 32 (.bin .lss) [.tmp 37, .tmp 43],oO 45 .pick [.tmp 32, .tmp 44, .cst (.t (.bool false))]])
 (.cond (.tmp 45)
 (.seq
 (rG 49152 [mC 2 (.t (.int .i64 41))])
 .ret)
 .skip))
 (.seq
 (.seq
 (rG 53248 [mC 7 (.t (.int .i64 0))])
 (.block 2
 (.loop ac_ref25_Chain_L1)))
 (.seq
 (rG 73728 [mv 75 3,mv 76 75,mF 77 0 76,mF 78 5 76,oF 79 76 (.iaddr 4) [.tmp 77, .tmp 78],oF 80 76 (.faddr 0) [.tmp 79],oF 81 76 (.load 1 false) [.tmp 80],oF 82 76 (.bin .eql) [.tmp 81, .cst (.t (.int .i64 1))],oO 83 .pick [.tmp 76, .cst (.t (.bool true)), .tmp 82],mv 3 83])
 (rG 77824 [mv 84 4,mv 85 84,mF 86 0 85,mF 87 5 85,oF 88 85 (.iaddr 4) [.tmp 86, .tmp 87],oF 89 85 (.faddr 0) [.tmp 88],oF 90 85 (.load 1 false) [.tmp 89],oF 91 85 (.bin .eql) [.tmp 90, .cst (.t (.int .i64 3))],oO 92 .pick [.tmp 85, .cst (.t (.bool true)), .tmp 91],mv 4 92]))))))
 (rG 28672 [mv 20 5,bN 21 .add 20 1,mv 5 21])))
def ac_ref25_Chain (n_ref25_Image : Nat) : AC :=
 (.seq
 (rG 4096 [mC 2 (.t (.int .i64 0))])
 (.seq
 (.seq
 (rG 8192 [mv 8 0,oO 9 .len [.tmp 8],bN 10 .eql 9 0,mv 11 10,mF 12 0 11,oF 13 11 .len [.tmp 12],oF 14 11 (.bin .gtr) [.tmp 13, .cst (.t (.int .i64 8))],oO 15 .pick [.tmp 11, .cst (.t (.bool true)), .tmp 14]])
 (.cond (.tmp 15)
 (.seq
 (rG 12288 [mC 2 (.t (.int .i64 1))])
 .ret)
 .skip))
 (.seq
 (rG 16384 [mC 3 (.t (.bool false)),mC 4 (.t (.bool false))])
 (.seq
 (.seq
 (rG 20480 [mC 5 (.t (.int .i64 0))])
 (.block 0
 (.loop (ac_ref25_Chain_L0 n_ref25_Image))))
 (.seq
 (.seq
 (rG 81920 [mv 93 3,oO 94 (.un .not) [.tmp 93],mv 95 94,mF 96 4 95,oF 97 95 (.un .not) [.tmp 96],oO 98 .pick [.tmp 95, .cst (.t (.bool true)), .tmp 97]])
 (.cond (.tmp 98)
 (.seq
 (rG 86016 [mC 2 (.t (.int .i64 40))])
 .ret)
 .skip))
 (.seq
 (rG 90112 [mC 2 (.t (.int .i64 0))])
 .ret))))))
def hints_ref25_Chain : List (Nat × List Nat) := []
def ac_ref25_Events_L1 (n_ref25_Separator n_ref25_Make : Nat) : AC :=
 (.seq
 (.seq
 (rG 40960 [mv 28 7,bN 29 .lss 28 8])
 (.cond (.tmp 29)
 .skip
 (.exit 2)))
 (.seq
 (.block 3
 (rG 49152 [mv 32 5,mv 33 7,mv 34 1,cL 35 n_ref25_Separator false [],cL 36 n_ref25_Make true [.tmp 33, .cst (.t (.int .i64 2)), .tmp 34, .tmp 35],oO 37 (.bslice 4 1 (.agg [(.t (.int .i64 0)), (.t (.int .i64 0)), .nil, .nil]) [0]) [.tmp 36],oO 38 (.append 4 64) [.tmp 32, .tmp 37],mv 5 38]))
 (rG 45056 [mv 30 7,bN 31 .add 30 1,mv 7 31])))
def ac_ref25_Events_L3 (n_ref25_Make : Nat) : AC :=
 (.seq
 (.seq
 (rG 86016 [mv 68 10,mv 69 9,oO 70 .len [.tmp 69],bT 71 .lss 68 70])
 (.cond (.tmp 71)
 .skip
 (.exit 6)))
 (.seq
 (.block 7
 (rG 94208 [mv 74 5,mv 75 1,mv 76 9,mv 77 10,oO 78 (.iaddr 1) [.tmp 76, .tmp 77],oO 79 (.load 1 false) [.tmp 78],cL 80 n_ref25_Make true [.cst (.t (.int .i64 9)), .cst (.t (.int .i64 3)), .tmp 75, .tmp 79],oO 81 (.bslice 4 1 (.agg [(.t (.int .i64 0)), (.t (.int .i64 0)), .nil, .nil]) [0]) [.tmp 80],oO 82 (.append 4 64) [.tmp 74, .tmp 81],mv 5 82]))
 (rG 90112 [mv 72 10,bN 73 .add 72 1,mv 10 73])))
def ac_ref25_Events_L2 (n_ref25_OfImage n_ref25_Lines n_ref25_Make : Nat) : AC :=
 (.seq
 (.seq
 (rG 57344 [mv 39 8,mv 40 0,oO 41 .len [.tmp 40],bT 42 .lss 39 41])
 (.cond (.tmp 42)
 .skip
 (.exit 4)))
 (.seq
 (.block 5
 (.seq
 (.seq
 (rG 65536 [mv 45 0,mv 46 8,oO 47 (.iaddr 4) [.tmp 45, .tmp 46],oO 48 (.faddr 0) [.tmp 47],oO 49 (.load 1 false) [.tmp 48],mv 50 6,bT 51 .neq 49 50])
 (.cond (.tmp 51)
 (.exit 5)
 .skip))
 (.seq
 (.seq
 (rG 69632 [mv 52 6,bN 53 .neq 52 4])
 (.cond (.tmp 53)
 (.seq
 (rG 73728 [mv 54 5,mv 55 0,mv 56 8,oO 57 (.iaddr 4) [.tmp 55, .tmp 56],oO 58 (.load 4 true) [.tmp 57],mv 59 1,cL 60 n_ref25_OfImage true [.tmp 58, .tmp 59],oO 61 (.bslice 4 1 (.agg [(.t (.int .i64 0)), (.t (.int .i64 0)), .nil, .nil]) [0]) [.tmp 60],oO 62 (.append 4 64) [.tmp 54, .tmp 61],mv 5 62])
 (.exit 5))
 .skip))
 (.seq
 (rG 77824 [mv 63 0,mv 64 8,oO 65 (.iaddr 4) [.tmp 63, .tmp 64],oO 66 (.load 4 true) [.tmp 65],cL 67 n_ref25_Lines true [.tmp 66],mv 9 67])
 (.seq
 (rG 81920 [mC 10 (.t (.int .i64 0))])
 (.block 6
 (.loop (ac_ref25_Events_L3 n_ref25_Make))))))))
 (rG 61440 [mv 43 8,bN 44 .add 43 1,mv 8 44])))
def ac_ref25_Events_L0 (n_ref25_Separator n_ref25_Make n_ref25_OfImage n_ref25_Lines : Nat) : AC :=
 (.seq
 (.seq
 (rG 24576 [mv 22 6,bN 23 .leq 22 4])
 (.cond (.tmp 23)
 .skip
 (.exit 0)))
 (.seq
 (.block 1
 (.seq
 (.seq
 (rG 32768 [mv 26 6,bN 27 .eql 26 3])
 (.cond (.tmp 27)
 (.seq
 (rG 36864 [mC 7 (.t (.int .i64 0))])
 (.block 2
 (.loop (ac_ref25_Events_L1 n_ref25_Separator n_ref25_Make))))
 .skip))
 (.seq
 (rG 53248 [mC 8 (.t (.int .i64 0))])
 (.block 4
 (.loop (ac_ref25_Events_L2 n_ref25_OfImage n_ref25_Lines n_ref25_Make))))))
 (rG 28672 [mv 24 6,bN 25 .add 24 1,mv 6 25])))
def ac_ref25_Events (n_ref25_Chain n_ref25_Separator n_ref25_Make n_ref25_OfImage n_ref25_Lines : Nat) : AC :=
 (.seq
 (rG 4096 [mC 4 .nil])
 (.seq
 (.seq
 (rG 8192 [mv 11 0,cL 12 n_ref25_Chain false [.tmp 11],bN 13 .neq 12 0,mv 14 13,mF 15 1 14,oF 16 14 (.bin .lss) [.tmp 15, .cst (.t (.int .i64 1))],oO 17 .pick [.tmp 14, .cst (.t (.bool true)), .tmp 16],mv 18 17,mF 19 1 18,oF 20 18 (.bin .gtr) [.tmp 19, .cst (.t (.int .i64 3))],oO 21 .pick [.tmp 18, .cst (.t (.bool true)), .tmp 20]])
 (.cond (.tmp 21)
 (.seq
 (rG 12288 [mC 4 .nil])
 .ret)
 .skip))
 (.seq
 (rG 16384 [mC 5 .nil])
 (.seq
 (.seq
 (rG 20480 [mC 6 (.t (.int .i64 1))])
 (.block 0
 (.loop (ac_ref25_Events_L0 n_ref25_Separator n_ref25_Make n_ref25_OfImage n_ref25_Lines))))
 (.seq
 (rG 98304 [mv 83 5,mv 4 83])
 .ret)))))
def hints_ref25_Events : List (Nat × List Nat) := [(11, [4]), (17, [6]), (18, [4]), (22, [6])]
end Go.Eng
end
section
set_option maxRecDepth 20000
set_option maxHeartbeats 64000000
namespace Go.Eng
theorem mapI_snoc {l : List Im} {a v : Int} {s p : List UInt8} : List.map imT (l ++ [(a, s, v, p)]) = List.map imT l ++ [.agg [.int .i64 a, strT s, .int .i64 v, .sl (p.map byteT)]] := by simp [imT_def]
def chT : Nat → Int → List Im × Cd → List Im × Cd
 | 0, _, s => s
 | k + 1, r, s => chT k (r + 1) (chR r s)
theorem chG_T {b : List UInt8} : chG b = (chT 4 1 ([], (b.take 200, 0))).1 := rfl
def ct_dch : Ct where
 α := List UInt8
 as x := [.t (.sl (x.map byteT))]
 ins _ := []
 pre x := x.length ≤ 9223372036854775807
 r x := .t (.sl ((chG x).map imT))
 outs _ := []
 inj := by
   intro a b h _
   simp only [List.cons.injEq, V.t.injEq, T.sl.injEq, and_true, mapB_inj] at h
   subst h; exact ⟨rfl, rfl⟩
theorem dch_eq {b : List UInt8} (h : b.length ≤ 9223372036854775807) : ct_dch.fs [.t (.sl (b.map byteT))] [] = some (.t (.sl ((chG b).map imT)), []) := ct_dch.eq b h
theorem isD_take {l : List Im} {x y : Im} {i : Nat} (h : l[i]? = some y) : isD (l.take (i + 1)) x = (isD (l.take i) x || (decide (y.1 = x.1) && decide (y.2.1 = x.2.1))) := by
 unfold isD
 rw [List.take_add_one, h, List.any_append]; simp
theorem w_draw_Chain (tab : Tab) (gl : Gl) (n1 n2 n3 : Nat) (h1 : tab.look n1 = some ct_dnew.fs) (h2 : tab.look n2 = some ct_next.fs) (h3 : tab.look n3 = some ct_dim.fs) (b : List UInt8) (hb : b.length ≤ 9223372036854775807) :
   (ac_draw_Chain n1 n2 n3).wp tab gl (zipF 0 [.t (.sl (b.map byteT))]) (zipF 0 []) (resW [(2, none)] 0 (fun r o => r = .t (.sl ((chG b).map imT)) ∧ o = [])) := by
 have hN : ct_dnew.fs [.t (.sl (b.map byteT)), .t (.int .i64 200)] [] = _ := dnew_eq (b := b) (n := 200) ⟨hb, by omega⟩
 have okN : cdOk (b.take 200, 0) := ⟨Nat.zero_le _, by simp only [List.length_take]; omega⟩
 rw [chG_T]
 simp only [cdO, Int.natCast_zero] at hN
 generalize b.take 200 = b0 at *
 generalize hP : chT 4 1 ([], (b0, 0)) = P
 simp (disch := omega) only [go_sem, seval, ac_draw_Chain, h1, hN]
 refine loop_inv (σ := Nat × List Im × Cd) (fun s => cdOk s.2.2 ∧ s.1 ≤ 4 ∧ s.2.1.length ≤ 2 * (4 - s.1) ∧ chT s.1 (5 - s.1 : Nat) s.2 = P) (fun s => s.1)
   (fun s => [(3, .ref 8208 0 0), (4, .sl 9000 0 s.2.1.length), (5, .t (.int .i64 (5 - s.1 : Nat)))]) (fun s => [(9000, .live 4 ((s.2.1.map imT).map V.t) true false), (8208, cdO s.2.2)]) (4, [], (b0, 0)) ⟨okN, by simp, by simp, hP⟩ ?_ ?_
 · refine Weak.cv0 (hv := [(9000, .live 4 [] true false)]) (ho := [(8208, cdO (b0, 0))]) id ?_ ?_ rfl rfl
   all_goals simp (disch := omega) only [go_sem, seval, id, Nat.reduceSub]
 · rintro ⟨k, l, ⟨b1, a1⟩⟩ ⟨ok1, hk, hl, hp⟩
   simp only at ok1 hk hl hp ⊢
   cases k with
   | zero =>
     rw [← hp]
     simp (disch := omega) only [go_sem, seval, ac_draw_Chain_L0, chT, List.take_length]
   | succ k =>
     obtain ⟨r, hr⟩ : ∃ r : Nat, 5 - (k + 1) = r := ⟨_, rfl⟩
     rw [hr] at hp ⊢
     have r4 : 1 ≤ r ∧ r ≤ 4 := by omega
     obtain ⟨i3, b2, a2, e3, l3, ok2, hX3⟩ := nxF 3 ok1 (by omega) (by omega)
     simp only [show ((3 : Nat) : Int) = 3 from rfl] at hX3
     have main : ∀ (m : Nat) (b3 : List UInt8) (a3 : Nat) (fs : Fs) (hs : Hs), cdOk (b3, a3) → m ≤ 2 → chK (b1, a1) (r : Int) = (m, (b3, a3)) → Weak fs hs [(3, .ref 8208 0 0), (4, .sl 9000 0 l.length), (5, .t (.int .i64 r)), (6, .t (.int .i64 m))] [(9000, .live 4 ((l.map imT).map V.t) true false), (8208, cdO (b3, a3))] →
         loopW tab gl (ac_draw_Chain_L1 n3) fs hs (blockK 2 (blockK 1 (seqK tab gl (rG 24576 [mv 14 5, bN 15 .add 14 1, mv 5 15]) (invK (fun s : Nat × List Im × Cd => cdOk s.2.2 ∧ s.1 ≤ 4 ∧ s.2.1.length ≤ 2 * (4 - s.1) ∧ chT s.1 (5 - s.1 : Nat) s.2 = P) (fun s => s.1)
   (fun s => [(3, .ref 8208 0 0), (4, .sl 9000 0 s.2.1.length), (5, .t (.int .i64 (5 - s.1 : Nat)))]) (fun s => [(9000, .live 4 ((s.2.1.map imT).map V.t) true false), (8208, cdO s.2.2)]) (k + 1, l, (b1, a1)) (blockK 0 (seqK tab gl ((rG 81920 [mv 67 4, mv 2 67]).seq AC.ret) (resW [(2, none)] 0 (fun r o => r = .t (.sl (P.1.map imT)) ∧ o = [])))))))) := by
       intro m b3 a3 fs hs ok3 hm hck hw
       refine loopW_weak hw ?_
       have hT : chT k ((5 - k : Nat) : Int) (chN m (b3, a3) r l) = P := by
         have : chT (k + 1) (r : Int) (l, (b1, a1)) = chT k ((r : Int) + 1) (chR r (l, (b1, a1))) := rfl
         rw [this] at hp
         unfold chR at hp
         simp only at hp
         rw [hck] at hp
         rw [show ((5 - k : Nat) : Int) = (r : Int) + 1 by omega]
         exact hp
       generalize hQ : chN m (b3, a3) r l = Q at *
       refine loop_inv (σ := Nat × Cd × List Im) (fun s => cdOk s.2.1 ∧ s.2.2.length + s.1 ≤ 8 ∧ s.2.2.length + s.1 ≤ l.length + m ∧ chN s.1 s.2.1 r s.2.2 = Q) (fun s => s.1)
         (fun s => [(3, .ref 8208 0 0), (4, .sl 9000 0 s.2.2.length), (5, .t (.int .i64 r)), (6, .t (.int .i64 (s.1 : Nat)))]) (fun s => [(9000, .live 4 ((s.2.2.map imT).map V.t) true false), (8208, cdO s.2.1)]) (m, (b3, a3), l) ⟨ok3, by simp only; omega, Nat.le_refl _, hQ⟩ Weak.refl ?_
       rintro ⟨j, ⟨b4, a4⟩, l4⟩ ⟨ok4, hj, hj2, hq⟩
       simp only at ok4 hj hj2 hq ⊢
       cases j with
       | zero =>
         have hq' : Q = (l4, (b4, a4)) := hq.symm
         rw [hq'] at hT
         simp (disch := omega) only [go_sem, seval, ac_draw_Chain_L1]
         refine invG.of (k, l4, (b4, a4)) ⟨ok4, by simp only; omega, by simp only; omega, hT⟩ (by simp) (Weak.rd id ?_ ?_ rfl)
         all_goals simp (disch := omega) only [go_sem, seval, id, show ((5 - k : Nat) : Int) = (r : Int) + 1 by omega]
       | succ j =>
         have hD := dim_eq (c := (b4, a4)) (r := r) ⟨ok4, r4⟩
         have lok := imG_cd (r := (r : Int)) ok4
         have hq' : chN j (imG (b4, a4) r).2 r (if isD l4 (imG (b4, a4) r).1 then l4 else l4 ++ [(imG (b4, a4) r).1]) = Q := hq
         generalize imG (b4, a4) (r : Int) = w at *
         obtain ⟨⟨xa, xs, xv, xp⟩, b5, a5⟩ := w
         simp only [cdO] at *
         have hkk : ((j + 1 : Nat) : Int) - 1 = j := by omega
         simp (disch := omega) only [go_sem, seval, ac_draw_Chain_L1, imT_def, h3, hD]
         refine loop_upto l4.length (fun i => [(3, .ref 8208 0 0), (4, .sl 9000 0 l4.length), (5, .t (.int .i64 r)), (6, .t (.int .i64 ((j + 1 : Nat) : Int))), (7, .ref 49200 0 0), (8, .t (.bool (isD (l4.take i) (xa, xs, xv, xp)))), (9, .t (.int .i64 (i : Nat)))])
           (fun _ => [(49200, .live 4 [.t (imT (xa, xs, xv, xp))] true true), (9000, .live 4 ((l4.map imT).map V.t) true false), (8208, .live 2 [.t (.agg [.sl (b5.map byteT), .int .i64 (a5 : Int)])] true true)]) ?_ (fun i hi => ?_)
         · have h0 : isD [] (xa, xs, xv, xp) = false := rfl
           refine Weak.rd id ?_ ?_ rfl
           all_goals simp (disch := omega) only [go_sem, seval, id, imT_def, h0, List.take_zero]
         · by_cases hlt : i < l4.length
           · obtain ⟨⟨ya, ys, yv, yp⟩, hy⟩ : ∃ y, l4[i]? = some y := ⟨l4[i], by simp [hlt]⟩
             have hst := isD_take (x := (xa, xs, xv, xp)) hy
             simp only at hst
             cases hb0 : isD (l4.take i) (xa, xs, xv, xp)
             · rw [hb0, Bool.false_or] at hst
               by_cases q1 : ya = xa
               · subst q1
                 by_cases q2 : ys = xs
                 · subst q2
                   rw [decide_eq_true rfl, decide_eq_true rfl] at hst
                   simp (disch := omega) only [go_sem, seval, ac_draw_Chain_L2, imT_def, hy, hb0, beq_self_eq_true]
                   repeat refine And.intro rfl ?_
                   refine ⟨hlt, Weak.rd id ?_ ?_ rfl⟩
                   all_goals simp (disch := omega) only [go_sem, seval, id, hst, imT_def]
                 · rw [decide_eq_true rfl, decide_eq_false q2] at hst
                   have q2b : decide (ys = xs) = false := decide_eq_false q2
                   simp (disch := omega) only [go_sem, seval, ac_draw_Chain_L2, imT_def, hy, hb0, beq_self_eq_true, q2b]
                   repeat refine And.intro rfl ?_
                   refine ⟨hlt, Weak.rd id ?_ ?_ rfl⟩
                   all_goals simp (disch := omega) only [go_sem, seval, id, hst, imT_def]
               · rw [decide_eq_false q1, Bool.false_and] at hst
                 have q1b : (ya == xa) = false := by simpa using q1
                 simp (disch := omega) only [go_sem, seval, ac_draw_Chain_L2, imT_def, hy, hb0, q1b]
                 repeat refine And.intro rfl ?_
                 refine ⟨hlt, Weak.rd id ?_ ?_ rfl⟩
                 all_goals simp (disch := omega) only [go_sem, seval, id, hst, imT_def]
             · rw [hb0, Bool.true_or] at hst
               simp (disch := omega) only [go_sem, seval, ac_draw_Chain_L2, imT_def, hy, hb0]
               repeat refine And.intro rfl ?_
               refine ⟨hlt, Weak.rd id ?_ ?_ rfl⟩
               all_goals simp (disch := omega) only [go_sem, seval, id, hst, imT_def]
           · have e : i = l4.length := by omega
             subst e
             rw [List.take_length]
             cases hb0 : isD l4 (xa, xs, xv, xp)
             · rw [hb0, if_neg (by decide)] at hq'
               simp (disch := omega) only [go_sem, seval, ac_draw_Chain_L2, hb0, hkk, imT_def]
               refine invG.of (j, (b5, a5), l4 ++ [(xa, xs, xv, xp)]) ⟨lok, by simp; omega, by simp; omega, hq'⟩ (by simp) (Weak.rd (fun j => if j = 9000 then 77872 else j) ?_ ?_ rfl)
               all_goals simp (disch := omega) only [go_sem, seval, id, imT_def, mapI_snoc]
             · rw [hb0, if_pos rfl] at hq'
               simp (disch := omega) only [go_sem, seval, ac_draw_Chain_L2, hb0, hkk]
               refine invG.of (j, (b5, a5), l4) ⟨lok, by simp only; omega, by simp only; omega, hq'⟩ (by simp) (Weak.rd id ?_ ?_ rfl)
               all_goals simp (disch := omega) only [go_sem, seval, id]
     by_cases hr13 : r = 1 ∨ r = 3
     · obtain ⟨i2, b3, a3, e2, l2, ok3, hX2⟩ := nxF 2 ok2 (by omega) (by omega)
       simp only [show ((2 : Nat) : Int) = 2 from rfl] at hX2
       have hck : chK (b1, a1) (r : Int) = (1 + i2, (b3, a3)) := by
         unfold chK
         rw [if_pos (by omega), e3]
         simp only
         rw [e2]
       rcases hr13 with rfl | rfl
       · simp (disch := omega) only [go_sem, seval, ac_draw_Chain_L0, h2, hX3, hX2]
         refine main (1 + i2) b3 a3 _ _ ok3 (by omega) hck (Weak.rd id ?_ ?_ rfl)
         all_goals simp (disch := omega) only [go_sem, seval, id]
       · simp (disch := omega) only [go_sem, seval, ac_draw_Chain_L0, h2, hX3, hX2]
         refine main (1 + i2) b3 a3 _ _ ok3 (by omega) hck (Weak.rd id ?_ ?_ rfl)
         all_goals simp (disch := omega) only [go_sem, seval, id]
     · have hck : chK (b1, a1) (r : Int) = (i3, (b2, a2)) := by
         unfold chK
         rw [if_neg (by omega), e3]
       have q1 : ((r : Int) == 1) = false := by simpa using (by omega : ¬ (r : Int) = 1)
       have q3 : ((r : Int) == 3) = false := by simpa using (by omega : ¬ (r : Int) = 3)
       have rle : (r : Int) ≤ 4 := by omega
       simp (disch := omega) only [go_sem, seval, ac_draw_Chain_L0, h2, hX3, q1, q3, rle]
       refine main i3 b2 a2 _ _ ok2 (by omega) hck (Weak.rd id ?_ ?_ rfl)
       all_goals simp (disch := omega) only [go_sem, seval, id]
theorem mapI_inj {l m : List Im} : (l.map imT = m.map imT) = (l = m) := propext ⟨map_inj' (fun _ _ => imT_inj), fun h => by rw [h]⟩
def imsM (l : List Im) : Prop := l.length ≤ 9223372036854775807 ∧ ∀ x ∈ l, imM x
def ct_chc : Ct where
 α := List Im
 as x := [.t (.sl (x.map imT))]
 ins _ := []
 pre x := imsM x
 r x := .t (.int .i64 (chkC x))
 outs _ := []
 inj := by
   intro a b h _
   simp only [List.cons.injEq, V.t.injEq, T.sl.injEq, and_true, mapI_inj] at h
   subst h; exact ⟨rfl, rfl⟩
theorem chc_eq {l : List Im} (h : imsM l) : ct_chc.fs [.t (.sl (l.map imT))] [] = some (.t (.int .i64 (chkC l)), []) := ct_chc.eq l h
theorem lastD {l : List Im} {y d : Im} {i : Nat} (h : l[i]? = some y) : (l.take (i + 1)).getLastD d = y := by
 rw [List.take_add_one, h]; simp
theorem isD_at {l : List Im} {x y : Im} {k i : Nat} (h : l[k]? = some y) (hk : k < i) (h1 : y.1 = x.1) (h2 : y.2.1 = x.2.1) : isD (l.take i) x = true := by
 unfold isD
 refine List.any_eq_true.2 ⟨y, ?_, by simp [h1, h2]⟩
 refine List.mem_of_getElem? (i := k) ?_
 rw [List.getElem?_take, if_pos hk, h]
theorem any_take {l : List Im} {y : Im} {i : Nat} {p : Im → Bool} (h : l[i]? = some y) : (l.take (i + 1)).any p = ((l.take i).any p || p y) := by
 rw [List.take_add_one, h, List.any_append]; simp
theorem w_ref25_Chain (tab : Tab) (gl : Gl) (n1 : Nat) (h1 : tab.look n1 = some ct_imc.fs) (l : List Im) (hm : imsM l) :
   (ac_ref25_Chain n1).wp tab gl (zipF 0 [.t (.sl (l.map imT))]) (zipF 0 []) (resW [(2, none)] 0 (fun r o => r = .t (.int .i64 (chkC l)) ∧ o = [])) := by
 have hlm := hm.1
 by_cases c0 : l.length = 0
 · have hr : chkC l = 1 := if_pos (.inl c0)
   rw [hr]
   simp (disch := omega) only [go_sem, seval, ac_ref25_Chain, c0]
 have c0b : ((l.length : Int) == 0) = false := by simpa using (by omega : ¬ (l.length : Int) = 0)
 by_cases c8 : 8 < l.length
 · have hr : chkC l = 1 := if_pos (.inr c8)
   rw [hr]
   simp (disch := omega) only [go_sem, seval, ac_ref25_Chain, c0b, c8]
 have hr : chkC l = chF [] l := if_neg (by omega)
 rw [hr]
 simp (disch := omega) only [go_sem, seval, ac_ref25_Chain, c0b, c8]
 refine loop_uptoP l.length (fun i => chF (l.take i) (l.drop i) = chF [] l) (fun i => [(0, .t (.sl (l.map imT))), (3, .t (.bool ((l.take i).any (fun y => decide (y.1 = 1))))), (4, .t (.bool ((l.take i).any (fun y => decide (y.1 = 3))))), (5, .t (.int .i64 (i : Nat)))]) (fun _ => []) rfl ?_ (fun i hi hE => ?_)
 · refine Weak.rd id ?_ ?_ rfl
   all_goals simp (disch := omega) only [go_sem, seval, id, List.take_zero, List.any_nil]
 · by_cases hlt : i < l.length
   · obtain ⟨⟨xa, xs, xv, xp⟩, hx⟩ : ∃ x, l[i]? = some x := ⟨l[i], by simp [hlt]⟩
     have hd : l.drop i = (xa, xs, xv, xp) :: l.drop (i + 1) := by
       rw [List.drop_eq_getElem_cons hlt]
       have := (List.getElem?_eq_some_iff.1 hx).2
       rw [this]
     have hxm : imM (xa, xs, xv, xp) := hm.2 _ (List.mem_of_getElem? hx)
     have hC := imc_eq hxm
     rw [hd, chF] at hE
     have f1 := any_take (p := fun y => decide (y.1 = 1)) hx
     have f3 := any_take (p := fun y => decide (y.1 = 3)) hx
     simp only at f1 f3
     by_cases hz : chkI (xa, xs, xv, xp) = 0
     · rw [if_neg (by omega)] at hE
       rw [hz] at hC
       by_cases hi0 : i = 0
       · subst hi0
         rw [if_neg (fun h => h.1 (by simp)), if_neg (by simp)] at hE
         have ht : l.take 0 ++ [(xa, xs, xv, xp)] = l.take (0 + 1) := by rw [List.take_add_one, hx]; rfl
         rw [ht] at hE
         have z1 : (l.take 0).any (fun y => decide (y.1 = 1)) = false := rfl
         have z3 : (l.take 0).any (fun y => decide (y.1 = 3)) = false := rfl
         rw [z1, Bool.false_or] at f1
         rw [z3, Bool.false_or] at f3
         rw [z1, z3]
         simp (disch := omega) only [go_sem, seval, ac_ref25_Chain_L0, imT_def, hx, h1, hC]
         repeat refine And.intro rfl ?_
         refine loop_fuel 1 ?_
         by_cases q1 : xa = 1
         · subst q1
           rw [decide_eq_true rfl] at f1
           rw [decide_eq_false (by decide)] at f3
           simp (disch := omega) only [go_sem, seval, loopN_succ, ac_ref25_Chain_L1, imT_def, hx, h1]
           repeat refine And.intro rfl ?_
           refine ⟨hlt, hE, Weak.rd id ?_ ?_ rfl⟩
           all_goals simp (disch := omega) only [go_sem, seval, id, f1, f3]
         · rw [decide_eq_false q1] at f1
           have q1b : (xa == 1) = false := by simpa using q1
           by_cases q3 : xa = 3
           · subst q3
             rw [decide_eq_true rfl] at f3
             simp (disch := omega) only [go_sem, seval, loopN_succ, ac_ref25_Chain_L1, imT_def, hx, h1, q1b]
             repeat refine And.intro rfl ?_
             refine ⟨hlt, hE, Weak.rd id ?_ ?_ rfl⟩
             all_goals simp (disch := omega) only [go_sem, seval, id, f1, f3]
           · rw [decide_eq_false q3] at f3
             have q3b : (xa == 3) = false := by simpa using q3
             simp (disch := omega) only [go_sem, seval, loopN_succ, ac_ref25_Chain_L1, imT_def, hx, h1, q1b, q3b]
             repeat refine And.intro rfl ?_
             refine ⟨hlt, hE, Weak.rd id ?_ ?_ rfl⟩
             all_goals simp (disch := omega) only [go_sem, seval, id, f1, f3]
       · obtain ⟨⟨ya, ys, yv, yp⟩, hy⟩ : ∃ y, l[i - 1]? = some y := ⟨l[i - 1], by simp⟩
         have hi1 : ((i : Int) - 1) = ((i - 1 : Nat) : Int) := by omega
         have hla := lastD (d := (0, [], 0, [])) hy
         rw [show i - 1 + 1 = i by omega] at hla
         have hne : l.take i ≠ [] := by
           intro h
           have := congrArg List.length h
           simp only [List.length_take, List.length_nil] at this
           omega
         have hgt : 0 < (i : Int) := by omega
         rw [hla] at hE
         by_cases ho : xa < ya
         · rw [if_pos ⟨hne, ho⟩] at hE
           rw [← hE]
           simp (disch := omega) only [go_sem, seval, ac_ref25_Chain_L0, imT_def, hx, hy, h1, hC, hgt, hi1, ho]
           all_goals rfl
         · rw [if_neg (fun h => ho h.2)] at hE
           have hE' : (if isD (l.take i) (xa, xs, xv, xp) = true then 42 else chF (l.take i ++ [(xa, xs, xv, xp)]) (l.drop (i + 1))) = chF [] l := hE
           have ht : l.take i ++ [(xa, xs, xv, xp)] = l.take (i + 1) := by rw [List.take_add_one, hx]; rfl
           rw [ht] at hE'
           generalize (l.take i).any (fun y => decide (y.1 = 1)) = b1 at *
           generalize (l.take i).any (fun y => decide (y.1 = 3)) = b3 at *
           simp (disch := omega) only [go_sem, seval, ac_ref25_Chain_L0, imT_def, hx, hy, h1, hC, hgt, hi1, ho]
           repeat refine And.intro rfl ?_
           refine loop_uptoP i (fun k => isD (l.take k) (xa, xs, xv, xp) = false) (fun k => [(0, .t (.sl (l.map imT))), (3, .t (.bool b1)), (4, .t (.bool b3)), (5, .t (.int .i64 (i : Nat))), (7, .t (.int .i64 (k : Nat)))]) (fun _ => []) rfl ?_ (fun k hk hP => ?_)
           · refine Weak.rd id ?_ ?_ rfl
             all_goals simp (disch := omega) only [go_sem, seval, id]
           · by_cases hkl : k < i
             · obtain ⟨⟨za, zs, zv, zp⟩, hzk⟩ : ∃ z, l[k]? = some z := ⟨l[k], by simp⟩
               have hst := isD_take (x := (xa, xs, xv, xp)) hzk
               rw [hP, Bool.false_or] at hst
               simp only at hst
               by_cases q1 : za = xa
               · subst q1
                 by_cases q2 : zs = xs
                 · subst q2
                   have hd2 := isD_at (x := (za, zs, xv, xp)) hzk hkl rfl rfl
                   rw [hd2, if_pos rfl] at hE'
                   rw [← hE']
                   simp (disch := omega) only [go_sem, seval, ac_ref25_Chain_L1, imT_def, hx, hzk, beq_self_eq_true]
                   all_goals rfl
                 · rw [decide_eq_true rfl, decide_eq_false q2] at hst
                   have q2b : decide (zs = xs) = false := decide_eq_false q2
                   simp (disch := omega) only [go_sem, seval, ac_ref25_Chain_L1, imT_def, hx, hzk, beq_self_eq_true, q2b]
                   repeat refine And.intro rfl ?_
                   refine ⟨hkl, hst, Weak.rd id ?_ ?_ rfl⟩
                   all_goals simp (disch := omega) only [go_sem, seval, id]
               · rw [decide_eq_false q1, Bool.false_and] at hst
                 have q1b : (za == xa) = false := by simpa using q1
                 simp (disch := omega) only [go_sem, seval, ac_ref25_Chain_L1, imT_def, hx, hzk, q1b]
                 repeat refine And.intro rfl ?_
                 refine ⟨hkl, hst, Weak.rd id ?_ ?_ rfl⟩
                 all_goals simp (disch := omega) only [go_sem, seval, id]
             · have e : k = i := by omega
               subst e
               rw [hP, if_neg (by decide)] at hE'
               by_cases q1 : xa = 1
               · subst q1
                 rw [decide_eq_true rfl, Bool.or_true] at f1
                 rw [decide_eq_false (by decide), Bool.or_false] at f3
                 cases b1 <;> cases b3
                 all_goals simp (disch := omega) only [go_sem, seval, ac_ref25_Chain_L1, imT_def, hx]
                 all_goals repeat refine And.intro rfl ?_
                 all_goals refine ⟨hlt, hE', Weak.rd id ?_ ?_ rfl⟩
                 all_goals simp (disch := omega) only [go_sem, seval, id, f1, f3]
               · rw [decide_eq_false q1, Bool.or_false] at f1
                 have q1b : (xa == 1) = false := by simpa using q1
                 by_cases q3 : xa = 3
                 · subst q3
                   rw [decide_eq_true rfl, Bool.or_true] at f3
                   cases b1 <;> cases b3
                   all_goals simp (disch := omega) only [go_sem, seval, ac_ref25_Chain_L1, imT_def, hx, q1b]
                   all_goals repeat refine And.intro rfl ?_
                   all_goals refine ⟨hlt, hE', Weak.rd id ?_ ?_ rfl⟩
                   all_goals simp (disch := omega) only [go_sem, seval, id, f1, f3]
                 · rw [decide_eq_false q3, Bool.or_false] at f3
                   have q3b : (xa == 3) = false := by simpa using q3
                   cases b1 <;> cases b3
                   all_goals simp (disch := omega) only [go_sem, seval, ac_ref25_Chain_L1, imT_def, hx, q1b, q3b]
                   all_goals repeat refine And.intro rfl ?_
                   all_goals refine ⟨hlt, hE', Weak.rd id ?_ ?_ rfl⟩
                   all_goals simp (disch := omega) only [go_sem, seval, id, f1, f3]
     · rw [if_pos hz] at hE
       rw [← hE]
       have hz' : (chkI (xa, xs, xv, xp) != 0) = true := by simpa using hz
       simp (disch := omega) only [go_sem, seval, ac_ref25_Chain_L0, imT_def, hx, h1, hC, hz']
   · have e : i = l.length := by omega
     subst e
     rw [List.take_length, List.drop_length, chF] at hE
     rw [← hE]
     rw [List.take_length]
     cases ha1 : l.any (fun y => decide (y.1 = 1)) <;> cases ha3 : l.any (fun y => decide (y.1 = 3))
     all_goals simp (disch := omega) only [go_sem, seval, ac_ref25_Chain_L0]
end Go.Eng
end
section
namespace Go.Eng
def ac_image_CheckChain_L1 : AC :=
 (.seq
 (rG 57344 [bT 47 .lss 46 45])
 (.seq
 (.cond (.tmp 47)
 .skip
 (.exit 2))
 (.seq
 (.block 3
 (.seq
 (rG 61440 [oO 48 (.iaddr 4) [.tmp 44, .tmp 46],oO 49 (.load 4 true) [.tmp 48],oO 8 (.new 4 [(.agg [(.t (.int .i64 0)), (.t (strT [])), (.t (.int .i64 0)), .nil])]) [],oS 4 8 49])
 (.seq
 (rG 65536 [oO 50 (.faddr 0) [.tmp 8],oO 51 (.load 1 false) [.tmp 50],oO 52 (.faddr 0) [.tmp 5],oO 53 (.load 1 false) [.tmp 52],bT 54 .eql 51 53,mv 55 54,oG 56 55 (.faddr 1) [.tmp 8],oG 57 55 (.load 1 false) [.tmp 56],oG 58 55 (.faddr 1) [.tmp 5],oG 59 55 (.load 1 false) [.tmp 58],oG 60 55 (.bin .eql) [.tmp 57, .tmp 59],oO 61 .pick [.tmp 55, .tmp 60, .cst (.t (.bool false))]])
 (.cond (.tmp 61)
 (.seq
 (rG 69632 [mC 2 (.t (.int .i64 42))])
 .ret)
 .skip))))
 (rG 73728 [bN 62 .add 46 1,mv 46 62]))))
def ac_image_CheckChain_L0 (n_image_Check : Nat) : AC :=
 (.seq
 (rG 24576 [bT 20 .lss 19 18])
 (.seq
 (.cond (.tmp 20)
 .skip
 (.exit 0))
 (.seq
 (.block 1
 (.seq
 (rG 28672 [mv 21 19,oO 22 (.iaddr 4) [.tmp 17, .tmp 19],oO 23 (.load 4 true) [.tmp 22],oO 5 (.new 4 [(.agg [(.t (.int .i64 0)), (.t (strT [])), (.t (.int .i64 0)), .nil])]) [],mv 4 21,oS 4 5 23])
 (.seq
 (.seq
 (rG 32768 [oO 24 (.load 4 true) [.tmp 5],cL 25 n_image_Check false [.tmp 24],mv 6 25])
 (.seq
 (rG 36864 [mv 26 6,bN 27 .neq 26 0])
 (.cond (.tmp 27)
 (.seq
 (rG 40960 [mv 28 6,mv 2 28])
 .ret)
 .skip)))
 (.seq
 (.seq
 (.reg 45056 (some [0, 1, 3, 7, 15, 7, 7, 71, 231, 487, 999, 2047, 4095]) [mv 29 4,bN 30 .gtr 29 0,mv 31 30,oG 32 31 (.faddr 0) [.tmp 5],oG 33 31 (.load 1 false) [.tmp 32],mG 34 0 31,mG 35 4 31,oG 36 31 (.bin .sub) [.tmp 35, .cst (.t (.int .i64 1))],oG 37 31 (.iaddr 4) [.tmp 34, .tmp 36],oG 38 31 (.faddr 0) [.tmp 37],oG 39 31 (.load 1 false) [.tmp 38],oG 40 31 (.bin .lss) [.tmp 33, .tmp 39],oO 41 .pick [.tmp 31, .tmp 40, .cst (.t (.bool false))]])
 (.cond (.tmp 41)
 (.seq
 (rG 49152 [mC 2 (.t (.int .i64 41))])
 .ret)
 .skip))
 (.seq
 (.seq
 (rG 53248 [mv 42 0,mv 43 4,oO 44 (.slice 4 false true false) [.tmp 42, .tmp 43],oO 45 .len [.tmp 44],mC 46 (.t (.int .i64 0))])
 (.block 2
 (.loop ac_image_CheckChain_L1)))
 (rG 77824 [oO 63 (.faddr 0) [.tmp 5],oO 64 (.load 1 false) [.tmp 63],oO 65 (.aaddr 5 1) [.tmp 3, .tmp 64],⟨none, (.op (.store 1)), [.tmp 65, .cst (.t (.bool true))], none⟩]))))))
 (rG 81920 [bN 66 .add 19 1,mv 19 66]))))
def ac_image_CheckChain (n_image_Check : Nat) : AC :=
 (.seq
 (rG 4096 [mC 2 (.t (.int .i64 0))])
 (.seq
 (.seq
 (rG 8192 [mv 9 0,oO 10 .len [.tmp 9],bN 11 .eql 10 0,mv 12 11,mF 13 0 12,oF 14 12 .len [.tmp 13],oF 15 12 (.bin .gtr) [.tmp 14, .cst (.t (.int .i64 8))],oO 16 .pick [.tmp 12, .cst (.t (.bool true)), .tmp 15]])
 (.cond (.tmp 16)
 (.seq
 (rG 12288 [mC 2 (.t (.int .i64 1))])
 .ret)
 .skip))
 (.seq
 (rG 16384 [oO 3 (.new 1 [(.t (.bool false)), (.t (.bool false)), (.t (.bool false)), (.t (.bool false)), (.t (.bool false))]) []])
 (.seq
 (.seq
 (rG 20480 [mv 17 0,oO 18 .len [.tmp 17],mC 19 (.t (.int .i64 0))])
 (.block 0
 (.loop (ac_image_CheckChain_L0 n_image_Check))))
 (.seq
 (.seq
 (rG 86016 [oO 67 (.aaddr 5 1) [.tmp 3, .cst (.t (.int .i64 1))],oO 68 (.load 1 false) [.tmp 67],oO 69 (.un .not) [.tmp 68],mv 70 69,oF 71 70 (.aaddr 5 1) [.tmp 3, .cst (.t (.int .i64 3))],oF 72 70 (.load 1 false) [.tmp 71],oF 73 70 (.un .not) [.tmp 72],oO 74 .pick [.tmp 70, .cst (.t (.bool true)), .tmp 73]])
 (.cond (.tmp 74)
 (.seq
 (rG 90112 [mC 2 (.t (.int .i64 40))])
 .ret)
 .skip))
 (.seq
 (rG 94208 [mC 2 (.t (.int .i64 0))])
 .ret))))))
def hints_image_CheckChain : List (Nat × List Nat) := []
def ac_predict_Events_L1 (n_image_Register n_event_Make : Nat) : AC :=
 (.seq
 (rG 45056 [bT 48 .lss 47 46])
 (.seq
 (.cond (.tmp 48)
 .skip
 (.exit 2))
 (.seq
 (.block 3
 (.seq
 (rG 49152 [oO 49 (.iaddr 1) [.tmp 45, .tmp 47],oO 50 (.load 1 false) [.tmp 49],mv 9 50])
 (.reg 53248 (some [0, 1, 0, 4, 12, 28, 0, 64, 192, 0, 0, 1984, 4032, 8188, 16383, 32767]) [oO 51 (.faddr 0) [.tmp 7],oO 52 (.load 1 false) [.tmp 51],oO 53 (.faddr 0) [.tmp 7],oO 54 (.load 1 false) [.tmp 53],oO 55 (.aaddr 5 1) [.tmp 5, .tmp 54],oO 56 (.load 1 false) [.tmp 55],oO 57 (.faddr 0) [.tmp 7],oO 58 (.load 1 false) [.tmp 57],cL 59 n_image_Register false [.tmp 58],mv 60 1,mv 61 9,cL 62 n_event_Make true [.tmp 59, .cst (.t (.int .i64 3)), .tmp 60, .tmp 61],oO 63 (.bslice 4 1 (.agg [(.t (.int .i64 0)), (.t (.int .i64 0)), .nil, .nil]) [0]) [.tmp 62],oO 64 (.append 4 64) [.tmp 56, .tmp 63],oO 65 (.aaddr 5 1) [.tmp 5, .tmp 52],oS 1 65 64])))
 (rG 57344 [bN 66 .add 47 1,mv 47 66]))))
def ac_predict_Events_L0 (n_event_OfImage n_image_Lines n_image_Register n_event_Make : Nat) : AC :=
 (.seq
 (rG 24576 [bT 26 .lss 25 24])
 (.seq
 (.cond (.tmp 26)
 .skip
 (.exit 0))
 (.seq
 (.block 1
 (.seq
 (rG 28672 [oO 27 (.iaddr 4) [.tmp 23, .tmp 25],oO 28 (.load 4 true) [.tmp 27],oO 7 (.new 4 [(.agg [(.t (.int .i64 0)), (.t (strT [])), (.t (.int .i64 0)), .nil])]) [],oS 4 7 28])
 (.seq
 (.seq
 (rG 32768 [oO 29 (.faddr 0) [.tmp 7],oO 30 (.load 1 false) [.tmp 29],bN 31 .neq 30 4])
 (.cond (.tmp 31)
 (.seq
 (.reg 36864 (some [0, 1, 0, 4, 12, 28, 0, 0, 192, 448, 1020, 2047, 4095]) [oO 32 (.faddr 0) [.tmp 7],oO 33 (.load 1 false) [.tmp 32],oO 34 (.faddr 0) [.tmp 7],oO 35 (.load 1 false) [.tmp 34],oO 36 (.aaddr 5 1) [.tmp 5, .tmp 35],oO 37 (.load 1 false) [.tmp 36],oO 38 (.load 4 true) [.tmp 7],mv 39 1,cL 40 n_event_OfImage true [.tmp 38, .tmp 39],oO 41 (.bslice 4 1 (.agg [(.t (.int .i64 0)), (.t (.int .i64 0)), .nil, .nil]) [0]) [.tmp 40],oO 42 (.append 4 64) [.tmp 37, .tmp 41],oO 43 (.aaddr 5 1) [.tmp 5, .tmp 33],oS 1 43 42])
 (.exit 1))
 .skip))
 (.seq
 (rG 40960 [oO 44 (.load 4 true) [.tmp 7],cL 45 n_image_Lines true [.tmp 44],oO 46 .len [.tmp 45],mC 47 (.t (.int .i64 0))])
 (.block 2
 (.loop (ac_predict_Events_L1 n_image_Register n_event_Make)))))))
 (rG 61440 [bN 67 .add 25 1,mv 25 67]))))
def ac_predict_Events_L2 (n_event_Make : Nat) : AC :=
 (.seq
 (rG 73728 [bN 74 .lss 73 8])
 (.seq
 (.cond (.tmp 74)
 .skip
 (.exit 4))
 (.seq
 (.block 5
 (.seq
 (rG 77824 [mv 75 73,mv 11 75])
 (rG 81920 [mv 76 10,mv 77 11,mv 78 1,oO 79 (.mkslice 1 1 (.t (byteT 0))) [.cst (.t (.int .i64 4)), .cst (.t (.int .i64 4))],cL 80 n_event_Make true [.tmp 77, .cst (.t (.int .i64 2)), .tmp 78, .tmp 79],oO 81 (.bslice 4 1 (.agg [(.t (.int .i64 0)), (.t (.int .i64 0)), .nil, .nil]) [0]) [.tmp 80],oO 82 (.append 4 64) [.tmp 76, .tmp 81],mv 10 82])))
 (rG 86016 [bN 83 .add 73 1,mv 73 83]))))
def ac_predict_Events (n_image_CheckChain n_event_OfImage n_image_Lines n_image_Register n_event_Make : Nat) : AC :=
 (.seq
 (rG 4096 [mC 4 .nil])
 (.seq
 (.seq
 (rG 8192 [mv 12 1,bN 13 .lss 12 1,mv 14 13,mF 15 1 14,oF 16 14 (.bin .gtr) [.tmp 15, .cst (.t (.int .i64 3))],oO 17 .pick [.tmp 14, .cst (.t (.bool true)), .tmp 16],mv 18 17,mF 19 0 18,cF 20 18 n_image_CheckChain false [.tmp 19],oF 21 18 (.bin .neq) [.tmp 20, .cst (.t (.int .i64 0))],oO 22 .pick [.tmp 18, .cst (.t (.bool true)), .tmp 21]])
 (.cond (.tmp 22)
 (.seq
 (rG 12288 [mC 4 .nil])
 .ret)
 .skip))
 (.seq
 (rG 16384 [oO 5 (.new 1 [.nil, .nil, .nil, .nil, .nil]) []])
 (.seq
 (.seq
 (rG 20480 [mv 23 0,oO 24 .len [.tmp 23],mC 25 (.t (.int .i64 0))])
 (.block 0
 (.loop (ac_predict_Events_L0 n_event_OfImage n_image_Lines n_image_Register n_event_Make))))
 (.seq
 (rG 65536 [oO 68 (.aaddr 5 1) [.tmp 5, .cst (.t (.int .i64 1))],oO 69 (.load 1 false) [.tmp 68],oO 70 (.aaddr 5 1) [.tmp 5, .cst (.t (.int .i64 2))],oO 71 (.load 1 false) [.tmp 70],oO 72 (.append 4 64) [.tmp 69, .tmp 71],mv 10 72])
 (.seq
 (.seq
 (rG 69632 [mC 73 (.t (.int .i64 0))])
 (.block 4
 (.loop (ac_predict_Events_L2 n_event_Make))))
 (.seq
 (rG 90112 [mv 84 10,oO 85 (.aaddr 5 1) [.tmp 5, .cst (.t (.int .i64 3))],oO 86 (.load 1 false) [.tmp 85],oO 87 (.append 4 64) [.tmp 84, .tmp 86],mv 10 87])
 (.seq
 (rG 94208 [mv 88 10,oO 89 (.aaddr 5 1) [.tmp 5, .cst (.t (.int .i64 4))],oO 90 (.load 1 false) [.tmp 89],oO 91 (.append 4 64) [.tmp 88, .tmp 90],mv 4 91])
 .ret))))))))
def hints_predict_Events : List (Nat × List Nat) := [(8, [8]), (9, [1]), (12, [11]), (19, [4])]
def ac_predict_Registers (n_image_CheckChain n_predict_Events n_replay_Registers : Nat) : AC :=
 (.seq
 (rG 4096 [oO 4 (.new 2 [(.agg [.nil, (.t (.int .i64 0))])]) [],mC 5 (.t (.int .i64 0))])
 (.seq
 (.seq
 (rG 8192 [mv 7 0,cL 8 n_image_CheckChain false [.tmp 7],mv 6 8])
 (.seq
 (rG 12288 [mv 9 6,bN 10 .neq 9 0])
 (.cond (.tmp 10)
 (.seq
 (rG 16384 [oO 11 (.build [.nil, (.t (.int .i64 0))] []) [],mv 12 6,oS 2 4 11,mv 5 12])
 .ret)
 .skip)))
 (.seq
 (.seq
 (rG 20480 [mv 13 1,bN 14 .lss 13 1,mv 15 14,mF 16 1 15,oF 17 15 (.bin .gtr) [.tmp 16, .cst (.t (.int .i64 3))],oO 18 .pick [.tmp 15, .cst (.t (.bool true)), .tmp 17]])
 (.cond (.tmp 18)
 (.seq
 (rG 24576 [oO 19 (.build [.nil, (.t (.int .i64 0))] []) [],oS 2 4 19,mC 5 (.t (.int .i64 1))])
 .ret)
 .skip))
 (.seq
 (rG 28672 [mv 20 1,mv 21 0,mv 22 1,cL 23 n_predict_Events true [.tmp 21, .tmp 22],oO 24 (.build [(.t (.int .i64 0)), (.t (.int .i64 0)), .nil] [(0, 1), (2, 1)]) [.tmp 20, .tmp 23],cL 25 n_replay_Registers true [.tmp 24],oO 26 (.extract 0) [.tmp 25],oO 27 (.extract 1) [.tmp 25],oS 2 4 26,mv 5 27])
 .ret))))
def hints_predict_Registers : List (Nat × List Nat) := [(6, [3, 5])]
def ac_law29_awake (n_predict_Events n_predict_Registers n_registers_Value n_ref1_Same : Nat) : AC :=
 (.seq
 (rG 4096 [mC 0 (.t (.bool false))])
 (.seq
 (rG 8192 [oO 9 (.build [(.t (.int .i64 0)), (.t (strT [])), (.t (.int .i64 0)), .nil] [(0, 1), (1, 1)]) [.cst (.t (.int .i64 1)), .cst (.t (strT [102]))],oO 10 (.build [(.t (.int .i64 0)), (.t (strT [])), (.t (.int .i64 0)), .nil] [(0, 1), (1, 1)]) [.cst (.t (.int .i64 3)), .cst (.t (strT [107]))],oO 11 (.bslice 1 6 (.t (byteT 0)) [0, 1, 2, 3, 4, 5]) [.cst (.t (byteT 97)), .cst (.t (byteT 61)), .cst (.t (byteT 49)), .cst (.t (byteT 10)), .cst (.t (byteT 98)), .cst (.t (byteT 10))],oO 12 .idsl [.tmp 11],oO 13 (.build [(.t (.int .i64 0)), (.t (strT [])), (.t (.int .i64 0)), .nil] [(0, 1), (1, 1), (3, 1)]) [.cst (.t (.int .i64 4)), .cst (.t (strT [99])), .tmp 12],oO 14 (.bslice 4 3 (.agg [(.t (.int .i64 0)), (.t (strT [])), (.t (.int .i64 0)), .nil]) [0, 1, 2]) [.tmp 9, .tmp 10, .tmp 13],mv 1 14])
 (.seq
 (rG 12288 [mv 15 1,cL 16 n_predict_Events true [.tmp 15, .cst (.t (.int .i64 2))],mv 2 16])
 (.seq
 (rG 16384 [mv 18 1,cL 19 n_predict_Registers true [.tmp 18, .cst (.t (.int .i64 2))],mv 17 19,oO 20 (.extract 0) [.tmp 17],oO 21 (.extract 1) [.tmp 17],oO 3 (.new 2 [(.agg [.nil, (.t (.int .i64 0))])]) [],oS 2 3 20,mv 4 21])
 (.seq
 (.seq
 (rG 20480 [mv 22 2,oO 23 .len [.tmp 22],bN 24 .neq 23 12,mv 25 24,mF 26 4 25,oF 27 25 (.bin .neq) [.tmp 26, .cst (.t (.int .i64 0))],oO 28 .pick [.tmp 25, .cst (.t (.bool true)), .tmp 27],mv 29 28,oF 30 29 (.faddr 1) [.tmp 3],oF 31 29 (.load 1 false) [.tmp 30],oF 32 29 (.bin .neq) [.tmp 31, .cst (.t (.int .i64 12))],oO 33 .pick [.tmp 29, .cst (.t (.bool true)), .tmp 32]])
 (.cond (.tmp 33)
 (.seq
 (rG 24576 [mC 0 (.t (.bool false))])
 .ret)
 .skip))
 (.seq
 (rG 28672 [oO 35 (.load 2 true) [.tmp 3],cL 36 n_registers_Value true [.tmp 35, .cst (.t (.int .i64 1)), .cst (.t (.int .i64 4))],mv 34 36,oO 37 (.extract 0) [.tmp 34],oO 38 (.extract 1) [.tmp 34],mv 5 37,mv 6 38])
 (.seq
 (rG 32768 [oO 40 (.load 2 true) [.tmp 3],cL 41 n_registers_Value true [.tmp 40, .cst (.t (.int .i64 1)), .cst (.t (.int .i64 5))],mv 39 41,oO 42 (.extract 0) [.tmp 39],oO 43 (.extract 1) [.tmp 39],mv 7 42,mv 8 43])
 (.seq
 (rG 36864 [mv 44 6,bN 45 .eql 44 0,mv 46 45,mG 47 8 46,oG 48 46 (.bin .eql) [.tmp 47, .cst (.t (.int .i64 0))],oO 49 .pick [.tmp 46, .tmp 48, .cst (.t (.bool false))],mv 50 49,mG 51 5 50,mG 52 7 50,cG 53 50 n_ref1_Same false [.tmp 51, .tmp 52],oO 54 .pick [.tmp 50, .tmp 53, .cst (.t (.bool false))],mv 55 54,mG 56 2 55,oG 57 55 (.iaddr 4) [.tmp 56, .cst (.t (.int .i64 9))],oG 58 55 (.faddr 0) [.tmp 57],oG 59 55 (.load 1 false) [.tmp 58],oG 60 55 (.bin .eql) [.tmp 59, .cst (.t (.int .i64 8))],oO 61 .pick [.tmp 55, .tmp 60, .cst (.t (.bool false))],mv 62 61,mG 63 2 62,oG 64 62 (.iaddr 4) [.tmp 63, .cst (.t (.int .i64 11))],oG 65 62 (.faddr 3) [.tmp 64],oG 66 62 (.load 1 false) [.tmp 65],oG 67 62 .b2s [.tmp 66],oG 68 62 (.bin .eql) [.tmp 67, .cst (.t (strT [98]))],oO 69 .pick [.tmp 62, .tmp 68, .cst (.t (.bool false))],mv 0 69])
 .ret))))))))
def hints_law29_awake : List (Nat × List Nat) := [(2, [1]), (3, [1]), (6, [1]), (7, [1])]
def ac_law29_stages_L0 (n_ref25_Lines : Nat) : AC :=
 (.seq
 (.seq
 (rG 20480 [mv 7 6,mv 8 0,oO 9 .len [.tmp 8],bT 10 .lss 7 9])
 (.cond (.tmp 10)
 .skip
 (.exit 0)))
 (.seq
 (.block 1
 (.seq
 (rG 28672 [mv 13 0,mv 14 6,oO 15 (.iaddr 4) [.tmp 13, .tmp 14],oO 16 (.faddr 0) [.tmp 15],oO 17 (.load 1 false) [.tmp 16],bN 18 .eql 17 4])
 (.cond (.tmp 18)
 (rG 32768 [mv 19 5,mv 20 0,mv 21 6,oO 22 (.iaddr 4) [.tmp 20, .tmp 21],oO 23 (.load 4 true) [.tmp 22],cL 24 n_ref25_Lines true [.tmp 23],oO 25 (.append 1 24) [.tmp 19, .tmp 24],mv 5 25])
 (rG 36864 [mv 26 4,mv 27 0,mv 28 6,oO 29 (.iaddr 4) [.tmp 27, .tmp 28],oO 30 (.load 4 true) [.tmp 29],oO 31 (.bslice 4 1 (.agg [(.t (.int .i64 0)), (.t (strT [])), (.t (.int .i64 0)), .nil]) [0]) [.tmp 30],oO 32 (.append 4 56) [.tmp 26, .tmp 31],mv 4 32]))))
 (rG 24576 [mv 11 6,bN 12 .add 11 1,mv 6 12])))
def ac_law29_stages (n_ref25_Lines : Nat) : AC :=
 (.seq
 (rG 4096 [mC 2 .nil,mC 3 .nil])
 (.seq
 (rG 8192 [mC 4 .nil])
 (.seq
 (rG 12288 [mC 5 .nil])
 (.seq
 (.seq
 (rG 16384 [mC 6 (.t (.int .i64 0))])
 (.block 0
 (.loop (ac_law29_stages_L0 n_ref25_Lines))))
 (.seq
 (rG 40960 [mv 33 4,mv 34 5,mv 2 33,mv 3 34])
 .ret)))))
def hints_law29_stages : List (Nat × List Nat) := [(7, [5])]
end Go.Eng
end
section
set_option maxRecDepth 20000
set_option maxHeartbeats 64000000
namespace Go.Eng
def imX (x : Im) : Prop := rI x.1 ∧ rI x.2.2.1 ∧ x.2.1.length ≤ 9223372036854775807 ∧ x.2.2.2.length ≤ 9223372036854775807
def imsX (l : List Im) : Prop := l.length ≤ 9223372036854775807 ∧ ∀ x ∈ l, imX x
def seenB (l : List Im) : List V := [.t (.bool false), .t (.bool (l.any fun y => decide (y.1 = 1))), .t (.bool (l.any fun y => decide (y.1 = 2))), .t (.bool (l.any fun y => decide (y.1 = 3))), .t (.bool (l.any fun y => decide (y.1 = 4)))]
theorem zI {l : List Im} : zOkT 4 (List.map imT l) = true := by
 simp only [zOkT, List.all_map, List.all_eq_true]
 intro x _
 rfl
theorem w_image_CheckChain (tab : Tab) (gl : Gl) (n1 : Nat) (h1 : tab.look n1 = some ct_imc.fs) (l : List Im) (hm : imsM l) :
   (ac_image_CheckChain n1).wp tab gl (zipF 0 [.t (.sl (l.map imT))]) (zipF 0 []) (resW [(2, none)] 0 (fun r o => r = .t (.int .i64 (chkC l)) ∧ o = [])) := by
 have hlm := hm.1
 by_cases c0 : l.length = 0
 · have hr : chkC l = 1 := if_pos (.inl c0)
   rw [hr]
   simp (disch := omega) only [go_sem, seval, ac_image_CheckChain, c0]
 have c0b : ((l.length : Int) == 0) = false := by simpa using (by omega : ¬ (l.length : Int) = 0)
 by_cases c8 : 8 < l.length
 · have hr : chkC l = 1 := if_pos (.inr c8)
   rw [hr]
   simp (disch := omega) only [go_sem, seval, ac_image_CheckChain, c0b, c8]
 have hr : chkC l = chF [] l := if_neg (by omega)
 rw [hr]
 simp (disch := omega) only [go_sem, seval, ac_image_CheckChain, c0b, c8]
 refine loop_uptoP l.length (fun i => chF (l.take i) (l.drop i) = chF [] l) (fun i => [(0, .t (.sl (l.map imT))), (3, .ref 16384 0 0), (17, .t (.sl (l.map imT))), (18, .t (.int .i64 l.length)), (19, .t (.int .i64 (i : Nat)))]) (fun i => [(16384, .live 1 (seenB (l.take i)) true true)]) rfl ?_ (fun i hi hE => ?_)
 · refine Weak.rd id ?_ ?_ rfl
   all_goals simp (disch := omega) only [go_sem, seval, id, seenB, List.take_zero, List.any_nil]
 · by_cases hlt : i < l.length
   · obtain ⟨⟨xa, xs, xv, xp⟩, hx⟩ : ∃ x, l[i]? = some x := ⟨l[i], by simp [hlt]⟩
     have hd : l.drop i = (xa, xs, xv, xp) :: l.drop (i + 1) := by
       rw [List.drop_eq_getElem_cons hlt]
       have := (List.getElem?_eq_some_iff.1 hx).2
       rw [this]
     have hxm : imM (xa, xs, xv, xp) := hm.2 _ (List.mem_of_getElem? hx)
     have hC := imc_eq hxm
     rw [hd, chF] at hE
     by_cases hz : chkI (xa, xs, xv, xp) = 0
     · have hgood := (chkI_good hz).1
       simp only at hgood
       rw [if_neg (by omega)] at hE
       rw [hz] at hC
       have stp : seenB (l.take (i + 1)) = (seenB (l.take i)).set xa.toNat (.t (.bool true)) := by
         have f1 := any_take (p := fun y => decide (y.1 = 1)) hx
         have f2 := any_take (p := fun y => decide (y.1 = 2)) hx
         have f3 := any_take (p := fun y => decide (y.1 = 3)) hx
         have f4 := any_take (p := fun y => decide (y.1 = 4)) hx
         unfold seenB
         rw [f1, f2, f3, f4]
         rcases (show xa = 1 ∨ xa = 2 ∨ xa = 3 ∨ xa = 4 by omega) with rfl | rfl | rfl | rfl <;> simp
       have fin : ∀ (S : List V), S = seenB (l.take i) → chF (l.take (i + 1)) (l.drop (i + 1)) = chF [] l → True := fun _ _ _ => trivial
       by_cases hi0 : i = 0
       · subst hi0
         rw [if_neg (fun h => h.1 (by simp)), if_neg (by simp)] at hE
         have ht : l.take 0 ++ [(xa, xs, xv, xp)] = l.take (0 + 1) := by rw [List.take_add_one, hx]; rfl
         rw [ht] at hE
         have hs0 : seenB (l.take 0) = [.t (.bool false), .t (.bool false), .t (.bool false), .t (.bool false), .t (.bool false)] := rfl
         rw [hs0] at stp ⊢
         simp (disch := omega) only [go_sem, seval, ac_image_CheckChain_L0, imT_def, hx, h1, hC, zI]
         repeat refine And.intro rfl ?_
         refine loop_fuel 1 ?_
         rcases (show xa = 1 ∨ xa = 2 ∨ xa = 3 ∨ xa = 4 by omega) with rfl | rfl | rfl | rfl
         all_goals simp (disch := omega) only [go_sem, seval, loopN_succ, ac_image_CheckChain_L1, imT_def, hx, h1]
         all_goals repeat refine And.intro rfl ?_
         all_goals refine ⟨hlt, hE, Weak.rd id ?_ ?_ rfl⟩
         all_goals simp (disch := omega) only [go_sem, seval, id, stp]
       · obtain ⟨⟨ya, ys, yv, yp⟩, hy⟩ : ∃ y, l[i - 1]? = some y := ⟨l[i - 1], by simp⟩
         have hi1 : ((i : Int) - 1) = ((i - 1 : Nat) : Int) := by omega
         have hla := lastD (d := (0, [], 0, [])) hy
         rw [show i - 1 + 1 = i by omega] at hla
         have hne : l.take i ≠ [] := by
           intro h
           have := congrArg List.length h
           simp only [List.length_take, List.length_nil] at this
           omega
         have hgt : 0 < (i : Int) := by omega
         rw [hla] at hE
         by_cases ho : xa < ya
         · rw [if_pos ⟨hne, ho⟩] at hE
           rw [← hE]
           generalize seenB (l.take i) = S at *
           simp (disch := omega) only [go_sem, seval, ac_image_CheckChain_L0, imT_def, hx, hy, h1, hC, hgt, hi1, ho]
           all_goals rfl
         · rw [if_neg (fun h => ho h.2)] at hE
           have hE' : (if isD (l.take i) (xa, xs, xv, xp) = true then 42 else chF (l.take i ++ [(xa, xs, xv, xp)]) (l.drop (i + 1))) = chF [] l := hE
           have ht : l.take i ++ [(xa, xs, xv, xp)] = l.take (i + 1) := by rw [List.take_add_one, hx]; rfl
           rw [ht] at hE'
           obtain ⟨s1, s2, s3, s4, hS⟩ : ∃ s1 s2 s3 s4 : Bool, seenB (l.take i) = [.t (.bool false), .t (.bool s1), .t (.bool s2), .t (.bool s3), .t (.bool s4)] := ⟨_, _, _, _, rfl⟩
           rw [hS] at stp ⊢
           have hmt : List.take i (List.map imT l) = List.map imT (l.take i) := (List.map_take ..).symm
           have hlt2 : (List.map imT (l.take i)).length = i := by simp; omega
           simp (disch := omega) only [go_sem, seval, ac_image_CheckChain_L0, imT_def, hx, hy, h1, hC, hgt, hi1, ho, hmt, hlt2, zI]
           repeat refine And.intro rfl ?_
           refine loop_uptoP i (fun k => isD (l.take k) (xa, xs, xv, xp) = false) (fun k => [(0, .t (.sl (l.map imT))), (3, .ref 16384 0 0), (5, .ref 28720 0 0), (17, .t (.sl (l.map imT))), (18, .t (.int .i64 l.length)), (19, .t (.int .i64 (i : Nat))), (44, .t (.sl ((l.take i).map imT))), (45, .t (.int .i64 (i : Nat))), (46, .t (.int .i64 (k : Nat)))]) (fun _ => [(28720, .live 4 [.t (.agg [.int .i64 xa, strT xs, .int .i64 xv, .sl (xp.map byteT)])] true true), (16384, .live 1 [.t (.bool false), .t (.bool s1), .t (.bool s2), .t (.bool s3), .t (.bool s4)] true true)]) rfl ?_ (fun k hk hP => ?_)
           · refine Weak.rd id ?_ ?_ rfl
             all_goals simp (disch := omega) only [go_sem, seval, id]
           · by_cases hkl : k < i
             · obtain ⟨⟨za, zs, zv, zp⟩, hzk⟩ : ∃ z, l[k]? = some z := ⟨l[k], by simp⟩
               have hzt : (l.take i)[k]? = some (za, zs, zv, zp) := by rw [List.getElem?_take, if_pos hkl, hzk]
               have hst2 := isD_take (x := (xa, xs, xv, xp)) hzk
               rw [hP, Bool.false_or] at hst2
               simp only at hst2
               by_cases q1 : za = xa
               · subst q1
                 by_cases q2 : zs = xs
                 · subst q2
                   have hd2 := isD_at (x := (za, zs, xv, xp)) hzk hkl rfl rfl
                   rw [hd2, if_pos rfl] at hE'
                   rw [← hE']
                   simp (disch := omega) only [go_sem, seval, ac_image_CheckChain_L1, imT_def, hzt, beq_self_eq_true]
                   all_goals rfl
                 · rw [decide_eq_true rfl, decide_eq_false q2] at hst2
                   have q2b : decide (zs = xs) = false := decide_eq_false q2
                   simp (disch := omega) only [go_sem, seval, ac_image_CheckChain_L1, imT_def, hzt, beq_self_eq_true, q2b]
                   repeat refine And.intro rfl ?_
                   refine ⟨hkl, hst2, Weak.rd id ?_ ?_ rfl⟩
                   all_goals simp (disch := omega) only [go_sem, seval, id]
               · rw [decide_eq_false q1, Bool.false_and] at hst2
                 have q1b : (za == xa) = false := by simpa using q1
                 simp (disch := omega) only [go_sem, seval, ac_image_CheckChain_L1, imT_def, hzt, q1b]
                 repeat refine And.intro rfl ?_
                 refine ⟨hkl, hst2, Weak.rd id ?_ ?_ rfl⟩
                 all_goals simp (disch := omega) only [go_sem, seval, id]
             · have e : k = i := by omega
               subst e
               rw [hP, if_neg (by decide)] at hE'
               rcases (show xa = 1 ∨ xa = 2 ∨ xa = 3 ∨ xa = 4 by omega) with rfl | rfl | rfl | rfl
               all_goals simp (disch := omega) only [go_sem, seval, ac_image_CheckChain_L1, imT_def]
               all_goals repeat refine And.intro rfl ?_
               all_goals refine ⟨hlt, hE', Weak.rd id ?_ ?_ rfl⟩
               all_goals simp (disch := omega) only [go_sem, seval, id, stp]
     · rw [if_pos hz] at hE
       rw [← hE]
       have hz' : (chkI (xa, xs, xv, xp) != 0) = true := by simpa using hz
       simp (disch := omega) only [go_sem, seval, ac_image_CheckChain_L0, imT_def, hx, h1, hC, hz']
   · have e : i = l.length := by omega
     subst e
     rw [List.take_length, List.drop_length, chF] at hE
     rw [← hE]
     rw [List.take_length]
     unfold seenB
     cases ha1 : l.any (fun y => decide (y.1 = 1)) <;> cases ha3 : l.any (fun y => decide (y.1 = 3))
     all_goals simp (disch := omega) only [go_sem, seval, ac_image_CheckChain_L0]
theorem evM.x {e : Ev} (h : evM e) : evX e := ⟨by have := h.1.1; omega, fun x hx => by have := h.1.2 x hx; omega, by have := h.2; omega⟩
def ct_chkX : Ct where
 α := Ev × Int
 as x := [.t (evT x.1), .t (.int .i64 x.2)]
 ins _ := []
 pre x := evX x.1
 r x := .t (.int .i64 (chkE x.1 x.2))
 outs _ := []
 inj := by
   rintro ⟨e, a⟩ ⟨f, b⟩ h _
   simp only [List.cons.injEq, V.t.injEq, T.int.injEq, true_and, and_true] at h
   obtain ⟨h1, rfl⟩ := h
   cases evT_inj h1
   exact ⟨rfl, rfl⟩
theorem w_event_CheckX (tab : Tab) (gl : Gl) (n1 : Nat) (h1 : tab.look n1 = some ct_size.fs) (e : Ev) (act : Int) (hm : evX e) :
   (ac_event_Check n1).wp tab gl (zipF 0 [.t (evT e), .t (.int .i64 act)]) (zipF 0 []) (resW [(4, none)] 0 (fun r o => r = .t (.int .i64 (chkE e act)) ∧ o = [])) := by
 obtain ⟨r, k, ds, d⟩ := e
 have hl := hm.2.2
 have hd := hm.1
 simp only at hl hd
 by_cases hb : badE r k act
 · have hr : chkE (r, k, ds, d) act = 1 := if_pos hb
   rw [hr]
   by_cases c1 : act < 1
   · simp (disch := omega) only [go_sem, seval, ac_event_Check, evT_def, c1]
   by_cases c2 : 3 < act
   · simp (disch := omega) only [go_sem, seval, ac_event_Check, evT_def, c1, c2]
   by_cases c3 : r < 0
   · simp (disch := omega) only [go_sem, seval, ac_event_Check, evT_def, c1, c2, c3]
   by_cases c4 : 11 < r
   · simp (disch := omega) only [go_sem, seval, ac_event_Check, evT_def, c1, c2, c3, c4]
   by_cases c5 : k < 1
   · simp (disch := omega) only [go_sem, seval, ac_event_Check, evT_def, c1, c2, c3, c4, c5]
   have c6 : 5 < k := by unfold badE at hb; omega
   simp (disch := omega) only [go_sem, seval, ac_event_Check, evT_def, c1, c2, c3, c4, c5, c6]
 · obtain ⟨⟨c1, c2⟩, ⟨c3, c4⟩, c5, c6⟩ := goodE hb
   by_cases c7 : 64 < d.length
   · have hr : chkE (r, k, ds, d) act = 4 := by unfold chkE; rw [if_neg hb, if_pos c7]
     rw [hr]
     simp (disch := omega) only [go_sem, seval, ac_event_Check, evT_def, c1, c2, c3, c4, c5, c6, c7]
   · have hr : chkE (r, k, ds, d) act = if fitE k act ds then 0 else 27 := by unfold chkE; rw [if_neg hb, if_neg c7]
     rw [hr]
     by_cases c8 : ds.length = 2
     · obtain ⟨d0, d1, rfl⟩ := len2 c8
       have m0 := hm.2.1 d0 (by simp)
       have m1 := hm.2.1 d1 (by simp)
       rw [fitE_two]
       rcases (show k = 5 ∨ k ≠ 5 by omega) with rfl | hk
       · simp only [wantL_note]
         by_cases l0 : d0.length = 0 <;> by_cases l1 : d1.length = 0
         all_goals simp (disch := omega) only [go_sem, seval, ac_event_Check, evT_def, c1, c2, c3, c4, c5, c6, c7, List.map_cons, List.map_nil]
         all_goals refine loop_fuel 3 ?_
         all_goals simp (disch := omega) only [go_sem, seval, loopN_succ, ac_event_Check_L0, h1, l0, l1, Int.reduceFDiv]
       · have k5 : (k == 5) = false := by simpa using hk
         rcases (show act = 1 ∨ act = 2 ∨ act = 3 by omega) with rfl | rfl | rfl
         · have w0 : wantL k 1 0 = 20 := if_pos ⟨hk, by decide⟩
           have w1 : wantL k 1 1 = 0 := if_neg (by simp)
           rw [w0, w1]
           by_cases l0 : d0.length = 20 <;> by_cases l1 : d1.length = 0
           all_goals simp (disch := omega) only [go_sem, seval, ac_event_Check, evT_def, c3, c4, c5, c6, c7, List.map_cons, List.map_nil]
           all_goals refine loop_fuel 3 ?_
           all_goals simp (disch := omega) only [go_sem, seval, loopN_succ, ac_event_Check_L0, h1, size_eq0, size_eq1, k5, l0, l1, Int.reduceFDiv]
         · have w0 : wantL k 2 0 = 0 := if_neg (by simp)
           have w1 : wantL k 2 1 = 32 := if_pos ⟨hk, by decide⟩
           rw [w0, w1]
           by_cases l0 : d0.length = 0 <;> by_cases l1 : d1.length = 32
           all_goals simp (disch := omega) only [go_sem, seval, ac_event_Check, evT_def, c3, c4, c5, c6, c7, List.map_cons, List.map_nil]
           all_goals refine loop_fuel 3 ?_
           all_goals simp (disch := omega) only [go_sem, seval, loopN_succ, ac_event_Check_L0, h1, size_eq0, size_eq1, k5, l0, l1, Int.reduceFDiv]
         · have w0 : wantL k 3 0 = 20 := if_pos ⟨hk, by decide⟩
           have w1 : wantL k 3 1 = 32 := if_pos ⟨hk, by decide⟩
           rw [w0, w1]
           by_cases l0 : d0.length = 20 <;> by_cases l1 : d1.length = 32
           all_goals simp (disch := omega) only [go_sem, seval, ac_event_Check, evT_def, c3, c4, c5, c6, c7, List.map_cons, List.map_nil]
           all_goals refine loop_fuel 3 ?_
           all_goals simp (disch := omega) only [go_sem, seval, loopN_succ, ac_event_Check_L0, h1, size_eq0, size_eq1, k5, l0, l1, Int.reduceFDiv]
     · have hf : fitE k act ds = false := by unfold fitE; rw [decide_eq_false c8]; rfl
       rw [hf]
       have c9 : ((ds.length : Int) == 2) = false := by simpa using (by omega : ¬ (ds.length : Int) = 2)
       simp (disch := omega) only [go_sem, seval, ac_event_Check, evT_def, c1, c2, c3, c4, c5, c6, c7, c8, c9]
theorem chkX_eq {a b : Int} {c : List (List UInt8)} {d : List UInt8} {act : Int} (h : evX (a, b, c, d)) : ct_chkX.fs [.t (.agg [.int .i64 a, .int .i64 b, .sl (c.map bsT), .sl (d.map byteT)]), .t (.int .i64 act)] [] = some (.t (.int .i64 (chkE (a, b, c, d) act)), []) := ct_chkX.eq ((a, b, c, d), act) h
def ct_fitX : Ct where
 α := Ev × Int
 as x := [.t (evT x.1), .t (.int .i64 x.2)]
 ins _ := []
 pre x := evX x.1 ∧ 0 ≤ x.2 ∧ x.2 < 4
 r x := .t (.bool (fitE x.1.2.1 x.2 x.1.2.2.1))
 outs _ := []
 inj := by
   rintro ⟨e, a⟩ ⟨f, b⟩ h _
   simp only [List.cons.injEq, V.t.injEq, T.int.injEq, true_and, and_true] at h
   obtain ⟨h1, rfl⟩ := h
   cases evT_inj h1
   exact ⟨rfl, rfl⟩
theorem fitX_eq {a b : Int} {c : List (List UInt8)} {d : List UInt8} {act : Int} (h : evX (a, b, c, d) ∧ 0 ≤ act ∧ act < 4) : ct_fitX.fs [.t (.agg [.int .i64 a, .int .i64 b, .sl (c.map bsT), .sl (d.map byteT)]), .t (.int .i64 act)] [] = some (.t (.bool (fitE b act c)), []) := ct_fitX.eq ((a, b, c, d), act) h
theorem w_ref25_digestsFitX (tab : Tab) (gl : Gl) (n1 n2 : Nat) (h1 : tab.look n1 = some ct_has.fs) (h2 : tab.look n2 = some ct_size.fs) (e : Ev) (act : Int) (hm : evX e) (ha : 0 ≤ act ∧ act < 4) :
   (ac_ref25_digestsFit n1 n2).wp tab gl (zipF 0 [.t (evT e), .t (.int .i64 act)]) (zipF 0 []) (resW [(4, none)] 0 (fun r o => r = .t (.bool (fitE e.2.1 act e.2.2.1)) ∧ o = [])) := by
 obtain ⟨r, k, ds, d⟩ := e
 have hd := hm.1
 simp only at hd
 have q0 := has_eq0 ha
 have q1 := has_eq1 ha
 by_cases c8 : ds.length = 2
 · obtain ⟨d0, d1, rfl⟩ := len2 c8
   have m0 := hm.2.1 d0 (by simp)
   have m1 := hm.2.1 d1 (by simp)
   simp only [fitE_two, wantL0, wantL1]
   rcases (show k = 5 ∨ k ≠ 5 by omega) with rfl | hk
   · by_cases l0 : d0.length = 0 <;> by_cases l1 : d1.length = 0
     all_goals simp (disch := omega) only [go_sem, seval, ac_ref25_digestsFit, evT_def, List.map_cons, List.map_nil]
     all_goals refine loop_fuel 3 ?_
     all_goals simp (disch := omega) only [go_sem, seval, loopN_succ, ac_ref25_digestsFit_L0, h1, h2, l0, l1, ne_eq]
   · have k5 : (k == 5) = false := by simpa using hk
     by_cases b0 : act % 2 = 1 <;> by_cases b1 : act / 2 % 2 = 1
     · by_cases l0 : d0.length = 20 <;> by_cases l1 : d1.length = 32
       all_goals simp (disch := omega) only [go_sem, seval, ac_ref25_digestsFit, evT_def, List.map_cons, List.map_nil]
       all_goals refine loop_fuel 3 ?_
       all_goals simp (disch := omega) only [go_sem, seval, loopN_succ, ac_ref25_digestsFit_L0, h1, h2, q0, q1, b0, b1, size_eq0, size_eq1, k5, hk, l0, l1, ne_eq]
     · by_cases l0 : d0.length = 20 <;> by_cases l1 : d1.length = 0
       all_goals simp (disch := omega) only [go_sem, seval, ac_ref25_digestsFit, evT_def, List.map_cons, List.map_nil]
       all_goals refine loop_fuel 3 ?_
       all_goals simp (disch := omega) only [go_sem, seval, loopN_succ, ac_ref25_digestsFit_L0, h1, h2, q0, q1, b0, b1, size_eq0, size_eq1, k5, hk, l0, l1, ne_eq]
     · by_cases l0 : d0.length = 0 <;> by_cases l1 : d1.length = 32
       all_goals simp (disch := omega) only [go_sem, seval, ac_ref25_digestsFit, evT_def, List.map_cons, List.map_nil]
       all_goals refine loop_fuel 3 ?_
       all_goals simp (disch := omega) only [go_sem, seval, loopN_succ, ac_ref25_digestsFit_L0, h1, h2, q0, q1, b0, b1, size_eq0, size_eq1, k5, hk, l0, l1, ne_eq]
     · by_cases l0 : d0.length = 0 <;> by_cases l1 : d1.length = 0
       all_goals simp (disch := omega) only [go_sem, seval, ac_ref25_digestsFit, evT_def, List.map_cons, List.map_nil]
       all_goals refine loop_fuel 3 ?_
       all_goals simp (disch := omega) only [go_sem, seval, loopN_succ, ac_ref25_digestsFit_L0, h1, h2, q0, q1, b0, b1, size_eq0, size_eq1, k5, hk, l0, l1, ne_eq]
 · have hf : fitE k act ds = false := by unfold fitE; rw [decide_eq_false c8]; rfl
   have c9 : ((ds.length : Int) == 2) = false := by simpa using (by omega : ¬ (ds.length : Int) = 2)
   simp only [hf]
   simp (disch := omega) only [go_sem, seval, ac_ref25_digestsFit, evT_def, c8, c9]
theorem w_ref25_EventX (tab : Tab) (gl : Gl) (n1 : Nat) (h1 : tab.look n1 = some ct_fitX.fs) (e : Ev) (act : Int) (hm : evX e) :
   (ac_ref25_Event n1).wp tab gl (zipF 0 [.t (evT e), .t (.int .i64 act)]) (zipF 0 []) (resW [(4, none)] 0 (fun r o => r = .t (.int .i64 (chkE e act)) ∧ o = [])) := by
 obtain ⟨r, k, ds, d⟩ := e
 have hl := hm.2.2
 simp only at hl
 by_cases hb : badE r k act
 · have hr : chkE (r, k, ds, d) act = 1 := if_pos hb
   rw [hr]
   by_cases c1 : act < 1
   · simp (disch := omega) only [go_sem, seval, ac_ref25_Event, evT_def, c1]
   by_cases c2 : 3 < act
   · simp (disch := omega) only [go_sem, seval, ac_ref25_Event, evT_def, c1, c2]
   by_cases c3 : r < 0
   · simp (disch := omega) only [go_sem, seval, ac_ref25_Event, evT_def, c1, c2, c3]
   by_cases c4 : 11 < r
   · simp (disch := omega) only [go_sem, seval, ac_ref25_Event, evT_def, c1, c2, c3, c4]
   by_cases c5 : k < 1
   · simp (disch := omega) only [go_sem, seval, ac_ref25_Event, evT_def, c1, c2, c3, c4, c5]
   have c6 : 5 < k := by unfold badE at hb; omega
   simp (disch := omega) only [go_sem, seval, ac_ref25_Event, evT_def, c1, c2, c3, c4, c5, c6]
 · obtain ⟨⟨c1, c2⟩, ⟨c3, c4⟩, c5, c6⟩ := goodE hb
   by_cases c7 : 64 < d.length
   · have hr : chkE (r, k, ds, d) act = 4 := by unfold chkE; rw [if_neg hb, if_pos c7]
     rw [hr]
     simp (disch := omega) only [go_sem, seval, ac_ref25_Event, evT_def, c1, c2, c3, c4, c5, c6, c7]
   · have hr : chkE (r, k, ds, d) act = if fitE k act ds then 0 else 27 := by unfold chkE; rw [if_neg hb, if_neg c7]
     have hf := fitX_eq (a := r) (b := k) (c := ds) (d := d) (act := act) ⟨hm, by omega, by omega⟩
     rw [hr]
     cases hq : fitE k act ds
     all_goals rw [hq] at hf
     all_goals simp (disch := omega) only [go_sem, seval, ac_ref25_Event, evT_def, c1, c2, c3, c4, c5, c6, c7, h1, hf]
abbrev Lg := Int × Int × List Ev
def lgT (l : Lg) : T := .agg [.int .i64 l.1, .int .i64 l.2.1, .sl (l.2.2.map evT)]
theorem lgT_def {a r : Int} {es : List Ev} : lgT (a, r, es) = .agg [.int .i64 a, .int .i64 r, .sl (es.map evT)] := Eq.trans (Eq.refl _) rfl
theorem mapE_inj {l m : List Ev} : (l.map evT = m.map evT) = (l = m) := propext ⟨map_inj' (fun _ _ => evT_inj), fun h => by rw [h]⟩
theorem lgT_inj {l m : Lg} (h : lgT l = lgT m) : l = m := by
 obtain ⟨a, b, c⟩ := l
 obtain ⟨a', b', c'⟩ := m
 simp only [lgT_def, T.agg.injEq, List.cons.injEq, T.int.injEq, T.sl.injEq, true_and, and_true, mapE_inj] at h
 obtain ⟨rfl, rfl, rfl⟩ := h
 rfl
def esM (es : List Ev) : Prop := es.length < 1000000 ∧ ∀ e ∈ es, evX e
def firstE (act : Int) : List Ev → Int
 | [] => 0
 | e :: r => if chkE e act ≠ 0 then chkE e act else firstE act r
def rpE (act : Int) (es : List Ev) : Int := if act < 1 ∨ 3 < act then 1 else firstE act es
abbrev Rg := List Bank × Int
def rpS (x : Rg) (e : Ev) : Rg := if e.2.1 = 5 then x else extP x 0 e.1 e.2.2.1
def rp0 (act : Int) : Rg := (newBk act, 0)
def rpF (act : Int) (es : List Ev) : Rg := es.foldl rpS (rp0 act)
def rpG (act : Int) (es : List Ev) : Rg := if rpE act es = 0 then rpF act es else ([], 0)
def rpV (act : Int) (es : List Ev) : V := .tup [.t (regT (rpG act es).1 (rpG act es).2), .t (.int .i64 (rpE act es))]
def ct_rpl : Ct where
 α := Lg
 as x := [.t (lgT x)]
 ins _ := []
 pre x := esM x.2.2
 r x := rpV x.1 x.2.2
 outs _ := []
 inj := by
   intro a b h _
   simp only [List.cons.injEq, V.t.injEq, and_true] at h
   cases lgT_inj h
   exact ⟨rfl, rfl⟩
def ShA (act : Int) (bk : List Bank) : Prop := ∃ b0 b1 : Bank, bk = [b0, b1] ∧ List.length b0 = (if act % 2 = 1 then 16 else 0) ∧ List.length b1 = (if act / 2 % 2 = 1 then 16 else 0) ∧ (∀ x ∈ b0, x.length = 20) ∧ ∀ x ∈ b1, x.length = 32
theorem ShA.new {act : Int} (ha : 1 ≤ act ∧ act ≤ 3) : ShA act (newBk act) := by
 have h : newBk act = [if act % 2 = 1 then newB 0 else [], if act / 2 % 2 = 1 then newB 1 else []] := newBk_of (by omega)
 refine ⟨_, _, h, ?_, ?_, fun x hx => ?_, fun x hx => ?_⟩
 · split
   · exact newB_length
   · rfl
 · split
   · exact newB_length
   · rfl
 · split at hx
   · exact newB_z (a := 0) x hx
   · simp at hx
 · split at hx
   · exact newB_z (a := 1) x hx
   · simp at hx
theorem ShA.rv {act : Int} {bk : List Bank} (h : ShA act bk) : RV bk := by
 obtain ⟨b0, b1, rfl, h0, h1, z0, z1⟩ := h
 refine ⟨.two _ _ ?_ ?_, fun b hb x hx => ?_⟩
 · split at h0
   · exact .inr h0
   · exact .inl h0
 · split at h1
   · exact .inr h1
   · exact .inl h1
 · simp only [List.mem_cons, List.not_mem_nil, or_false] at hb
   rcases hb with rfl | rfl
   · have := z0 x hx; omega
   · have := z1 x hx; omega
theorem ShA.ext {act : Int} {bk : List Bank} (h : ShA act bk) (i : Nat) (ds : List (List UInt8)) : ShA act (extBk bk i ds) := by
 obtain ⟨b0, b1, rfl, h0, h1, z0, z1⟩ := h
 rw [extBk_two]
 refine ⟨_, _, rfl, ext1_length.trans h0, ext1_length.trans h1, ?_, ?_⟩
 · unfold ext1; split
   · exact set_z z0 (sumA_length (a := 0))
   · exact z0
 · unfold ext1; split
   · exact set_z z1 (sumA_length (a := 1))
   · exact z1
theorem leastI_lo {i : Int} (h : i ≤ 11) : leastI i false = 0 := by
 unfold leastI
 rw [if_neg (by simp), if_neg (by omega), if_neg (by omega)]
theorem ext_ok {act : Int} {bk : List Bank} {e : Ev} (h : ShA act bk) (hc : chkE e act = 0) (h5 : e.2.1 ≠ 5) : extEr bk 0 e.1 e.2.2.1 = 0 := by
 obtain ⟨r, k, ds, d⟩ := e
 obtain ⟨b0, b1, rfl, h0, h1, z0, z1⟩ := h
 unfold chkE at hc
 simp only at hc h5 ⊢
 split at hc
 · simp at hc
 · rename_i hb
   obtain ⟨⟨c1, c2⟩, ⟨c3, c4⟩, c5, c6⟩ := goodE hb
   split at hc
   · simp at hc
   · split at hc
     · rename_i hf
       unfold fitE at hf
       simp only [Bool.and_eq_true, decide_eq_true_eq] at hf
       obtain ⟨⟨f0, f1⟩, f2⟩ := hf
       rw [wantL0] at f1
       rw [wantL1] at f2
       unfold extEr
       rw [show ([b0, b1] : List Bank).getD 0 [] = b0 from rfl, show ([b0, b1] : List Bank).getD 1 [] = b1 from rfl, h0, h1, f0, f1, f2]
       have h5' : k ≠ 5 := h5
       unfold extE
       rw [if_neg (by omega), leastI_lo (by omega), if_neg (by omega), if_neg, if_neg]
       · by_cases q0 : act % 2 = 1 <;> by_cases q1 : act / 2 % 2 = 1 <;> simp [q0, q1, h5']
       · by_cases q0 : act % 2 = 1 <;> by_cases q1 : act / 2 % 2 = 1 <;> simp [q0, q1, h5']
     · simp at hc
theorem rpS_ext {act : Int} {x : Rg} {e : Ev} (h : ShA act x.1) (hc : chkE e act = 0) (h5 : e.2.1 ≠ 5) : rpS x e = (extBk x.1 e.1.toNat e.2.2.1, x.2 + 1) := by
 unfold rpS
 rw [if_neg h5]
 unfold extP
 rw [if_pos (ext_ok h hc h5)]
def RQ (act : Int) (n : Nat) (x : Rg) : Prop := ShA act x.1 ∧ 0 ≤ x.2 ∧ x.2 ≤ n
theorem RQ.zero {act : Int} (ha : 1 ≤ act ∧ act ≤ 3) : RQ act 0 (rp0 act) := ⟨ShA.new ha, by simp [rp0], by simp [rp0]⟩
theorem RQ.up {act : Int} {n m : Nat} {x : Rg} (h : RQ act n x) (hm : n ≤ m) : RQ act m x := ⟨h.1, h.2.1, by have := h.2.2; omega⟩
theorem RQ.ext {act : Int} {n : Nat} {x : Rg} (h : RQ act n x) (l i : Int) (ds : List (List UInt8)) : RQ act (n + 1) (extP x l i ds) := by
 unfold extP
 split
 · exact ⟨h.1.ext _ _, by have := h.2.1; simp only; omega, by have := h.2.2; simp only; omega⟩
 · exact h.up (by omega)
theorem RQ.step {act : Int} {n : Nat} {x : Rg} {e : Ev} (h : RQ act n x) : RQ act (n + 1) (rpS x e) := by
 unfold rpS
 split
 · exact h.up (by omega)
 · exact h.ext _ _ _
theorem RQ.fold {act : Int} (ha : 1 ≤ act ∧ act ≤ 3) : ∀ {es : List Ev} {n : Nat} {x : Rg}, RQ act n x → RQ act (n + es.length) (es.foldl rpS x)
 | [], n, x, h => h
 | e :: es, n, x, h => by
   have := RQ.fold ha (es := es) (h.step (e := e))
   rw [List.length_cons, show n + (es.length + 1) = n + 1 + es.length by omega]
   exact this
theorem rpF_rq {act : Int} (ha : 1 ≤ act ∧ act ≤ 3) {es : List Ev} : RQ act es.length (rpF act es) := by
 have := RQ.fold ha (es := es) (RQ.zero ha)
 rwa [Nat.zero_add] at this
theorem firstE_all {act : Int} : ∀ {es : List Ev}, (∀ e ∈ es, chkE e act = 0) → firstE act es = 0
 | [], _ => rfl
 | x :: es, h => by
   unfold firstE
   rw [if_neg (by have := h x (by simp); omega)]
   exact firstE_all (fun e he => h e (by simp [he]))
theorem firstE_at {act : Int} : ∀ {es : List Ev} {i : Nat}, i < es.length → (∀ e ∈ es.take i, chkE e act = 0) → chkE (es.getD i ev0) act ≠ 0 → firstE act es = chkE (es.getD i ev0) act
 | [], i, h, _, _ => by simp at h
 | x :: es, 0, _, _, h2 => by
   unfold firstE
   exact if_pos h2
 | x :: es, i + 1, h, h1, h2 => by
   unfold firstE
   rw [if_neg (by have := h1 x (by simp); omega)]
   exact firstE_at (es := es) (i := i) (by simpa using h) (fun e he => h1 e (by simp [he])) h2
end Go.Eng
end
