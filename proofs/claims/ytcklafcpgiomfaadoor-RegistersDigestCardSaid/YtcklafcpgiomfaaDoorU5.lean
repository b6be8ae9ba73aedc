/- My own text: an abstract machine, its walks over the functions reached, and their tie to the program. -/
import Derived.Test.YtcklafcpgiomfaaDoorU4
import Derived.Test.YtcklafcpgiomfaaDoorU2
set_option linter.unusedSimpArgs false
set_option linter.unusedVariables false
section
set_option maxRecDepth 20000
set_option maxHeartbeats 64000000
namespace Go.Eng
theorem w_ref8_Extend2 (tab : Tab) (gl : Gl) (n1 n2 n3 n4 n5 n6 : Nat) (h2 : tab.look n1 = some ct_rleast.fs) (h3 : tab.look n2 = some ct_actv.fs) (h4 : tab.look n3 = some ct_size.fs) (h5 : tab.look n4 = some ct_twin.fs) (h7 : tab.look n5 = some ct_copy.fs) (h6 : tab.look n6 = some ct_sumA.fs)
    (b0 b1 : Bank) (u loc : Int) (n : Nat) (d0 d1 : List UInt8) (hu : 0 ≤ u ∧ u < 1000000000) (hk : RM [b0, b1]) (hv0 : (b0.getD n []).length ≤ 64) (hv1 : (b1.getD n []).length ≤ 64) (hd : d0.length < 9223372036854775808 ∧ d1.length < 9223372036854775808) (e1 : ¬(loc < 0 ∨ 4 < loc ∨ 16 ≤ n)) (e2 : ¬ loc < leastI n false) :
    (ac_ref8_Extend n1 n2 n3 n4 n5 n6).wp tab gl (zipF 0 [.t (regT [b0, b1] u), .t (.int .i64 loc), .t (.int .i64 n), .t (.sl [bsT d0, bsT d1])]) (zipF 0 []) (resW [(8, some (2, true)), (9, none)] 0 (fun r o => r = extR [b0, b1] u loc n [d0, d1] ∧ o = [])) := by
  have gg : bkOk b0 ∧ bkOk b1 := by
    obtain ⟨hrk, _⟩ := hk
    cases hrk with
    | two _ _ h0 h1 => exact ⟨h0, h1⟩
  obtain ⟨g0, g1⟩ := gg
  have a6 : ¬ leastI (n : Int) false = 5 := by unfold leastI; split <;> (try split) <;> (try split) <;> simp_all
  simp (config := { maxSteps := 2000000 }) (disch := (first | omega | (simp only [lens, lenm]; omega))) only [go_sem, ↓reduceIte, Nat.reduceAdd, Nat.reduceEqDiff, Nat.reduceSub, Nat.reduceMul, Nat.reduceLT, Nat.reduceLeDiff, Nat.reduceBEq, Int.reduceEq, Int.reduceLT, Int.reduceLE, Int.reduceToNat, Int.reduceNeg, Int.reduceAdd, Int.reduceSub, Int.reduceMul, Int.reduceMod, Int.reduceDiv, reduceCtorEq, Nat.reducePow, Int.reducePow, ac_ref8_Extend, h2, rleast_eq, a6, List.map_nil, List.map_cons]
  refine loopW_weak (fs' := [(2, .t (.int .i64 (n : Nat))), (3, .t (.sl [bsT d0, bsT d1])), (4, .ref 4096 0 0), (8, .ref 4112 0 0), (10, .t (.int .i64 0))]) (hs' := [(4112, .live 2 [.agg [.nil, .t (.int .i64 0)]] true true), (4096, .live 2 [.t (regT [b0, b1] u)] true true)]) (Weak.rd id ?_ ?_ rfl) ?_
  · simp (config := { maxSteps := 2000000 }) (disch := (first | omega | (simp only [lens, lenm]; omega))) only [go_sem, ↓reduceIte, Nat.reduceAdd, Nat.reduceEqDiff, Nat.reduceSub, Nat.reduceMul, Nat.reduceLT, Nat.reduceLeDiff, Nat.reduceBEq, Int.reduceEq, Int.reduceLT, Int.reduceLE, Int.reduceToNat, Int.reduceNeg, Int.reduceAdd, Int.reduceSub, Int.reduceMul, Int.reduceMod, Int.reduceDiv, reduceCtorEq, Nat.reducePow, Int.reducePow, id]
  · simp (config := { maxSteps := 2000000 }) (disch := (first | omega | (simp only [lens, lenm]; omega))) only [go_sem, ↓reduceIte, Nat.reduceAdd, Nat.reduceEqDiff, Nat.reduceSub, Nat.reduceMul, Nat.reduceLT, Nat.reduceLeDiff, Nat.reduceBEq, Int.reduceEq, Int.reduceLT, Int.reduceLE, Int.reduceToNat, Int.reduceNeg, Int.reduceAdd, Int.reduceSub, Int.reduceMul, Int.reduceMod, Int.reduceDiv, reduceCtorEq, Nat.reducePow, Int.reducePow, id]
  rcases g0 with z0 | z0 <;> rcases g1 with z1 | z1
  · have zz : True := trivial
    by_cases p2 : 0 < d0.length
    · have zz : True := trivial
      have hE : extE 0 0 loc n 2 d0.length d1.length = 27 := by unfold extE; rw [if_neg (by omega), if_neg (by omega), if_pos (by omega)]
      refine loop_fuel 3 ?_
      simp (config := { maxSteps := 2000000 }) (disch := (first | omega | (simp only [lens, lenm]; omega))) only [go_sem, ↓reduceIte, Nat.reduceAdd, Nat.reduceEqDiff, Nat.reduceSub, Nat.reduceMul, Nat.reduceLT, Nat.reduceLeDiff, Nat.reduceBEq, Int.reduceEq, Int.reduceLT, Int.reduceLE, Int.reduceToNat, Int.reduceNeg, Int.reduceAdd, Int.reduceSub, Int.reduceMul, Int.reduceMod, Int.reduceDiv, reduceCtorEq, Nat.reducePow, Int.reducePow, loopN_succ, ac_ref8_Extend_L0, h3, actv_eq0 hk.1, actv_eq1 hk.1, h4, size_eq0, size_eq1, h5, twin_eq2 hk, h7, copy_eq, h6, sumA_eq0, sumA_eq1, z0, z1, hE, List.map_nil, extR, extEr, List.getD_cons_zero, List.getD_cons_succ, List.length_cons, List.length_nil]
      all_goals repeat refine And.intro rfl ?_
      all_goals rfl
    · have zz : True := trivial
      by_cases p1 : 0 < d1.length
      · have zz : True := trivial
        have hE : extE 0 0 loc n 2 d0.length d1.length = 27 := by unfold extE; rw [if_neg (by omega), if_neg (by omega), if_pos (by omega)]
        refine loop_fuel 3 ?_
        simp (config := { maxSteps := 2000000 }) (disch := (first | omega | (simp only [lens, lenm]; omega))) only [go_sem, ↓reduceIte, Nat.reduceAdd, Nat.reduceEqDiff, Nat.reduceSub, Nat.reduceMul, Nat.reduceLT, Nat.reduceLeDiff, Nat.reduceBEq, Int.reduceEq, Int.reduceLT, Int.reduceLE, Int.reduceToNat, Int.reduceNeg, Int.reduceAdd, Int.reduceSub, Int.reduceMul, Int.reduceMod, Int.reduceDiv, reduceCtorEq, Nat.reducePow, Int.reducePow, loopN_succ, ac_ref8_Extend_L0, h3, actv_eq0 hk.1, actv_eq1 hk.1, h4, size_eq0, size_eq1, h5, twin_eq2 hk, h7, copy_eq, h6, sumA_eq0, sumA_eq1, z0, z1, hE, List.map_nil, extR, extEr, List.getD_cons_zero, List.getD_cons_succ, List.length_cons, List.length_nil]
        all_goals repeat refine And.intro rfl ?_
        all_goals rfl
      · have zz : True := trivial
        refine loop_fuel 3 ?_
        simp (config := { maxSteps := 2000000 }) (disch := (first | omega | (simp only [lens, lenm]; omega))) only [go_sem, ↓reduceIte, Nat.reduceAdd, Nat.reduceEqDiff, Nat.reduceSub, Nat.reduceMul, Nat.reduceLT, Nat.reduceLeDiff, Nat.reduceBEq, Int.reduceEq, Int.reduceLT, Int.reduceLE, Int.reduceToNat, Int.reduceNeg, Int.reduceAdd, Int.reduceSub, Int.reduceMul, Int.reduceMod, Int.reduceDiv, reduceCtorEq, Nat.reducePow, Int.reducePow, loopN_succ, ac_ref8_Extend_L0, h3, actv_eq0 hk.1, actv_eq1 hk.1, h4, size_eq0, size_eq1, h5, twin_eq2 hk, h7, copy_eq, h6, sumA_eq0, sumA_eq1, z0, z1]
        all_goals repeat refine And.intro rfl ?_
        refine loopW_weak (fs' := [(2, .t (.int .i64 (n : Nat))), (3, .t (.sl [bsT d0, bsT d1])), (4, .ref 4096 0 0), (8, .ref 4112 0 0), (11, .t (.int .i64 0))]) (hs' := [(4112, .live 2 [.agg [.nil, .t (.int .i64 0)]] true true), (4096, .live 2 [.t (regT [b0, b1] u)] true true)]) (Weak.rd id ?_ ?_ rfl) ?_
        · simp (config := { maxSteps := 2000000 }) (disch := (first | omega | (simp only [lens, lenm]; omega))) only [go_sem, ↓reduceIte, Nat.reduceAdd, Nat.reduceEqDiff, Nat.reduceSub, Nat.reduceMul, Nat.reduceLT, Nat.reduceLeDiff, Nat.reduceBEq, Int.reduceEq, Int.reduceLT, Int.reduceLE, Int.reduceToNat, Int.reduceNeg, Int.reduceAdd, Int.reduceSub, Int.reduceMul, Int.reduceMod, Int.reduceDiv, reduceCtorEq, Nat.reducePow, Int.reducePow, id]
        · simp (config := { maxSteps := 2000000 }) (disch := (first | omega | (simp only [lens, lenm]; omega))) only [go_sem, ↓reduceIte, Nat.reduceAdd, Nat.reduceEqDiff, Nat.reduceSub, Nat.reduceMul, Nat.reduceLT, Nat.reduceLeDiff, Nat.reduceBEq, Int.reduceEq, Int.reduceLT, Int.reduceLE, Int.reduceToNat, Int.reduceNeg, Int.reduceAdd, Int.reduceSub, Int.reduceMul, Int.reduceMod, Int.reduceDiv, reduceCtorEq, Nat.reducePow, Int.reducePow, id]
        have hE : extE 0 0 loc n 2 d0.length d1.length = 0 := by unfold extE; rw [if_neg (by omega), if_neg (by omega), if_neg (by omega), if_neg (by omega)]
        refine loop_fuel 3 ?_
        simp (config := { maxSteps := 2000000 }) (disch := (first | omega | (simp only [lens, lenm]; omega))) only [go_sem, ↓reduceIte, Nat.reduceAdd, Nat.reduceEqDiff, Nat.reduceSub, Nat.reduceMul, Nat.reduceLT, Nat.reduceLeDiff, Nat.reduceBEq, Int.reduceEq, Int.reduceLT, Int.reduceLE, Int.reduceToNat, Int.reduceNeg, Int.reduceAdd, Int.reduceSub, Int.reduceMul, Int.reduceMod, Int.reduceDiv, reduceCtorEq, Nat.reducePow, Int.reducePow, loopN_succ, ac_ref8_Extend_L1, h3, actv_eq0 hk.1, actv_eq1 hk.1, h4, size_eq0, size_eq1, h5, twin_eq2 hk, h7, copy_eq, h6, sumA_eq0, sumA_eq1, z0, z1]
        all_goals repeat refine And.intro rfl ?_
        refine loop_upto 2 (fun k => match k with | 0 => [(2, .t (.int .i64 (n : Nat))), (3, .t (.sl [bsT d0, bsT d1])), (4, .ref 4096 0 0), (8, .ref 4112 0 0), (12, .ref 65568 0 0), (13, .t (.int .i64 0))] | 1 => [(2, .t (.int .i64 (n : Nat))), (3, .t (.sl [bsT d0, bsT d1])), (4, .ref 4096 0 0), (8, .ref 4112 0 0), (12, .ref 65568 0 0), (13, .t (.int .i64 1))] | _ => [(2, .t (.int .i64 (n : Nat))), (3, .t (.sl [bsT d0, bsT d1])), (4, .ref 4096 0 0), (8, .ref 4112 0 0), (12, .ref 65568 0 0), (13, .t (.int .i64 2))]) (fun k => match k with | 0 => [(65568, .live 2 [.agg [.sl 65552 0 2, .t (.int .i64 u)]] true true), (65554, .live 1 (((b1).map bsT).map V.t) true false), (65553, .live 1 (((b0).map bsT).map V.t) true false), (65552, .live 1 [.sl 65553 0 0, .sl 65554 0 0] true false), (4112, .live 2 [.agg [.nil, .t (.int .i64 0)]] true true), (4096, .live 2 [.t (regT [b0, b1] u)] true true)] | 1 => [(65568, .live 2 [.agg [.sl 65552 0 2, .t (.int .i64 u)]] true true), (65554, .live 1 (((b1).map bsT).map V.t) true false), (65553, .live 1 (((ext1 0 b0 n d0).map bsT).map V.t) true false), (65552, .live 1 [.sl 65553 0 0, .sl 65554 0 0] true false), (4112, .live 2 [.agg [.nil, .t (.int .i64 0)]] true true), (4096, .live 2 [.t (regT [b0, b1] u)] true true)] | _ => [(65568, .live 2 [.agg [.sl 65552 0 2, .t (.int .i64 u)]] true true), (65554, .live 1 (((ext1 1 b1 n d1).map bsT).map V.t) true false), (65553, .live 1 (((ext1 0 b0 n d0).map bsT).map V.t) true false), (65552, .live 1 [.sl 65553 0 0, .sl 65554 0 0] true false), (4112, .live 2 [.agg [.nil, .t (.int .i64 0)]] true true), (4096, .live 2 [.t (regT [b0, b1] u)] true true)]) ?_ (fun k hk2 => ?_)
        · refine Weak.rd id ?_ ?_ rfl
          all_goals simp (config := { maxSteps := 2000000 }) (disch := (first | omega | (simp only [lens, lenm]; omega))) only [go_sem, ↓reduceIte, Nat.reduceAdd, Nat.reduceEqDiff, Nat.reduceSub, Nat.reduceMul, Nat.reduceLT, Nat.reduceLeDiff, Nat.reduceBEq, Int.reduceEq, Int.reduceLT, Int.reduceLE, Int.reduceToNat, Int.reduceNeg, Int.reduceAdd, Int.reduceSub, Int.reduceMul, Int.reduceMod, Int.reduceDiv, reduceCtorEq, Nat.reducePow, Int.reducePow, id, z0, z1]
        · rcases (show k = 0 ∨ k = 1 ∨ k = 2 by omega) with rfl | rfl | rfl
          · have q := List.take_of_length_le (show (b0.getD n [] ++ d0).length ≤ (List.getD b0 n []).length + d0.length by rw [List.length_append]; exact Nat.le_refl _)
            simp (config := { maxSteps := 2000000 }) (disch := (first | omega | (simp only [lens, lenm]; omega))) only [go_sem, ↓reduceIte, Nat.reduceAdd, Nat.reduceEqDiff, Nat.reduceSub, Nat.reduceMul, Nat.reduceLT, Nat.reduceLeDiff, Nat.reduceBEq, Int.reduceEq, Int.reduceLT, Int.reduceLE, Int.reduceToNat, Int.reduceNeg, Int.reduceAdd, Int.reduceSub, Int.reduceMul, Int.reduceMod, Int.reduceDiv, reduceCtorEq, Nat.reducePow, Int.reducePow, ac_ref8_Extend_L2, h3, actv_eq0 hk.1, actv_eq1 hk.1, h4, size_eq0, size_eq1, h5, twin_eq2 hk, h7, copy_eq, h6, sumA_eq0, sumA_eq1, z0, z1, ext1_length, q]
            refine Weak.rd id ?_ ?_ rfl
            all_goals simp (config := { maxSteps := 2000000 }) (disch := (first | omega | (simp only [lens, lenm]; omega))) only [go_sem, ↓reduceIte, Nat.reduceAdd, Nat.reduceEqDiff, Nat.reduceSub, Nat.reduceMul, Nat.reduceLT, Nat.reduceLeDiff, Nat.reduceBEq, Int.reduceEq, Int.reduceLT, Int.reduceLE, Int.reduceToNat, Int.reduceNeg, Int.reduceAdd, Int.reduceSub, Int.reduceMul, Int.reduceMod, Int.reduceDiv, reduceCtorEq, Nat.reducePow, Int.reducePow, id, ext1, z0, z1]
          · have q := List.take_of_length_le (show (b1.getD n [] ++ d1).length ≤ (List.getD b1 n []).length + d1.length by rw [List.length_append]; exact Nat.le_refl _)
            simp (config := { maxSteps := 2000000 }) (disch := (first | omega | (simp only [lens, lenm]; omega))) only [go_sem, ↓reduceIte, Nat.reduceAdd, Nat.reduceEqDiff, Nat.reduceSub, Nat.reduceMul, Nat.reduceLT, Nat.reduceLeDiff, Nat.reduceBEq, Int.reduceEq, Int.reduceLT, Int.reduceLE, Int.reduceToNat, Int.reduceNeg, Int.reduceAdd, Int.reduceSub, Int.reduceMul, Int.reduceMod, Int.reduceDiv, reduceCtorEq, Nat.reducePow, Int.reducePow, ac_ref8_Extend_L2, h3, actv_eq0 hk.1, actv_eq1 hk.1, h4, size_eq0, size_eq1, h5, twin_eq2 hk, h7, copy_eq, h6, sumA_eq0, sumA_eq1, z0, z1, ext1_length, q]
            refine Weak.rd id ?_ ?_ rfl
            all_goals simp (config := { maxSteps := 2000000 }) (disch := (first | omega | (simp only [lens, lenm]; omega))) only [go_sem, ↓reduceIte, Nat.reduceAdd, Nat.reduceEqDiff, Nat.reduceSub, Nat.reduceMul, Nat.reduceLT, Nat.reduceLeDiff, Nat.reduceBEq, Int.reduceEq, Int.reduceLT, Int.reduceLE, Int.reduceToNat, Int.reduceNeg, Int.reduceAdd, Int.reduceSub, Int.reduceMul, Int.reduceMod, Int.reduceDiv, reduceCtorEq, Nat.reducePow, Int.reducePow, id, ext1, z0, z1]
          · have t0 : List.take 0 (ext1 0 b0 n d0) = ext1 0 b0 n d0 := List.take_of_length_le (by rw [ext1_length, z0]; exact Nat.le_refl _)
            have t1 : List.take 0 (ext1 1 b1 n d1) = ext1 1 b1 n d1 := List.take_of_length_le (by rw [ext1_length, z1]; exact Nat.le_refl _)
            have y0 : ext1 0 b0 n d0 = [] := List.eq_nil_of_length_eq_zero (by rw [ext1_length, z0])
            have y1 : ext1 1 b1 n d1 = [] := List.eq_nil_of_length_eq_zero (by rw [ext1_length, z1])
            simp (config := { maxSteps := 2000000 }) (disch := (first | omega | (simp only [lens, lenm]; omega))) only [go_sem, ↓reduceIte, Nat.reduceAdd, Nat.reduceEqDiff, Nat.reduceSub, Nat.reduceMul, Nat.reduceLT, Nat.reduceLeDiff, Nat.reduceBEq, Int.reduceEq, Int.reduceLT, Int.reduceLE, Int.reduceToNat, Int.reduceNeg, Int.reduceAdd, Int.reduceSub, Int.reduceMul, Int.reduceMod, Int.reduceDiv, reduceCtorEq, Nat.reducePow, Int.reducePow, ac_ref8_Extend_L2, ext1_length, t0, t1, z0, z1, hE, extBk, Int.toNat_natCast, List.map_cons, List.map_nil, y0, y1, extR, extEr, List.getD_cons_zero, List.getD_cons_succ, List.length_cons, List.length_nil]
  · have zz : True := trivial
    by_cases p1 : 0 < d0.length
    · have zz : True := trivial
      have hE : extE 0 16 loc n 2 d0.length d1.length = 27 := by unfold extE; rw [if_neg (by omega), if_neg (by omega), if_pos (by omega)]
      refine loop_fuel 3 ?_
      simp (config := { maxSteps := 2000000 }) (disch := (first | omega | (simp only [lens, lenm]; omega))) only [go_sem, ↓reduceIte, Nat.reduceAdd, Nat.reduceEqDiff, Nat.reduceSub, Nat.reduceMul, Nat.reduceLT, Nat.reduceLeDiff, Nat.reduceBEq, Int.reduceEq, Int.reduceLT, Int.reduceLE, Int.reduceToNat, Int.reduceNeg, Int.reduceAdd, Int.reduceSub, Int.reduceMul, Int.reduceMod, Int.reduceDiv, reduceCtorEq, Nat.reducePow, Int.reducePow, loopN_succ, ac_ref8_Extend_L0, h3, actv_eq0 hk.1, actv_eq1 hk.1, h4, size_eq0, size_eq1, h5, twin_eq2 hk, h7, copy_eq, h6, sumA_eq0, sumA_eq1, z0, z1, hE, List.map_nil, extR, extEr, List.getD_cons_zero, List.getD_cons_succ, List.length_cons, List.length_nil]
      all_goals repeat refine And.intro rfl ?_
      all_goals rfl
    · have zz : True := trivial
      refine loop_fuel 3 ?_
      simp (config := { maxSteps := 2000000 }) (disch := (first | omega | (simp only [lens, lenm]; omega))) only [go_sem, ↓reduceIte, Nat.reduceAdd, Nat.reduceEqDiff, Nat.reduceSub, Nat.reduceMul, Nat.reduceLT, Nat.reduceLeDiff, Nat.reduceBEq, Int.reduceEq, Int.reduceLT, Int.reduceLE, Int.reduceToNat, Int.reduceNeg, Int.reduceAdd, Int.reduceSub, Int.reduceMul, Int.reduceMod, Int.reduceDiv, reduceCtorEq, Nat.reducePow, Int.reducePow, loopN_succ, ac_ref8_Extend_L0, h3, actv_eq0 hk.1, actv_eq1 hk.1, h4, size_eq0, size_eq1, h5, twin_eq2 hk, h7, copy_eq, h6, sumA_eq0, sumA_eq1, z0, z1]
      all_goals repeat refine And.intro rfl ?_
      refine loopW_weak (fs' := [(2, .t (.int .i64 (n : Nat))), (3, .t (.sl [bsT d0, bsT d1])), (4, .ref 4096 0 0), (8, .ref 4112 0 0), (11, .t (.int .i64 0))]) (hs' := [(4112, .live 2 [.agg [.nil, .t (.int .i64 0)]] true true), (4096, .live 2 [.t (regT [b0, b1] u)] true true)]) (Weak.rd id ?_ ?_ rfl) ?_
      · simp (config := { maxSteps := 2000000 }) (disch := (first | omega | (simp only [lens, lenm]; omega))) only [go_sem, ↓reduceIte, Nat.reduceAdd, Nat.reduceEqDiff, Nat.reduceSub, Nat.reduceMul, Nat.reduceLT, Nat.reduceLeDiff, Nat.reduceBEq, Int.reduceEq, Int.reduceLT, Int.reduceLE, Int.reduceToNat, Int.reduceNeg, Int.reduceAdd, Int.reduceSub, Int.reduceMul, Int.reduceMod, Int.reduceDiv, reduceCtorEq, Nat.reducePow, Int.reducePow, id]
      · simp (config := { maxSteps := 2000000 }) (disch := (first | omega | (simp only [lens, lenm]; omega))) only [go_sem, ↓reduceIte, Nat.reduceAdd, Nat.reduceEqDiff, Nat.reduceSub, Nat.reduceMul, Nat.reduceLT, Nat.reduceLeDiff, Nat.reduceBEq, Int.reduceEq, Int.reduceLT, Int.reduceLE, Int.reduceToNat, Int.reduceNeg, Int.reduceAdd, Int.reduceSub, Int.reduceMul, Int.reduceMod, Int.reduceDiv, reduceCtorEq, Nat.reducePow, Int.reducePow, id]
      by_cases q1 : d1.length ≠ 32
      · have zz : True := trivial
        have hE : extE 0 16 loc n 2 d0.length d1.length = 24 := by unfold extE; rw [if_neg (by omega), if_neg (by omega), if_neg (by omega), if_pos (by omega)]
        refine loop_fuel 3 ?_
        simp (config := { maxSteps := 2000000 }) (disch := (first | omega | (simp only [lens, lenm]; omega))) only [go_sem, ↓reduceIte, Nat.reduceAdd, Nat.reduceEqDiff, Nat.reduceSub, Nat.reduceMul, Nat.reduceLT, Nat.reduceLeDiff, Nat.reduceBEq, Int.reduceEq, Int.reduceLT, Int.reduceLE, Int.reduceToNat, Int.reduceNeg, Int.reduceAdd, Int.reduceSub, Int.reduceMul, Int.reduceMod, Int.reduceDiv, reduceCtorEq, Nat.reducePow, Int.reducePow, loopN_succ, ac_ref8_Extend_L1, h3, actv_eq0 hk.1, actv_eq1 hk.1, h4, size_eq0, size_eq1, h5, twin_eq2 hk, h7, copy_eq, h6, sumA_eq0, sumA_eq1, z0, z1, hE, List.map_nil, extR, extEr, List.getD_cons_zero, List.getD_cons_succ, List.length_cons, List.length_nil]
        all_goals repeat refine And.intro rfl ?_
        all_goals rfl
      · have zz : True := trivial
        have hE : extE 0 16 loc n 2 d0.length d1.length = 0 := by unfold extE; rw [if_neg (by omega), if_neg (by omega), if_neg (by omega), if_neg (by omega)]
        refine loop_fuel 3 ?_
        simp (config := { maxSteps := 2000000 }) (disch := (first | omega | (simp only [lens, lenm]; omega))) only [go_sem, ↓reduceIte, Nat.reduceAdd, Nat.reduceEqDiff, Nat.reduceSub, Nat.reduceMul, Nat.reduceLT, Nat.reduceLeDiff, Nat.reduceBEq, Int.reduceEq, Int.reduceLT, Int.reduceLE, Int.reduceToNat, Int.reduceNeg, Int.reduceAdd, Int.reduceSub, Int.reduceMul, Int.reduceMod, Int.reduceDiv, reduceCtorEq, Nat.reducePow, Int.reducePow, loopN_succ, ac_ref8_Extend_L1, h3, actv_eq0 hk.1, actv_eq1 hk.1, h4, size_eq0, size_eq1, h5, twin_eq2 hk, h7, copy_eq, h6, sumA_eq0, sumA_eq1, z0, z1]
        all_goals repeat refine And.intro rfl ?_
        refine loop_upto 2 (fun k => match k with | 0 => [(2, .t (.int .i64 (n : Nat))), (3, .t (.sl [bsT d0, bsT d1])), (4, .ref 4096 0 0), (8, .ref 4112 0 0), (12, .ref 65568 0 0), (13, .t (.int .i64 0))] | 1 => [(2, .t (.int .i64 (n : Nat))), (3, .t (.sl [bsT d0, bsT d1])), (4, .ref 4096 0 0), (8, .ref 4112 0 0), (12, .ref 65568 0 0), (13, .t (.int .i64 1))] | _ => [(2, .t (.int .i64 (n : Nat))), (3, .t (.sl [bsT d0, bsT d1])), (4, .ref 4096 0 0), (8, .ref 4112 0 0), (12, .ref 65568 0 0), (13, .t (.int .i64 2))]) (fun k => match k with | 0 => [(65568, .live 2 [.agg [.sl 65552 0 2, .t (.int .i64 u)]] true true), (65554, .live 1 (((b1).map bsT).map V.t) true false), (65553, .live 1 (((b0).map bsT).map V.t) true false), (65552, .live 1 [.sl 65553 0 0, .sl 65554 0 16] true false), (4112, .live 2 [.agg [.nil, .t (.int .i64 0)]] true true), (4096, .live 2 [.t (regT [b0, b1] u)] true true)] | 1 => [(65568, .live 2 [.agg [.sl 65552 0 2, .t (.int .i64 u)]] true true), (65554, .live 1 (((b1).map bsT).map V.t) true false), (65553, .live 1 (((ext1 0 b0 n d0).map bsT).map V.t) true false), (65552, .live 1 [.sl 65553 0 0, .sl 65554 0 16] true false), (4112, .live 2 [.agg [.nil, .t (.int .i64 0)]] true true), (4096, .live 2 [.t (regT [b0, b1] u)] true true)] | _ => [(65568, .live 2 [.agg [.sl 65552 0 2, .t (.int .i64 u)]] true true), (65554, .live 1 (((ext1 1 b1 n d1).map bsT).map V.t) true false), (65553, .live 1 (((ext1 0 b0 n d0).map bsT).map V.t) true false), (65552, .live 1 [.sl 65553 0 0, .sl 65554 0 16] true false), (4112, .live 2 [.agg [.nil, .t (.int .i64 0)]] true true), (4096, .live 2 [.t (regT [b0, b1] u)] true true)]) ?_ (fun k hk2 => ?_)
        · refine Weak.rd id ?_ ?_ rfl
          all_goals simp (config := { maxSteps := 2000000 }) (disch := (first | omega | (simp only [lens, lenm]; omega))) only [go_sem, ↓reduceIte, Nat.reduceAdd, Nat.reduceEqDiff, Nat.reduceSub, Nat.reduceMul, Nat.reduceLT, Nat.reduceLeDiff, Nat.reduceBEq, Int.reduceEq, Int.reduceLT, Int.reduceLE, Int.reduceToNat, Int.reduceNeg, Int.reduceAdd, Int.reduceSub, Int.reduceMul, Int.reduceMod, Int.reduceDiv, reduceCtorEq, Nat.reducePow, Int.reducePow, id, z0, z1]
        · rcases (show k = 0 ∨ k = 1 ∨ k = 2 by omega) with rfl | rfl | rfl
          · have q := List.take_of_length_le (show (b0.getD n [] ++ d0).length ≤ (List.getD b0 n []).length + d0.length by rw [List.length_append]; exact Nat.le_refl _)
            simp (config := { maxSteps := 2000000 }) (disch := (first | omega | (simp only [lens, lenm]; omega))) only [go_sem, ↓reduceIte, Nat.reduceAdd, Nat.reduceEqDiff, Nat.reduceSub, Nat.reduceMul, Nat.reduceLT, Nat.reduceLeDiff, Nat.reduceBEq, Int.reduceEq, Int.reduceLT, Int.reduceLE, Int.reduceToNat, Int.reduceNeg, Int.reduceAdd, Int.reduceSub, Int.reduceMul, Int.reduceMod, Int.reduceDiv, reduceCtorEq, Nat.reducePow, Int.reducePow, ac_ref8_Extend_L2, h3, actv_eq0 hk.1, actv_eq1 hk.1, h4, size_eq0, size_eq1, h5, twin_eq2 hk, h7, copy_eq, h6, sumA_eq0, sumA_eq1, z0, z1, ext1_length, q]
            refine Weak.rd id ?_ ?_ rfl
            all_goals simp (config := { maxSteps := 2000000 }) (disch := (first | omega | (simp only [lens, lenm]; omega))) only [go_sem, ↓reduceIte, Nat.reduceAdd, Nat.reduceEqDiff, Nat.reduceSub, Nat.reduceMul, Nat.reduceLT, Nat.reduceLeDiff, Nat.reduceBEq, Int.reduceEq, Int.reduceLT, Int.reduceLE, Int.reduceToNat, Int.reduceNeg, Int.reduceAdd, Int.reduceSub, Int.reduceMul, Int.reduceMod, Int.reduceDiv, reduceCtorEq, Nat.reducePow, Int.reducePow, id, ext1, z0, z1]
          · have q := List.take_of_length_le (show (b1.getD n [] ++ d1).length ≤ (List.getD b1 n []).length + d1.length by rw [List.length_append]; exact Nat.le_refl _)
            simp (config := { maxSteps := 2000000 }) (disch := (first | omega | (simp only [lens, lenm]; omega))) only [go_sem, ↓reduceIte, Nat.reduceAdd, Nat.reduceEqDiff, Nat.reduceSub, Nat.reduceMul, Nat.reduceLT, Nat.reduceLeDiff, Nat.reduceBEq, Int.reduceEq, Int.reduceLT, Int.reduceLE, Int.reduceToNat, Int.reduceNeg, Int.reduceAdd, Int.reduceSub, Int.reduceMul, Int.reduceMod, Int.reduceDiv, reduceCtorEq, Nat.reducePow, Int.reducePow, ac_ref8_Extend_L2, h3, actv_eq0 hk.1, actv_eq1 hk.1, h4, size_eq0, size_eq1, h5, twin_eq2 hk, h7, copy_eq, h6, sumA_eq0, sumA_eq1, z0, z1, ext1_length, q]
            repeat refine And.intro rfl ?_
            refine Weak.cv (hv := []) [86352] id ?_ rfl
            simp (config := { maxSteps := 2000000 }) (disch := (first | omega | (simp only [lens, lenm]; omega))) only [go_sem, ↓reduceIte, Nat.reduceAdd, Nat.reduceEqDiff, Nat.reduceSub, Nat.reduceMul, Nat.reduceLT, Nat.reduceLeDiff, Nat.reduceBEq, Int.reduceEq, Int.reduceLT, Int.reduceLE, Int.reduceToNat, Int.reduceNeg, Int.reduceAdd, Int.reduceSub, Int.reduceMul, Int.reduceMod, Int.reduceDiv, reduceCtorEq, Nat.reducePow, Int.reducePow, id, ext1, z0, z1, take_sum1, take_sum256, sumA0, sumA1, sum1_length, sum256_length]
            all_goals rfl
          · have t0 : List.take 0 (ext1 0 b0 n d0) = ext1 0 b0 n d0 := List.take_of_length_le (by rw [ext1_length, z0]; exact Nat.le_refl _)
            have t1 : List.take 16 (ext1 1 b1 n d1) = ext1 1 b1 n d1 := List.take_of_length_le (by rw [ext1_length, z1]; exact Nat.le_refl _)
            have y0 : ext1 0 b0 n d0 = [] := List.eq_nil_of_length_eq_zero (by rw [ext1_length, z0])
            simp (config := { maxSteps := 2000000 }) (disch := (first | omega | (simp only [lens, lenm]; omega))) only [go_sem, ↓reduceIte, Nat.reduceAdd, Nat.reduceEqDiff, Nat.reduceSub, Nat.reduceMul, Nat.reduceLT, Nat.reduceLeDiff, Nat.reduceBEq, Int.reduceEq, Int.reduceLT, Int.reduceLE, Int.reduceToNat, Int.reduceNeg, Int.reduceAdd, Int.reduceSub, Int.reduceMul, Int.reduceMod, Int.reduceDiv, reduceCtorEq, Nat.reducePow, Int.reducePow, ac_ref8_Extend_L2, ext1_length, t0, t1, z0, z1, hE, extBk, Int.toNat_natCast, List.map_cons, List.map_nil, y0, extR, extEr, List.getD_cons_zero, List.getD_cons_succ, List.length_cons, List.length_nil]
  · have zz : True := trivial
    by_cases p1 : 0 < d1.length
    · have zz : True := trivial
      have hE : extE 16 0 loc n 2 d0.length d1.length = 27 := by unfold extE; rw [if_neg (by omega), if_neg (by omega), if_pos (by omega)]
      refine loop_fuel 3 ?_
      simp (config := { maxSteps := 2000000 }) (disch := (first | omega | (simp only [lens, lenm]; omega))) only [go_sem, ↓reduceIte, Nat.reduceAdd, Nat.reduceEqDiff, Nat.reduceSub, Nat.reduceMul, Nat.reduceLT, Nat.reduceLeDiff, Nat.reduceBEq, Int.reduceEq, Int.reduceLT, Int.reduceLE, Int.reduceToNat, Int.reduceNeg, Int.reduceAdd, Int.reduceSub, Int.reduceMul, Int.reduceMod, Int.reduceDiv, reduceCtorEq, Nat.reducePow, Int.reducePow, loopN_succ, ac_ref8_Extend_L0, h3, actv_eq0 hk.1, actv_eq1 hk.1, h4, size_eq0, size_eq1, h5, twin_eq2 hk, h7, copy_eq, h6, sumA_eq0, sumA_eq1, z0, z1, hE, List.map_nil, extR, extEr, List.getD_cons_zero, List.getD_cons_succ, List.length_cons, List.length_nil]
      all_goals repeat refine And.intro rfl ?_
      all_goals rfl
    · have zz : True := trivial
      refine loop_fuel 3 ?_
      simp (config := { maxSteps := 2000000 }) (disch := (first | omega | (simp only [lens, lenm]; omega))) only [go_sem, ↓reduceIte, Nat.reduceAdd, Nat.reduceEqDiff, Nat.reduceSub, Nat.reduceMul, Nat.reduceLT, Nat.reduceLeDiff, Nat.reduceBEq, Int.reduceEq, Int.reduceLT, Int.reduceLE, Int.reduceToNat, Int.reduceNeg, Int.reduceAdd, Int.reduceSub, Int.reduceMul, Int.reduceMod, Int.reduceDiv, reduceCtorEq, Nat.reducePow, Int.reducePow, loopN_succ, ac_ref8_Extend_L0, h3, actv_eq0 hk.1, actv_eq1 hk.1, h4, size_eq0, size_eq1, h5, twin_eq2 hk, h7, copy_eq, h6, sumA_eq0, sumA_eq1, z0, z1]
      all_goals repeat refine And.intro rfl ?_
      refine loopW_weak (fs' := [(2, .t (.int .i64 (n : Nat))), (3, .t (.sl [bsT d0, bsT d1])), (4, .ref 4096 0 0), (8, .ref 4112 0 0), (11, .t (.int .i64 0))]) (hs' := [(4112, .live 2 [.agg [.nil, .t (.int .i64 0)]] true true), (4096, .live 2 [.t (regT [b0, b1] u)] true true)]) (Weak.rd id ?_ ?_ rfl) ?_
      · simp (config := { maxSteps := 2000000 }) (disch := (first | omega | (simp only [lens, lenm]; omega))) only [go_sem, ↓reduceIte, Nat.reduceAdd, Nat.reduceEqDiff, Nat.reduceSub, Nat.reduceMul, Nat.reduceLT, Nat.reduceLeDiff, Nat.reduceBEq, Int.reduceEq, Int.reduceLT, Int.reduceLE, Int.reduceToNat, Int.reduceNeg, Int.reduceAdd, Int.reduceSub, Int.reduceMul, Int.reduceMod, Int.reduceDiv, reduceCtorEq, Nat.reducePow, Int.reducePow, id]
      · simp (config := { maxSteps := 2000000 }) (disch := (first | omega | (simp only [lens, lenm]; omega))) only [go_sem, ↓reduceIte, Nat.reduceAdd, Nat.reduceEqDiff, Nat.reduceSub, Nat.reduceMul, Nat.reduceLT, Nat.reduceLeDiff, Nat.reduceBEq, Int.reduceEq, Int.reduceLT, Int.reduceLE, Int.reduceToNat, Int.reduceNeg, Int.reduceAdd, Int.reduceSub, Int.reduceMul, Int.reduceMod, Int.reduceDiv, reduceCtorEq, Nat.reducePow, Int.reducePow, id]
      by_cases q1 : d0.length ≠ 20
      · have zz : True := trivial
        have hE : extE 16 0 loc n 2 d0.length d1.length = 24 := by unfold extE; rw [if_neg (by omega), if_neg (by omega), if_neg (by omega), if_pos (by omega)]
        refine loop_fuel 3 ?_
        simp (config := { maxSteps := 2000000 }) (disch := (first | omega | (simp only [lens, lenm]; omega))) only [go_sem, ↓reduceIte, Nat.reduceAdd, Nat.reduceEqDiff, Nat.reduceSub, Nat.reduceMul, Nat.reduceLT, Nat.reduceLeDiff, Nat.reduceBEq, Int.reduceEq, Int.reduceLT, Int.reduceLE, Int.reduceToNat, Int.reduceNeg, Int.reduceAdd, Int.reduceSub, Int.reduceMul, Int.reduceMod, Int.reduceDiv, reduceCtorEq, Nat.reducePow, Int.reducePow, loopN_succ, ac_ref8_Extend_L1, h3, actv_eq0 hk.1, actv_eq1 hk.1, h4, size_eq0, size_eq1, h5, twin_eq2 hk, h7, copy_eq, h6, sumA_eq0, sumA_eq1, z0, z1, hE, List.map_nil, extR, extEr, List.getD_cons_zero, List.getD_cons_succ, List.length_cons, List.length_nil]
        all_goals repeat refine And.intro rfl ?_
        all_goals rfl
      · have zz : True := trivial
        have hE : extE 16 0 loc n 2 d0.length d1.length = 0 := by unfold extE; rw [if_neg (by omega), if_neg (by omega), if_neg (by omega), if_neg (by omega)]
        refine loop_fuel 3 ?_
        simp (config := { maxSteps := 2000000 }) (disch := (first | omega | (simp only [lens, lenm]; omega))) only [go_sem, ↓reduceIte, Nat.reduceAdd, Nat.reduceEqDiff, Nat.reduceSub, Nat.reduceMul, Nat.reduceLT, Nat.reduceLeDiff, Nat.reduceBEq, Int.reduceEq, Int.reduceLT, Int.reduceLE, Int.reduceToNat, Int.reduceNeg, Int.reduceAdd, Int.reduceSub, Int.reduceMul, Int.reduceMod, Int.reduceDiv, reduceCtorEq, Nat.reducePow, Int.reducePow, loopN_succ, ac_ref8_Extend_L1, h3, actv_eq0 hk.1, actv_eq1 hk.1, h4, size_eq0, size_eq1, h5, twin_eq2 hk, h7, copy_eq, h6, sumA_eq0, sumA_eq1, z0, z1]
        all_goals repeat refine And.intro rfl ?_
        refine loop_upto 2 (fun k => match k with | 0 => [(2, .t (.int .i64 (n : Nat))), (3, .t (.sl [bsT d0, bsT d1])), (4, .ref 4096 0 0), (8, .ref 4112 0 0), (12, .ref 65568 0 0), (13, .t (.int .i64 0))] | 1 => [(2, .t (.int .i64 (n : Nat))), (3, .t (.sl [bsT d0, bsT d1])), (4, .ref 4096 0 0), (8, .ref 4112 0 0), (12, .ref 65568 0 0), (13, .t (.int .i64 1))] | _ => [(2, .t (.int .i64 (n : Nat))), (3, .t (.sl [bsT d0, bsT d1])), (4, .ref 4096 0 0), (8, .ref 4112 0 0), (12, .ref 65568 0 0), (13, .t (.int .i64 2))]) (fun k => match k with | 0 => [(65568, .live 2 [.agg [.sl 65552 0 2, .t (.int .i64 u)]] true true), (65554, .live 1 (((b1).map bsT).map V.t) true false), (65553, .live 1 (((b0).map bsT).map V.t) true false), (65552, .live 1 [.sl 65553 0 16, .sl 65554 0 0] true false), (4112, .live 2 [.agg [.nil, .t (.int .i64 0)]] true true), (4096, .live 2 [.t (regT [b0, b1] u)] true true)] | 1 => [(65568, .live 2 [.agg [.sl 65552 0 2, .t (.int .i64 u)]] true true), (65554, .live 1 (((b1).map bsT).map V.t) true false), (65553, .live 1 (((ext1 0 b0 n d0).map bsT).map V.t) true false), (65552, .live 1 [.sl 65553 0 16, .sl 65554 0 0] true false), (4112, .live 2 [.agg [.nil, .t (.int .i64 0)]] true true), (4096, .live 2 [.t (regT [b0, b1] u)] true true)] | _ => [(65568, .live 2 [.agg [.sl 65552 0 2, .t (.int .i64 u)]] true true), (65554, .live 1 (((ext1 1 b1 n d1).map bsT).map V.t) true false), (65553, .live 1 (((ext1 0 b0 n d0).map bsT).map V.t) true false), (65552, .live 1 [.sl 65553 0 16, .sl 65554 0 0] true false), (4112, .live 2 [.agg [.nil, .t (.int .i64 0)]] true true), (4096, .live 2 [.t (regT [b0, b1] u)] true true)]) ?_ (fun k hk2 => ?_)
        · refine Weak.rd id ?_ ?_ rfl
          all_goals simp (config := { maxSteps := 2000000 }) (disch := (first | omega | (simp only [lens, lenm]; omega))) only [go_sem, ↓reduceIte, Nat.reduceAdd, Nat.reduceEqDiff, Nat.reduceSub, Nat.reduceMul, Nat.reduceLT, Nat.reduceLeDiff, Nat.reduceBEq, Int.reduceEq, Int.reduceLT, Int.reduceLE, Int.reduceToNat, Int.reduceNeg, Int.reduceAdd, Int.reduceSub, Int.reduceMul, Int.reduceMod, Int.reduceDiv, reduceCtorEq, Nat.reducePow, Int.reducePow, id, z0, z1]
        · rcases (show k = 0 ∨ k = 1 ∨ k = 2 by omega) with rfl | rfl | rfl
          · have q := List.take_of_length_le (show (b0.getD n [] ++ d0).length ≤ (List.getD b0 n []).length + d0.length by rw [List.length_append]; exact Nat.le_refl _)
            simp (config := { maxSteps := 2000000 }) (disch := (first | omega | (simp only [lens, lenm]; omega))) only [go_sem, ↓reduceIte, Nat.reduceAdd, Nat.reduceEqDiff, Nat.reduceSub, Nat.reduceMul, Nat.reduceLT, Nat.reduceLeDiff, Nat.reduceBEq, Int.reduceEq, Int.reduceLT, Int.reduceLE, Int.reduceToNat, Int.reduceNeg, Int.reduceAdd, Int.reduceSub, Int.reduceMul, Int.reduceMod, Int.reduceDiv, reduceCtorEq, Nat.reducePow, Int.reducePow, ac_ref8_Extend_L2, h3, actv_eq0 hk.1, actv_eq1 hk.1, h4, size_eq0, size_eq1, h5, twin_eq2 hk, h7, copy_eq, h6, sumA_eq0, sumA_eq1, z0, z1, ext1_length, q]
            repeat refine And.intro rfl ?_
            refine Weak.cv (hv := []) [86352] id ?_ rfl
            simp (config := { maxSteps := 2000000 }) (disch := (first | omega | (simp only [lens, lenm]; omega))) only [go_sem, ↓reduceIte, Nat.reduceAdd, Nat.reduceEqDiff, Nat.reduceSub, Nat.reduceMul, Nat.reduceLT, Nat.reduceLeDiff, Nat.reduceBEq, Int.reduceEq, Int.reduceLT, Int.reduceLE, Int.reduceToNat, Int.reduceNeg, Int.reduceAdd, Int.reduceSub, Int.reduceMul, Int.reduceMod, Int.reduceDiv, reduceCtorEq, Nat.reducePow, Int.reducePow, id, ext1, z0, z1, take_sum1, take_sum256, sumA0, sumA1, sum1_length, sum256_length]
            all_goals rfl
          · have q := List.take_of_length_le (show (b1.getD n [] ++ d1).length ≤ (List.getD b1 n []).length + d1.length by rw [List.length_append]; exact Nat.le_refl _)
            simp (config := { maxSteps := 2000000 }) (disch := (first | omega | (simp only [lens, lenm]; omega))) only [go_sem, ↓reduceIte, Nat.reduceAdd, Nat.reduceEqDiff, Nat.reduceSub, Nat.reduceMul, Nat.reduceLT, Nat.reduceLeDiff, Nat.reduceBEq, Int.reduceEq, Int.reduceLT, Int.reduceLE, Int.reduceToNat, Int.reduceNeg, Int.reduceAdd, Int.reduceSub, Int.reduceMul, Int.reduceMod, Int.reduceDiv, reduceCtorEq, Nat.reducePow, Int.reducePow, ac_ref8_Extend_L2, h3, actv_eq0 hk.1, actv_eq1 hk.1, h4, size_eq0, size_eq1, h5, twin_eq2 hk, h7, copy_eq, h6, sumA_eq0, sumA_eq1, z0, z1, ext1_length, q]
            refine Weak.rd id ?_ ?_ rfl
            all_goals simp (config := { maxSteps := 2000000 }) (disch := (first | omega | (simp only [lens, lenm]; omega))) only [go_sem, ↓reduceIte, Nat.reduceAdd, Nat.reduceEqDiff, Nat.reduceSub, Nat.reduceMul, Nat.reduceLT, Nat.reduceLeDiff, Nat.reduceBEq, Int.reduceEq, Int.reduceLT, Int.reduceLE, Int.reduceToNat, Int.reduceNeg, Int.reduceAdd, Int.reduceSub, Int.reduceMul, Int.reduceMod, Int.reduceDiv, reduceCtorEq, Nat.reducePow, Int.reducePow, id, ext1, z0, z1]
          · have t0 : List.take 16 (ext1 0 b0 n d0) = ext1 0 b0 n d0 := List.take_of_length_le (by rw [ext1_length, z0]; exact Nat.le_refl _)
            have t1 : List.take 0 (ext1 1 b1 n d1) = ext1 1 b1 n d1 := List.take_of_length_le (by rw [ext1_length, z1]; exact Nat.le_refl _)
            have y1 : ext1 1 b1 n d1 = [] := List.eq_nil_of_length_eq_zero (by rw [ext1_length, z1])
            simp (config := { maxSteps := 2000000 }) (disch := (first | omega | (simp only [lens, lenm]; omega))) only [go_sem, ↓reduceIte, Nat.reduceAdd, Nat.reduceEqDiff, Nat.reduceSub, Nat.reduceMul, Nat.reduceLT, Nat.reduceLeDiff, Nat.reduceBEq, Int.reduceEq, Int.reduceLT, Int.reduceLE, Int.reduceToNat, Int.reduceNeg, Int.reduceAdd, Int.reduceSub, Int.reduceMul, Int.reduceMod, Int.reduceDiv, reduceCtorEq, Nat.reducePow, Int.reducePow, ac_ref8_Extend_L2, ext1_length, t0, t1, z0, z1, hE, extBk, Int.toNat_natCast, List.map_cons, List.map_nil, y1, extR, extEr, List.getD_cons_zero, List.getD_cons_succ, List.length_cons, List.length_nil]
  · have zz : True := trivial
    refine loop_fuel 3 ?_
    simp (config := { maxSteps := 2000000 }) (disch := (first | omega | (simp only [lens, lenm]; omega))) only [go_sem, ↓reduceIte, Nat.reduceAdd, Nat.reduceEqDiff, Nat.reduceSub, Nat.reduceMul, Nat.reduceLT, Nat.reduceLeDiff, Nat.reduceBEq, Int.reduceEq, Int.reduceLT, Int.reduceLE, Int.reduceToNat, Int.reduceNeg, Int.reduceAdd, Int.reduceSub, Int.reduceMul, Int.reduceMod, Int.reduceDiv, reduceCtorEq, Nat.reducePow, Int.reducePow, loopN_succ, ac_ref8_Extend_L0, h3, actv_eq0 hk.1, actv_eq1 hk.1, h4, size_eq0, size_eq1, h5, twin_eq2 hk, h7, copy_eq, h6, sumA_eq0, sumA_eq1, z0, z1]
    all_goals repeat refine And.intro rfl ?_
    refine loopW_weak (fs' := [(2, .t (.int .i64 (n : Nat))), (3, .t (.sl [bsT d0, bsT d1])), (4, .ref 4096 0 0), (8, .ref 4112 0 0), (11, .t (.int .i64 0))]) (hs' := [(4112, .live 2 [.agg [.nil, .t (.int .i64 0)]] true true), (4096, .live 2 [.t (regT [b0, b1] u)] true true)]) (Weak.rd id ?_ ?_ rfl) ?_
    · simp (config := { maxSteps := 2000000 }) (disch := (first | omega | (simp only [lens, lenm]; omega))) only [go_sem, ↓reduceIte, Nat.reduceAdd, Nat.reduceEqDiff, Nat.reduceSub, Nat.reduceMul, Nat.reduceLT, Nat.reduceLeDiff, Nat.reduceBEq, Int.reduceEq, Int.reduceLT, Int.reduceLE, Int.reduceToNat, Int.reduceNeg, Int.reduceAdd, Int.reduceSub, Int.reduceMul, Int.reduceMod, Int.reduceDiv, reduceCtorEq, Nat.reducePow, Int.reducePow, id]
    · simp (config := { maxSteps := 2000000 }) (disch := (first | omega | (simp only [lens, lenm]; omega))) only [go_sem, ↓reduceIte, Nat.reduceAdd, Nat.reduceEqDiff, Nat.reduceSub, Nat.reduceMul, Nat.reduceLT, Nat.reduceLeDiff, Nat.reduceBEq, Int.reduceEq, Int.reduceLT, Int.reduceLE, Int.reduceToNat, Int.reduceNeg, Int.reduceAdd, Int.reduceSub, Int.reduceMul, Int.reduceMod, Int.reduceDiv, reduceCtorEq, Nat.reducePow, Int.reducePow, id]
    by_cases q2 : d0.length ≠ 20
    · have zz : True := trivial
      have hE : extE 16 16 loc n 2 d0.length d1.length = 24 := by unfold extE; rw [if_neg (by omega), if_neg (by omega), if_neg (by omega), if_pos (by omega)]
      refine loop_fuel 3 ?_
      simp (config := { maxSteps := 2000000 }) (disch := (first | omega | (simp only [lens, lenm]; omega))) only [go_sem, ↓reduceIte, Nat.reduceAdd, Nat.reduceEqDiff, Nat.reduceSub, Nat.reduceMul, Nat.reduceLT, Nat.reduceLeDiff, Nat.reduceBEq, Int.reduceEq, Int.reduceLT, Int.reduceLE, Int.reduceToNat, Int.reduceNeg, Int.reduceAdd, Int.reduceSub, Int.reduceMul, Int.reduceMod, Int.reduceDiv, reduceCtorEq, Nat.reducePow, Int.reducePow, loopN_succ, ac_ref8_Extend_L1, h3, actv_eq0 hk.1, actv_eq1 hk.1, h4, size_eq0, size_eq1, h5, twin_eq2 hk, h7, copy_eq, h6, sumA_eq0, sumA_eq1, z0, z1, hE, List.map_nil, extR, extEr, List.getD_cons_zero, List.getD_cons_succ, List.length_cons, List.length_nil]
      all_goals repeat refine And.intro rfl ?_
      all_goals rfl
    · have zz : True := trivial
      by_cases q1 : d1.length ≠ 32
      · have zz : True := trivial
        have hE : extE 16 16 loc n 2 d0.length d1.length = 24 := by unfold extE; rw [if_neg (by omega), if_neg (by omega), if_neg (by omega), if_pos (by omega)]
        refine loop_fuel 3 ?_
        simp (config := { maxSteps := 2000000 }) (disch := (first | omega | (simp only [lens, lenm]; omega))) only [go_sem, ↓reduceIte, Nat.reduceAdd, Nat.reduceEqDiff, Nat.reduceSub, Nat.reduceMul, Nat.reduceLT, Nat.reduceLeDiff, Nat.reduceBEq, Int.reduceEq, Int.reduceLT, Int.reduceLE, Int.reduceToNat, Int.reduceNeg, Int.reduceAdd, Int.reduceSub, Int.reduceMul, Int.reduceMod, Int.reduceDiv, reduceCtorEq, Nat.reducePow, Int.reducePow, loopN_succ, ac_ref8_Extend_L1, h3, actv_eq0 hk.1, actv_eq1 hk.1, h4, size_eq0, size_eq1, h5, twin_eq2 hk, h7, copy_eq, h6, sumA_eq0, sumA_eq1, z0, z1, hE, List.map_nil, extR, extEr, List.getD_cons_zero, List.getD_cons_succ, List.length_cons, List.length_nil]
        all_goals repeat refine And.intro rfl ?_
        all_goals rfl
      · have zz : True := trivial
        have hE : extE 16 16 loc n 2 d0.length d1.length = 0 := by unfold extE; rw [if_neg (by omega), if_neg (by omega), if_neg (by omega), if_neg (by omega)]
        refine loop_fuel 3 ?_
        simp (config := { maxSteps := 2000000 }) (disch := (first | omega | (simp only [lens, lenm]; omega))) only [go_sem, ↓reduceIte, Nat.reduceAdd, Nat.reduceEqDiff, Nat.reduceSub, Nat.reduceMul, Nat.reduceLT, Nat.reduceLeDiff, Nat.reduceBEq, Int.reduceEq, Int.reduceLT, Int.reduceLE, Int.reduceToNat, Int.reduceNeg, Int.reduceAdd, Int.reduceSub, Int.reduceMul, Int.reduceMod, Int.reduceDiv, reduceCtorEq, Nat.reducePow, Int.reducePow, loopN_succ, ac_ref8_Extend_L1, h3, actv_eq0 hk.1, actv_eq1 hk.1, h4, size_eq0, size_eq1, h5, twin_eq2 hk, h7, copy_eq, h6, sumA_eq0, sumA_eq1, z0, z1]
        all_goals repeat refine And.intro rfl ?_
        refine loop_upto 2 (fun k => match k with | 0 => [(2, .t (.int .i64 (n : Nat))), (3, .t (.sl [bsT d0, bsT d1])), (4, .ref 4096 0 0), (8, .ref 4112 0 0), (12, .ref 65568 0 0), (13, .t (.int .i64 0))] | 1 => [(2, .t (.int .i64 (n : Nat))), (3, .t (.sl [bsT d0, bsT d1])), (4, .ref 4096 0 0), (8, .ref 4112 0 0), (12, .ref 65568 0 0), (13, .t (.int .i64 1))] | _ => [(2, .t (.int .i64 (n : Nat))), (3, .t (.sl [bsT d0, bsT d1])), (4, .ref 4096 0 0), (8, .ref 4112 0 0), (12, .ref 65568 0 0), (13, .t (.int .i64 2))]) (fun k => match k with | 0 => [(65568, .live 2 [.agg [.sl 65552 0 2, .t (.int .i64 u)]] true true), (65554, .live 1 (((b1).map bsT).map V.t) true false), (65553, .live 1 (((b0).map bsT).map V.t) true false), (65552, .live 1 [.sl 65553 0 16, .sl 65554 0 16] true false), (4112, .live 2 [.agg [.nil, .t (.int .i64 0)]] true true), (4096, .live 2 [.t (regT [b0, b1] u)] true true)] | 1 => [(65568, .live 2 [.agg [.sl 65552 0 2, .t (.int .i64 u)]] true true), (65554, .live 1 (((b1).map bsT).map V.t) true false), (65553, .live 1 (((ext1 0 b0 n d0).map bsT).map V.t) true false), (65552, .live 1 [.sl 65553 0 16, .sl 65554 0 16] true false), (4112, .live 2 [.agg [.nil, .t (.int .i64 0)]] true true), (4096, .live 2 [.t (regT [b0, b1] u)] true true)] | _ => [(65568, .live 2 [.agg [.sl 65552 0 2, .t (.int .i64 u)]] true true), (65554, .live 1 (((ext1 1 b1 n d1).map bsT).map V.t) true false), (65553, .live 1 (((ext1 0 b0 n d0).map bsT).map V.t) true false), (65552, .live 1 [.sl 65553 0 16, .sl 65554 0 16] true false), (4112, .live 2 [.agg [.nil, .t (.int .i64 0)]] true true), (4096, .live 2 [.t (regT [b0, b1] u)] true true)]) ?_ (fun k hk2 => ?_)
        · refine Weak.rd id ?_ ?_ rfl
          all_goals simp (config := { maxSteps := 2000000 }) (disch := (first | omega | (simp only [lens, lenm]; omega))) only [go_sem, ↓reduceIte, Nat.reduceAdd, Nat.reduceEqDiff, Nat.reduceSub, Nat.reduceMul, Nat.reduceLT, Nat.reduceLeDiff, Nat.reduceBEq, Int.reduceEq, Int.reduceLT, Int.reduceLE, Int.reduceToNat, Int.reduceNeg, Int.reduceAdd, Int.reduceSub, Int.reduceMul, Int.reduceMod, Int.reduceDiv, reduceCtorEq, Nat.reducePow, Int.reducePow, id, z0, z1]
        · rcases (show k = 0 ∨ k = 1 ∨ k = 2 by omega) with rfl | rfl | rfl
          · have q := List.take_of_length_le (show (b0.getD n [] ++ d0).length ≤ (List.getD b0 n []).length + d0.length by rw [List.length_append]; exact Nat.le_refl _)
            simp (config := { maxSteps := 2000000 }) (disch := (first | omega | (simp only [lens, lenm]; omega))) only [go_sem, ↓reduceIte, Nat.reduceAdd, Nat.reduceEqDiff, Nat.reduceSub, Nat.reduceMul, Nat.reduceLT, Nat.reduceLeDiff, Nat.reduceBEq, Int.reduceEq, Int.reduceLT, Int.reduceLE, Int.reduceToNat, Int.reduceNeg, Int.reduceAdd, Int.reduceSub, Int.reduceMul, Int.reduceMod, Int.reduceDiv, reduceCtorEq, Nat.reducePow, Int.reducePow, ac_ref8_Extend_L2, h3, actv_eq0 hk.1, actv_eq1 hk.1, h4, size_eq0, size_eq1, h5, twin_eq2 hk, h7, copy_eq, h6, sumA_eq0, sumA_eq1, z0, z1, ext1_length, q]
            repeat refine And.intro rfl ?_
            refine Weak.cv (hv := []) [86352] id ?_ rfl
            simp (config := { maxSteps := 2000000 }) (disch := (first | omega | (simp only [lens, lenm]; omega))) only [go_sem, ↓reduceIte, Nat.reduceAdd, Nat.reduceEqDiff, Nat.reduceSub, Nat.reduceMul, Nat.reduceLT, Nat.reduceLeDiff, Nat.reduceBEq, Int.reduceEq, Int.reduceLT, Int.reduceLE, Int.reduceToNat, Int.reduceNeg, Int.reduceAdd, Int.reduceSub, Int.reduceMul, Int.reduceMod, Int.reduceDiv, reduceCtorEq, Nat.reducePow, Int.reducePow, id, ext1, z0, z1, take_sum1, take_sum256, sumA0, sumA1, sum1_length, sum256_length]
            all_goals rfl
          · have q := List.take_of_length_le (show (b1.getD n [] ++ d1).length ≤ (List.getD b1 n []).length + d1.length by rw [List.length_append]; exact Nat.le_refl _)
            simp (config := { maxSteps := 2000000 }) (disch := (first | omega | (simp only [lens, lenm]; omega))) only [go_sem, ↓reduceIte, Nat.reduceAdd, Nat.reduceEqDiff, Nat.reduceSub, Nat.reduceMul, Nat.reduceLT, Nat.reduceLeDiff, Nat.reduceBEq, Int.reduceEq, Int.reduceLT, Int.reduceLE, Int.reduceToNat, Int.reduceNeg, Int.reduceAdd, Int.reduceSub, Int.reduceMul, Int.reduceMod, Int.reduceDiv, reduceCtorEq, Nat.reducePow, Int.reducePow, ac_ref8_Extend_L2, h3, actv_eq0 hk.1, actv_eq1 hk.1, h4, size_eq0, size_eq1, h5, twin_eq2 hk, h7, copy_eq, h6, sumA_eq0, sumA_eq1, z0, z1, ext1_length, q]
            repeat refine And.intro rfl ?_
            refine Weak.cv (hv := []) [86352] id ?_ rfl
            simp (config := { maxSteps := 2000000 }) (disch := (first | omega | (simp only [lens, lenm]; omega))) only [go_sem, ↓reduceIte, Nat.reduceAdd, Nat.reduceEqDiff, Nat.reduceSub, Nat.reduceMul, Nat.reduceLT, Nat.reduceLeDiff, Nat.reduceBEq, Int.reduceEq, Int.reduceLT, Int.reduceLE, Int.reduceToNat, Int.reduceNeg, Int.reduceAdd, Int.reduceSub, Int.reduceMul, Int.reduceMod, Int.reduceDiv, reduceCtorEq, Nat.reducePow, Int.reducePow, id, ext1, z0, z1, take_sum1, take_sum256, sumA0, sumA1, sum1_length, sum256_length]
            all_goals rfl
          · have t0 : List.take 16 (ext1 0 b0 n d0) = ext1 0 b0 n d0 := List.take_of_length_le (by rw [ext1_length, z0]; exact Nat.le_refl _)
            have t1 : List.take 16 (ext1 1 b1 n d1) = ext1 1 b1 n d1 := List.take_of_length_le (by rw [ext1_length, z1]; exact Nat.le_refl _)
            simp (config := { maxSteps := 2000000 }) (disch := (first | omega | (simp only [lens, lenm]; omega))) only [go_sem, ↓reduceIte, Nat.reduceAdd, Nat.reduceEqDiff, Nat.reduceSub, Nat.reduceMul, Nat.reduceLT, Nat.reduceLeDiff, Nat.reduceBEq, Int.reduceEq, Int.reduceLT, Int.reduceLE, Int.reduceToNat, Int.reduceNeg, Int.reduceAdd, Int.reduceSub, Int.reduceMul, Int.reduceMod, Int.reduceDiv, reduceCtorEq, Nat.reducePow, Int.reducePow, ac_ref8_Extend_L2, ext1_length, t0, t1, z0, z1, hE, extBk, Int.toNat_natCast, List.map_cons, List.map_nil, extR, extEr, List.getD_cons_zero, List.getD_cons_succ, List.length_cons, List.length_nil]
end Go.Eng
end
section
set_option maxRecDepth 20000
set_option maxHeartbeats 64000000
namespace Go.Eng
theorem w_registers_Extend_bad (tab : Tab) (gl : Gl) (n1 n2 n3 n4 n5 n6 : Nat) (h1 : tab.look n1 = some ct_index.fs) (h2 : tab.look n2 = some ct_least.fs) (bk : List Bank) (u loc i : Int) (ds : List (List UInt8)) (hd : ds.length < 1000000000)
    (hb : (loc < 0 ∨ 4 < loc ∨ i < 0 ∨ 16 ≤ i ∨ ds.length ≠ 2) ∨ loc < leastI i false) :
    (ac_registers_Extend n1 n2 n3 n4 n5 n6).wp tab gl (zipF 0 [.t (regT bk u), .t (.int .i64 loc), .t (.int .i64 i), .t (.sl (ds.map bsT))]) (zipF 0 []) (resW [(8, some (2, true)), (9, none)] 0 (fun r o => r = .tup [.t (regT [] 0), .t (.int .i64 (if loc < 0 ∨ 4 < loc ∨ i < 0 ∨ 16 ≤ i ∨ ds.length ≠ 2 then 1 else 13))] ∧ o = [])) := by
  by_cases a1 : loc < 0
  · simp (config := { maxSteps := 2000000 }) (disch := (first | omega | (simp only [lens, lenm]; omega))) only [go_sem, ↓reduceIte, Nat.reduceAdd, Nat.reduceEqDiff, Nat.reduceSub, Nat.reduceMul, Nat.reduceLT, Nat.reduceLeDiff, Nat.reduceBEq, Int.reduceEq, Int.reduceLT, Int.reduceLE, Int.reduceToNat, Int.reduceNeg, Int.reduceAdd, Int.reduceSub, Int.reduceMul, Int.reduceMod, Int.reduceDiv, reduceCtorEq, Nat.reducePow, Int.reducePow, ac_registers_Extend, a1, List.map_nil]
  · by_cases a2 : 4 < loc
    · simp (config := { maxSteps := 2000000 }) (disch := (first | omega | (simp only [lens, lenm]; omega))) only [go_sem, ↓reduceIte, Nat.reduceAdd, Nat.reduceEqDiff, Nat.reduceSub, Nat.reduceMul, Nat.reduceLT, Nat.reduceLeDiff, Nat.reduceBEq, Int.reduceEq, Int.reduceLT, Int.reduceLE, Int.reduceToNat, Int.reduceNeg, Int.reduceAdd, Int.reduceSub, Int.reduceMul, Int.reduceMod, Int.reduceDiv, reduceCtorEq, Nat.reducePow, Int.reducePow, ac_registers_Extend, a1, a2, List.map_nil]
    · by_cases a3 : i < 0
      · simp (config := { maxSteps := 2000000 }) (disch := (first | omega | (simp only [lens, lenm]; omega))) only [go_sem, ↓reduceIte, Nat.reduceAdd, Nat.reduceEqDiff, Nat.reduceSub, Nat.reduceMul, Nat.reduceLT, Nat.reduceLeDiff, Nat.reduceBEq, Int.reduceEq, Int.reduceLT, Int.reduceLE, Int.reduceToNat, Int.reduceNeg, Int.reduceAdd, Int.reduceSub, Int.reduceMul, Int.reduceMod, Int.reduceDiv, reduceCtorEq, Nat.reducePow, Int.reducePow, ac_registers_Extend, a1, a2, a3, h1, index_f, List.map_nil]
      · by_cases a4 : 16 ≤ i
        · simp (config := { maxSteps := 2000000 }) (disch := (first | omega | (simp only [lens, lenm]; omega))) only [go_sem, ↓reduceIte, Nat.reduceAdd, Nat.reduceEqDiff, Nat.reduceSub, Nat.reduceMul, Nat.reduceLT, Nat.reduceLeDiff, Nat.reduceBEq, Int.reduceEq, Int.reduceLT, Int.reduceLE, Int.reduceToNat, Int.reduceNeg, Int.reduceAdd, Int.reduceSub, Int.reduceMul, Int.reduceMod, Int.reduceDiv, reduceCtorEq, Nat.reducePow, Int.reducePow, ac_registers_Extend, a1, a2, a3, a4, h1, index_f, List.map_nil]
        · by_cases a5 : ds.length = 2
          · have a6 : loc < leastI i false := by rcases hb with h | h; · omega
                                                 · exact h
            simp (config := { maxSteps := 2000000 }) (disch := (first | omega | (simp only [lens, lenm]; omega))) only [go_sem, ↓reduceIte, Nat.reduceAdd, Nat.reduceEqDiff, Nat.reduceSub, Nat.reduceMul, Nat.reduceLT, Nat.reduceLeDiff, Nat.reduceBEq, Int.reduceEq, Int.reduceLT, Int.reduceLE, Int.reduceToNat, Int.reduceNeg, Int.reduceAdd, Int.reduceSub, Int.reduceMul, Int.reduceMod, Int.reduceDiv, reduceCtorEq, Nat.reducePow, Int.reducePow, ac_registers_Extend, a1, a2, a3, a4, a5, a6, h1, index_t, h2, least_eq, List.map_nil, ne_eq]
          · simp (config := { maxSteps := 2000000 }) (disch := (first | omega | (simp only [lens, lenm]; omega))) only [go_sem, ↓reduceIte, Nat.reduceAdd, Nat.reduceEqDiff, Nat.reduceSub, Nat.reduceMul, Nat.reduceLT, Nat.reduceLeDiff, Nat.reduceBEq, Int.reduceEq, Int.reduceLT, Int.reduceLE, Int.reduceToNat, Int.reduceNeg, Int.reduceAdd, Int.reduceSub, Int.reduceMul, Int.reduceMod, Int.reduceDiv, reduceCtorEq, Nat.reducePow, Int.reducePow, ac_registers_Extend, a1, a2, a3, a4, a5, h1, index_t, List.map_nil, ne_eq]
theorem w_ref8_Extend_bad (tab : Tab) (gl : Gl) (n1 n2 n3 n4 n5 n6 : Nat) (h2 : tab.look n1 = some ct_rleast.fs) (bk : List Bank) (u loc i : Int) (ds : List (List UInt8)) (hd : ds.length < 1000000000)
    (hb : (loc < 0 ∨ 4 < loc ∨ i < 0 ∨ 16 ≤ i ∨ ds.length ≠ 2) ∨ loc < leastI i false) :
    (ac_ref8_Extend n1 n2 n3 n4 n5 n6).wp tab gl (zipF 0 [.t (regT bk u), .t (.int .i64 loc), .t (.int .i64 i), .t (.sl (ds.map bsT))]) (zipF 0 []) (resW [(8, some (2, true)), (9, none)] 0 (fun r o => r = .tup [.t (regT [] 0), .t (.int .i64 (if loc < 0 ∨ 4 < loc ∨ i < 0 ∨ 16 ≤ i ∨ ds.length ≠ 2 then 1 else 13))] ∧ o = [])) := by
  have a7 : ¬ leastI i false = 5 := by unfold leastI; split <;> (try split) <;> (try split) <;> simp_all
  by_cases a1 : loc < 0
  · simp (config := { maxSteps := 2000000 }) (disch := (first | omega | (simp only [lens, lenm]; omega))) only [go_sem, ↓reduceIte, Nat.reduceAdd, Nat.reduceEqDiff, Nat.reduceSub, Nat.reduceMul, Nat.reduceLT, Nat.reduceLeDiff, Nat.reduceBEq, Int.reduceEq, Int.reduceLT, Int.reduceLE, Int.reduceToNat, Int.reduceNeg, Int.reduceAdd, Int.reduceSub, Int.reduceMul, Int.reduceMod, Int.reduceDiv, reduceCtorEq, Nat.reducePow, Int.reducePow, ac_ref8_Extend, a1, List.map_nil]
  · by_cases a2 : 4 < loc
    · simp (config := { maxSteps := 2000000 }) (disch := (first | omega | (simp only [lens, lenm]; omega))) only [go_sem, ↓reduceIte, Nat.reduceAdd, Nat.reduceEqDiff, Nat.reduceSub, Nat.reduceMul, Nat.reduceLT, Nat.reduceLeDiff, Nat.reduceBEq, Int.reduceEq, Int.reduceLT, Int.reduceLE, Int.reduceToNat, Int.reduceNeg, Int.reduceAdd, Int.reduceSub, Int.reduceMul, Int.reduceMod, Int.reduceDiv, reduceCtorEq, Nat.reducePow, Int.reducePow, ac_ref8_Extend, a1, a2, List.map_nil]
    · by_cases a3 : i < 0
      · simp (config := { maxSteps := 2000000 }) (disch := (first | omega | (simp only [lens, lenm]; omega))) only [go_sem, ↓reduceIte, Nat.reduceAdd, Nat.reduceEqDiff, Nat.reduceSub, Nat.reduceMul, Nat.reduceLT, Nat.reduceLeDiff, Nat.reduceBEq, Int.reduceEq, Int.reduceLT, Int.reduceLE, Int.reduceToNat, Int.reduceNeg, Int.reduceAdd, Int.reduceSub, Int.reduceMul, Int.reduceMod, Int.reduceDiv, reduceCtorEq, Nat.reducePow, Int.reducePow, ac_ref8_Extend, a1, a2, a3, List.map_nil]
      · by_cases a4 : 16 ≤ i
        · simp (config := { maxSteps := 2000000 }) (disch := (first | omega | (simp only [lens, lenm]; omega))) only [go_sem, ↓reduceIte, Nat.reduceAdd, Nat.reduceEqDiff, Nat.reduceSub, Nat.reduceMul, Nat.reduceLT, Nat.reduceLeDiff, Nat.reduceBEq, Int.reduceEq, Int.reduceLT, Int.reduceLE, Int.reduceToNat, Int.reduceNeg, Int.reduceAdd, Int.reduceSub, Int.reduceMul, Int.reduceMod, Int.reduceDiv, reduceCtorEq, Nat.reducePow, Int.reducePow, ac_ref8_Extend, a1, a2, a3, a4, List.map_nil]
        · by_cases a5 : ds.length = 2
          · have a6 : loc < leastI i false := by rcases hb with h | h; · omega
                                                 · exact h
            simp (config := { maxSteps := 2000000 }) (disch := (first | omega | (simp only [lens, lenm]; omega))) only [go_sem, ↓reduceIte, Nat.reduceAdd, Nat.reduceEqDiff, Nat.reduceSub, Nat.reduceMul, Nat.reduceLT, Nat.reduceLeDiff, Nat.reduceBEq, Int.reduceEq, Int.reduceLT, Int.reduceLE, Int.reduceToNat, Int.reduceNeg, Int.reduceAdd, Int.reduceSub, Int.reduceMul, Int.reduceMod, Int.reduceDiv, reduceCtorEq, Nat.reducePow, Int.reducePow, ac_ref8_Extend, a1, a2, a3, a4, a5, a6, a7, h2, rleast_eq, List.map_nil, ne_eq]
          · simp (config := { maxSteps := 2000000 }) (disch := (first | omega | (simp only [lens, lenm]; omega))) only [go_sem, ↓reduceIte, Nat.reduceAdd, Nat.reduceEqDiff, Nat.reduceSub, Nat.reduceMul, Nat.reduceLT, Nat.reduceLeDiff, Nat.reduceBEq, Int.reduceEq, Int.reduceLT, Int.reduceLE, Int.reduceToNat, Int.reduceNeg, Int.reduceAdd, Int.reduceSub, Int.reduceMul, Int.reduceMod, Int.reduceDiv, reduceCtorEq, Nat.reducePow, Int.reducePow, ac_ref8_Extend, a1, a2, a3, a4, a5, List.map_nil, ne_eq]
theorem actv_eqn {u : Int} {a : Nat} (ha : a < 2) : ct_actv.fs [.t (.agg [.sl [], .int .i64 u]), .t (.int .i64 a)] [] = some (.t (.bool false), []) := (actv_eq (bk := []) .nil (by omega)).trans (by simp [onB])
theorem w_registers_Extend0 (tab : Tab) (gl : Gl) (n1 n2 n3 n4 n5 n6 : Nat) (h1 : tab.look n1 = some ct_index.fs) (h2 : tab.look n2 = some ct_least.fs) (h3 : tab.look n3 = some ct_on.fs) (h5 : tab.look n5 = some ct_twin.fs)
    (u loc : Int) (n : Nat) (d0 d1 : List UInt8) (hu : 0 ≤ u ∧ u < 1000000000) (hd : d0.length < 9223372036854775808 ∧ d1.length < 9223372036854775808) (e1 : ¬(loc < 0 ∨ 4 < loc ∨ 16 ≤ n)) (e2 : ¬ loc < leastI n false) :
    (ac_registers_Extend n1 n2 n3 n4 n5 n6).wp tab gl (zipF 0 [.t (regT [] u), .t (.int .i64 loc), .t (.int .i64 n), .t (.sl [bsT d0, bsT d1])]) (zipF 0 []) (resW [(8, some (2, true)), (9, none)] 0 (fun r o => r = extR [] u loc n [d0, d1] ∧ o = [])) := by
  have c0 := on_eqn (u := u) (a := 0) (by omega)
  have c1 := on_eqn (u := u) (a := 1) (by omega)
  rw [show ((0 : Nat) : Int) = 0 from rfl] at c0
  rw [show ((1 : Nat) : Int) = 1 from rfl] at c1
  simp (config := { maxSteps := 2000000 }) (disch := (first | omega | (simp only [lens, lenm]; omega))) only [go_sem, ↓reduceIte, Nat.reduceAdd, Nat.reduceEqDiff, Nat.reduceSub, Nat.reduceMul, Nat.reduceLT, Nat.reduceLeDiff, Nat.reduceBEq, Int.reduceEq, Int.reduceLT, Int.reduceLE, Int.reduceToNat, Int.reduceNeg, Int.reduceAdd, Int.reduceSub, Int.reduceMul, Int.reduceMod, Int.reduceDiv, reduceCtorEq, Nat.reducePow, Int.reducePow, ac_registers_Extend, h1, index_t, h2, least_eq, List.map_nil, List.map_cons]
  refine loopW_weak (fs' := [(2, .t (.int .i64 (n : Nat))), (3, .t (.sl [bsT d0, bsT d1])), (4, .ref 4096 0 0), (8, .ref 4112 0 0), (38, .t (.sl [bsT d0, bsT d1])), (39, .t (.int .i64 2)), (40, .t (.int .i64 0))]) (hs' := [(4112, .live 2 [.agg [.nil, .t (.int .i64 0)]] true true), (4096, .live 2 [.t (regT [] u)] true true)]) (Weak.rd id ?_ ?_ rfl) ?_
  · simp (config := { maxSteps := 2000000 }) (disch := (first | omega | (simp only [lens, lenm]; omega))) only [go_sem, ↓reduceIte, Nat.reduceAdd, Nat.reduceEqDiff, Nat.reduceSub, Nat.reduceMul, Nat.reduceLT, Nat.reduceLeDiff, Nat.reduceBEq, Int.reduceEq, Int.reduceLT, Int.reduceLE, Int.reduceToNat, Int.reduceNeg, Int.reduceAdd, Int.reduceSub, Int.reduceMul, Int.reduceMod, Int.reduceDiv, reduceCtorEq, Nat.reducePow, Int.reducePow, id]
  · simp (config := { maxSteps := 2000000 }) (disch := (first | omega | (simp only [lens, lenm]; omega))) only [go_sem, ↓reduceIte, Nat.reduceAdd, Nat.reduceEqDiff, Nat.reduceSub, Nat.reduceMul, Nat.reduceLT, Nat.reduceLeDiff, Nat.reduceBEq, Int.reduceEq, Int.reduceLT, Int.reduceLE, Int.reduceToNat, Int.reduceNeg, Int.reduceAdd, Int.reduceSub, Int.reduceMul, Int.reduceMod, Int.reduceDiv, reduceCtorEq, Nat.reducePow, Int.reducePow, id, List.map_nil]
  by_cases p : 0 < d0.length ∨ 0 < d1.length
  · have hE : extE 0 0 loc n 2 d0.length d1.length = 27 := by unfold extE; rw [if_neg (by omega), if_neg (by omega), if_pos (by omega)]
    by_cases p0 : 0 < d0.length
    · refine loop_fuel 3 ?_
      simp (config := { maxSteps := 2000000 }) (disch := (first | omega | (simp only [lens, lenm]; omega))) only [go_sem, ↓reduceIte, Nat.reduceAdd, Nat.reduceEqDiff, Nat.reduceSub, Nat.reduceMul, Nat.reduceLT, Nat.reduceLeDiff, Nat.reduceBEq, Int.reduceEq, Int.reduceLT, Int.reduceLE, Int.reduceToNat, Int.reduceNeg, Int.reduceAdd, Int.reduceSub, Int.reduceMul, Int.reduceMod, Int.reduceDiv, reduceCtorEq, Nat.reducePow, Int.reducePow, loopN_succ, ac_registers_Extend_L0, h3, c0, c1, hE, List.map_nil, extR, extEr, List.getD_nil, List.getD_cons_zero, List.getD_cons_succ, List.length_cons, List.length_nil]
    · refine loop_fuel 3 ?_
      simp (config := { maxSteps := 2000000 }) (disch := (first | omega | (simp only [lens, lenm]; omega))) only [go_sem, ↓reduceIte, Nat.reduceAdd, Nat.reduceEqDiff, Nat.reduceSub, Nat.reduceMul, Nat.reduceLT, Nat.reduceLeDiff, Nat.reduceBEq, Int.reduceEq, Int.reduceLT, Int.reduceLE, Int.reduceToNat, Int.reduceNeg, Int.reduceAdd, Int.reduceSub, Int.reduceMul, Int.reduceMod, Int.reduceDiv, reduceCtorEq, Nat.reducePow, Int.reducePow, loopN_succ, ac_registers_Extend_L0, h3, c0, c1, hE, List.map_nil, extR, extEr, List.getD_nil, List.getD_cons_zero, List.getD_cons_succ, List.length_cons, List.length_nil]
  · have hE : extE 0 0 loc n 2 d0.length d1.length = 0 := by unfold extE; rw [if_neg (by omega), if_neg (by omega), if_neg (by omega), if_neg (by omega)]
    refine loop_fuel 3 ?_
    simp (config := { maxSteps := 2000000 }) (disch := (first | omega | (simp only [lens, lenm]; omega))) only [go_sem, ↓reduceIte, Nat.reduceAdd, Nat.reduceEqDiff, Nat.reduceSub, Nat.reduceMul, Nat.reduceLT, Nat.reduceLeDiff, Nat.reduceBEq, Int.reduceEq, Int.reduceLT, Int.reduceLE, Int.reduceToNat, Int.reduceNeg, Int.reduceAdd, Int.reduceSub, Int.reduceMul, Int.reduceMod, Int.reduceDiv, reduceCtorEq, Nat.reducePow, Int.reducePow, loopN_succ, ac_registers_Extend_L0, h3, c0, c1, List.map_nil]
    refine loop_fuel 3 ?_
    simp (config := { maxSteps := 2000000 }) (disch := (first | omega | (simp only [lens, lenm]; omega))) only [go_sem, ↓reduceIte, Nat.reduceAdd, Nat.reduceEqDiff, Nat.reduceSub, Nat.reduceMul, Nat.reduceLT, Nat.reduceLeDiff, Nat.reduceBEq, Int.reduceEq, Int.reduceLT, Int.reduceLE, Int.reduceToNat, Int.reduceNeg, Int.reduceAdd, Int.reduceSub, Int.reduceMul, Int.reduceMod, Int.reduceDiv, reduceCtorEq, Nat.reducePow, Int.reducePow, loopN_succ, ac_registers_Extend_L1, h3, c0, c1, h5, twin_eq0, List.map_nil]
    refine loop_fuel 1 ?_
    simp (config := { maxSteps := 2000000 }) (disch := (first | omega | (simp only [lens, lenm]; omega))) only [go_sem, ↓reduceIte, Nat.reduceAdd, Nat.reduceEqDiff, Nat.reduceSub, Nat.reduceMul, Nat.reduceLT, Nat.reduceLeDiff, Nat.reduceBEq, Int.reduceEq, Int.reduceLT, Int.reduceLE, Int.reduceToNat, Int.reduceNeg, Int.reduceAdd, Int.reduceSub, Int.reduceMul, Int.reduceMod, Int.reduceDiv, reduceCtorEq, Nat.reducePow, Int.reducePow, loopN_succ, ac_registers_Extend_L2, hE, List.map_nil, extR, extEr, extBk, List.getD_nil, List.getD_cons_zero, List.getD_cons_succ, List.length_cons, List.length_nil]
theorem w_ref8_Extend0 (tab : Tab) (gl : Gl) (n1 n2 n3 n4 n5 n6 : Nat) (h2 : tab.look n1 = some ct_rleast.fs) (h3 : tab.look n2 = some ct_actv.fs) (h5 : tab.look n4 = some ct_twin.fs)
    (u loc : Int) (n : Nat) (d0 d1 : List UInt8) (hu : 0 ≤ u ∧ u < 1000000000) (hd : d0.length < 9223372036854775808 ∧ d1.length < 9223372036854775808) (e1 : ¬(loc < 0 ∨ 4 < loc ∨ 16 ≤ n)) (e2 : ¬ loc < leastI n false) :
    (ac_ref8_Extend n1 n2 n3 n4 n5 n6).wp tab gl (zipF 0 [.t (regT [] u), .t (.int .i64 loc), .t (.int .i64 n), .t (.sl [bsT d0, bsT d1])]) (zipF 0 []) (resW [(8, some (2, true)), (9, none)] 0 (fun r o => r = extR [] u loc n [d0, d1] ∧ o = [])) := by
  have a6 : ¬ leastI (n : Int) false = 5 := by unfold leastI; split <;> (try split) <;> (try split) <;> simp_all
  have c0 := actv_eqn (u := u) (a := 0) (by omega)
  have c1 := actv_eqn (u := u) (a := 1) (by omega)
  rw [show ((0 : Nat) : Int) = 0 from rfl] at c0
  rw [show ((1 : Nat) : Int) = 1 from rfl] at c1
  simp (config := { maxSteps := 2000000 }) (disch := (first | omega | (simp only [lens, lenm]; omega))) only [go_sem, ↓reduceIte, Nat.reduceAdd, Nat.reduceEqDiff, Nat.reduceSub, Nat.reduceMul, Nat.reduceLT, Nat.reduceLeDiff, Nat.reduceBEq, Int.reduceEq, Int.reduceLT, Int.reduceLE, Int.reduceToNat, Int.reduceNeg, Int.reduceAdd, Int.reduceSub, Int.reduceMul, Int.reduceMod, Int.reduceDiv, reduceCtorEq, Nat.reducePow, Int.reducePow, ac_ref8_Extend, h2, rleast_eq, a6, List.map_nil, List.map_cons]
  refine loopW_weak (fs' := [(2, .t (.int .i64 (n : Nat))), (3, .t (.sl [bsT d0, bsT d1])), (4, .ref 4096 0 0), (8, .ref 4112 0 0), (10, .t (.int .i64 0))]) (hs' := [(4112, .live 2 [.agg [.nil, .t (.int .i64 0)]] true true), (4096, .live 2 [.t (regT [] u)] true true)]) (Weak.rd id ?_ ?_ rfl) ?_
  · simp (config := { maxSteps := 2000000 }) (disch := (first | omega | (simp only [lens, lenm]; omega))) only [go_sem, ↓reduceIte, Nat.reduceAdd, Nat.reduceEqDiff, Nat.reduceSub, Nat.reduceMul, Nat.reduceLT, Nat.reduceLeDiff, Nat.reduceBEq, Int.reduceEq, Int.reduceLT, Int.reduceLE, Int.reduceToNat, Int.reduceNeg, Int.reduceAdd, Int.reduceSub, Int.reduceMul, Int.reduceMod, Int.reduceDiv, reduceCtorEq, Nat.reducePow, Int.reducePow, id]
  · simp (config := { maxSteps := 2000000 }) (disch := (first | omega | (simp only [lens, lenm]; omega))) only [go_sem, ↓reduceIte, Nat.reduceAdd, Nat.reduceEqDiff, Nat.reduceSub, Nat.reduceMul, Nat.reduceLT, Nat.reduceLeDiff, Nat.reduceBEq, Int.reduceEq, Int.reduceLT, Int.reduceLE, Int.reduceToNat, Int.reduceNeg, Int.reduceAdd, Int.reduceSub, Int.reduceMul, Int.reduceMod, Int.reduceDiv, reduceCtorEq, Nat.reducePow, Int.reducePow, id, List.map_nil]
  by_cases p : 0 < d0.length ∨ 0 < d1.length
  · have hE : extE 0 0 loc n 2 d0.length d1.length = 27 := by unfold extE; rw [if_neg (by omega), if_neg (by omega), if_pos (by omega)]
    by_cases p0 : 0 < d0.length
    · refine loop_fuel 3 ?_
      simp (config := { maxSteps := 2000000 }) (disch := (first | omega | (simp only [lens, lenm]; omega))) only [go_sem, ↓reduceIte, Nat.reduceAdd, Nat.reduceEqDiff, Nat.reduceSub, Nat.reduceMul, Nat.reduceLT, Nat.reduceLeDiff, Nat.reduceBEq, Int.reduceEq, Int.reduceLT, Int.reduceLE, Int.reduceToNat, Int.reduceNeg, Int.reduceAdd, Int.reduceSub, Int.reduceMul, Int.reduceMod, Int.reduceDiv, reduceCtorEq, Nat.reducePow, Int.reducePow, loopN_succ, ac_ref8_Extend_L0, h3, c0, c1, hE, List.map_nil, extR, extEr, List.getD_nil, List.getD_cons_zero, List.getD_cons_succ, List.length_cons, List.length_nil]
      all_goals repeat refine And.intro rfl ?_
      all_goals rfl
    · refine loop_fuel 3 ?_
      simp (config := { maxSteps := 2000000 }) (disch := (first | omega | (simp only [lens, lenm]; omega))) only [go_sem, ↓reduceIte, Nat.reduceAdd, Nat.reduceEqDiff, Nat.reduceSub, Nat.reduceMul, Nat.reduceLT, Nat.reduceLeDiff, Nat.reduceBEq, Int.reduceEq, Int.reduceLT, Int.reduceLE, Int.reduceToNat, Int.reduceNeg, Int.reduceAdd, Int.reduceSub, Int.reduceMul, Int.reduceMod, Int.reduceDiv, reduceCtorEq, Nat.reducePow, Int.reducePow, loopN_succ, ac_ref8_Extend_L0, h3, c0, c1, hE, List.map_nil, extR, extEr, List.getD_nil, List.getD_cons_zero, List.getD_cons_succ, List.length_cons, List.length_nil]
      all_goals repeat refine And.intro rfl ?_
      all_goals rfl
  · have hE : extE 0 0 loc n 2 d0.length d1.length = 0 := by unfold extE; rw [if_neg (by omega), if_neg (by omega), if_neg (by omega), if_neg (by omega)]
    refine loop_fuel 3 ?_
    simp (config := { maxSteps := 2000000 }) (disch := (first | omega | (simp only [lens, lenm]; omega))) only [go_sem, ↓reduceIte, Nat.reduceAdd, Nat.reduceEqDiff, Nat.reduceSub, Nat.reduceMul, Nat.reduceLT, Nat.reduceLeDiff, Nat.reduceBEq, Int.reduceEq, Int.reduceLT, Int.reduceLE, Int.reduceToNat, Int.reduceNeg, Int.reduceAdd, Int.reduceSub, Int.reduceMul, Int.reduceMod, Int.reduceDiv, reduceCtorEq, Nat.reducePow, Int.reducePow, loopN_succ, ac_ref8_Extend_L0, h3, c0, c1, List.map_nil]
    all_goals repeat refine And.intro rfl ?_
    refine loop_fuel 3 ?_
    simp (config := { maxSteps := 2000000 }) (disch := (first | omega | (simp only [lens, lenm]; omega))) only [go_sem, ↓reduceIte, Nat.reduceAdd, Nat.reduceEqDiff, Nat.reduceSub, Nat.reduceMul, Nat.reduceLT, Nat.reduceLeDiff, Nat.reduceBEq, Int.reduceEq, Int.reduceLT, Int.reduceLE, Int.reduceToNat, Int.reduceNeg, Int.reduceAdd, Int.reduceSub, Int.reduceMul, Int.reduceMod, Int.reduceDiv, reduceCtorEq, Nat.reducePow, Int.reducePow, loopN_succ, ac_ref8_Extend_L1, h3, c0, c1, h5, twin_eq0, List.map_nil]
    all_goals repeat refine And.intro rfl ?_
    refine loop_fuel 3 ?_
    simp (config := { maxSteps := 2000000 }) (disch := (first | omega | (simp only [lens, lenm]; omega))) only [go_sem, ↓reduceIte, Nat.reduceAdd, Nat.reduceEqDiff, Nat.reduceSub, Nat.reduceMul, Nat.reduceLT, Nat.reduceLeDiff, Nat.reduceBEq, Int.reduceEq, Int.reduceLT, Int.reduceLE, Int.reduceToNat, Int.reduceNeg, Int.reduceAdd, Int.reduceSub, Int.reduceMul, Int.reduceMod, Int.reduceDiv, reduceCtorEq, Nat.reducePow, Int.reducePow, loopN_succ, ac_ref8_Extend_L2, h3, c0, c1, hE, List.map_nil, extR, extEr, extBk, List.getD_nil, List.getD_cons_zero, List.getD_cons_succ, List.length_cons, List.length_nil]
end Go.Eng
end
section
set_option maxRecDepth 20000
set_option maxHeartbeats 64000000
namespace Go.Eng
def RV (bk : List Bank) : Prop := RK bk ∧ ∀ b ∈ bk, ∀ x ∈ b, x.length ≤ 64
theorem RV.rm {bk : List Bank} (h : RV bk) : RM bk := by
  refine ⟨h.1, fun b hb => ⟨?_, fun x hx => Nat.lt_of_le_of_lt (h.2 b hb x hx) (by omega)⟩⟩
  have : bkOk b := by
    obtain ⟨hk, _⟩ := h
    cases hk with
    | nil => simp at hb
    | two b0 b1 h0 h1 =>
      simp only [List.mem_cons, List.not_mem_nil, or_false] at hb
      rcases hb with rfl | rfl
      · exact h0
      · exact h1
  rcases this with h | h <;> omega
theorem getD_le {b : Bank} {m n : Nat} (h : ∀ x ∈ b, x.length ≤ m) : (b.getD n []).length ≤ m := by
  by_cases hi : n < List.length b
  · have : b.getD n [] = b[n] := by simp [List.getD, hi]
    rw [this]; exact h _ (List.getElem_mem hi)
  · simp [List.getD, List.getElem?_eq_none (Nat.le_of_not_lt hi)]
abbrev ExtIn := List Bank × Int × Int × Int × List (List UInt8)
def extPre (x : ExtIn) : Prop := RV x.1 ∧ (0 ≤ x.2.1 ∧ x.2.1 < 1000000000) ∧ x.2.2.2.2.length < 1000000000 ∧ ∀ d ∈ x.2.2.2.2, d.length < 9223372036854775808
def ct_ext : Ct where
  α := ExtIn
  as x := [.t (regT x.1 x.2.1), .t (.int .i64 x.2.2.1), .t (.int .i64 x.2.2.2.1), .t (.sl (x.2.2.2.2.map bsT))]
  ins _ := []
  pre := extPre
  r x := extR x.1 x.2.1 x.2.2.1 x.2.2.2.1 x.2.2.2.2
  outs _ := []
  inj := by
    rintro ⟨a, u, l, i, ds⟩ ⟨b, v, l', i', ds'⟩ h _
    simp only [List.cons.injEq, V.t.injEq, T.int.injEq, T.sl.injEq, true_and, and_true, mapBs_inj] at h
    obtain ⟨h1, rfl, rfl, rfl⟩ := h
    obtain ⟨rfl, rfl⟩ := regT_inj h1
    exact ⟨rfl, rfl⟩
theorem extR_bad {bk : List Bank} {u loc i : Int} {ds : List (List UInt8)} (hb : (loc < 0 ∨ 4 < loc ∨ i < 0 ∨ 16 ≤ i ∨ ds.length ≠ 2) ∨ loc < leastI i false) :
    extR bk u loc i ds = .tup [.t (regT [] 0), .t (.int .i64 (if loc < 0 ∨ 4 < loc ∨ i < 0 ∨ 16 ≤ i ∨ ds.length ≠ 2 then 1 else 13))] := by
  have he : extE (bk.getD 0 []).length (bk.getD 1 []).length loc i ds.length (ds.getD 0 []).length (ds.getD 1 []).length = if loc < 0 ∨ 4 < loc ∨ i < 0 ∨ 16 ≤ i ∨ ds.length ≠ 2 then 1 else 13 := by
    unfold extE
    by_cases h : loc < 0 ∨ 4 < loc ∨ i < 0 ∨ 16 ≤ i ∨ ds.length ≠ 2
    · rw [if_pos h, if_pos h]
    · have h2 : loc < leastI i false := by rcases hb with h' | h'; exact absurd h' h; exact h'
      rw [if_neg h, if_neg h, if_pos h2]
  unfold extR
  rw [he]
  split
  · split at * <;> simp_all
  · rfl
theorem w_registers_Extend (tab : Tab) (gl : Gl) (n1 n2 n3 n4 n5 n6 : Nat) (h1 : tab.look n1 = some ct_index.fs) (h2 : tab.look n2 = some ct_least.fs) (h3 : tab.look n3 = some ct_on.fs) (h4 : tab.look n4 = some ct_size.fs) (h5 : tab.look n5 = some ct_twin.fs) (h6 : tab.look n6 = some ct_sumA.fs) (x : ct_ext.α) (hx : ct_ext.pre x) :
    (ac_registers_Extend n1 n2 n3 n4 n5 n6).wp tab gl (zipF 0 (ct_ext.as x)) (zipF 0 (ct_ext.ins x)) (resW [(8, some (2, true)), (9, none)] (ct_ext.ins x).length (fun r o => r = ct_ext.r x ∧ o = ct_ext.outs x)) := by
  obtain ⟨bk, u, loc, i, ds⟩ := x
  obtain ⟨hv, hu, hd, hd2⟩ := hx
  simp only [ct_ext] at *
  by_cases hb : (loc < 0 ∨ 4 < loc ∨ i < 0 ∨ 16 ≤ i ∨ ds.length ≠ 2) ∨ loc < leastI i false
  · rw [extR_bad hb]
    exact w_registers_Extend_bad tab gl n1 n2 n3 n4 n5 n6 h1 h2 bk u loc i ds hd hb
  · obtain ⟨n, rfl⟩ := Int.eq_ofNat_of_zero_le (show 0 ≤ i by omega)
    match ds, hd2, hb with
    | [d0, d1], hd2, hb =>
      have m0 := hd2 d0 (by simp)
      have m1 := hd2 d1 (by simp)
      have e1 : ¬(loc < 0 ∨ 4 < loc ∨ 16 ≤ n) := by omega
      have e2 : ¬ loc < leastI n false := by omega
      have hm := hv.rm
      obtain ⟨hk, hl⟩ := hv
      cases hk with
      | nil => exact w_registers_Extend0 tab gl n1 n2 n3 n4 n5 n6 h1 h2 h3 h5 u loc n d0 d1 hu ⟨m0, m1⟩ e1 e2
      | two b0 b1 g0 g1 => exact w_registers_Extend2 tab gl n1 n2 n3 n4 n5 n6 h1 h2 h3 h4 h5 h6 b0 b1 u loc n d0 d1 hu hm (getD_le (hl b0 (by simp))) (getD_le (hl b1 (by simp))) ⟨m0, m1⟩ e1 e2
    | [], _, hb => simp at hb
    | [_], _, hb => simp at hb
    | _ :: _ :: _ :: _, _, hb => simp at hb
theorem w_ref8_Extend (tab : Tab) (gl : Gl) (n1 n2 n3 n4 n5 n6 : Nat) (h2 : tab.look n1 = some ct_rleast.fs) (h3 : tab.look n2 = some ct_actv.fs) (h4 : tab.look n3 = some ct_size.fs) (h5 : tab.look n4 = some ct_twin.fs) (h7 : tab.look n5 = some ct_copy.fs) (h6 : tab.look n6 = some ct_sumA.fs) (x : ct_ext.α) (hx : ct_ext.pre x) :
    (ac_ref8_Extend n1 n2 n3 n4 n5 n6).wp tab gl (zipF 0 (ct_ext.as x)) (zipF 0 (ct_ext.ins x)) (resW [(8, some (2, true)), (9, none)] (ct_ext.ins x).length (fun r o => r = ct_ext.r x ∧ o = ct_ext.outs x)) := by
  obtain ⟨bk, u, loc, i, ds⟩ := x
  obtain ⟨hv, hu, hd, hd2⟩ := hx
  simp only [ct_ext] at *
  by_cases hb : (loc < 0 ∨ 4 < loc ∨ i < 0 ∨ 16 ≤ i ∨ ds.length ≠ 2) ∨ loc < leastI i false
  · rw [extR_bad hb]
    exact w_ref8_Extend_bad tab gl n1 n2 n3 n4 n5 n6 h2 bk u loc i ds hd hb
  · obtain ⟨n, rfl⟩ := Int.eq_ofNat_of_zero_le (show 0 ≤ i by omega)
    match ds, hd2, hb with
    | [d0, d1], hd2, hb =>
      have m0 := hd2 d0 (by simp)
      have m1 := hd2 d1 (by simp)
      have e1 : ¬(loc < 0 ∨ 4 < loc ∨ 16 ≤ n) := by omega
      have e2 : ¬ loc < leastI n false := by omega
      have hm := hv.rm
      obtain ⟨hk, hl⟩ := hv
      cases hk with
      | nil => exact w_ref8_Extend0 tab gl n1 n2 n3 n4 n5 n6 h2 h3 h5 u loc n d0 d1 hu ⟨m0, m1⟩ e1 e2
      | two b0 b1 g0 g1 => exact w_ref8_Extend2 tab gl n1 n2 n3 n4 n5 n6 h2 h3 h4 h5 h7 h6 b0 b1 u loc n d0 d1 hu hm (getD_le (hl b0 (by simp))) (getD_le (hl b1 (by simp))) ⟨m0, m1⟩ e1 e2
    | [], _, hb => simp at hb
    | [_], _, hb => simp at hb
    | _ :: _ :: _ :: _, _, hb => simp at hb
end Go.Eng
end
section
set_option maxRecDepth 20000
set_option maxHeartbeats 64000000
namespace Go.Eng
def digB (bk : List Bank) (data : List UInt8) : List (List UInt8) := [if onB bk 0 then sum1 data else [], if onB bk 1 then sum256 data else []]
def evR (bk : List Bank) (u loc i : Int) (data : List UInt8) : V := if 128 < data.length then .tup [.t (regT [] 0), .t (.int .i64 4)] else extR bk u loc i (digB bk data)
theorem extR_shape {bk : List Bank} {u loc i : Int} {ds : List (List UInt8)} : ∃ (bk' : List Bank) (u' e : Int), extR bk u loc i ds = .tup [.t (.agg [.sl (bk'.map bankT), .int .i64 u']), .t (.int .i64 e)] := by
  unfold extR
  split
  · exact ⟨_, _, _, rfl⟩
  · exact ⟨[], 0, _, rfl⟩
theorem ext_eq {bk : List Bank} {u loc i : Int} {ds : List (List UInt8)} (h : extPre (bk, u, loc, i, ds)) : ct_ext.fs [.t (.agg [.sl (bk.map bankT), .int .i64 u]), .t (.int .i64 loc), .t (.int .i64 i), .t (.sl (ds.map bsT))] [] = some (extR bk u loc i ds, []) := ct_ext.eq (bk, u, loc, i, ds) h
theorem digB_pre {bk : List Bank} {data : List UInt8} : (digB bk data).length < 1000000000 ∧ ∀ d ∈ digB bk data, d.length < 9223372036854775808 := by
  refine ⟨by simp [digB], ?_⟩
  intro d hd
  simp only [digB, List.mem_cons, List.not_mem_nil, or_false] at hd
  rcases hd with rfl | rfl
  · split
    · rw [sum1_length]; omega
    · simp
  · split
    · rw [sum256_length]; omega
    · simp
theorem w_ref8_Digests (tab : Tab) (gl : Gl) (n1 n2 : Nat) (h1 : tab.look n1 = some ct_actv.fs) (h2 : tab.look n2 = some ct_sumA.fs) (bk : List Bank) (u : Int) (data : List UInt8) (hk : RK bk) (hd : data.length < 1000000000) :
    (ac_ref8_Digests n1 n2).wp tab gl (zipF 0 [.t (regT bk u), .t (.sl (data.map byteT))]) (zipF 0 []) (resW [(4, none)] 0 (fun r o => r = .t (.sl ((digB bk data).map bsT)) ∧ o = [])) := by
  have c0 := actv_eq (u := u) (a := 0) hk (by omega)
  have c1 := actv_eq (u := u) (a := 1) hk (by omega)
  rw [show ((0 : Nat) : Int) = 0 from rfl] at c0
  rw [show ((1 : Nat) : Int) = 1 from rfl] at c1
  simp (config := { maxSteps := 2000000 }) (disch := (first | omega | (simp only [lens, lenm]; omega))) only [go_sem, ↓reduceIte, Nat.reduceAdd, Nat.reduceEqDiff, Nat.reduceSub, Nat.reduceMul, Nat.reduceLT, Nat.reduceLeDiff, Nat.reduceBEq, Int.reduceEq, Int.reduceLT, Int.reduceLE, Int.reduceToNat, Int.reduceNeg, Int.reduceAdd, Int.reduceSub, Int.reduceMul, Int.reduceMod, Int.reduceDiv, reduceCtorEq, Nat.reducePow, Int.reducePow, ac_ref8_Digests]
  cases o0 : onB bk 0 <;> cases o1 : onB bk 1 <;> rw [o0] at c0 <;> rw [o1] at c1
  · have hdig : digB bk data = [[], []] := by rw [digB, o0, o1]; rfl
    rw [hdig]
    refine loop_upto 2 (fun k => match k with | 0 => [(1, .t (.sl (data.map byteT))), (2, .ref 4096 0 0), (5, .sl 8192 0 2), (6, .t (.int .i64 0))] | 1 => [(1, .t (.sl (data.map byteT))), (2, .ref 4096 0 0), (5, .sl 8192 0 2), (6, .t (.int .i64 1))] | _ => [(1, .t (.sl (data.map byteT))), (2, .ref 4096 0 0), (5, .sl 8192 0 2), (6, .t (.int .i64 2))]) (fun k => match k with | 0 => [(8192, .live 1 [.t (bsT []), .t (bsT [])] true false), (4096, .live 2 [.t (regT bk u)] true true)] | 1 => [(8192, .live 1 [.t (bsT ([])), .t (bsT [])] true false), (4096, .live 2 [.t (regT bk u)] true true)] | _ => [(8192, .live 1 [.t (bsT ([])), .t (bsT ([]))] true false), (4096, .live 2 [.t (regT bk u)] true true)]) ?_ (fun k hk2 => ?_)
    · refine Weak.rd id ?_ ?_ rfl
      all_goals simp (config := { maxSteps := 2000000 }) (disch := (first | omega | (simp only [lens, lenm]; omega))) only [go_sem, ↓reduceIte, Nat.reduceAdd, Nat.reduceEqDiff, Nat.reduceSub, Nat.reduceMul, Nat.reduceLT, Nat.reduceLeDiff, Nat.reduceBEq, Int.reduceEq, Int.reduceLT, Int.reduceLE, Int.reduceToNat, Int.reduceNeg, Int.reduceAdd, Int.reduceSub, Int.reduceMul, Int.reduceMod, Int.reduceDiv, reduceCtorEq, Nat.reducePow, Int.reducePow, id, List.map_nil]
    · rcases (show k = 0 ∨ k = 1 ∨ k = 2 by omega) with rfl | rfl | rfl
      · simp (config := { maxSteps := 2000000 }) (disch := (first | omega | (simp only [lens, lenm]; omega))) only [go_sem, ↓reduceIte, Nat.reduceAdd, Nat.reduceEqDiff, Nat.reduceSub, Nat.reduceMul, Nat.reduceLT, Nat.reduceLeDiff, Nat.reduceBEq, Int.reduceEq, Int.reduceLT, Int.reduceLE, Int.reduceToNat, Int.reduceNeg, Int.reduceAdd, Int.reduceSub, Int.reduceMul, Int.reduceMod, Int.reduceDiv, reduceCtorEq, Nat.reducePow, Int.reducePow, ac_ref8_Digests_L0, h1, h2, c0, c1, sumA_eq0, sumA_eq1, List.map_nil]
        refine Weak.rd id ?_ ?_ rfl
        all_goals simp (config := { maxSteps := 2000000 }) (disch := (first | omega | (simp only [lens, lenm]; omega))) only [go_sem, ↓reduceIte, Nat.reduceAdd, Nat.reduceEqDiff, Nat.reduceSub, Nat.reduceMul, Nat.reduceLT, Nat.reduceLeDiff, Nat.reduceBEq, Int.reduceEq, Int.reduceLT, Int.reduceLE, Int.reduceToNat, Int.reduceNeg, Int.reduceAdd, Int.reduceSub, Int.reduceMul, Int.reduceMod, Int.reduceDiv, reduceCtorEq, Nat.reducePow, Int.reducePow, id, List.map_nil]
      · simp (config := { maxSteps := 2000000 }) (disch := (first | omega | (simp only [lens, lenm]; omega))) only [go_sem, ↓reduceIte, Nat.reduceAdd, Nat.reduceEqDiff, Nat.reduceSub, Nat.reduceMul, Nat.reduceLT, Nat.reduceLeDiff, Nat.reduceBEq, Int.reduceEq, Int.reduceLT, Int.reduceLE, Int.reduceToNat, Int.reduceNeg, Int.reduceAdd, Int.reduceSub, Int.reduceMul, Int.reduceMod, Int.reduceDiv, reduceCtorEq, Nat.reducePow, Int.reducePow, ac_ref8_Digests_L0, h1, h2, c0, c1, sumA_eq0, sumA_eq1, List.map_nil]
        refine Weak.rd id ?_ ?_ rfl
        all_goals simp (config := { maxSteps := 2000000 }) (disch := (first | omega | (simp only [lens, lenm]; omega))) only [go_sem, ↓reduceIte, Nat.reduceAdd, Nat.reduceEqDiff, Nat.reduceSub, Nat.reduceMul, Nat.reduceLT, Nat.reduceLeDiff, Nat.reduceBEq, Int.reduceEq, Int.reduceLT, Int.reduceLE, Int.reduceToNat, Int.reduceNeg, Int.reduceAdd, Int.reduceSub, Int.reduceMul, Int.reduceMod, Int.reduceDiv, reduceCtorEq, Nat.reducePow, Int.reducePow, id, List.map_nil]
      · simp (config := { maxSteps := 2000000 }) (disch := (first | omega | (simp only [lens, lenm]; omega))) only [go_sem, ↓reduceIte, Nat.reduceAdd, Nat.reduceEqDiff, Nat.reduceSub, Nat.reduceMul, Nat.reduceLT, Nat.reduceLeDiff, Nat.reduceBEq, Int.reduceEq, Int.reduceLT, Int.reduceLE, Int.reduceToNat, Int.reduceNeg, Int.reduceAdd, Int.reduceSub, Int.reduceMul, Int.reduceMod, Int.reduceDiv, reduceCtorEq, Nat.reducePow, Int.reducePow, ac_ref8_Digests_L0, h1, h2, c0, c1, sumA_eq0, sumA_eq1, List.map_nil, List.map_cons, List.map_nil]
  · have hdig : digB bk data = [[], sum256 data] := by rw [digB, o0, o1]; rfl
    rw [hdig]
    refine loop_upto 2 (fun k => match k with | 0 => [(1, .t (.sl (data.map byteT))), (2, .ref 4096 0 0), (5, .sl 8192 0 2), (6, .t (.int .i64 0))] | 1 => [(1, .t (.sl (data.map byteT))), (2, .ref 4096 0 0), (5, .sl 8192 0 2), (6, .t (.int .i64 1))] | _ => [(1, .t (.sl (data.map byteT))), (2, .ref 4096 0 0), (5, .sl 8192 0 2), (6, .t (.int .i64 2))]) (fun k => match k with | 0 => [(8192, .live 1 [.t (bsT []), .t (bsT [])] true false), (4096, .live 2 [.t (regT bk u)] true true)] | 1 => [(8192, .live 1 [.t (bsT ([])), .t (bsT [])] true false), (4096, .live 2 [.t (regT bk u)] true true)] | _ => [(8192, .live 1 [.t (bsT ([])), .t (bsT (sum256 data))] true false), (4096, .live 2 [.t (regT bk u)] true true)]) ?_ (fun k hk2 => ?_)
    · refine Weak.rd id ?_ ?_ rfl
      all_goals simp (config := { maxSteps := 2000000 }) (disch := (first | omega | (simp only [lens, lenm]; omega))) only [go_sem, ↓reduceIte, Nat.reduceAdd, Nat.reduceEqDiff, Nat.reduceSub, Nat.reduceMul, Nat.reduceLT, Nat.reduceLeDiff, Nat.reduceBEq, Int.reduceEq, Int.reduceLT, Int.reduceLE, Int.reduceToNat, Int.reduceNeg, Int.reduceAdd, Int.reduceSub, Int.reduceMul, Int.reduceMod, Int.reduceDiv, reduceCtorEq, Nat.reducePow, Int.reducePow, id, List.map_nil]
    · rcases (show k = 0 ∨ k = 1 ∨ k = 2 by omega) with rfl | rfl | rfl
      · simp (config := { maxSteps := 2000000 }) (disch := (first | omega | (simp only [lens, lenm]; omega))) only [go_sem, ↓reduceIte, Nat.reduceAdd, Nat.reduceEqDiff, Nat.reduceSub, Nat.reduceMul, Nat.reduceLT, Nat.reduceLeDiff, Nat.reduceBEq, Int.reduceEq, Int.reduceLT, Int.reduceLE, Int.reduceToNat, Int.reduceNeg, Int.reduceAdd, Int.reduceSub, Int.reduceMul, Int.reduceMod, Int.reduceDiv, reduceCtorEq, Nat.reducePow, Int.reducePow, ac_ref8_Digests_L0, h1, h2, c0, c1, sumA_eq0, sumA_eq1, List.map_nil]
        refine Weak.rd id ?_ ?_ rfl
        all_goals simp (config := { maxSteps := 2000000 }) (disch := (first | omega | (simp only [lens, lenm]; omega))) only [go_sem, ↓reduceIte, Nat.reduceAdd, Nat.reduceEqDiff, Nat.reduceSub, Nat.reduceMul, Nat.reduceLT, Nat.reduceLeDiff, Nat.reduceBEq, Int.reduceEq, Int.reduceLT, Int.reduceLE, Int.reduceToNat, Int.reduceNeg, Int.reduceAdd, Int.reduceSub, Int.reduceMul, Int.reduceMod, Int.reduceDiv, reduceCtorEq, Nat.reducePow, Int.reducePow, id, List.map_nil]
      · simp (config := { maxSteps := 2000000 }) (disch := (first | omega | (simp only [lens, lenm]; omega))) only [go_sem, ↓reduceIte, Nat.reduceAdd, Nat.reduceEqDiff, Nat.reduceSub, Nat.reduceMul, Nat.reduceLT, Nat.reduceLeDiff, Nat.reduceBEq, Int.reduceEq, Int.reduceLT, Int.reduceLE, Int.reduceToNat, Int.reduceNeg, Int.reduceAdd, Int.reduceSub, Int.reduceMul, Int.reduceMod, Int.reduceDiv, reduceCtorEq, Nat.reducePow, Int.reducePow, ac_ref8_Digests_L0, h1, h2, c0, c1, sumA_eq0, sumA_eq1, List.map_nil]
        refine Weak.cv (hv := []) [28736] id ?_ rfl
        simp (config := { maxSteps := 2000000 }) (disch := (first | omega | (simp only [lens, lenm]; omega))) only [go_sem, ↓reduceIte, Nat.reduceAdd, Nat.reduceEqDiff, Nat.reduceSub, Nat.reduceMul, Nat.reduceLT, Nat.reduceLeDiff, Nat.reduceBEq, Int.reduceEq, Int.reduceLT, Int.reduceLE, Int.reduceToNat, Int.reduceNeg, Int.reduceAdd, Int.reduceSub, Int.reduceMul, Int.reduceMod, Int.reduceDiv, reduceCtorEq, Nat.reducePow, Int.reducePow, id, take_sum1, take_sum256, List.map_nil, sum1_length, sum256_length]
        all_goals rfl
      · simp (config := { maxSteps := 2000000 }) (disch := (first | omega | (simp only [lens, lenm]; omega))) only [go_sem, ↓reduceIte, Nat.reduceAdd, Nat.reduceEqDiff, Nat.reduceSub, Nat.reduceMul, Nat.reduceLT, Nat.reduceLeDiff, Nat.reduceBEq, Int.reduceEq, Int.reduceLT, Int.reduceLE, Int.reduceToNat, Int.reduceNeg, Int.reduceAdd, Int.reduceSub, Int.reduceMul, Int.reduceMod, Int.reduceDiv, reduceCtorEq, Nat.reducePow, Int.reducePow, ac_ref8_Digests_L0, h1, h2, c0, c1, sumA_eq0, sumA_eq1, List.map_nil, List.map_cons, List.map_nil]
  · have hdig : digB bk data = [sum1 data, []] := by rw [digB, o0, o1]; rfl
    rw [hdig]
    refine loop_upto 2 (fun k => match k with | 0 => [(1, .t (.sl (data.map byteT))), (2, .ref 4096 0 0), (5, .sl 8192 0 2), (6, .t (.int .i64 0))] | 1 => [(1, .t (.sl (data.map byteT))), (2, .ref 4096 0 0), (5, .sl 8192 0 2), (6, .t (.int .i64 1))] | _ => [(1, .t (.sl (data.map byteT))), (2, .ref 4096 0 0), (5, .sl 8192 0 2), (6, .t (.int .i64 2))]) (fun k => match k with | 0 => [(8192, .live 1 [.t (bsT []), .t (bsT [])] true false), (4096, .live 2 [.t (regT bk u)] true true)] | 1 => [(8192, .live 1 [.t (bsT (sum1 data)), .t (bsT [])] true false), (4096, .live 2 [.t (regT bk u)] true true)] | _ => [(8192, .live 1 [.t (bsT (sum1 data)), .t (bsT ([]))] true false), (4096, .live 2 [.t (regT bk u)] true true)]) ?_ (fun k hk2 => ?_)
    · refine Weak.rd id ?_ ?_ rfl
      all_goals simp (config := { maxSteps := 2000000 }) (disch := (first | omega | (simp only [lens, lenm]; omega))) only [go_sem, ↓reduceIte, Nat.reduceAdd, Nat.reduceEqDiff, Nat.reduceSub, Nat.reduceMul, Nat.reduceLT, Nat.reduceLeDiff, Nat.reduceBEq, Int.reduceEq, Int.reduceLT, Int.reduceLE, Int.reduceToNat, Int.reduceNeg, Int.reduceAdd, Int.reduceSub, Int.reduceMul, Int.reduceMod, Int.reduceDiv, reduceCtorEq, Nat.reducePow, Int.reducePow, id, List.map_nil]
    · rcases (show k = 0 ∨ k = 1 ∨ k = 2 by omega) with rfl | rfl | rfl
      · simp (config := { maxSteps := 2000000 }) (disch := (first | omega | (simp only [lens, lenm]; omega))) only [go_sem, ↓reduceIte, Nat.reduceAdd, Nat.reduceEqDiff, Nat.reduceSub, Nat.reduceMul, Nat.reduceLT, Nat.reduceLeDiff, Nat.reduceBEq, Int.reduceEq, Int.reduceLT, Int.reduceLE, Int.reduceToNat, Int.reduceNeg, Int.reduceAdd, Int.reduceSub, Int.reduceMul, Int.reduceMod, Int.reduceDiv, reduceCtorEq, Nat.reducePow, Int.reducePow, ac_ref8_Digests_L0, h1, h2, c0, c1, sumA_eq0, sumA_eq1, List.map_nil]
        refine Weak.cv (hv := []) [28736] id ?_ rfl
        simp (config := { maxSteps := 2000000 }) (disch := (first | omega | (simp only [lens, lenm]; omega))) only [go_sem, ↓reduceIte, Nat.reduceAdd, Nat.reduceEqDiff, Nat.reduceSub, Nat.reduceMul, Nat.reduceLT, Nat.reduceLeDiff, Nat.reduceBEq, Int.reduceEq, Int.reduceLT, Int.reduceLE, Int.reduceToNat, Int.reduceNeg, Int.reduceAdd, Int.reduceSub, Int.reduceMul, Int.reduceMod, Int.reduceDiv, reduceCtorEq, Nat.reducePow, Int.reducePow, id, take_sum1, take_sum256, List.map_nil, sum1_length, sum256_length]
        all_goals rfl
      · simp (config := { maxSteps := 2000000 }) (disch := (first | omega | (simp only [lens, lenm]; omega))) only [go_sem, ↓reduceIte, Nat.reduceAdd, Nat.reduceEqDiff, Nat.reduceSub, Nat.reduceMul, Nat.reduceLT, Nat.reduceLeDiff, Nat.reduceBEq, Int.reduceEq, Int.reduceLT, Int.reduceLE, Int.reduceToNat, Int.reduceNeg, Int.reduceAdd, Int.reduceSub, Int.reduceMul, Int.reduceMod, Int.reduceDiv, reduceCtorEq, Nat.reducePow, Int.reducePow, ac_ref8_Digests_L0, h1, h2, c0, c1, sumA_eq0, sumA_eq1, List.map_nil]
        refine Weak.rd id ?_ ?_ rfl
        all_goals simp (config := { maxSteps := 2000000 }) (disch := (first | omega | (simp only [lens, lenm]; omega))) only [go_sem, ↓reduceIte, Nat.reduceAdd, Nat.reduceEqDiff, Nat.reduceSub, Nat.reduceMul, Nat.reduceLT, Nat.reduceLeDiff, Nat.reduceBEq, Int.reduceEq, Int.reduceLT, Int.reduceLE, Int.reduceToNat, Int.reduceNeg, Int.reduceAdd, Int.reduceSub, Int.reduceMul, Int.reduceMod, Int.reduceDiv, reduceCtorEq, Nat.reducePow, Int.reducePow, id, List.map_nil]
      · simp (config := { maxSteps := 2000000 }) (disch := (first | omega | (simp only [lens, lenm]; omega))) only [go_sem, ↓reduceIte, Nat.reduceAdd, Nat.reduceEqDiff, Nat.reduceSub, Nat.reduceMul, Nat.reduceLT, Nat.reduceLeDiff, Nat.reduceBEq, Int.reduceEq, Int.reduceLT, Int.reduceLE, Int.reduceToNat, Int.reduceNeg, Int.reduceAdd, Int.reduceSub, Int.reduceMul, Int.reduceMod, Int.reduceDiv, reduceCtorEq, Nat.reducePow, Int.reducePow, ac_ref8_Digests_L0, h1, h2, c0, c1, sumA_eq0, sumA_eq1, List.map_nil, List.map_cons, List.map_nil]
  · have hdig : digB bk data = [sum1 data, sum256 data] := by rw [digB, o0, o1]; rfl
    rw [hdig]
    refine loop_upto 2 (fun k => match k with | 0 => [(1, .t (.sl (data.map byteT))), (2, .ref 4096 0 0), (5, .sl 8192 0 2), (6, .t (.int .i64 0))] | 1 => [(1, .t (.sl (data.map byteT))), (2, .ref 4096 0 0), (5, .sl 8192 0 2), (6, .t (.int .i64 1))] | _ => [(1, .t (.sl (data.map byteT))), (2, .ref 4096 0 0), (5, .sl 8192 0 2), (6, .t (.int .i64 2))]) (fun k => match k with | 0 => [(8192, .live 1 [.t (bsT []), .t (bsT [])] true false), (4096, .live 2 [.t (regT bk u)] true true)] | 1 => [(8192, .live 1 [.t (bsT (sum1 data)), .t (bsT [])] true false), (4096, .live 2 [.t (regT bk u)] true true)] | _ => [(8192, .live 1 [.t (bsT (sum1 data)), .t (bsT (sum256 data))] true false), (4096, .live 2 [.t (regT bk u)] true true)]) ?_ (fun k hk2 => ?_)
    · refine Weak.rd id ?_ ?_ rfl
      all_goals simp (config := { maxSteps := 2000000 }) (disch := (first | omega | (simp only [lens, lenm]; omega))) only [go_sem, ↓reduceIte, Nat.reduceAdd, Nat.reduceEqDiff, Nat.reduceSub, Nat.reduceMul, Nat.reduceLT, Nat.reduceLeDiff, Nat.reduceBEq, Int.reduceEq, Int.reduceLT, Int.reduceLE, Int.reduceToNat, Int.reduceNeg, Int.reduceAdd, Int.reduceSub, Int.reduceMul, Int.reduceMod, Int.reduceDiv, reduceCtorEq, Nat.reducePow, Int.reducePow, id, List.map_nil]
    · rcases (show k = 0 ∨ k = 1 ∨ k = 2 by omega) with rfl | rfl | rfl
      · simp (config := { maxSteps := 2000000 }) (disch := (first | omega | (simp only [lens, lenm]; omega))) only [go_sem, ↓reduceIte, Nat.reduceAdd, Nat.reduceEqDiff, Nat.reduceSub, Nat.reduceMul, Nat.reduceLT, Nat.reduceLeDiff, Nat.reduceBEq, Int.reduceEq, Int.reduceLT, Int.reduceLE, Int.reduceToNat, Int.reduceNeg, Int.reduceAdd, Int.reduceSub, Int.reduceMul, Int.reduceMod, Int.reduceDiv, reduceCtorEq, Nat.reducePow, Int.reducePow, ac_ref8_Digests_L0, h1, h2, c0, c1, sumA_eq0, sumA_eq1, List.map_nil]
        refine Weak.cv (hv := []) [28736] id ?_ rfl
        simp (config := { maxSteps := 2000000 }) (disch := (first | omega | (simp only [lens, lenm]; omega))) only [go_sem, ↓reduceIte, Nat.reduceAdd, Nat.reduceEqDiff, Nat.reduceSub, Nat.reduceMul, Nat.reduceLT, Nat.reduceLeDiff, Nat.reduceBEq, Int.reduceEq, Int.reduceLT, Int.reduceLE, Int.reduceToNat, Int.reduceNeg, Int.reduceAdd, Int.reduceSub, Int.reduceMul, Int.reduceMod, Int.reduceDiv, reduceCtorEq, Nat.reducePow, Int.reducePow, id, take_sum1, take_sum256, List.map_nil, sum1_length, sum256_length]
        all_goals rfl
      · simp (config := { maxSteps := 2000000 }) (disch := (first | omega | (simp only [lens, lenm]; omega))) only [go_sem, ↓reduceIte, Nat.reduceAdd, Nat.reduceEqDiff, Nat.reduceSub, Nat.reduceMul, Nat.reduceLT, Nat.reduceLeDiff, Nat.reduceBEq, Int.reduceEq, Int.reduceLT, Int.reduceLE, Int.reduceToNat, Int.reduceNeg, Int.reduceAdd, Int.reduceSub, Int.reduceMul, Int.reduceMod, Int.reduceDiv, reduceCtorEq, Nat.reducePow, Int.reducePow, ac_ref8_Digests_L0, h1, h2, c0, c1, sumA_eq0, sumA_eq1, List.map_nil]
        refine Weak.cv (hv := []) [28736] id ?_ rfl
        simp (config := { maxSteps := 2000000 }) (disch := (first | omega | (simp only [lens, lenm]; omega))) only [go_sem, ↓reduceIte, Nat.reduceAdd, Nat.reduceEqDiff, Nat.reduceSub, Nat.reduceMul, Nat.reduceLT, Nat.reduceLeDiff, Nat.reduceBEq, Int.reduceEq, Int.reduceLT, Int.reduceLE, Int.reduceToNat, Int.reduceNeg, Int.reduceAdd, Int.reduceSub, Int.reduceMul, Int.reduceMod, Int.reduceDiv, reduceCtorEq, Nat.reducePow, Int.reducePow, id, take_sum1, take_sum256, List.map_nil, sum1_length, sum256_length]
        all_goals rfl
      · simp (config := { maxSteps := 2000000 }) (disch := (first | omega | (simp only [lens, lenm]; omega))) only [go_sem, ↓reduceIte, Nat.reduceAdd, Nat.reduceEqDiff, Nat.reduceSub, Nat.reduceMul, Nat.reduceLT, Nat.reduceLeDiff, Nat.reduceBEq, Int.reduceEq, Int.reduceLT, Int.reduceLE, Int.reduceToNat, Int.reduceNeg, Int.reduceAdd, Int.reduceSub, Int.reduceMul, Int.reduceMod, Int.reduceDiv, reduceCtorEq, Nat.reducePow, Int.reducePow, ac_ref8_Digests_L0, h1, h2, c0, c1, sumA_eq0, sumA_eq1, List.map_nil, List.map_cons, List.map_nil]
def ct_dig : Ct where
  α := List Bank × Int × List UInt8
  as x := [.t (regT x.1 x.2.1), .t (.sl (x.2.2.map byteT))]
  ins _ := []
  pre x := RK x.1 ∧ x.2.2.length < 1000000000
  r x := .t (.sl ((digB x.1 x.2.2).map bsT))
  outs _ := []
  inj := by
    rintro ⟨a, u, d⟩ ⟨b, v, d'⟩ h _
    simp only [List.cons.injEq, V.t.injEq, T.sl.injEq, and_true, mapB_inj] at h
    obtain ⟨h1, rfl⟩ := h
    obtain ⟨rfl, rfl⟩ := regT_inj h1
    exact ⟨rfl, rfl⟩
theorem w_registers_Event (tab : Tab) (gl : Gl) (n1 n2 n3 : Nat) (h1 : tab.look n1 = some ct_on.fs) (h2 : tab.look n2 = some ct_sumA.fs) (h3 : tab.look n3 = some ct_ext.fs) (bk : List Bank) (u loc i : Int) (data : List UInt8) (hk : RV bk) (hu : 0 ≤ u ∧ u < 1000000000) (hd : data.length < 1000000000) :
    (ac_registers_Event n1 n2 n3).wp tab gl (zipF 0 [.t (regT bk u), .t (.int .i64 loc), .t (.int .i64 i), .t (.sl (data.map byteT))]) (zipF 0 []) (resW [(8, some (2, true)), (9, none)] 0 (fun r o => r = evR bk u loc i data ∧ o = [])) := by
  have c0 := on_eq (u := u) (a := 0) hk.1 (by omega)
  have c1 := on_eq (u := u) (a := 1) hk.1 (by omega)
  rw [show ((0 : Nat) : Int) = 0 from rfl] at c0
  rw [show ((1 : Nat) : Int) = 1 from rfl] at c1
  by_cases hl : 128 < data.length
  · simp (config := { maxSteps := 2000000 }) (disch := (first | omega | (simp only [lens, lenm]; omega))) only [go_sem, ↓reduceIte, Nat.reduceAdd, Nat.reduceEqDiff, Nat.reduceSub, Nat.reduceMul, Nat.reduceLT, Nat.reduceLeDiff, Nat.reduceBEq, Int.reduceEq, Int.reduceLT, Int.reduceLE, Int.reduceToNat, Int.reduceNeg, Int.reduceAdd, Int.reduceSub, Int.reduceMul, Int.reduceMod, Int.reduceDiv, reduceCtorEq, Nat.reducePow, Int.reducePow, ac_registers_Event, evR, hl, List.map_nil]
  rw [evR, if_neg hl]
  have hx := ext_eq (bk := bk) (u := u) (loc := loc) (i := i) (ds := digB bk data) ⟨hk, hu, digB_pre.1, digB_pre.2⟩
  obtain ⟨bk', u', e, he⟩ := extR_shape (bk := bk) (u := u) (loc := loc) (i := i) (ds := digB bk data)
  rw [he] at hx
  rw [he]
  simp (config := { maxSteps := 2000000 }) (disch := (first | omega | (simp only [lens, lenm]; omega))) only [go_sem, ↓reduceIte, Nat.reduceAdd, Nat.reduceEqDiff, Nat.reduceSub, Nat.reduceMul, Nat.reduceLT, Nat.reduceLeDiff, Nat.reduceBEq, Int.reduceEq, Int.reduceLT, Int.reduceLE, Int.reduceToNat, Int.reduceNeg, Int.reduceAdd, Int.reduceSub, Int.reduceMul, Int.reduceMod, Int.reduceDiv, reduceCtorEq, Nat.reducePow, Int.reducePow, ac_registers_Event]
  cases o0 : onB bk 0 <;> cases o1 : onB bk 1 <;> rw [o0] at c0 <;> rw [o1] at c1
  · have hdig : digB bk data = [[], []] := by rw [digB, o0, o1]; rfl
    have hx' := hx
    rw [hdig] at hx'
    simp only [List.map_cons, List.map_nil, bsT_def] at hx'
    refine loop_upto 2 (fun k => match k with | 0 => [(1, .t (.int .i64 loc)), (2, .t (.int .i64 i)), (3, .t (.sl (data.map byteT))), (4, .ref 4096 0 0), (8, .ref 4112 0 0), (10, .sl 16384 0 2), (18, .t (.int .i64 2)), (19, .t (.int .i64 0))] | 1 => [(1, .t (.int .i64 loc)), (2, .t (.int .i64 i)), (3, .t (.sl (data.map byteT))), (4, .ref 4096 0 0), (8, .ref 4112 0 0), (10, .sl 16384 0 2), (18, .t (.int .i64 2)), (19, .t (.int .i64 1))] | _ => [(1, .t (.int .i64 loc)), (2, .t (.int .i64 i)), (3, .t (.sl (data.map byteT))), (4, .ref 4096 0 0), (8, .ref 4112 0 0), (10, .sl 16384 0 2), (18, .t (.int .i64 2)), (19, .t (.int .i64 2))]) (fun k => match k with | 0 => [(16384, .live 1 [.t (bsT []), .t (bsT [])] true false), (4112, .live 2 [.agg [.nil, .t (.int .i64 0)]] true true), (4096, .live 2 [.t (regT bk u)] true true)] | 1 => [(16384, .live 1 [.t (bsT ([])), .t (bsT [])] true false), (4112, .live 2 [.agg [.nil, .t (.int .i64 0)]] true true), (4096, .live 2 [.t (regT bk u)] true true)] | _ => [(16384, .live 1 [.t (bsT ([])), .t (bsT ([]))] true false), (4112, .live 2 [.agg [.nil, .t (.int .i64 0)]] true true), (4096, .live 2 [.t (regT bk u)] true true)]) ?_ (fun k hk2 => ?_)
    · refine Weak.rd id ?_ ?_ rfl
      all_goals simp (config := { maxSteps := 2000000 }) (disch := (first | omega | (simp only [lens, lenm]; omega))) only [go_sem, ↓reduceIte, Nat.reduceAdd, Nat.reduceEqDiff, Nat.reduceSub, Nat.reduceMul, Nat.reduceLT, Nat.reduceLeDiff, Nat.reduceBEq, Int.reduceEq, Int.reduceLT, Int.reduceLE, Int.reduceToNat, Int.reduceNeg, Int.reduceAdd, Int.reduceSub, Int.reduceMul, Int.reduceMod, Int.reduceDiv, reduceCtorEq, Nat.reducePow, Int.reducePow, id, List.map_nil]
    · rcases (show k = 0 ∨ k = 1 ∨ k = 2 by omega) with rfl | rfl | rfl
      · simp (config := { maxSteps := 2000000 }) (disch := (first | omega | (simp only [lens, lenm]; omega))) only [go_sem, ↓reduceIte, Nat.reduceAdd, Nat.reduceEqDiff, Nat.reduceSub, Nat.reduceMul, Nat.reduceLT, Nat.reduceLeDiff, Nat.reduceBEq, Int.reduceEq, Int.reduceLT, Int.reduceLE, Int.reduceToNat, Int.reduceNeg, Int.reduceAdd, Int.reduceSub, Int.reduceMul, Int.reduceMod, Int.reduceDiv, reduceCtorEq, Nat.reducePow, Int.reducePow, ac_registers_Event_L0, h1, h2, c0, c1, sumA_eq0, sumA_eq1, List.map_nil]
        refine Weak.rd id ?_ ?_ rfl
        all_goals simp (config := { maxSteps := 2000000 }) (disch := (first | omega | (simp only [lens, lenm]; omega))) only [go_sem, ↓reduceIte, Nat.reduceAdd, Nat.reduceEqDiff, Nat.reduceSub, Nat.reduceMul, Nat.reduceLT, Nat.reduceLeDiff, Nat.reduceBEq, Int.reduceEq, Int.reduceLT, Int.reduceLE, Int.reduceToNat, Int.reduceNeg, Int.reduceAdd, Int.reduceSub, Int.reduceMul, Int.reduceMod, Int.reduceDiv, reduceCtorEq, Nat.reducePow, Int.reducePow, id, List.map_nil]
      · simp (config := { maxSteps := 2000000 }) (disch := (first | omega | (simp only [lens, lenm]; omega))) only [go_sem, ↓reduceIte, Nat.reduceAdd, Nat.reduceEqDiff, Nat.reduceSub, Nat.reduceMul, Nat.reduceLT, Nat.reduceLeDiff, Nat.reduceBEq, Int.reduceEq, Int.reduceLT, Int.reduceLE, Int.reduceToNat, Int.reduceNeg, Int.reduceAdd, Int.reduceSub, Int.reduceMul, Int.reduceMod, Int.reduceDiv, reduceCtorEq, Nat.reducePow, Int.reducePow, ac_registers_Event_L0, h1, h2, c0, c1, sumA_eq0, sumA_eq1, List.map_nil]
        refine Weak.rd id ?_ ?_ rfl
        all_goals simp (config := { maxSteps := 2000000 }) (disch := (first | omega | (simp only [lens, lenm]; omega))) only [go_sem, ↓reduceIte, Nat.reduceAdd, Nat.reduceEqDiff, Nat.reduceSub, Nat.reduceMul, Nat.reduceLT, Nat.reduceLeDiff, Nat.reduceBEq, Int.reduceEq, Int.reduceLT, Int.reduceLE, Int.reduceToNat, Int.reduceNeg, Int.reduceAdd, Int.reduceSub, Int.reduceMul, Int.reduceMod, Int.reduceDiv, reduceCtorEq, Nat.reducePow, Int.reducePow, id, List.map_nil]
      · simp (config := { maxSteps := 2000000 }) (disch := (first | omega | (simp only [lens, lenm]; omega))) only [go_sem, ↓reduceIte, Nat.reduceAdd, Nat.reduceEqDiff, Nat.reduceSub, Nat.reduceMul, Nat.reduceLT, Nat.reduceLeDiff, Nat.reduceBEq, Int.reduceEq, Int.reduceLT, Int.reduceLE, Int.reduceToNat, Int.reduceNeg, Int.reduceAdd, Int.reduceSub, Int.reduceMul, Int.reduceMod, Int.reduceDiv, reduceCtorEq, Nat.reducePow, Int.reducePow, ac_registers_Event_L0, h1, h2, c0, c1, sumA_eq0, sumA_eq1, List.map_nil, List.map_cons, h3, hx']
  · have hdig : digB bk data = [[], sum256 data] := by rw [digB, o0, o1]; rfl
    have hx' := hx
    rw [hdig] at hx'
    simp only [List.map_cons, List.map_nil, bsT_def] at hx'
    refine loop_upto 2 (fun k => match k with | 0 => [(1, .t (.int .i64 loc)), (2, .t (.int .i64 i)), (3, .t (.sl (data.map byteT))), (4, .ref 4096 0 0), (8, .ref 4112 0 0), (10, .sl 16384 0 2), (18, .t (.int .i64 2)), (19, .t (.int .i64 0))] | 1 => [(1, .t (.int .i64 loc)), (2, .t (.int .i64 i)), (3, .t (.sl (data.map byteT))), (4, .ref 4096 0 0), (8, .ref 4112 0 0), (10, .sl 16384 0 2), (18, .t (.int .i64 2)), (19, .t (.int .i64 1))] | _ => [(1, .t (.int .i64 loc)), (2, .t (.int .i64 i)), (3, .t (.sl (data.map byteT))), (4, .ref 4096 0 0), (8, .ref 4112 0 0), (10, .sl 16384 0 2), (18, .t (.int .i64 2)), (19, .t (.int .i64 2))]) (fun k => match k with | 0 => [(16384, .live 1 [.t (bsT []), .t (bsT [])] true false), (4112, .live 2 [.agg [.nil, .t (.int .i64 0)]] true true), (4096, .live 2 [.t (regT bk u)] true true)] | 1 => [(16384, .live 1 [.t (bsT ([])), .t (bsT [])] true false), (4112, .live 2 [.agg [.nil, .t (.int .i64 0)]] true true), (4096, .live 2 [.t (regT bk u)] true true)] | _ => [(16384, .live 1 [.t (bsT ([])), .t (bsT (sum256 data))] true false), (4112, .live 2 [.agg [.nil, .t (.int .i64 0)]] true true), (4096, .live 2 [.t (regT bk u)] true true)]) ?_ (fun k hk2 => ?_)
    · refine Weak.rd id ?_ ?_ rfl
      all_goals simp (config := { maxSteps := 2000000 }) (disch := (first | omega | (simp only [lens, lenm]; omega))) only [go_sem, ↓reduceIte, Nat.reduceAdd, Nat.reduceEqDiff, Nat.reduceSub, Nat.reduceMul, Nat.reduceLT, Nat.reduceLeDiff, Nat.reduceBEq, Int.reduceEq, Int.reduceLT, Int.reduceLE, Int.reduceToNat, Int.reduceNeg, Int.reduceAdd, Int.reduceSub, Int.reduceMul, Int.reduceMod, Int.reduceDiv, reduceCtorEq, Nat.reducePow, Int.reducePow, id, List.map_nil]
    · rcases (show k = 0 ∨ k = 1 ∨ k = 2 by omega) with rfl | rfl | rfl
      · simp (config := { maxSteps := 2000000 }) (disch := (first | omega | (simp only [lens, lenm]; omega))) only [go_sem, ↓reduceIte, Nat.reduceAdd, Nat.reduceEqDiff, Nat.reduceSub, Nat.reduceMul, Nat.reduceLT, Nat.reduceLeDiff, Nat.reduceBEq, Int.reduceEq, Int.reduceLT, Int.reduceLE, Int.reduceToNat, Int.reduceNeg, Int.reduceAdd, Int.reduceSub, Int.reduceMul, Int.reduceMod, Int.reduceDiv, reduceCtorEq, Nat.reducePow, Int.reducePow, ac_registers_Event_L0, h1, h2, c0, c1, sumA_eq0, sumA_eq1, List.map_nil]
        refine Weak.rd id ?_ ?_ rfl
        all_goals simp (config := { maxSteps := 2000000 }) (disch := (first | omega | (simp only [lens, lenm]; omega))) only [go_sem, ↓reduceIte, Nat.reduceAdd, Nat.reduceEqDiff, Nat.reduceSub, Nat.reduceMul, Nat.reduceLT, Nat.reduceLeDiff, Nat.reduceBEq, Int.reduceEq, Int.reduceLT, Int.reduceLE, Int.reduceToNat, Int.reduceNeg, Int.reduceAdd, Int.reduceSub, Int.reduceMul, Int.reduceMod, Int.reduceDiv, reduceCtorEq, Nat.reducePow, Int.reducePow, id, List.map_nil]
      · simp (config := { maxSteps := 2000000 }) (disch := (first | omega | (simp only [lens, lenm]; omega))) only [go_sem, ↓reduceIte, Nat.reduceAdd, Nat.reduceEqDiff, Nat.reduceSub, Nat.reduceMul, Nat.reduceLT, Nat.reduceLeDiff, Nat.reduceBEq, Int.reduceEq, Int.reduceLT, Int.reduceLE, Int.reduceToNat, Int.reduceNeg, Int.reduceAdd, Int.reduceSub, Int.reduceMul, Int.reduceMod, Int.reduceDiv, reduceCtorEq, Nat.reducePow, Int.reducePow, ac_registers_Event_L0, h1, h2, c0, c1, sumA_eq0, sumA_eq1, List.map_nil]
        refine Weak.cv (hv := []) [36928] id ?_ rfl
        simp (config := { maxSteps := 2000000 }) (disch := (first | omega | (simp only [lens, lenm]; omega))) only [go_sem, ↓reduceIte, Nat.reduceAdd, Nat.reduceEqDiff, Nat.reduceSub, Nat.reduceMul, Nat.reduceLT, Nat.reduceLeDiff, Nat.reduceBEq, Int.reduceEq, Int.reduceLT, Int.reduceLE, Int.reduceToNat, Int.reduceNeg, Int.reduceAdd, Int.reduceSub, Int.reduceMul, Int.reduceMod, Int.reduceDiv, reduceCtorEq, Nat.reducePow, Int.reducePow, id, take_sum1, take_sum256, List.map_nil, sum1_length, sum256_length]
        all_goals rfl
      · simp (config := { maxSteps := 2000000 }) (disch := (first | omega | (simp only [lens, lenm]; omega))) only [go_sem, ↓reduceIte, Nat.reduceAdd, Nat.reduceEqDiff, Nat.reduceSub, Nat.reduceMul, Nat.reduceLT, Nat.reduceLeDiff, Nat.reduceBEq, Int.reduceEq, Int.reduceLT, Int.reduceLE, Int.reduceToNat, Int.reduceNeg, Int.reduceAdd, Int.reduceSub, Int.reduceMul, Int.reduceMod, Int.reduceDiv, reduceCtorEq, Nat.reducePow, Int.reducePow, ac_registers_Event_L0, h1, h2, c0, c1, sumA_eq0, sumA_eq1, List.map_nil, List.map_cons, h3, hx']
  · have hdig : digB bk data = [sum1 data, []] := by rw [digB, o0, o1]; rfl
    have hx' := hx
    rw [hdig] at hx'
    simp only [List.map_cons, List.map_nil, bsT_def] at hx'
    refine loop_upto 2 (fun k => match k with | 0 => [(1, .t (.int .i64 loc)), (2, .t (.int .i64 i)), (3, .t (.sl (data.map byteT))), (4, .ref 4096 0 0), (8, .ref 4112 0 0), (10, .sl 16384 0 2), (18, .t (.int .i64 2)), (19, .t (.int .i64 0))] | 1 => [(1, .t (.int .i64 loc)), (2, .t (.int .i64 i)), (3, .t (.sl (data.map byteT))), (4, .ref 4096 0 0), (8, .ref 4112 0 0), (10, .sl 16384 0 2), (18, .t (.int .i64 2)), (19, .t (.int .i64 1))] | _ => [(1, .t (.int .i64 loc)), (2, .t (.int .i64 i)), (3, .t (.sl (data.map byteT))), (4, .ref 4096 0 0), (8, .ref 4112 0 0), (10, .sl 16384 0 2), (18, .t (.int .i64 2)), (19, .t (.int .i64 2))]) (fun k => match k with | 0 => [(16384, .live 1 [.t (bsT []), .t (bsT [])] true false), (4112, .live 2 [.agg [.nil, .t (.int .i64 0)]] true true), (4096, .live 2 [.t (regT bk u)] true true)] | 1 => [(16384, .live 1 [.t (bsT (sum1 data)), .t (bsT [])] true false), (4112, .live 2 [.agg [.nil, .t (.int .i64 0)]] true true), (4096, .live 2 [.t (regT bk u)] true true)] | _ => [(16384, .live 1 [.t (bsT (sum1 data)), .t (bsT ([]))] true false), (4112, .live 2 [.agg [.nil, .t (.int .i64 0)]] true true), (4096, .live 2 [.t (regT bk u)] true true)]) ?_ (fun k hk2 => ?_)
    · refine Weak.rd id ?_ ?_ rfl
      all_goals simp (config := { maxSteps := 2000000 }) (disch := (first | omega | (simp only [lens, lenm]; omega))) only [go_sem, ↓reduceIte, Nat.reduceAdd, Nat.reduceEqDiff, Nat.reduceSub, Nat.reduceMul, Nat.reduceLT, Nat.reduceLeDiff, Nat.reduceBEq, Int.reduceEq, Int.reduceLT, Int.reduceLE, Int.reduceToNat, Int.reduceNeg, Int.reduceAdd, Int.reduceSub, Int.reduceMul, Int.reduceMod, Int.reduceDiv, reduceCtorEq, Nat.reducePow, Int.reducePow, id, List.map_nil]
    · rcases (show k = 0 ∨ k = 1 ∨ k = 2 by omega) with rfl | rfl | rfl
      · simp (config := { maxSteps := 2000000 }) (disch := (first | omega | (simp only [lens, lenm]; omega))) only [go_sem, ↓reduceIte, Nat.reduceAdd, Nat.reduceEqDiff, Nat.reduceSub, Nat.reduceMul, Nat.reduceLT, Nat.reduceLeDiff, Nat.reduceBEq, Int.reduceEq, Int.reduceLT, Int.reduceLE, Int.reduceToNat, Int.reduceNeg, Int.reduceAdd, Int.reduceSub, Int.reduceMul, Int.reduceMod, Int.reduceDiv, reduceCtorEq, Nat.reducePow, Int.reducePow, ac_registers_Event_L0, h1, h2, c0, c1, sumA_eq0, sumA_eq1, List.map_nil]
        refine Weak.cv (hv := []) [36928] id ?_ rfl
        simp (config := { maxSteps := 2000000 }) (disch := (first | omega | (simp only [lens, lenm]; omega))) only [go_sem, ↓reduceIte, Nat.reduceAdd, Nat.reduceEqDiff, Nat.reduceSub, Nat.reduceMul, Nat.reduceLT, Nat.reduceLeDiff, Nat.reduceBEq, Int.reduceEq, Int.reduceLT, Int.reduceLE, Int.reduceToNat, Int.reduceNeg, Int.reduceAdd, Int.reduceSub, Int.reduceMul, Int.reduceMod, Int.reduceDiv, reduceCtorEq, Nat.reducePow, Int.reducePow, id, take_sum1, take_sum256, List.map_nil, sum1_length, sum256_length]
        all_goals rfl
      · simp (config := { maxSteps := 2000000 }) (disch := (first | omega | (simp only [lens, lenm]; omega))) only [go_sem, ↓reduceIte, Nat.reduceAdd, Nat.reduceEqDiff, Nat.reduceSub, Nat.reduceMul, Nat.reduceLT, Nat.reduceLeDiff, Nat.reduceBEq, Int.reduceEq, Int.reduceLT, Int.reduceLE, Int.reduceToNat, Int.reduceNeg, Int.reduceAdd, Int.reduceSub, Int.reduceMul, Int.reduceMod, Int.reduceDiv, reduceCtorEq, Nat.reducePow, Int.reducePow, ac_registers_Event_L0, h1, h2, c0, c1, sumA_eq0, sumA_eq1, List.map_nil]
        refine Weak.rd id ?_ ?_ rfl
        all_goals simp (config := { maxSteps := 2000000 }) (disch := (first | omega | (simp only [lens, lenm]; omega))) only [go_sem, ↓reduceIte, Nat.reduceAdd, Nat.reduceEqDiff, Nat.reduceSub, Nat.reduceMul, Nat.reduceLT, Nat.reduceLeDiff, Nat.reduceBEq, Int.reduceEq, Int.reduceLT, Int.reduceLE, Int.reduceToNat, Int.reduceNeg, Int.reduceAdd, Int.reduceSub, Int.reduceMul, Int.reduceMod, Int.reduceDiv, reduceCtorEq, Nat.reducePow, Int.reducePow, id, List.map_nil]
      · simp (config := { maxSteps := 2000000 }) (disch := (first | omega | (simp only [lens, lenm]; omega))) only [go_sem, ↓reduceIte, Nat.reduceAdd, Nat.reduceEqDiff, Nat.reduceSub, Nat.reduceMul, Nat.reduceLT, Nat.reduceLeDiff, Nat.reduceBEq, Int.reduceEq, Int.reduceLT, Int.reduceLE, Int.reduceToNat, Int.reduceNeg, Int.reduceAdd, Int.reduceSub, Int.reduceMul, Int.reduceMod, Int.reduceDiv, reduceCtorEq, Nat.reducePow, Int.reducePow, ac_registers_Event_L0, h1, h2, c0, c1, sumA_eq0, sumA_eq1, List.map_nil, List.map_cons, h3, hx']
  · have hdig : digB bk data = [sum1 data, sum256 data] := by rw [digB, o0, o1]; rfl
    have hx' := hx
    rw [hdig] at hx'
    simp only [List.map_cons, List.map_nil, bsT_def] at hx'
    refine loop_upto 2 (fun k => match k with | 0 => [(1, .t (.int .i64 loc)), (2, .t (.int .i64 i)), (3, .t (.sl (data.map byteT))), (4, .ref 4096 0 0), (8, .ref 4112 0 0), (10, .sl 16384 0 2), (18, .t (.int .i64 2)), (19, .t (.int .i64 0))] | 1 => [(1, .t (.int .i64 loc)), (2, .t (.int .i64 i)), (3, .t (.sl (data.map byteT))), (4, .ref 4096 0 0), (8, .ref 4112 0 0), (10, .sl 16384 0 2), (18, .t (.int .i64 2)), (19, .t (.int .i64 1))] | _ => [(1, .t (.int .i64 loc)), (2, .t (.int .i64 i)), (3, .t (.sl (data.map byteT))), (4, .ref 4096 0 0), (8, .ref 4112 0 0), (10, .sl 16384 0 2), (18, .t (.int .i64 2)), (19, .t (.int .i64 2))]) (fun k => match k with | 0 => [(16384, .live 1 [.t (bsT []), .t (bsT [])] true false), (4112, .live 2 [.agg [.nil, .t (.int .i64 0)]] true true), (4096, .live 2 [.t (regT bk u)] true true)] | 1 => [(16384, .live 1 [.t (bsT (sum1 data)), .t (bsT [])] true false), (4112, .live 2 [.agg [.nil, .t (.int .i64 0)]] true true), (4096, .live 2 [.t (regT bk u)] true true)] | _ => [(16384, .live 1 [.t (bsT (sum1 data)), .t (bsT (sum256 data))] true false), (4112, .live 2 [.agg [.nil, .t (.int .i64 0)]] true true), (4096, .live 2 [.t (regT bk u)] true true)]) ?_ (fun k hk2 => ?_)
    · refine Weak.rd id ?_ ?_ rfl
      all_goals simp (config := { maxSteps := 2000000 }) (disch := (first | omega | (simp only [lens, lenm]; omega))) only [go_sem, ↓reduceIte, Nat.reduceAdd, Nat.reduceEqDiff, Nat.reduceSub, Nat.reduceMul, Nat.reduceLT, Nat.reduceLeDiff, Nat.reduceBEq, Int.reduceEq, Int.reduceLT, Int.reduceLE, Int.reduceToNat, Int.reduceNeg, Int.reduceAdd, Int.reduceSub, Int.reduceMul, Int.reduceMod, Int.reduceDiv, reduceCtorEq, Nat.reducePow, Int.reducePow, id, List.map_nil]
    · rcases (show k = 0 ∨ k = 1 ∨ k = 2 by omega) with rfl | rfl | rfl
      · simp (config := { maxSteps := 2000000 }) (disch := (first | omega | (simp only [lens, lenm]; omega))) only [go_sem, ↓reduceIte, Nat.reduceAdd, Nat.reduceEqDiff, Nat.reduceSub, Nat.reduceMul, Nat.reduceLT, Nat.reduceLeDiff, Nat.reduceBEq, Int.reduceEq, Int.reduceLT, Int.reduceLE, Int.reduceToNat, Int.reduceNeg, Int.reduceAdd, Int.reduceSub, Int.reduceMul, Int.reduceMod, Int.reduceDiv, reduceCtorEq, Nat.reducePow, Int.reducePow, ac_registers_Event_L0, h1, h2, c0, c1, sumA_eq0, sumA_eq1, List.map_nil]
        refine Weak.cv (hv := []) [36928] id ?_ rfl
        simp (config := { maxSteps := 2000000 }) (disch := (first | omega | (simp only [lens, lenm]; omega))) only [go_sem, ↓reduceIte, Nat.reduceAdd, Nat.reduceEqDiff, Nat.reduceSub, Nat.reduceMul, Nat.reduceLT, Nat.reduceLeDiff, Nat.reduceBEq, Int.reduceEq, Int.reduceLT, Int.reduceLE, Int.reduceToNat, Int.reduceNeg, Int.reduceAdd, Int.reduceSub, Int.reduceMul, Int.reduceMod, Int.reduceDiv, reduceCtorEq, Nat.reducePow, Int.reducePow, id, take_sum1, take_sum256, List.map_nil, sum1_length, sum256_length]
        all_goals rfl
      · simp (config := { maxSteps := 2000000 }) (disch := (first | omega | (simp only [lens, lenm]; omega))) only [go_sem, ↓reduceIte, Nat.reduceAdd, Nat.reduceEqDiff, Nat.reduceSub, Nat.reduceMul, Nat.reduceLT, Nat.reduceLeDiff, Nat.reduceBEq, Int.reduceEq, Int.reduceLT, Int.reduceLE, Int.reduceToNat, Int.reduceNeg, Int.reduceAdd, Int.reduceSub, Int.reduceMul, Int.reduceMod, Int.reduceDiv, reduceCtorEq, Nat.reducePow, Int.reducePow, ac_registers_Event_L0, h1, h2, c0, c1, sumA_eq0, sumA_eq1, List.map_nil]
        refine Weak.cv (hv := []) [36928] id ?_ rfl
        simp (config := { maxSteps := 2000000 }) (disch := (first | omega | (simp only [lens, lenm]; omega))) only [go_sem, ↓reduceIte, Nat.reduceAdd, Nat.reduceEqDiff, Nat.reduceSub, Nat.reduceMul, Nat.reduceLT, Nat.reduceLeDiff, Nat.reduceBEq, Int.reduceEq, Int.reduceLT, Int.reduceLE, Int.reduceToNat, Int.reduceNeg, Int.reduceAdd, Int.reduceSub, Int.reduceMul, Int.reduceMod, Int.reduceDiv, reduceCtorEq, Nat.reducePow, Int.reducePow, id, take_sum1, take_sum256, List.map_nil, sum1_length, sum256_length]
        all_goals rfl
      · simp (config := { maxSteps := 2000000 }) (disch := (first | omega | (simp only [lens, lenm]; omega))) only [go_sem, ↓reduceIte, Nat.reduceAdd, Nat.reduceEqDiff, Nat.reduceSub, Nat.reduceMul, Nat.reduceLT, Nat.reduceLeDiff, Nat.reduceBEq, Int.reduceEq, Int.reduceLT, Int.reduceLE, Int.reduceToNat, Int.reduceNeg, Int.reduceAdd, Int.reduceSub, Int.reduceMul, Int.reduceMod, Int.reduceDiv, reduceCtorEq, Nat.reducePow, Int.reducePow, ac_registers_Event_L0, h1, h2, c0, c1, sumA_eq0, sumA_eq1, List.map_nil, List.map_cons, h3, hx']
theorem w_ref8_Event (tab : Tab) (gl : Gl) (n1 n2 : Nat) (h1 : tab.look n1 = some ct_dig.fs) (h2 : tab.look n2 = some ct_ext.fs) (bk : List Bank) (u loc i : Int) (data : List UInt8) (hk : RV bk) (hu : 0 ≤ u ∧ u < 1000000000) (hd : data.length < 1000000000) :
    (ac_ref8_Event n1 n2).wp tab gl (zipF 0 [.t (regT bk u), .t (.int .i64 loc), .t (.int .i64 i), .t (.sl (data.map byteT))]) (zipF 0 []) (resW [(8, some (2, true)), (9, none)] 0 (fun r o => r = evR bk u loc i data ∧ o = [])) := by
  by_cases hl : 128 < data.length
  · simp (config := { maxSteps := 2000000 }) (disch := (first | omega | (simp only [lens, lenm]; omega))) only [go_sem, ↓reduceIte, Nat.reduceAdd, Nat.reduceEqDiff, Nat.reduceSub, Nat.reduceMul, Nat.reduceLT, Nat.reduceLeDiff, Nat.reduceBEq, Int.reduceEq, Int.reduceLT, Int.reduceLE, Int.reduceToNat, Int.reduceNeg, Int.reduceAdd, Int.reduceSub, Int.reduceMul, Int.reduceMod, Int.reduceDiv, reduceCtorEq, Nat.reducePow, Int.reducePow, ac_ref8_Event, evR, hl, List.map_nil]
  rw [evR, if_neg hl]
  have hx := ext_eq (bk := bk) (u := u) (loc := loc) (i := i) (ds := digB bk data) ⟨hk, hu, digB_pre.1, digB_pre.2⟩
  obtain ⟨bk', u', e, he⟩ := extR_shape (bk := bk) (u := u) (loc := loc) (i := i) (ds := digB bk data)
  rw [he] at hx
  rw [he]
  have hdg : ct_dig.fs [.t (.agg [.sl (bk.map bankT), .int .i64 u]), .t (.sl (data.map byteT))] [] = some (.t (.sl ((digB bk data).map bsT)), []) := ct_dig.eq (bk, u, data) ⟨hk.1, hd⟩
  simp (config := { maxSteps := 2000000 }) (disch := (first | omega | (simp only [lens, lenm]; omega))) only [go_sem, ↓reduceIte, Nat.reduceAdd, Nat.reduceEqDiff, Nat.reduceSub, Nat.reduceMul, Nat.reduceLT, Nat.reduceLeDiff, Nat.reduceBEq, Int.reduceEq, Int.reduceLT, Int.reduceLE, Int.reduceToNat, Int.reduceNeg, Int.reduceAdd, Int.reduceSub, Int.reduceMul, Int.reduceMod, Int.reduceDiv, reduceCtorEq, Nat.reducePow, Int.reducePow, ac_ref8_Event, h1, h2, hdg, hx]
  all_goals rfl
end Go.Eng
end
section
set_option maxRecDepth 20000
set_option maxHeartbeats 64000000
namespace Go.Eng
theorem RM.bank {bk : List Bank} (h : RM bk) (a : Nat) : modL (bk.getD a []) := by
  by_cases ha : a < bk.length
  · have e : bk.getD a [] = bk[a] := by simp [List.getD, ha]
    rw [e]; exact h.2 _ (List.getElem_mem ha)
  · have e : bk.getD a [] = [] := by simp [List.getD, List.getElem?_eq_none (Nat.le_of_not_lt ha)]
    rw [e]; exact ⟨by simp, by simp⟩
end Go.Eng
end
section
namespace Go.Eng
def ac_law8_awake (n_registers_New n_registers_Event n_registers_Value : Nat) : AC :=
 (.seq
 (.reg 4096 none [
 ⟨some 0, (.op .mov), [.cst (.t (.bool false))], none⟩])
 (.seq
 (.reg 8192 none [
 ⟨some 6, (.call n_registers_New true), [.cst (.t (.int .i64 2))], none⟩,
 ⟨some 7, (.op (.bslice 1 1 (.t (byteT 0)) [0])), [.cst (.t (byteT 1))], none⟩,
 ⟨some 8, (.call n_registers_Event true), [.tmp 6, .cst (.t (.int .i64 0)), .cst (.t (.int .i64 3)), .tmp 7], none⟩,
 ⟨some 5, (.op .mov), [.tmp 8], none⟩,
 ⟨some 9, (.op (.extract 0)), [.tmp 5], none⟩,
 ⟨some 10, (.op (.extract 1)), [.tmp 5], none⟩,
 ⟨some 1, (.op (.new 2 [(.agg [.nil, (.t (.int .i64 0))])])), [], none⟩,
 ⟨none, (.op (.store 2)), [.tmp 1, .tmp 9], none⟩,
 ⟨some 2, (.op .mov), [.tmp 10], none⟩])
 (.seq
 (.reg 12288 none [
 ⟨some 12, (.op (.load 2 true)), [.tmp 1], none⟩,
 ⟨some 13, (.call n_registers_Value true), [.tmp 12, .cst (.t (.int .i64 1)), .cst (.t (.int .i64 3))], none⟩,
 ⟨some 11, (.op .mov), [.tmp 13], none⟩,
 ⟨some 14, (.op (.extract 0)), [.tmp 11], none⟩,
 ⟨some 15, (.op (.extract 1)), [.tmp 11], none⟩,
 ⟨some 3, (.op .mov), [.tmp 14], none⟩,
 ⟨some 4, (.op .mov), [.tmp 15], none⟩])
 (.seq
 (.reg 16384 none [
 ⟨some 16, (.op .mov), [.tmp 2], none⟩,
 ⟨some 17, (.op (.bin .eql)), [.tmp 16, .cst (.t (.int .i64 0))], none⟩,
 ⟨some 18, (.op .mov), [.tmp 17], none⟩,
 ⟨some 19, (.op .mov), [.tmp 4], some (18, true)⟩,
 ⟨some 20, (.op (.bin .eql)), [.tmp 19, .cst (.t (.int .i64 0))], some (18, true)⟩,
 ⟨some 21, (.op .pick), [.tmp 18, .tmp 20, .cst (.t (.bool false))], none⟩,
 ⟨some 22, (.op .mov), [.tmp 21], none⟩,
 ⟨some 23, (.op .mov), [.tmp 3], some (22, true)⟩,
 ⟨some 24, (.op .len), [.tmp 23], some (22, true)⟩,
 ⟨some 25, (.op (.bin .eql)), [.tmp 24, .cst (.t (.int .i64 32))], some (22, true)⟩,
 ⟨some 26, (.op .pick), [.tmp 22, .tmp 25, .cst (.t (.bool false))], none⟩,
 ⟨some 27, (.op .mov), [.tmp 26], none⟩,
 ⟨some 28, (.op .mov), [.tmp 3], some (27, true)⟩,
 ⟨some 29, (.op (.iaddr 1)), [.tmp 28, .cst (.t (.int .i64 0))], some (27, true)⟩,
 ⟨some 30, (.op (.load 1 false)), [.tmp 29], some (27, true)⟩,
 ⟨some 31, (.op (.bin .neq)), [.tmp 30, .cst (.t (byteT 0))], some (27, true)⟩,
 ⟨some 32, (.op .pick), [.tmp 27, .tmp 31, .cst (.t (.bool false))], none⟩,
 ⟨some 33, (.op .mov), [.tmp 32], none⟩,
 ⟨some 34, (.op (.faddr 1)), [.tmp 1], some (33, true)⟩,
 ⟨some 35, (.op (.load 1 false)), [.tmp 34], some (33, true)⟩,
 ⟨some 36, (.op (.bin .eql)), [.tmp 35, .cst (.t (.int .i64 1))], some (33, true)⟩,
 ⟨some 37, (.op .pick), [.tmp 33, .tmp 36, .cst (.t (.bool false))], none⟩,
 ⟨some 0, (.op .mov), [.tmp 37], none⟩])
 .ret))))
def hints_law8_awake : List (Nat × List Nat) := [(1, [0, 2]), (2, [1])]
def ac_law8_RegistersDigest (n_law8_awake n_draw_Registers n_registers_Digest n_ref8_Digest n_ref1_Same : Nat) : AC :=
 (.seq
 (.reg 4096 none [
 ⟨some 6, (.op .boxArr), [.tmp 2], none⟩,
 ⟨some 8, (.op .mov), [.cst (.t (.bool false))], none⟩])
 (.seq
 (.seq
 (.reg 8192 none [
 ⟨some 19, (.call n_law8_awake false), [], none⟩,
 ⟨some 20, (.op (.un .not)), [.tmp 19], none⟩])
 (.cond (.tmp 20)
 (.seq
 (.reg 12288 none [
 ⟨some 8, (.op .mov), [.cst (.t (.bool false))], none⟩])
 .ret)
 .skip))
 (.seq
 (.reg 16384 none [
 ⟨some 21, (.op .mov), [.tmp 0], none⟩,
 ⟨some 22, (.op .mov), [.tmp 1], none⟩,
 ⟨some 23, (.call n_draw_Registers true), [.tmp 21, .tmp 22], none⟩,
 ⟨some 9, (.op (.new 2 [(.agg [.nil, (.t (.int .i64 0))])])), [], none⟩,
 ⟨none, (.op (.store 2)), [.tmp 9, .tmp 23], none⟩])
 (.seq
 (.reg 20480 none [
 ⟨some 24, (.op (.aaddr 2 1)), [.tmp 6, .cst (.t (.int .i64 0))], none⟩,
 ⟨some 25, (.op (.load 1 false)), [.tmp 24], none⟩,
 ⟨some 26, (.op (.bin .and)), [.tmp 25, .cst (.t (.int .i64 65535))], none⟩,
 ⟨some 27, (.op (.aaddr 2 1)), [.tmp 6, .cst (.t (.int .i64 1))], none⟩,
 ⟨some 28, (.op (.load 1 false)), [.tmp 27], none⟩,
 ⟨some 29, (.op (.bin .and)), [.tmp 28, .cst (.t (.int .i64 65535))], none⟩,
 ⟨some 30, (.op (.build [(.t (.int .i64 0)), (.t (.int .i64 0))] [(0, 1), (1, 1)])), [.tmp 26, .tmp 29], none⟩,
 ⟨some 10, (.op (.new 1 [(.t (.int .i64 0)), (.t (.int .i64 0))])), [], none⟩,
 ⟨none, (.op (.store 2)), [.tmp 10, .tmp 30], none⟩])
 (.seq
 (.seq
 (.reg 24576 none [
 ⟨some 31, (.op .mov), [.tmp 0], none⟩,
 ⟨some 32, (.op (.bin .and)), [.tmp 31, .cst (.t (.int .i64 1))], none⟩,
 ⟨some 33, (.op (.bin .eql)), [.tmp 32, .cst (.t (.int .i64 0))], none⟩,
 ⟨some 34, (.op .mov), [.tmp 33], none⟩,
 ⟨some 35, (.op .mov), [.tmp 3], some (34, true)⟩,
 ⟨some 36, (.op (.bin .and)), [.tmp 35, .cst (.t (.int .i64 1))], some (34, true)⟩,
 ⟨some 37, (.op (.bin .eql)), [.tmp 36, .cst (.t (.int .i64 0))], some (34, true)⟩,
 ⟨some 38, (.op .pick), [.tmp 34, .tmp 37, .cst (.t (.bool false))], none⟩])
 (.cond (.tmp 38)
 (.reg 28672 none [
 ⟨some 39, (.op (.aaddr 2 1)), [.tmp 10, .cst (.t (.int .i64 0))], none⟩,
 ⟨none, (.op (.store 1)), [.tmp 39, .cst (.t (.int .i64 0))], none⟩])
 .skip))
 (.seq
 (.seq
 (.reg 32768 none [
 ⟨some 40, (.op .mov), [.tmp 0], none⟩,
 ⟨some 41, (.op (.bin .and)), [.tmp 40, .cst (.t (.int .i64 2))], none⟩,
 ⟨some 42, (.op (.bin .eql)), [.tmp 41, .cst (.t (.int .i64 0))], none⟩,
 ⟨some 43, (.op .mov), [.tmp 42], none⟩,
 ⟨some 44, (.op .mov), [.tmp 3], some (43, true)⟩,
 ⟨some 45, (.op (.bin .and)), [.tmp 44, .cst (.t (.int .i64 1))], some (43, true)⟩,
 ⟨some 46, (.op (.bin .eql)), [.tmp 45, .cst (.t (.int .i64 0))], some (43, true)⟩,
 ⟨some 47, (.op .pick), [.tmp 43, .tmp 46, .cst (.t (.bool false))], none⟩])
 (.cond (.tmp 47)
 (.reg 36864 none [
 ⟨some 48, (.op (.aaddr 2 1)), [.tmp 10, .cst (.t (.int .i64 1))], none⟩,
 ⟨none, (.op (.store 1)), [.tmp 48, .cst (.t (.int .i64 0))], none⟩])
 .skip))
 (.seq
 (.reg 40960 none [
 ⟨some 50, (.op (.load 2 true)), [.tmp 9], none⟩,
 ⟨some 51, (.op (.load 2 true)), [.tmp 6], none⟩,
 ⟨some 52, (.call n_registers_Digest false), [.tmp 50, .tmp 51], none⟩,
 ⟨some 49, (.op .mov), [.tmp 52], none⟩,
 ⟨some 53, (.op (.extract 0)), [.tmp 49], none⟩,
 ⟨some 54, (.op (.extract 1)), [.tmp 49], none⟩,
 ⟨some 11, (.op .mov), [.tmp 53], none⟩,
 ⟨some 12, (.op .mov), [.tmp 54], none⟩])
 (.seq
 (.reg 45056 none [
 ⟨some 56, (.op (.load 2 true)), [.tmp 9], none⟩,
 ⟨some 57, (.op (.load 2 true)), [.tmp 6], none⟩,
 ⟨some 58, (.call n_ref8_Digest false), [.tmp 56, .tmp 57], none⟩,
 ⟨some 55, (.op .mov), [.tmp 58], none⟩,
 ⟨some 59, (.op (.extract 0)), [.tmp 55], none⟩,
 ⟨some 60, (.op (.extract 1)), [.tmp 55], none⟩,
 ⟨some 13, (.op .mov), [.tmp 59], none⟩,
 ⟨some 14, (.op .mov), [.tmp 60], none⟩])
 (.seq
 (.reg 49152 none [
 ⟨some 62, (.op (.load 2 true)), [.tmp 9], none⟩,
 ⟨some 63, (.op (.load 2 true)), [.tmp 10], none⟩,
 ⟨some 64, (.call n_registers_Digest false), [.tmp 62, .tmp 63], none⟩,
 ⟨some 61, (.op .mov), [.tmp 64], none⟩,
 ⟨some 65, (.op (.extract 0)), [.tmp 61], none⟩,
 ⟨some 66, (.op (.extract 1)), [.tmp 61], none⟩,
 ⟨some 15, (.op .mov), [.tmp 65], none⟩,
 ⟨some 16, (.op .mov), [.tmp 66], none⟩])
 (.seq
 (.reg 53248 none [
 ⟨some 68, (.op (.load 2 true)), [.tmp 9], none⟩,
 ⟨some 69, (.op (.load 2 true)), [.tmp 10], none⟩,
 ⟨some 70, (.call n_ref8_Digest false), [.tmp 68, .tmp 69], none⟩,
 ⟨some 67, (.op .mov), [.tmp 70], none⟩,
 ⟨some 71, (.op (.extract 0)), [.tmp 67], none⟩,
 ⟨some 72, (.op (.extract 1)), [.tmp 67], none⟩,
 ⟨some 17, (.op .mov), [.tmp 71], none⟩,
 ⟨some 18, (.op .mov), [.tmp 72], none⟩])
 (.seq
 (.reg 57344 none [
 ⟨some 73, (.op .mov), [.tmp 12], none⟩,
 ⟨some 74, (.op .mov), [.tmp 14], none⟩,
 ⟨some 75, (.op (.bin .eql)), [.tmp 73, .tmp 74], none⟩,
 ⟨some 76, (.op .mov), [.tmp 75], none⟩,
 ⟨some 77, (.op .mov), [.tmp 11], some (76, true)⟩,
 ⟨some 78, (.op .mov), [.tmp 13], some (76, true)⟩,
 ⟨some 79, (.call n_ref1_Same false), [.tmp 77, .tmp 78], some (76, true)⟩,
 ⟨some 80, (.op .pick), [.tmp 76, .tmp 79, .cst (.t (.bool false))], none⟩,
 ⟨some 81, (.op .mov), [.tmp 80], none⟩,
 ⟨some 82, (.op .mov), [.tmp 16], some (81, true)⟩,
 ⟨some 83, (.op .mov), [.tmp 18], some (81, true)⟩,
 ⟨some 84, (.op (.bin .eql)), [.tmp 82, .tmp 83], some (81, true)⟩,
 ⟨some 85, (.op .pick), [.tmp 81, .tmp 84, .cst (.t (.bool false))], none⟩,
 ⟨some 86, (.op .mov), [.tmp 85], none⟩,
 ⟨some 87, (.op .mov), [.tmp 15], some (86, true)⟩,
 ⟨some 88, (.op .mov), [.tmp 17], some (86, true)⟩,
 ⟨some 89, (.call n_ref1_Same false), [.tmp 87, .tmp 88], some (86, true)⟩,
 ⟨some 90, (.op .pick), [.tmp 86, .tmp 89, .cst (.t (.bool false))], none⟩,
 ⟨some 8, (.op .mov), [.tmp 90], none⟩])
 .ret)))))))))))
def hints_law8_RegistersDigest : List (Nat × List Nat) := [(3, [2])]
end Go.Eng
end
section
set_option maxRecDepth 20000
set_option maxHeartbeats 64000000
namespace Go.Eng
def ct_new : Ct where
  α := Int
  as s := [.t (.int .i64 s)]
  ins _ := []
  pre _ := True
  r s := twR (newBk s) 0
  outs s := twO (newBk s)
  inj := by
    rintro a b h _
    simp only [List.cons.injEq, V.t.injEq, T.int.injEq, true_and, and_true] at h
    subst h
    exact ⟨rfl, rfl⟩
def ct_ev : Ct where
  α := List Bank × Int × Int × Int × List UInt8
  as x := [.t (regT x.1 x.2.1), .t (.int .i64 x.2.2.1), .t (.int .i64 x.2.2.2.1), .t (.sl (x.2.2.2.2.map byteT))]
  ins _ := []
  pre x := RV x.1 ∧ (0 ≤ x.2.1 ∧ x.2.1 < 1000000000) ∧ x.2.2.2.2.length < 1000000000
  r x := evR x.1 x.2.1 x.2.2.1 x.2.2.2.1 x.2.2.2.2
  outs _ := []
  inj := by
    rintro ⟨a, u, l, i, d⟩ ⟨b, v, l', i', d'⟩ h _
    simp only [List.cons.injEq, V.t.injEq, T.int.injEq, T.sl.injEq, true_and, and_true, mapB_inj] at h
    obtain ⟨h1, rfl, rfl, rfl⟩ := h
    obtain ⟨rfl, rfl⟩ := regT_inj h1
    exact ⟨rfl, rfl⟩
def ct_val : Ct where
  α := List Bank × Int × Int × Int
  as x := [.t (regT x.1 x.2.1), .t (.int .i64 x.2.2.1), .t (.int .i64 x.2.2.2)]
  ins _ := []
  pre x := RM x.1
  r x := valR x.1 x.2.2.1 x.2.2.2
  outs x := valO x.1 x.2.2.1 x.2.2.2
  inj := by
    rintro ⟨a, u, l, i⟩ ⟨b, v, l', i'⟩ h _
    simp only [List.cons.injEq, V.t.injEq, T.int.injEq, true_and, and_true] at h
    obtain ⟨h1, rfl, rfl⟩ := h
    obtain ⟨rfl, rfl⟩ := regT_inj h1
    exact ⟨rfl, rfl⟩
theorem newB_ok {a : Nat} (ha : a < 2) : bkOk (newB a) := .inr newB_length
theorem newB_le {a : Nat} (ha : a < 2) : ∀ x ∈ newB a, x.length ≤ 64 := by
  intro x hx
  simp only [newB, List.mem_map, List.mem_range] at hx
  obtain ⟨i, _, rfl⟩ := hx
  simp only [List.length_replicate]
  have : a = 0 ∨ a = 1 := by omega
  rcases this with rfl | rfl <;> decide
theorem newBk_rv {s : Int} : RV (newBk s) := by
  unfold newBk
  split
  · exact ⟨.nil, by simp⟩
  · refine ⟨.two _ _ ?_ ?_, ?_⟩
    · split
      · exact newB_ok (by omega)
      · exact .inl rfl
    · split
      · exact newB_ok (by omega)
      · exact .inl rfl
    · intro b hb
      simp only [List.mem_cons, List.not_mem_nil, or_false] at hb
      rcases hb with rfl | rfl
      · split
        · exact newB_le (by omega)
        · simp
      · split
        · exact newB_le (by omega)
        · simp
def awX : List UInt8 := sum256 (List.replicate 32 0 ++ sum256 [1])
theorem awX_ne : awX.getD 0 0 ≠ 0 := by decide +kernel
theorem aw_new : ct_new.fs [.t (.int .i64 2)] [] = some (.agg [.sl 0 0 2, .t (.int .i64 0)], [.live 1 [.sl 1 0 0, .sl 2 0 16] true false, .live 1 [] true false, .live 1 (((newB 1).map bsT).map V.t) true false]) := by
  refine (ct_new.eq (2 : Int) trivial).trans ?_
  rfl
theorem aw_ev : ct_ev.fs [.t (.agg [.sl [.sl [], .sl ((newB 1).map bsT)], .int .i64 0]), .t (.int .i64 0), .t (.int .i64 3), .t (.sl [byteT 1])] [] = some (.tup [.t (.agg [.sl [.sl [], .sl (((newB 1).set 3 awX).map bsT)], .int .i64 1]), .t (.int .i64 0)], []) := by
  refine (ct_ev.eq (newBk 2, 0, 0, 3, [1]) ⟨newBk_rv (s := 2), ⟨by decide, by decide⟩, by decide⟩).trans ?_
  have h : evR (newBk 2) 0 0 3 [1] = .tup [.t (regT [[], (newB 1).set 3 awX] 1), .t (.int .i64 0)] := by
    have e1 : newBk 2 = [[], newB 1] := rfl
    have e2 : digB [[], newB 1] [1] = [[], sum256 [1]] := by simp [digB, onB, newB_length]
    rw [evR, if_neg (by decide), e1, e2]
    have e3 : extE (([[], newB 1] : List Bank).getD 0 []).length (([[], newB 1] : List Bank).getD 1 []).length 0 3 ([[], sum256 [1]] : List (List UInt8)).length (([[], sum256 [1]] : List (List UInt8)).getD 0 []).length (([[], sum256 [1]] : List (List UInt8)).getD 1 []).length = 0 := by
      simp [extE, newB_length, sum256_length, leastI]
    rw [extR, if_pos e3]
    have e4 : extBk [[], newB 1] (3 : Int).toNat [[], sum256 [1]] = [[], (newB 1).set 3 awX] := by
      have e5 : (newB 1).getD 3 [] = List.replicate 32 0 := rfl
      have e6 : (3 : Int).toNat = 3 := rfl
      simp only [extBk, ext1, newB_length, if_pos, List.getD_cons_zero, List.getD_cons_succ, e6, sumA1, e5]
      rfl
    rw [e4]; rfl
  show some (evR (newBk 2) 0 0 3 [1], ([] : List Ob)) = _
  rw [h]; rfl
theorem aw_val : ct_val.fs [.t (.agg [.sl [.sl [], .sl (((newB 1).set 3 awX).map bsT)], .int .i64 1]), .t (.int .i64 1), .t (.int .i64 3)] [] = some (.tup [.sl 0 0 32, .t (.int .i64 0)], [.live 1 ((awX.map byteT).map V.t) true false]) := by
  have hl : (newB 1).set 3 awX = (newB 1).set 3 awX := rfl
  have hlen : List.length ((newB 1).set 3 awX) = 16 := by rw [List.length_set, newB_length]
  refine (ct_val.eq ([[], (newB 1).set 3 awX], 1, 1, 3) ?_).trans ?_
  · refine RV.rm ⟨.two _ _ (.inl rfl) (.inr hlen), ?_⟩
    intro b hb
    simp only [List.mem_cons, List.not_mem_nil, or_false] at hb
    rcases hb with rfl | rfl
    · simp
    · intro x hx
      rcases List.mem_or_eq_of_mem_set hx with h | rfl
      · exact newB_le (by omega) x h
      · show (sum256 _).length ≤ 64
        rw [sum256_length]; omega
  · have ho : onB [[], (newB 1).set 3 awX] 1 = true := by simp [onB, newB_length]
    have hv : valL [[], (newB 1).set 3 awX] 1 3 = awX := by simp [valL, newB_length]
    have hb : ¬ badR 1 3 := by decide
    have h1 : (1 : Int).toNat = 1 := rfl
    have h3 : (3 : Int).toNat = 3 := rfl
    show some (valR [[], (newB 1).set 3 awX] 1 3, valO [[], (newB 1).set 3 awX] 1 3) = _
    rw [valR, valO, if_neg hb, if_neg hb, h1, h3, ho, hv, if_pos rfl, if_pos rfl]
    have : awX.length = 32 := sum256_length
    rw [this]
theorem w_awake (tab : Tab) (gl : Gl) (n1 n2 n3 : Nat) (h1 : tab.look n1 = some ct_new.fs) (h2 : tab.look n2 = some ct_ev.fs) (h3 : tab.look n3 = some ct_val.fs) :
    (ac_law8_awake n1 n2 n3).wp tab gl (zipF 0 []) (zipF 0 []) (resW [(0, none)] 0 (fun r o => r = .t (.bool true) ∧ o = [])) := by
  have hn := awX_ne
  have hl : awX.length = 32 := sum256_length
  have hl2 := @newB_length 1
  have hl3 : List.length ((newB 1).set 3 awX) = 16 := by rw [List.length_set, newB_length]
  have ht : List.take 16 (newB 1) = newB 1 := newB_all
  have ht2 : List.take 16 ((newB 1).set 3 awX) = (newB 1).set 3 awX := List.take_of_length_le (by omega)
  have ht3 : List.take 32 awX = awX := List.take_of_length_le (by omega)
  simp (config := { maxSteps := 2000000 }) (disch := (first | omega | (simp only [lens, lenm]; omega))) only [go_sem, ↓reduceIte, Nat.reduceAdd, Nat.reduceEqDiff, Nat.reduceSub, Nat.reduceMul, Nat.reduceLT, Nat.reduceLeDiff, Nat.reduceBEq, Int.reduceEq, Int.reduceLT, Int.reduceLE, Int.reduceToNat, Int.reduceNeg, Int.reduceAdd, Int.reduceSub, Int.reduceMul, Int.reduceMod, Int.reduceDiv, reduceCtorEq, Nat.reducePow, Int.reducePow, ac_law8_awake, h1, h2, h3, aw_new, aw_ev, aw_val, ht, ht2, ht3]
end Go.Eng
end
section
set_option maxRecDepth 20000
set_option maxHeartbeats 64000000
namespace Go.Eng
def ct_awake : Ct where
  α := Unit
  as _ := []
  ins _ := []
  pre _ := True
  r _ := .t (.bool true)
  outs _ := []
  inj := by rintro a b h _; exact ⟨rfl, rfl⟩
theorem awake_eq : ct_awake.fs [] [] = some (.t (.bool true), []) := ct_awake.eq () trivial
end Go.Eng
end
section
set_option maxRecDepth 20000
namespace Go.Eng
theorem wc_digest_compress1 (tab : Tab) (gl : Gl) (n1 n2 : Nat) (h1 : tab.look n1 = some ct_word.fs) (h2 : tab.look n2 = some ct_rotl.fs) (x : (ct_comp 5 comp1).α) (hx : (ct_comp 5 comp1).pre x) :
    (ac_digest_compress1 n1 n2).wp tab gl (zipF 0 ((ct_comp 5 comp1).as x)) (zipF 0 ((ct_comp 5 comp1).ins x)) (resW [] ((ct_comp 5 comp1).ins x).length (fun r o => r = (ct_comp 5 comp1).r x ∧ o = (ct_comp 5 comp1).outs x)) := by
  obtain ⟨hs, bs⟩ := x
  obtain ⟨hb, hh⟩ := hx
  match hs, hh with
  | [x0, x1, x2, x3, x4], _ => exact w_digest_compress1 tab gl n1 n2 h1 h2 bs x0 x1 x2 x3 x4 hb
theorem wc_registers_active (tab : Tab) (gl : Gl) (x : ct_active.α) (hx : ct_active.pre x) :
    ac_registers_active.wp tab gl (zipF 0 (ct_active.as x)) (zipF 0 (ct_active.ins x)) (resW [(2, none)] (ct_active.ins x).length (fun r o => r = ct_active.r x ∧ o = ct_active.outs x)) := by
  obtain ⟨bk, u⟩ := x
  have hx' : RK bk := hx
  clear hx
  cases hx' with
  | nil => exact w_registers_active0 tab gl u
  | two b0 b1 h0 h1 => exact w_registers_active2 tab gl b0 b1 (by rcases h0 with h | h <;> omega) (by rcases h1 with h | h <;> omega) u
theorem wc_registers_twin (tab : Tab) (gl : Gl) (x : ct_twin.α) (hx : ct_twin.pre x) :
    ac_registers_twin.wp tab gl (zipF 0 (ct_twin.as x)) (zipF 0 (ct_twin.ins x)) (resF [] [(2, some (2, true))] (ct_twin.ins x).length (fun r o => r = ct_twin.r x ∧ o = ct_twin.outs x)) := by
  obtain ⟨bk, u⟩ := x
  obtain ⟨hk, hm⟩ := hx
  have hk' : RK bk := hk
  clear hk
  cases hk' with
  | nil => exact w_registers_twin0 tab gl u
  | two b0 b1 h0 h1 => exact w_registers_twin2 tab gl b0 b1 u (hm b0 (.head _)) (hm b1 (.tail _ (.head _)))
theorem wc_registers_New (tab : Tab) (gl : Gl) (n1 n2 : Nat) (h1 : tab.look n1 = some ct_size.fs) (h2 : tab.look n2 = some ct_fill.fs) (x : ct_new.α) :
    (ac_registers_New n1 n2).wp tab gl (zipF 0 (ct_new.as x)) (zipF 0 (ct_new.ins x)) (resF [] [(2, some (2, true))] (ct_new.ins x).length (fun r o => r = ct_new.r x ∧ o = ct_new.outs x)) := by
  have x' : Int := x
  by_cases h : (show Int from x) % 4 = 0
  · have := w_registers_New0 tab gl n1 n2 x h
    show (ac_registers_New n1 n2).wp tab gl (zipF 0 [.t (.int .i64 x)]) (zipF 0 []) (resF [] [(2, some (2, true))] 0 (fun r o => r = twR (newBk x) 0 ∧ o = twO (newBk x)))
    have e : newBk x = [] := if_pos h
    rw [e]; exact this
  · exact w_registers_New tab gl n1 n2 h1 h2 x h
theorem wc_ref8_New (tab : Tab) (gl : Gl) (n1 : Nat) (h1 : tab.look n1 = some ct_init.fs) (x : ct_new.α) :
    (ac_ref8_New n1).wp tab gl (zipF 0 (ct_new.as x)) (zipF 0 (ct_new.ins x)) (resF [] [(2, some (2, true))] (ct_new.ins x).length (fun r o => r = ct_new.r x ∧ o = ct_new.outs x)) := by
  by_cases h : (show Int from x) % 4 = 0
  · have := w_ref8_New0 tab gl n1 x h
    show (ac_ref8_New n1).wp tab gl (zipF 0 [.t (.int .i64 x)]) (zipF 0 []) (resF [] [(2, some (2, true))] 0 (fun r o => r = twR (newBk x) 0 ∧ o = twO (newBk x)))
    have e : newBk x = [] := if_pos h
    rw [e]; exact this
  · exact w_ref8_New tab gl n1 h1 x h
theorem wc_ref8_fill (tab : Tab) (gl : Gl) (x : ct_fill.α) (hx : ct_fill.pre x) :
    ac_ref8_fill.wp tab gl (zipF 0 (ct_fill.as x)) (zipF 0 (ct_fill.ins x)) (resF [] [(4, none)] (ct_fill.ins x).length (fun r o => r = ct_fill.r x ∧ o = ct_fill.outs x)) := by
  obtain ⟨n, x⟩ := x
  have hx' : n = 20 ∨ n = 32 := hx
  exact w_ref8_fill tab gl x n (by omega)
theorem wc_ref8_Active (tab : Tab) (gl : Gl) (x : ct_actv.α) (hx : ct_actv.pre x) :
    ac_ref8_Active.wp tab gl (zipF 0 (ct_actv.as x)) (zipF 0 (ct_actv.ins x)) (resW [(4, none)] (ct_actv.ins x).length (fun r o => r = ct_actv.r x ∧ o = ct_actv.outs x)) := by
  obtain ⟨bk, u, a⟩ := x
  obtain ⟨hk, ha⟩ := hx
  have hk' : RK bk := hk
  have ha' : a < 1000000000 := ha
  refine w_ref8_Active tab gl bk u a ha' ?_ ?_
  · cases hk' <;> simp
  · intro b hb
    clear hk
    cases hk' with
    | nil => simp at hb
    | two b0 b1 h0 h1 =>
      simp only [List.mem_cons, List.not_mem_nil, or_false] at hb
      rcases hb with rfl | rfl
      · rcases h0 with h | h <;> omega
      · rcases h1 with h | h <;> omega
end Go.Eng
end
section
set_option maxRecDepth 20000
set_option maxHeartbeats 16000000
namespace Go.Eng
def stN (x : List UInt8) (b : Bank) : Nat → Bank
  | 0 => b
  | k + 1 => (stN x b k).set (12 + k) x
theorem stN_length {x : List UInt8} {b : Bank} {k : Nat} : List.length (stN x b k) = List.length b := by
  induction k with
  | zero => rfl
  | succ k ih => simp only [stN, List.length_set, ih]
def resBk (bk : List Bank) : List Bank := match bk with
  | [b0, b1] => [stN (List.replicate 20 255) b0 4, stN (List.replicate 32 255) b1 4]
  | bk => bk
theorem newV_c {k : Nat} : newV (12 + k) = 255 := if_pos (by omega)
theorem w_ref8_Resume0 (tab : Tab) (gl : Gl) (n1 n2 : Nat) (h1 : tab.look n1 = some ct_twin.fs) (u : Int) : (ac_ref8_Resume n1 n2).wp tab gl (zipF 0 [.t (regT [] u)]) (zipF 0 []) (resW [(2, some (2, true))] 0 (fun r o => r = .t (regT [] u) ∧ o = [])) := by
  simp (config := { maxSteps := 2000000 }) (disch := (first | omega | (simp only [lens, lenm]; omega))) only [go_sem, ↓reduceIte, Nat.reduceAdd, Nat.reduceEqDiff, Nat.reduceSub, Nat.reduceMul, Nat.reduceLT, Nat.reduceLeDiff, Nat.reduceBEq, Int.reduceEq, Int.reduceLT, Int.reduceLE, Int.reduceToNat, Int.reduceNeg, Int.reduceAdd, Int.reduceSub, Int.reduceMul, Int.reduceMod, Int.reduceDiv, reduceCtorEq, Nat.reducePow, Int.reducePow, ac_ref8_Resume, h1, twin_eq0, List.map_nil]
  refine loop_fuel 1 ?_
  simp (config := { maxSteps := 2000000 }) (disch := (first | omega | (simp only [lens, lenm]; omega))) only [go_sem, ↓reduceIte, Nat.reduceAdd, Nat.reduceEqDiff, Nat.reduceSub, Nat.reduceMul, Nat.reduceLT, Nat.reduceLeDiff, Nat.reduceBEq, Int.reduceEq, Int.reduceLT, Int.reduceLE, Int.reduceToNat, Int.reduceNeg, Int.reduceAdd, Int.reduceSub, Int.reduceMul, Int.reduceMod, Int.reduceDiv, reduceCtorEq, Nat.reducePow, Int.reducePow, loopN_succ, ac_ref8_Resume_L0]
theorem w_ref8_Resume2 (tab : Tab) (gl : Gl) (n1 n2 : Nat) (h1 : tab.look n1 = some ct_twin.fs) (h2 : tab.look n2 = some ct_init.fs) (b0 b1 : Bank) (u : Int) (hk : RM [b0, b1]) : (ac_ref8_Resume n1 n2).wp tab gl (zipF 0 [.t (regT [b0, b1] u)]) (zipF 0 []) (resW [(2, some (2, true))] 0 (fun r o => r = .t (regT (resBk [b0, b1]) u) ∧ o = [])) := by
  simp (config := { maxSteps := 2000000 }) (disch := (first | omega | (simp only [lens, lenm]; omega))) only [go_sem, ↓reduceIte, Nat.reduceAdd, Nat.reduceEqDiff, Nat.reduceSub, Nat.reduceMul, Nat.reduceLT, Nat.reduceLeDiff, Nat.reduceBEq, Int.reduceEq, Int.reduceLT, Int.reduceLE, Int.reduceToNat, Int.reduceNeg, Int.reduceAdd, Int.reduceSub, Int.reduceMul, Int.reduceMod, Int.reduceDiv, reduceCtorEq, Nat.reducePow, Int.reducePow, ac_ref8_Resume, h1, twin_eq2 hk, List.map_nil, List.map_cons]
  refine loop_fuel 3 ?_
  simp (config := { maxSteps := 2000000 }) (disch := (first | omega | (simp only [lens, lenm]; omega))) only [go_sem, ↓reduceIte, Nat.reduceAdd, Nat.reduceEqDiff, Nat.reduceSub, Nat.reduceMul, Nat.reduceLT, Nat.reduceLeDiff, Nat.reduceBEq, Int.reduceEq, Int.reduceLT, Int.reduceLE, Int.reduceToNat, Int.reduceNeg, Int.reduceAdd, Int.reduceSub, Int.reduceMul, Int.reduceMod, Int.reduceDiv, reduceCtorEq, Nat.reducePow, Int.reducePow, loopN_succ, ac_ref8_Resume_L0]
  obtain ⟨hrk, _⟩ := hk
  cases hrk with
  | two _ _ h0 h1 =>
  have q0 : bkOk b0 := h0
  rcases q0 with z0 | z0
  · obtain rfl : b0 = [] := List.eq_nil_of_length_eq_zero z0
    have y0 : stN (List.replicate 20 255) [] 4 = [] := rfl
    refine loop_fuel 1 ?_
    simp (config := { maxSteps := 2000000 }) (disch := (first | omega | (simp only [lens, lenm]; omega))) only [go_sem, ↓reduceIte, Nat.reduceAdd, Nat.reduceEqDiff, Nat.reduceSub, Nat.reduceMul, Nat.reduceLT, Nat.reduceLeDiff, Nat.reduceBEq, Int.reduceEq, Int.reduceLT, Int.reduceLE, Int.reduceToNat, Int.reduceNeg, Int.reduceAdd, Int.reduceSub, Int.reduceMul, Int.reduceMod, Int.reduceDiv, reduceCtorEq, Nat.reducePow, Int.reducePow, loopN_succ, ac_ref8_Resume_L0, ac_ref8_Resume_L1, List.length_nil, List.map_nil]
    have q1 : bkOk b1 := h1
    rcases q1 with z1 | z1
    · obtain rfl : b1 = [] := List.eq_nil_of_length_eq_zero z1
      have y1 : stN (List.replicate 32 255) [] 4 = [] := rfl
      refine loop_fuel 1 ?_
      simp (config := { maxSteps := 2000000 }) (disch := (first | omega | (simp only [lens, lenm]; omega))) only [go_sem, ↓reduceIte, Nat.reduceAdd, Nat.reduceEqDiff, Nat.reduceSub, Nat.reduceMul, Nat.reduceLT, Nat.reduceLeDiff, Nat.reduceBEq, Int.reduceEq, Int.reduceLT, Int.reduceLE, Int.reduceToNat, Int.reduceNeg, Int.reduceAdd, Int.reduceSub, Int.reduceMul, Int.reduceMod, Int.reduceDiv, reduceCtorEq, Nat.reducePow, Int.reducePow, loopN_succ, ac_ref8_Resume_L0, ac_ref8_Resume_L1, List.length_nil, List.map_nil, z0, z1]
      all_goals rfl
    · refine loop_upto 4 (fun k => [(2, .ref 4112 0 0), (3, .ref 8224 0 0), (4, .t (.int .i64 1)), (5, .t (.int .i64 ((12 + k : Nat) : Int)))]) (fun k => [(8224, .live 2 [.agg [.sl 8208 0 2, .t (.int .i64 u)]] true true), (8210, .live 1 (((stN (List.replicate 32 255) b1 k).map bsT).map V.t) true false), (8209, .live 1 (((([] : Bank)).map bsT).map V.t) true false), (8208, .live 1 [.sl 8209 0 0, .sl 8210 0 16] true false), (4112, .live 2 [.agg [.nil, .t (.int .i64 0)]] true true)]) ?_ (fun k hk4 => ?_)
      · refine Weak.rd id ?_ ?_ rfl
        all_goals simp (config := { maxSteps := 2000000 }) (disch := (first | omega | (simp only [lens, lenm]; omega))) only [go_sem, ↓reduceIte, Nat.reduceAdd, Nat.reduceEqDiff, Nat.reduceSub, Nat.reduceMul, Nat.reduceLT, Nat.reduceLeDiff, Nat.reduceBEq, Int.reduceEq, Int.reduceLT, Int.reduceLE, Int.reduceToNat, Int.reduceNeg, Int.reduceAdd, Int.reduceSub, Int.reduceMul, Int.reduceMod, Int.reduceDiv, reduceCtorEq, Nat.reducePow, Int.reducePow, id, stN, z0, z1]
      · have s1 : List.length (stN (List.replicate 32 255) b1 k) = 16 := by rw [stN_length, z1]
        by_cases hlt : k < 4
        · simp (config := { maxSteps := 2000000 }) (disch := (first | omega | (simp only [lens, lenm]; omega))) only [go_sem, ↓reduceIte, Nat.reduceAdd, Nat.reduceEqDiff, Nat.reduceSub, Nat.reduceMul, Nat.reduceLT, Nat.reduceLeDiff, Nat.reduceBEq, Int.reduceEq, Int.reduceLT, Int.reduceLE, Int.reduceToNat, Int.reduceNeg, Int.reduceAdd, Int.reduceSub, Int.reduceMul, Int.reduceMod, Int.reduceDiv, reduceCtorEq, Nat.reducePow, Int.reducePow, ac_ref8_Resume_L1, z1, s1, h2, init_eq0, init_eq1]
          repeat refine And.intro rfl ?_
          refine ⟨hlt, Weak.cv (hv := []) [36992] id ?_ rfl⟩
          simp (config := { maxSteps := 2000000 }) (disch := (first | omega | (simp only [lens, lenm]; omega))) only [go_sem, ↓reduceIte, Nat.reduceAdd, Nat.reduceEqDiff, Nat.reduceSub, Nat.reduceMul, Nat.reduceLT, Nat.reduceLeDiff, Nat.reduceBEq, Int.reduceEq, Int.reduceLT, Int.reduceLE, Int.reduceToNat, Int.reduceNeg, Int.reduceAdd, Int.reduceSub, Int.reduceMul, Int.reduceMod, Int.reduceDiv, reduceCtorEq, Nat.reducePow, Int.reducePow, id, stN, z1, s1, List.take_replicate, Nat.min_self, newV_c]
          refine ⟨?_, rfl⟩
          omega
        · have e : k = 4 := by omega
          subst e
          have t1 : List.take 16 (stN (List.replicate 32 255) b1 4) = stN (List.replicate 32 255) b1 4 := List.take_of_length_le (by omega)
          simp (config := { maxSteps := 2000000 }) (disch := (first | omega | (simp only [lens, lenm]; omega))) only [go_sem, ↓reduceIte, Nat.reduceAdd, Nat.reduceEqDiff, Nat.reduceSub, Nat.reduceMul, Nat.reduceLT, Nat.reduceLeDiff, Nat.reduceBEq, Int.reduceEq, Int.reduceLT, Int.reduceLE, Int.reduceToNat, Int.reduceNeg, Int.reduceAdd, Int.reduceSub, Int.reduceMul, Int.reduceMod, Int.reduceDiv, reduceCtorEq, Nat.reducePow, Int.reducePow, ac_ref8_Resume_L0, ac_ref8_Resume_L1, z1, s1, loopN_succ, t1]
          all_goals rfl
  · refine loop_upto 4 (fun k => [(2, .ref 4112 0 0), (3, .ref 8224 0 0), (4, .t (.int .i64 0)), (5, .t (.int .i64 ((12 + k : Nat) : Int)))]) (fun k => [(8224, .live 2 [.agg [.sl 8208 0 2, .t (.int .i64 u)]] true true), (8210, .live 1 (((b1).map bsT).map V.t) true false), (8209, .live 1 (((stN (List.replicate 20 255) b0 k).map bsT).map V.t) true false), (8208, .live 1 [.sl 8209 0 16, .sl 8210 0 b1.length] true false), (4112, .live 2 [.agg [.nil, .t (.int .i64 0)]] true true)]) ?_ (fun k hk4 => ?_)
    · refine Weak.rd id ?_ ?_ rfl
      all_goals simp (config := { maxSteps := 2000000 }) (disch := (first | omega | (simp only [lens, lenm]; omega))) only [go_sem, ↓reduceIte, Nat.reduceAdd, Nat.reduceEqDiff, Nat.reduceSub, Nat.reduceMul, Nat.reduceLT, Nat.reduceLeDiff, Nat.reduceBEq, Int.reduceEq, Int.reduceLT, Int.reduceLE, Int.reduceToNat, Int.reduceNeg, Int.reduceAdd, Int.reduceSub, Int.reduceMul, Int.reduceMod, Int.reduceDiv, reduceCtorEq, Nat.reducePow, Int.reducePow, id, stN, z0]
    · have s0 : List.length (stN (List.replicate 20 255) b0 k) = 16 := by rw [stN_length, z0]
      by_cases hlt : k < 4
      · simp (config := { maxSteps := 2000000 }) (disch := (first | omega | (simp only [lens, lenm]; omega))) only [go_sem, ↓reduceIte, Nat.reduceAdd, Nat.reduceEqDiff, Nat.reduceSub, Nat.reduceMul, Nat.reduceLT, Nat.reduceLeDiff, Nat.reduceBEq, Int.reduceEq, Int.reduceLT, Int.reduceLE, Int.reduceToNat, Int.reduceNeg, Int.reduceAdd, Int.reduceSub, Int.reduceMul, Int.reduceMod, Int.reduceDiv, reduceCtorEq, Nat.reducePow, Int.reducePow, ac_ref8_Resume_L1, z0, s0, h2, init_eq0, init_eq1]
        repeat refine And.intro rfl ?_
        refine ⟨hlt, Weak.cv (hv := []) [36992] id ?_ rfl⟩
        simp (config := { maxSteps := 2000000 }) (disch := (first | omega | (simp only [lens, lenm]; omega))) only [go_sem, ↓reduceIte, Nat.reduceAdd, Nat.reduceEqDiff, Nat.reduceSub, Nat.reduceMul, Nat.reduceLT, Nat.reduceLeDiff, Nat.reduceBEq, Int.reduceEq, Int.reduceLT, Int.reduceLE, Int.reduceToNat, Int.reduceNeg, Int.reduceAdd, Int.reduceSub, Int.reduceMul, Int.reduceMod, Int.reduceDiv, reduceCtorEq, Nat.reducePow, Int.reducePow, id, stN, z0, s0, List.take_replicate, Nat.min_self, newV_c]
        refine ⟨?_, rfl⟩
        omega
      · have e : k = 4 := by omega
        subst e
        have t0 : List.take 16 (stN (List.replicate 20 255) b0 4) = stN (List.replicate 20 255) b0 4 := List.take_of_length_le (by omega)
        simp (config := { maxSteps := 2000000 }) (disch := (first | omega | (simp only [lens, lenm]; omega))) only [go_sem, ↓reduceIte, Nat.reduceAdd, Nat.reduceEqDiff, Nat.reduceSub, Nat.reduceMul, Nat.reduceLT, Nat.reduceLeDiff, Nat.reduceBEq, Int.reduceEq, Int.reduceLT, Int.reduceLE, Int.reduceToNat, Int.reduceNeg, Int.reduceAdd, Int.reduceSub, Int.reduceMul, Int.reduceMod, Int.reduceDiv, reduceCtorEq, Nat.reducePow, Int.reducePow, ac_ref8_Resume_L0, ac_ref8_Resume_L1, z0, s0, loopN_succ, t0]
        have q1 : bkOk b1 := h1
        rcases q1 with z1 | z1
        · obtain rfl : b1 = [] := List.eq_nil_of_length_eq_zero z1
          have y1 : stN (List.replicate 32 255) [] 4 = [] := rfl
          refine loop_fuel 1 ?_
          simp (config := { maxSteps := 2000000 }) (disch := (first | omega | (simp only [lens, lenm]; omega))) only [go_sem, ↓reduceIte, Nat.reduceAdd, Nat.reduceEqDiff, Nat.reduceSub, Nat.reduceMul, Nat.reduceLT, Nat.reduceLeDiff, Nat.reduceBEq, Int.reduceEq, Int.reduceLT, Int.reduceLE, Int.reduceToNat, Int.reduceNeg, Int.reduceAdd, Int.reduceSub, Int.reduceMul, Int.reduceMod, Int.reduceDiv, reduceCtorEq, Nat.reducePow, Int.reducePow, loopN_succ, ac_ref8_Resume_L0, ac_ref8_Resume_L1, List.length_nil, List.map_nil, z0, z1, t0]
          all_goals rfl
        · refine loop_upto 4 (fun k => [(2, .ref 4112 0 0), (3, .ref 8224 0 0), (4, .t (.int .i64 1)), (5, .t (.int .i64 ((12 + k : Nat) : Int)))]) (fun k => [(8224, .live 2 [.agg [.sl 8208 0 2, .t (.int .i64 u)]] true true), (8210, .live 1 (((stN (List.replicate 32 255) b1 k).map bsT).map V.t) true false), (8209, .live 1 (((stN (List.replicate 20 255) b0 4).map bsT).map V.t) true false), (8208, .live 1 [.sl 8209 0 16, .sl 8210 0 16] true false), (4112, .live 2 [.agg [.nil, .t (.int .i64 0)]] true true)]) ?_ (fun k hk4 => ?_)
          · refine Weak.rd id ?_ ?_ rfl
            all_goals simp (config := { maxSteps := 2000000 }) (disch := (first | omega | (simp only [lens, lenm]; omega))) only [go_sem, ↓reduceIte, Nat.reduceAdd, Nat.reduceEqDiff, Nat.reduceSub, Nat.reduceMul, Nat.reduceLT, Nat.reduceLeDiff, Nat.reduceBEq, Int.reduceEq, Int.reduceLT, Int.reduceLE, Int.reduceToNat, Int.reduceNeg, Int.reduceAdd, Int.reduceSub, Int.reduceMul, Int.reduceMod, Int.reduceDiv, reduceCtorEq, Nat.reducePow, Int.reducePow, id, stN, z0, z1]
          · have s1 : List.length (stN (List.replicate 32 255) b1 k) = 16 := by rw [stN_length, z1]
            by_cases hlt : k < 4
            · simp (config := { maxSteps := 2000000 }) (disch := (first | omega | (simp only [lens, lenm]; omega))) only [go_sem, ↓reduceIte, Nat.reduceAdd, Nat.reduceEqDiff, Nat.reduceSub, Nat.reduceMul, Nat.reduceLT, Nat.reduceLeDiff, Nat.reduceBEq, Int.reduceEq, Int.reduceLT, Int.reduceLE, Int.reduceToNat, Int.reduceNeg, Int.reduceAdd, Int.reduceSub, Int.reduceMul, Int.reduceMod, Int.reduceDiv, reduceCtorEq, Nat.reducePow, Int.reducePow, ac_ref8_Resume_L1, z1, s1, h2, init_eq0, init_eq1]
              repeat refine And.intro rfl ?_
              refine ⟨hlt, Weak.cv (hv := []) [36992] id ?_ rfl⟩
              simp (config := { maxSteps := 2000000 }) (disch := (first | omega | (simp only [lens, lenm]; omega))) only [go_sem, ↓reduceIte, Nat.reduceAdd, Nat.reduceEqDiff, Nat.reduceSub, Nat.reduceMul, Nat.reduceLT, Nat.reduceLeDiff, Nat.reduceBEq, Int.reduceEq, Int.reduceLT, Int.reduceLE, Int.reduceToNat, Int.reduceNeg, Int.reduceAdd, Int.reduceSub, Int.reduceMul, Int.reduceMod, Int.reduceDiv, reduceCtorEq, Nat.reducePow, Int.reducePow, id, stN, z1, s1, List.take_replicate, Nat.min_self, newV_c]
              refine ⟨?_, rfl⟩
              omega
            · have e : k = 4 := by omega
              subst e
              have t1 : List.take 16 (stN (List.replicate 32 255) b1 4) = stN (List.replicate 32 255) b1 4 := List.take_of_length_le (by omega)
              simp (config := { maxSteps := 2000000 }) (disch := (first | omega | (simp only [lens, lenm]; omega))) only [go_sem, ↓reduceIte, Nat.reduceAdd, Nat.reduceEqDiff, Nat.reduceSub, Nat.reduceMul, Nat.reduceLT, Nat.reduceLeDiff, Nat.reduceBEq, Int.reduceEq, Int.reduceLT, Int.reduceLE, Int.reduceToNat, Int.reduceNeg, Int.reduceAdd, Int.reduceSub, Int.reduceMul, Int.reduceMod, Int.reduceDiv, reduceCtorEq, Nat.reducePow, Int.reducePow, ac_ref8_Resume_L0, ac_ref8_Resume_L1, z1, s1, loopN_succ, t0, t1]
              all_goals rfl
end Go.Eng
end
section
set_option maxRecDepth 20000
set_option maxHeartbeats 16000000
namespace Go.Eng
def ct_rst : Ct where
  α := List Bank × Int × Int × Int
  as x := [.t (regT x.1 x.2.1), .t (.int .i64 x.2.2.1), .t (.int .i64 x.2.2.2)]
  ins _ := []
  pre x := RM x.1 ∧ 0 ≤ x.2.1 ∧ x.2.1 < 1000000000
  r x := rstR x.1 x.2.1 x.2.2.1 x.2.2.2
  outs _ := []
  inj := by
    rintro ⟨a, u, l, i⟩ ⟨b, v, l', i'⟩ h _
    simp only [List.cons.injEq, V.t.injEq, T.int.injEq, true_and, and_true] at h
    obtain ⟨h1, rfl, rfl⟩ := h
    obtain ⟨rfl, rfl⟩ := regT_inj h1
    exact ⟨rfl, rfl⟩
def ct_rsm : Ct where
  α := List Bank × Int
  as x := [.t (regT x.1 x.2)]
  ins _ := []
  pre x := RM x.1
  r x := .t (regT (resBk x.1) x.2)
  outs _ := []
  inj := by
    rintro ⟨a, u⟩ ⟨b, v⟩ h _
    simp only [List.cons.injEq, V.t.injEq, and_true] at h
    obtain ⟨rfl, rfl⟩ := regT_inj h
    exact ⟨rfl, rfl⟩
theorem wc_ref8_Reset (tab : Tab) (gl : Gl) (n1 n2 n3 n4 n5 : Nat) (h1 : tab.look n1 = some ct_rleast.fs) (h3 : tab.look n2 = some ct_twin.fs) (h4 : tab.look n3 = some ct_actv.fs) (h5 : tab.look n4 = some ct_size.fs) (h6 : tab.look n5 = some ct_fill.fs) (x : ct_rst.α) (hx : ct_rst.pre x) :
    (ac_ref8_Reset n1 n2 n3 n4 n5).wp tab gl (zipF 0 (ct_rst.as x)) (zipF 0 (ct_rst.ins x)) (resW [(6, some (2, true)), (7, none)] (ct_rst.ins x).length (fun r o => r = ct_rst.r x ∧ o = ct_rst.outs x)) := by
  obtain ⟨bk, u, l, i⟩ := x
  obtain ⟨hk, hu⟩ := hx
  show (ac_ref8_Reset n1 n2 n3 n4 n5).wp tab gl (zipF 0 [.t (regT bk u), .t (.int .i64 l), .t (.int .i64 i)]) (zipF 0 []) (resW [(6, some (2, true)), (7, none)] 0 (fun r o => r = rstR bk u l i ∧ o = []))
  by_cases he : rstE l i = 0
  · rw [rstR, if_pos he]
    have hk' : RM bk := hk
    have hk2 := hk'.1
    cases hk2 with
    | nil => exact w_ref8_Reset0 tab gl n1 n2 n3 n4 n5 h1 h3 h4 u l i hu he
    | two b0 b1 _ _ => exact w_ref8_Reset2 tab gl n1 n2 n3 n4 n5 h1 h3 h4 h5 h6 b0 b1 u l i hu hk he
  · rw [rstR, if_neg he]
    exact w_ref8_Reset_err tab gl n1 n2 n3 n4 n5 h1 bk u l i he
theorem wc_ref8_Copy (tab : Tab) (gl : Gl) (n1 : Nat) (h1 : tab.look n1 = some ct_copy.fs) (x : ct_twin.α) (hx : ct_twin.pre x) :
    (ac_ref8_Copy n1).wp tab gl (zipF 0 (ct_twin.as x)) (zipF 0 (ct_twin.ins x)) (resF [] [(2, some (2, true))] (ct_twin.ins x).length (fun r o => r = ct_twin.r x ∧ o = ct_twin.outs x)) := by
  obtain ⟨bk, u⟩ := x
  obtain ⟨hk, hm⟩ := hx
  have hk' : RK bk := hk
  clear hk
  cases hk' with
  | nil => exact w_ref8_Copy0 tab gl n1 u
  | two b0 b1 h0 h1' => exact w_ref8_Copy2 tab gl n1 h1 b0 b1 u (hm b0 (.head _)) (hm b1 (.tail _ (.head _)))
theorem wc_ref8_Resume (tab : Tab) (gl : Gl) (n1 n2 : Nat) (h1 : tab.look n1 = some ct_twin.fs) (h2 : tab.look n2 = some ct_init.fs) (x : ct_rsm.α) (hx : ct_rsm.pre x) :
    (ac_ref8_Resume n1 n2).wp tab gl (zipF 0 (ct_rsm.as x)) (zipF 0 (ct_rsm.ins x)) (resW [(2, some (2, true))] (ct_rsm.ins x).length (fun r o => r = ct_rsm.r x ∧ o = ct_rsm.outs x)) := by
  obtain ⟨bk, u⟩ := x
  have hk : RM bk := hx
  have hk2 := hk.1
  clear hx
  cases hk2 with
  | nil => exact w_ref8_Resume0 tab gl n1 n2 h1 u
  | two b0 b1 _ _ => exact w_ref8_Resume2 tab gl n1 n2 h1 h2 b0 b1 u hk
theorem RV.of2 {b0 b1 : Bank} (h0 : bkOk b0) (h1 : bkOk b1) (m0 : ∀ x ∈ b0, x.length ≤ 64) (m1 : ∀ x ∈ b1, x.length ≤ 64) : RV [b0, b1] := by
  refine ⟨.two _ _ h0 h1, fun b hb => ?_⟩
  simp only [List.mem_cons, List.not_mem_nil, or_false] at hb
  rcases hb with rfl | rfl
  · exact m0
  · exact m1
theorem bkOk_len {b c : Bank} (h : bkOk b) (hl : List.length c = List.length b) : bkOk c := by
  rcases h with h | h
  · exact .inl (by rw [hl, h])
  · exact .inr (by rw [hl, h])
theorem set_le {b : Bank} {i : Nat} {y : List UInt8} (h : ∀ x ∈ b, x.length ≤ 64) (hy : y.length ≤ 64) : ∀ x ∈ b.set i y, x.length ≤ 64 := by
  intro x hx
  rcases List.mem_or_eq_of_mem_set hx with h1 | rfl
  · exact h x h1
  · exact hy
theorem RV.cases {bk : List Bank} (h : RV bk) : bk = [] ∨ ∃ b0 b1, bk = [b0, b1] ∧ bkOk b0 ∧ bkOk b1 ∧ (∀ x ∈ b0, x.length ≤ 64) ∧ (∀ x ∈ b1, x.length ≤ 64) := by
  obtain ⟨hk, hm⟩ := h
  cases hk with
  | nil => exact .inl rfl
  | two b0 b1 h0 h1 => exact .inr ⟨b0, b1, rfl, h0, h1, hm b0 (.head _), hm b1 (.tail _ (.head _))⟩
theorem ext1_le {a : Nat} (ha : a < 2) {b : Bank} {i : Nat} {d : List UInt8} (h : ∀ x ∈ b, x.length ≤ 64) : ∀ x ∈ ext1 a b i d, x.length ≤ 64 := by
  unfold ext1
  split
  · refine set_le h ?_
    have : a = 0 ∨ a = 1 := by omega
    rcases this with rfl | rfl
    · rw [sumA0, sum1_length]; omega
    · rw [sumA1, sum256_length]; omega
  · exact h
theorem rst1_le {a : Nat} (ha : a < 2) {b : Bank} {i : Nat} (h : ∀ x ∈ b, x.length ≤ 64) : ∀ x ∈ rst1 a b i, x.length ≤ 64 := by
  unfold rst1
  split
  · refine set_le h ?_
    rw [List.length_replicate]
    have : a = 0 ∨ a = 1 := by omega
    rcases this with rfl | rfl <;> decide
  · exact h
theorem stN_le {y : List UInt8} {b : Bank} (hy : y.length ≤ 64) (h : ∀ x ∈ b, x.length ≤ 64) : ∀ k, ∀ x ∈ stN y b k, x.length ≤ 64
  | 0 => h
  | k + 1 => set_le (stN_le hy h k) hy
theorem RV.ext {bk : List Bank} (h : RV bk) (i : Nat) (ds : List (List UInt8)) : RV (extBk bk i ds) := by
  rcases h.cases with rfl | ⟨b0, b1, rfl, h0, h1, m0, m1⟩
  · exact h
  · exact .of2 (bkOk_len h0 ext1_length) (bkOk_len h1 ext1_length) (ext1_le (by omega) m0) (ext1_le (by omega) m1)
theorem RV.rst {bk : List Bank} (h : RV bk) (i : Nat) : RV (rstBk bk i) := by
  rcases h.cases with rfl | ⟨b0, b1, rfl, h0, h1, m0, m1⟩
  · exact h
  · exact .of2 (bkOk_len h0 rst1_length) (bkOk_len h1 rst1_length) (rst1_le (by omega) m0) (rst1_le (by omega) m1)
theorem RV.res {bk : List Bank} (h : RV bk) : RV (resBk bk) := by
  rcases h.cases with rfl | ⟨b0, b1, rfl, h0, h1, m0, m1⟩
  · exact h
  · exact .of2 (bkOk_len h0 stN_length) (bkOk_len h1 stN_length) (stN_le (by rw [List.length_replicate]; omega) m0 4) (stN_le (by rw [List.length_replicate]; omega) m1 4)
end Go.Eng
end
section
set_option maxRecDepth 20000
set_option maxHeartbeats 64000000
namespace Go.Eng
theorem setRange_map {α γ : Type} {f : α → γ} {l xs : List α} {i : Nat} : setRange (l.map f) i (xs.map f) = (setRange l i xs).map f := by
  simp [setRange]
def dgx (a : Nat) (b : List UInt8) : List UInt8 := List.take (szA a) b ++ List.replicate (szA a - min (szA a) b.length) 0
def dg1 (a : Nat) (b : List UInt8) : List UInt8 := (dgx a b).set (szA a - 1) ((dgx a b).getD (szA a - 1) 0 ^^^ UInt8.ofNat a)
theorem dgx_length {a : Nat} {b : List UInt8} : (dgx a b).length = szA a := by
  simp [dgx, Nat.min_def]
  split <;> omega
theorem dg1_length {a : Nat} {b : List UInt8} : (dg1 a b).length = szA a := by rw [dg1, List.length_set, dgx_length]
theorem dgx0 {b : List UInt8} : List.take 20 b ++ List.replicate (20 - min 20 b.length) 0 = dgx 0 b := rfl
theorem dgx1 {b : List UInt8} : List.take 32 b ++ List.replicate (32 - min 32 b.length) 0 = dgx 1 b := rfl
theorem dgx0_length {b : List UInt8} : (dgx 0 b).length = 20 := dgx_length
theorem dgx1_length {b : List UInt8} : (dgx 1 b).length = 32 := dgx_length
theorem dg10 {b : List UInt8} : (dgx 0 b).set 19 ((dgx 0 b).getD 19 0 ^^^ 0) = dg1 0 b := rfl
theorem dg11 {b : List UInt8} : (dgx 1 b).set 31 ((dgx 1 b).getD 31 0 ^^^ 1) = dg1 1 b := rfl
theorem dg1_len0 {b : List UInt8} : (dg1 0 b).length = 20 := dg1_length
theorem dg1_len1 {b : List UInt8} : (dg1 1 b).length = 32 := dg1_length
theorem dg1_take0 {b : List UInt8} : List.take 20 (dg1 0 b) = dg1 0 b := List.take_of_length_le (by rw [dg1_length]; decide)
theorem dg1_take1 {b : List UInt8} : List.take 32 (dg1 1 b) = dg1 1 b := List.take_of_length_le (by rw [dg1_length]; decide)
def dgb (s : Int) (a : Nat) (b : List UInt8) : List UInt8 := if s / (2 ^ a : Nat) % 2 = 1 then dg1 a b else []
theorem w_draw_Digests (tab : Tab) (gl : Gl) (s : Int) (b : List UInt8) : ac_draw_Digests.wp tab gl (zipF 0 [.t (.int .i64 s), .t (.sl (b.map byteT))]) (zipF 0 []) (resF [] [(4, none)] 0 (fun r o => r = .sl 0 0 2 ∧ o = [.live 1 [.t (bsT (dgb s 0 b)), .t (bsT (dgb s 1 b))] true false])) := by
  have hf1 : s.fdiv 1 = s := Int.fdiv_one s
  have hf2 : s.fdiv 2 = s / 2 := Int.fdiv_eq_ediv_of_nonneg s (by omega)
  have hc0 : s % 2 = 0 ∨ s % 2 = 1 := by omega
  have hc1 : s / 2 % 2 = 0 ∨ s / 2 % 2 = 1 := by omega
  have hz20 : List.replicate 20 (V.t (byteT 0)) = ((List.replicate 20 (0 : UInt8)).map byteT).map V.t := by simp
  have hz32 : List.replicate 32 (V.t (byteT 0)) = ((List.replicate 32 (0 : UInt8)).map byteT).map V.t := by simp
  have ht20 : ∀ m : Nat, List.take m ((b.map byteT).map V.t) = ((b.take m).map byteT).map V.t := fun m => by simp
  have l0 : (dgx 0 b).length = 20 := dgx_length
  have l1 : (dgx 1 b).length = 32 := dgx_length
  have hw0 : T.int .u8 (IntKind.u8.wrap 0) = byteT 0 := rfl
  have hw1 : T.int .u8 (IntKind.u8.wrap 1) = byteT 1 := rfl
  rcases hc0 with c0 | c0 <;> rcases hc1 with c1 | c1
  · have e0 : dgb s 0 b = [] := by unfold dgb; rw [if_neg (by simp [c0])]
    have e1 : dgb s 1 b = [] := by unfold dgb; rw [if_neg (by simp [c1])]
    rw [e0, e1]
    simp (config := { maxSteps := 2000000 }) (disch := (first | omega | (simp only [lens, lenm]; omega))) only [go_sem, ↓reduceIte, Nat.reduceAdd, Nat.reduceEqDiff, Nat.reduceSub, Nat.reduceMul, Nat.reduceLT, Nat.reduceLeDiff, Nat.reduceBEq, Int.reduceEq, Int.reduceLT, Int.reduceLE, Int.reduceToNat, Int.reduceNeg, Int.reduceAdd, Int.reduceSub, Int.reduceMul, Int.reduceMod, Int.reduceDiv, reduceCtorEq, Nat.reducePow, Int.reducePow, ac_draw_Digests]
    refine loop_upto 2 (fun k => match k with | 0 => [(0, .t (.int .i64 s)), (1, .t (.sl (b.map byteT))), (5, .sl 8192 0 2), (6, .t (.int .i64 0))] | 1 => [(0, .t (.int .i64 s)), (1, .t (.sl (b.map byteT))), (5, .sl 8192 0 2), (6, .t (.int .i64 1))] | _ => [(0, .t (.int .i64 s)), (1, .t (.sl (b.map byteT))), (5, .sl 8192 0 2), (6, .t (.int .i64 2))]) (fun k => match k with | 0 => [(8192, .live 1 [.t (bsT []), .t (bsT [])] true false)] | 1 => [(8192, .live 1 [.t (bsT []), .t (bsT [])] true false)] | _ => [(8192, .live 1 [.t (bsT []), .t (bsT [])] true false)]) ?_ (fun k hk2 => ?_)
    · refine Weak.rd id ?_ ?_ rfl
      all_goals simp (config := { maxSteps := 2000000 }) (disch := (first | omega | (simp only [lens, lenm]; omega))) only [go_sem, ↓reduceIte, Nat.reduceAdd, Nat.reduceEqDiff, Nat.reduceSub, Nat.reduceMul, Nat.reduceLT, Nat.reduceLeDiff, Nat.reduceBEq, Int.reduceEq, Int.reduceLT, Int.reduceLE, Int.reduceToNat, Int.reduceNeg, Int.reduceAdd, Int.reduceSub, Int.reduceMul, Int.reduceMod, Int.reduceDiv, reduceCtorEq, Nat.reducePow, Int.reducePow, id, List.map_nil]
    · rcases (show k = 0 ∨ k = 1 ∨ k = 2 by omega) with rfl | rfl | rfl
      · simp (config := { maxSteps := 2000000 }) (disch := (first | omega | (simp only [lens, lenm]; omega))) only [go_sem, ↓reduceIte, Nat.reduceAdd, Nat.reduceEqDiff, Nat.reduceSub, Nat.reduceMul, Nat.reduceLT, Nat.reduceLeDiff, Nat.reduceBEq, Int.reduceEq, Int.reduceLT, Int.reduceLE, Int.reduceToNat, Int.reduceNeg, Int.reduceAdd, Int.reduceSub, Int.reduceMul, Int.reduceMod, Int.reduceDiv, reduceCtorEq, Nat.reducePow, Int.reducePow, ac_draw_Digests_L0, c0, c1, hf1, hf2, hz20, hz32, ht20, setRange_map, dgx0, dgx1, dgx0_length, dgx1_length, hw0, hw1, dg10, dg11, List.map_nil]
        refine Weak.rd id ?_ ?_ rfl
        all_goals simp (config := { maxSteps := 2000000 }) (disch := (first | omega | (simp only [lens, lenm]; omega))) only [go_sem, ↓reduceIte, Nat.reduceAdd, Nat.reduceEqDiff, Nat.reduceSub, Nat.reduceMul, Nat.reduceLT, Nat.reduceLeDiff, Nat.reduceBEq, Int.reduceEq, Int.reduceLT, Int.reduceLE, Int.reduceToNat, Int.reduceNeg, Int.reduceAdd, Int.reduceSub, Int.reduceMul, Int.reduceMod, Int.reduceDiv, reduceCtorEq, Nat.reducePow, Int.reducePow, id, List.map_nil]
      · simp (config := { maxSteps := 2000000 }) (disch := (first | omega | (simp only [lens, lenm]; omega))) only [go_sem, ↓reduceIte, Nat.reduceAdd, Nat.reduceEqDiff, Nat.reduceSub, Nat.reduceMul, Nat.reduceLT, Nat.reduceLeDiff, Nat.reduceBEq, Int.reduceEq, Int.reduceLT, Int.reduceLE, Int.reduceToNat, Int.reduceNeg, Int.reduceAdd, Int.reduceSub, Int.reduceMul, Int.reduceMod, Int.reduceDiv, reduceCtorEq, Nat.reducePow, Int.reducePow, ac_draw_Digests_L0, c0, c1, hf1, hf2, hz20, hz32, ht20, setRange_map, dgx0, dgx1, dgx0_length, dgx1_length, hw0, hw1, dg10, dg11, List.map_nil]
        refine Weak.rd id ?_ ?_ rfl
        all_goals simp (config := { maxSteps := 2000000 }) (disch := (first | omega | (simp only [lens, lenm]; omega))) only [go_sem, ↓reduceIte, Nat.reduceAdd, Nat.reduceEqDiff, Nat.reduceSub, Nat.reduceMul, Nat.reduceLT, Nat.reduceLeDiff, Nat.reduceBEq, Int.reduceEq, Int.reduceLT, Int.reduceLE, Int.reduceToNat, Int.reduceNeg, Int.reduceAdd, Int.reduceSub, Int.reduceMul, Int.reduceMod, Int.reduceDiv, reduceCtorEq, Nat.reducePow, Int.reducePow, id, List.map_nil]
      · simp (config := { maxSteps := 2000000 }) (disch := (first | omega | (simp only [lens, lenm]; omega))) only [go_sem, ↓reduceIte, Nat.reduceAdd, Nat.reduceEqDiff, Nat.reduceSub, Nat.reduceMul, Nat.reduceLT, Nat.reduceLeDiff, Nat.reduceBEq, Int.reduceEq, Int.reduceLT, Int.reduceLE, Int.reduceToNat, Int.reduceNeg, Int.reduceAdd, Int.reduceSub, Int.reduceMul, Int.reduceMod, Int.reduceDiv, reduceCtorEq, Nat.reducePow, Int.reducePow, ac_draw_Digests_L0, c0, c1, hf1, hf2, List.map_nil]
  · have e0 : dgb s 0 b = [] := by unfold dgb; rw [if_neg (by simp [c0])]
    have e1 : dgb s 1 b = (dg1 1 b) := by unfold dgb; rw [if_pos (by simp [c1])]
    rw [e0, e1]
    simp (config := { maxSteps := 2000000 }) (disch := (first | omega | (simp only [lens, lenm]; omega))) only [go_sem, ↓reduceIte, Nat.reduceAdd, Nat.reduceEqDiff, Nat.reduceSub, Nat.reduceMul, Nat.reduceLT, Nat.reduceLeDiff, Nat.reduceBEq, Int.reduceEq, Int.reduceLT, Int.reduceLE, Int.reduceToNat, Int.reduceNeg, Int.reduceAdd, Int.reduceSub, Int.reduceMul, Int.reduceMod, Int.reduceDiv, reduceCtorEq, Nat.reducePow, Int.reducePow, ac_draw_Digests]
    refine loop_upto 2 (fun k => match k with | 0 => [(0, .t (.int .i64 s)), (1, .t (.sl (b.map byteT))), (5, .sl 8192 0 2), (6, .t (.int .i64 0))] | 1 => [(0, .t (.int .i64 s)), (1, .t (.sl (b.map byteT))), (5, .sl 8192 0 2), (6, .t (.int .i64 1))] | _ => [(0, .t (.int .i64 s)), (1, .t (.sl (b.map byteT))), (5, .sl 8192 0 2), (6, .t (.int .i64 2))]) (fun k => match k with | 0 => [(8192, .live 1 [.t (bsT []), .t (bsT [])] true false)] | 1 => [(8192, .live 1 [.t (bsT []), .t (bsT [])] true false)] | _ => [(8192, .live 1 [.t (bsT []), .t (bsT (dg1 1 b))] true false)]) ?_ (fun k hk2 => ?_)
    · refine Weak.rd id ?_ ?_ rfl
      all_goals simp (config := { maxSteps := 2000000 }) (disch := (first | omega | (simp only [lens, lenm]; omega))) only [go_sem, ↓reduceIte, Nat.reduceAdd, Nat.reduceEqDiff, Nat.reduceSub, Nat.reduceMul, Nat.reduceLT, Nat.reduceLeDiff, Nat.reduceBEq, Int.reduceEq, Int.reduceLT, Int.reduceLE, Int.reduceToNat, Int.reduceNeg, Int.reduceAdd, Int.reduceSub, Int.reduceMul, Int.reduceMod, Int.reduceDiv, reduceCtorEq, Nat.reducePow, Int.reducePow, id, List.map_nil]
    · rcases (show k = 0 ∨ k = 1 ∨ k = 2 by omega) with rfl | rfl | rfl
      · simp (config := { maxSteps := 2000000 }) (disch := (first | omega | (simp only [lens, lenm]; omega))) only [go_sem, ↓reduceIte, Nat.reduceAdd, Nat.reduceEqDiff, Nat.reduceSub, Nat.reduceMul, Nat.reduceLT, Nat.reduceLeDiff, Nat.reduceBEq, Int.reduceEq, Int.reduceLT, Int.reduceLE, Int.reduceToNat, Int.reduceNeg, Int.reduceAdd, Int.reduceSub, Int.reduceMul, Int.reduceMod, Int.reduceDiv, reduceCtorEq, Nat.reducePow, Int.reducePow, ac_draw_Digests_L0, c0, c1, hf1, hf2, hz20, hz32, ht20, setRange_map, dgx0, dgx1, dgx0_length, dgx1_length, hw0, hw1, dg10, dg11, List.map_nil]
        refine Weak.rd id ?_ ?_ rfl
        all_goals simp (config := { maxSteps := 2000000 }) (disch := (first | omega | (simp only [lens, lenm]; omega))) only [go_sem, ↓reduceIte, Nat.reduceAdd, Nat.reduceEqDiff, Nat.reduceSub, Nat.reduceMul, Nat.reduceLT, Nat.reduceLeDiff, Nat.reduceBEq, Int.reduceEq, Int.reduceLT, Int.reduceLE, Int.reduceToNat, Int.reduceNeg, Int.reduceAdd, Int.reduceSub, Int.reduceMul, Int.reduceMod, Int.reduceDiv, reduceCtorEq, Nat.reducePow, Int.reducePow, id, List.map_nil]
      · simp (config := { maxSteps := 2000000 }) (disch := (first | omega | (simp only [lens, lenm]; omega))) only [go_sem, ↓reduceIte, Nat.reduceAdd, Nat.reduceEqDiff, Nat.reduceSub, Nat.reduceMul, Nat.reduceLT, Nat.reduceLeDiff, Nat.reduceBEq, Int.reduceEq, Int.reduceLT, Int.reduceLE, Int.reduceToNat, Int.reduceNeg, Int.reduceAdd, Int.reduceSub, Int.reduceMul, Int.reduceMod, Int.reduceDiv, reduceCtorEq, Nat.reducePow, Int.reducePow, ac_draw_Digests_L0, c0, c1, hf1, hf2, hz20, hz32, ht20, setRange_map, dgx0, dgx1, dgx0_length, dgx1_length, hw0, hw1, dg10, dg11, List.map_nil]
        refine Weak.cv (hv := []) [28720] id ?_ rfl
        simp (config := { maxSteps := 2000000 }) (disch := (first | omega | (simp only [lens, lenm]; omega))) only [go_sem, ↓reduceIte, Nat.reduceAdd, Nat.reduceEqDiff, Nat.reduceSub, Nat.reduceMul, Nat.reduceLT, Nat.reduceLeDiff, Nat.reduceBEq, Int.reduceEq, Int.reduceLT, Int.reduceLE, Int.reduceToNat, Int.reduceNeg, Int.reduceAdd, Int.reduceSub, Int.reduceMul, Int.reduceMod, Int.reduceDiv, reduceCtorEq, Nat.reducePow, Int.reducePow, id, dg1_len0, dg1_len1, dg1_take0, dg1_take1, List.map_nil]
        all_goals rfl
      · simp (config := { maxSteps := 2000000 }) (disch := (first | omega | (simp only [lens, lenm]; omega))) only [go_sem, ↓reduceIte, Nat.reduceAdd, Nat.reduceEqDiff, Nat.reduceSub, Nat.reduceMul, Nat.reduceLT, Nat.reduceLeDiff, Nat.reduceBEq, Int.reduceEq, Int.reduceLT, Int.reduceLE, Int.reduceToNat, Int.reduceNeg, Int.reduceAdd, Int.reduceSub, Int.reduceMul, Int.reduceMod, Int.reduceDiv, reduceCtorEq, Nat.reducePow, Int.reducePow, ac_draw_Digests_L0, c0, c1, hf1, hf2, List.map_nil]
  · have e0 : dgb s 0 b = (dg1 0 b) := by unfold dgb; rw [if_pos (by simp [c0])]
    have e1 : dgb s 1 b = [] := by unfold dgb; rw [if_neg (by simp [c1])]
    rw [e0, e1]
    simp (config := { maxSteps := 2000000 }) (disch := (first | omega | (simp only [lens, lenm]; omega))) only [go_sem, ↓reduceIte, Nat.reduceAdd, Nat.reduceEqDiff, Nat.reduceSub, Nat.reduceMul, Nat.reduceLT, Nat.reduceLeDiff, Nat.reduceBEq, Int.reduceEq, Int.reduceLT, Int.reduceLE, Int.reduceToNat, Int.reduceNeg, Int.reduceAdd, Int.reduceSub, Int.reduceMul, Int.reduceMod, Int.reduceDiv, reduceCtorEq, Nat.reducePow, Int.reducePow, ac_draw_Digests]
    refine loop_upto 2 (fun k => match k with | 0 => [(0, .t (.int .i64 s)), (1, .t (.sl (b.map byteT))), (5, .sl 8192 0 2), (6, .t (.int .i64 0))] | 1 => [(0, .t (.int .i64 s)), (1, .t (.sl (b.map byteT))), (5, .sl 8192 0 2), (6, .t (.int .i64 1))] | _ => [(0, .t (.int .i64 s)), (1, .t (.sl (b.map byteT))), (5, .sl 8192 0 2), (6, .t (.int .i64 2))]) (fun k => match k with | 0 => [(8192, .live 1 [.t (bsT []), .t (bsT [])] true false)] | 1 => [(8192, .live 1 [.t (bsT (dg1 0 b)), .t (bsT [])] true false)] | _ => [(8192, .live 1 [.t (bsT (dg1 0 b)), .t (bsT [])] true false)]) ?_ (fun k hk2 => ?_)
    · refine Weak.rd id ?_ ?_ rfl
      all_goals simp (config := { maxSteps := 2000000 }) (disch := (first | omega | (simp only [lens, lenm]; omega))) only [go_sem, ↓reduceIte, Nat.reduceAdd, Nat.reduceEqDiff, Nat.reduceSub, Nat.reduceMul, Nat.reduceLT, Nat.reduceLeDiff, Nat.reduceBEq, Int.reduceEq, Int.reduceLT, Int.reduceLE, Int.reduceToNat, Int.reduceNeg, Int.reduceAdd, Int.reduceSub, Int.reduceMul, Int.reduceMod, Int.reduceDiv, reduceCtorEq, Nat.reducePow, Int.reducePow, id, List.map_nil]
    · rcases (show k = 0 ∨ k = 1 ∨ k = 2 by omega) with rfl | rfl | rfl
      · simp (config := { maxSteps := 2000000 }) (disch := (first | omega | (simp only [lens, lenm]; omega))) only [go_sem, ↓reduceIte, Nat.reduceAdd, Nat.reduceEqDiff, Nat.reduceSub, Nat.reduceMul, Nat.reduceLT, Nat.reduceLeDiff, Nat.reduceBEq, Int.reduceEq, Int.reduceLT, Int.reduceLE, Int.reduceToNat, Int.reduceNeg, Int.reduceAdd, Int.reduceSub, Int.reduceMul, Int.reduceMod, Int.reduceDiv, reduceCtorEq, Nat.reducePow, Int.reducePow, ac_draw_Digests_L0, c0, c1, hf1, hf2, hz20, hz32, ht20, setRange_map, dgx0, dgx1, dgx0_length, dgx1_length, hw0, hw1, dg10, dg11, List.map_nil]
        refine Weak.cv (hv := []) [28720] id ?_ rfl
        simp (config := { maxSteps := 2000000 }) (disch := (first | omega | (simp only [lens, lenm]; omega))) only [go_sem, ↓reduceIte, Nat.reduceAdd, Nat.reduceEqDiff, Nat.reduceSub, Nat.reduceMul, Nat.reduceLT, Nat.reduceLeDiff, Nat.reduceBEq, Int.reduceEq, Int.reduceLT, Int.reduceLE, Int.reduceToNat, Int.reduceNeg, Int.reduceAdd, Int.reduceSub, Int.reduceMul, Int.reduceMod, Int.reduceDiv, reduceCtorEq, Nat.reducePow, Int.reducePow, id, dg1_len0, dg1_len1, dg1_take0, dg1_take1, List.map_nil]
        all_goals rfl
      · simp (config := { maxSteps := 2000000 }) (disch := (first | omega | (simp only [lens, lenm]; omega))) only [go_sem, ↓reduceIte, Nat.reduceAdd, Nat.reduceEqDiff, Nat.reduceSub, Nat.reduceMul, Nat.reduceLT, Nat.reduceLeDiff, Nat.reduceBEq, Int.reduceEq, Int.reduceLT, Int.reduceLE, Int.reduceToNat, Int.reduceNeg, Int.reduceAdd, Int.reduceSub, Int.reduceMul, Int.reduceMod, Int.reduceDiv, reduceCtorEq, Nat.reducePow, Int.reducePow, ac_draw_Digests_L0, c0, c1, hf1, hf2, hz20, hz32, ht20, setRange_map, dgx0, dgx1, dgx0_length, dgx1_length, hw0, hw1, dg10, dg11, List.map_nil]
        refine Weak.rd id ?_ ?_ rfl
        all_goals simp (config := { maxSteps := 2000000 }) (disch := (first | omega | (simp only [lens, lenm]; omega))) only [go_sem, ↓reduceIte, Nat.reduceAdd, Nat.reduceEqDiff, Nat.reduceSub, Nat.reduceMul, Nat.reduceLT, Nat.reduceLeDiff, Nat.reduceBEq, Int.reduceEq, Int.reduceLT, Int.reduceLE, Int.reduceToNat, Int.reduceNeg, Int.reduceAdd, Int.reduceSub, Int.reduceMul, Int.reduceMod, Int.reduceDiv, reduceCtorEq, Nat.reducePow, Int.reducePow, id, List.map_nil]
      · simp (config := { maxSteps := 2000000 }) (disch := (first | omega | (simp only [lens, lenm]; omega))) only [go_sem, ↓reduceIte, Nat.reduceAdd, Nat.reduceEqDiff, Nat.reduceSub, Nat.reduceMul, Nat.reduceLT, Nat.reduceLeDiff, Nat.reduceBEq, Int.reduceEq, Int.reduceLT, Int.reduceLE, Int.reduceToNat, Int.reduceNeg, Int.reduceAdd, Int.reduceSub, Int.reduceMul, Int.reduceMod, Int.reduceDiv, reduceCtorEq, Nat.reducePow, Int.reducePow, ac_draw_Digests_L0, c0, c1, hf1, hf2, List.map_nil]
  · have e0 : dgb s 0 b = (dg1 0 b) := by unfold dgb; rw [if_pos (by simp [c0])]
    have e1 : dgb s 1 b = (dg1 1 b) := by unfold dgb; rw [if_pos (by simp [c1])]
    rw [e0, e1]
    simp (config := { maxSteps := 2000000 }) (disch := (first | omega | (simp only [lens, lenm]; omega))) only [go_sem, ↓reduceIte, Nat.reduceAdd, Nat.reduceEqDiff, Nat.reduceSub, Nat.reduceMul, Nat.reduceLT, Nat.reduceLeDiff, Nat.reduceBEq, Int.reduceEq, Int.reduceLT, Int.reduceLE, Int.reduceToNat, Int.reduceNeg, Int.reduceAdd, Int.reduceSub, Int.reduceMul, Int.reduceMod, Int.reduceDiv, reduceCtorEq, Nat.reducePow, Int.reducePow, ac_draw_Digests]
    refine loop_upto 2 (fun k => match k with | 0 => [(0, .t (.int .i64 s)), (1, .t (.sl (b.map byteT))), (5, .sl 8192 0 2), (6, .t (.int .i64 0))] | 1 => [(0, .t (.int .i64 s)), (1, .t (.sl (b.map byteT))), (5, .sl 8192 0 2), (6, .t (.int .i64 1))] | _ => [(0, .t (.int .i64 s)), (1, .t (.sl (b.map byteT))), (5, .sl 8192 0 2), (6, .t (.int .i64 2))]) (fun k => match k with | 0 => [(8192, .live 1 [.t (bsT []), .t (bsT [])] true false)] | 1 => [(8192, .live 1 [.t (bsT (dg1 0 b)), .t (bsT [])] true false)] | _ => [(8192, .live 1 [.t (bsT (dg1 0 b)), .t (bsT (dg1 1 b))] true false)]) ?_ (fun k hk2 => ?_)
    · refine Weak.rd id ?_ ?_ rfl
      all_goals simp (config := { maxSteps := 2000000 }) (disch := (first | omega | (simp only [lens, lenm]; omega))) only [go_sem, ↓reduceIte, Nat.reduceAdd, Nat.reduceEqDiff, Nat.reduceSub, Nat.reduceMul, Nat.reduceLT, Nat.reduceLeDiff, Nat.reduceBEq, Int.reduceEq, Int.reduceLT, Int.reduceLE, Int.reduceToNat, Int.reduceNeg, Int.reduceAdd, Int.reduceSub, Int.reduceMul, Int.reduceMod, Int.reduceDiv, reduceCtorEq, Nat.reducePow, Int.reducePow, id, List.map_nil]
    · rcases (show k = 0 ∨ k = 1 ∨ k = 2 by omega) with rfl | rfl | rfl
      · simp (config := { maxSteps := 2000000 }) (disch := (first | omega | (simp only [lens, lenm]; omega))) only [go_sem, ↓reduceIte, Nat.reduceAdd, Nat.reduceEqDiff, Nat.reduceSub, Nat.reduceMul, Nat.reduceLT, Nat.reduceLeDiff, Nat.reduceBEq, Int.reduceEq, Int.reduceLT, Int.reduceLE, Int.reduceToNat, Int.reduceNeg, Int.reduceAdd, Int.reduceSub, Int.reduceMul, Int.reduceMod, Int.reduceDiv, reduceCtorEq, Nat.reducePow, Int.reducePow, ac_draw_Digests_L0, c0, c1, hf1, hf2, hz20, hz32, ht20, setRange_map, dgx0, dgx1, dgx0_length, dgx1_length, hw0, hw1, dg10, dg11, List.map_nil]
        refine Weak.cv (hv := []) [28720] id ?_ rfl
        simp (config := { maxSteps := 2000000 }) (disch := (first | omega | (simp only [lens, lenm]; omega))) only [go_sem, ↓reduceIte, Nat.reduceAdd, Nat.reduceEqDiff, Nat.reduceSub, Nat.reduceMul, Nat.reduceLT, Nat.reduceLeDiff, Nat.reduceBEq, Int.reduceEq, Int.reduceLT, Int.reduceLE, Int.reduceToNat, Int.reduceNeg, Int.reduceAdd, Int.reduceSub, Int.reduceMul, Int.reduceMod, Int.reduceDiv, reduceCtorEq, Nat.reducePow, Int.reducePow, id, dg1_len0, dg1_len1, dg1_take0, dg1_take1, List.map_nil]
        all_goals rfl
      · simp (config := { maxSteps := 2000000 }) (disch := (first | omega | (simp only [lens, lenm]; omega))) only [go_sem, ↓reduceIte, Nat.reduceAdd, Nat.reduceEqDiff, Nat.reduceSub, Nat.reduceMul, Nat.reduceLT, Nat.reduceLeDiff, Nat.reduceBEq, Int.reduceEq, Int.reduceLT, Int.reduceLE, Int.reduceToNat, Int.reduceNeg, Int.reduceAdd, Int.reduceSub, Int.reduceMul, Int.reduceMod, Int.reduceDiv, reduceCtorEq, Nat.reducePow, Int.reducePow, ac_draw_Digests_L0, c0, c1, hf1, hf2, hz20, hz32, ht20, setRange_map, dgx0, dgx1, dgx0_length, dgx1_length, hw0, hw1, dg10, dg11, List.map_nil]
        refine Weak.cv (hv := []) [28720] id ?_ rfl
        simp (config := { maxSteps := 2000000 }) (disch := (first | omega | (simp only [lens, lenm]; omega))) only [go_sem, ↓reduceIte, Nat.reduceAdd, Nat.reduceEqDiff, Nat.reduceSub, Nat.reduceMul, Nat.reduceLT, Nat.reduceLeDiff, Nat.reduceBEq, Int.reduceEq, Int.reduceLT, Int.reduceLE, Int.reduceToNat, Int.reduceNeg, Int.reduceAdd, Int.reduceSub, Int.reduceMul, Int.reduceMod, Int.reduceDiv, reduceCtorEq, Nat.reducePow, Int.reducePow, id, dg1_len0, dg1_len1, dg1_take0, dg1_take1, List.map_nil]
        all_goals rfl
      · simp (config := { maxSteps := 2000000 }) (disch := (first | omega | (simp only [lens, lenm]; omega))) only [go_sem, ↓reduceIte, Nat.reduceAdd, Nat.reduceEqDiff, Nat.reduceSub, Nat.reduceMul, Nat.reduceLT, Nat.reduceLeDiff, Nat.reduceBEq, Int.reduceEq, Int.reduceLT, Int.reduceLE, Int.reduceToNat, Int.reduceNeg, Int.reduceAdd, Int.reduceSub, Int.reduceMul, Int.reduceMod, Int.reduceDiv, reduceCtorEq, Nat.reducePow, Int.reducePow, ac_draw_Digests_L0, c0, c1, hf1, hf2, List.map_nil]
end Go.Eng
end
section
set_option maxRecDepth 20000
set_option maxHeartbeats 64000000
namespace Go.Eng
def ct_ddg : Ct where
  α := Int × List UInt8
  as x := [.t (.int .i64 x.1), .t (.sl (x.2.map byteT))]
  ins _ := []
  pre _ := True
  r _ := .sl 0 0 2
  outs x := [.live 1 [.t (bsT (dgb x.1 0 x.2)), .t (bsT (dgb x.1 1 x.2))] true false]
  inj := by
    rintro ⟨s, b⟩ ⟨t, c⟩ h _
    simp only [List.cons.injEq, V.t.injEq, T.int.injEq, T.sl.injEq, true_and, and_true, mapB_inj] at h
    obtain ⟨rfl, rfl⟩ := h
    exact ⟨rfl, rfl⟩
def dgB (s : Int) (b : List UInt8) : List (List UInt8) := [dgb s 0 b, dgb s 1 b]
theorem dgb_len {s : Int} {a : Nat} {b : List UInt8} (ha : a < 2) : (dgb s a b).length ≤ 32 := by
  unfold dgb
  split
  · rw [dg1_length]
    have : a = 0 ∨ a = 1 := by omega
    rcases this with rfl | rfl <;> decide
  · simp
theorem dgB_pre {s : Int} {b : List UInt8} : (dgB s b).length < 1000000000 ∧ ∀ d ∈ dgB s b, d.length < 9223372036854775808 := by
  refine ⟨by simp [dgB], ?_⟩
  intro d hd
  simp only [dgB, List.mem_cons, List.not_mem_nil, or_false] at hd
  have h0 := dgb_len (s := s) (a := 0) (b := b) (by omega)
  have h1 := dgb_len (s := s) (a := 1) (b := b) (by omega)
  rcases hd with rfl | rfl <;> omega
def extP (x : List Bank × Int) (l i : Int) (ds : List (List UInt8)) : List Bank × Int := if extEr x.1 l i ds = 0 then (extBk x.1 i.toNat ds, x.2 + 1) else x
def evP (x : List Bank × Int) (l i : Int) (d : List UInt8) : List Bank × Int := if 128 < d.length then x else extP x l i (digB x.1 d)
def rstP (x : List Bank × Int) (l i : Int) : List Bank × Int := if rstE l i = 0 then (rstBk x.1 i.toNat, x.2 + 1) else x
def Ans (x : List Bank × Int) (v : V) (y : List Bank × Int) : Prop := ∃ (bk : List Bank) (u e : Int), v = .tup [.t (.agg [.sl (bk.map bankT), .int .i64 u]), .t (.int .i64 e)] ∧ ((e = 0 ∧ y = (bk, u)) ∨ (e ≠ 0 ∧ y = x))
theorem extR_ans {x : List Bank × Int} {l i : Int} {ds : List (List UInt8)} : Ans x (extR x.1 x.2 l i ds) (extP x l i ds) := by
  unfold extR extP extEr
  split
  · exact ⟨_, _, _, rfl, .inl ⟨rfl, rfl⟩⟩
  · rename_i h
    exact ⟨[], 0, _, rfl, .inr ⟨h, rfl⟩⟩
theorem evR_ans {x : List Bank × Int} {l i : Int} {d : List UInt8} : Ans x (evR x.1 x.2 l i d) (evP x l i d) := by
  unfold evR evP
  split
  · exact ⟨[], 0, 4, rfl, .inr ⟨by decide, rfl⟩⟩
  · exact extR_ans
theorem rstR_ans {x : List Bank × Int} {l i : Int} : Ans x (rstR x.1 x.2 l i) (rstP x l i) := by
  unfold rstR rstP
  split
  · exact ⟨_, _, _, rfl, .inl ⟨rfl, rfl⟩⟩
  · rename_i h
    exact ⟨[], 0, _, rfl, .inr ⟨h, rfl⟩⟩
def RS (n : Nat) (x : List Bank × Int) : Prop := RV x.1 ∧ 0 ≤ x.2 ∧ x.2 ≤ n
theorem RS.up {n m : Nat} {x : List Bank × Int} (h : RS n x) (hm : n ≤ m) : RS m x := ⟨h.1, h.2.1, by have := h.2.2; omega⟩
theorem RS.ext {n : Nat} {x : List Bank × Int} (h : RS n x) (l i : Int) (ds : List (List UInt8)) : RS (n + 1) (extP x l i ds) := by
  unfold extP
  split
  · exact ⟨h.1.ext _ _, by have := h.2.1; simp only; omega, by have := h.2.2; simp only; omega⟩
  · exact h.up (by omega)
theorem RS.ev {n : Nat} {x : List Bank × Int} (h : RS n x) (l i : Int) (d : List UInt8) : RS (n + 1) (evP x l i d) := by
  unfold evP
  split
  · exact h.up (by omega)
  · exact h.ext _ _ _
theorem RS.rst {n : Nat} {x : List Bank × Int} (h : RS n x) (l i : Int) : RS (n + 1) (rstP x l i) := by
  unfold rstP
  split
  · exact ⟨h.1.rst _, by have := h.2.1; simp only; omega, by have := h.2.2; simp only; omega⟩
  · exact h.up (by omega)
theorem RS.rsm {n : Nat} {x : List Bank × Int} (h : RS n x) : RS (n + 1) (resBk x.1, x.2) := ⟨h.1.res, h.2.1, by have := h.2.2; simp only; omega⟩
def drS (s : Int) (i k : Nat) (x : List Bank × Int) : List Bank × Int :=
  if k % 8 < 3 then evP x 4 (k / 8 % 16 : Nat) [UInt8.ofNat k, UInt8.ofNat i]
  else if k % 8 < 6 then extP x 4 (k / 8 % 16 : Nat) (dgB s [UInt8.ofNat k, UInt8.ofNat i])
  else if k % 8 = 6 then rstP x 4 (12 + k / 8 % 4 : Nat)
  else (resBk x.1, x.2)
def drN (s : Int) (cs : List UInt8) : Nat → List Bank × Int
  | 0 => (newBk s, 0)
  | i + 1 => drS s i (cs.getD i 0).toNat (drN s cs i)
theorem RS.dr {s : Int} {i k n : Nat} {x : List Bank × Int} (h : RS n x) : RS (n + 1) (drS s i k x) := by
  unfold drS
  split
  · exact h.ev _ _ _
  · split
    · exact h.ext _ _ _
    · split
      · exact h.rst _ _
      · exact h.rsm
theorem drN_rs {s : Int} {cs : List UInt8} : ∀ n, RS n (drN s cs n)
  | 0 => ⟨newBk_rv, by simp [drN], by simp [drN]⟩
  | n + 1 => (drN_rs n).dr
def dr (s : Int) (cs : List UInt8) : List Bank × Int := drN s cs (min cs.length 12)
theorem dr_rs {s : Int} {cs : List UInt8} : RS 12 (dr s cs) := (drN_rs _).up (Nat.min_le_right _ _)
end Go.Eng
end
section
set_option maxRecDepth 20000
set_option maxHeartbeats 64000000
namespace Go.Eng
def ct_drR : Ct where
  α := Int × List UInt8
  as x := [.t (.int .i64 x.1), .t (.sl (x.2.map byteT))]
  ins _ := []
  pre x := x.2.length ≤ 9223372036854775807
  r x := .t (regT (dr x.1 x.2).1 (dr x.1 x.2).2)
  outs _ := []
  inj := by
    rintro ⟨s, b⟩ ⟨t, c⟩ h _
    simp only [List.cons.injEq, V.t.injEq, T.int.injEq, T.sl.injEq, true_and, and_true, mapB_inj] at h
    obtain ⟨rfl, rfl⟩ := h
    exact ⟨rfl, rfl⟩
theorem drR_eq {s : Int} {cs : List UInt8} (h : cs.length ≤ 9223372036854775807) : ∃ bk u, RV bk ∧ 0 ≤ u ∧ u ≤ 12 ∧ ct_drR.fs [.t (.int .i64 s), .t (.sl (cs.map byteT))] [] = some (.t (.agg [.sl (bk.map bankT), .int .i64 u]), []) :=
  ⟨_, _, (dr_rs (s := s) (cs := cs)).1, (dr_rs (s := s) (cs := cs)).2.1, (dr_rs (s := s) (cs := cs)).2.2, ct_drR.eq (s, cs) h⟩
theorem same_nil : ct_same.fs [.t (.sl []), .t (.sl [])] [] = some (.t (.bool true), []) := same_eq (a := []) (b := []) ⟨by decide, by decide⟩
theorem same_refl {a : List UInt8} (h : a.length < 1000000000) : ct_same.fs [.t (.sl (a.map byteT)), .t (.sl (a.map byteT))] [] = some (.t (.bool true), []) := by
  rw [same_eq ⟨h, h⟩, decide_eq_true rfl]
end Go.Eng
end
section
set_option maxRecDepth 20000
set_option maxHeartbeats 64000000
namespace Go.Eng
theorem Ans.rv {x : List Bank × Int} {v : V} {y : List Bank × Int} (h : Ans x v y) (hv : ∃ bk' u' e, v = .tup [.t (regT bk' u'), .t (.int .i64 e)] ∧ RV bk' ∧ (e = 0 → u' = x.2 + 1)) : ∃ bk' u' e, v = .tup [.t (.agg [.sl (bk'.map bankT), .int .i64 u']), .t (.int .i64 e)] ∧ RM bk' := by
  obtain ⟨bk', u', e, h1, h2, _⟩ := hv
  exact ⟨bk', u', e, h1, h2.rm⟩
end Go.Eng
end
section
set_option maxRecDepth 20000
set_option maxHeartbeats 64000000
namespace Go.Eng
def evB (bk : List Bank) (n : Nat) (data : List UInt8) : List Bank := extBk bk n (digB bk data)
theorem RK.cases {bk : List Bank} (h : RK bk) : bk = [] ∨ ∃ b0 b1, bk = [b0, b1] ∧ bkOk b0 ∧ bkOk b1 := by
  cases h with
  | nil => exact .inl rfl
  | two b0 b1 h0 h1 => exact .inr ⟨b0, b1, rfl, h0, h1⟩
theorem RV.ev {bk : List Bank} (h : RV bk) (n : Nat) (d : List UInt8) : RV (evB bk n d) := h.ext _ _
end Go.Eng
end
section
set_option maxRecDepth 20000
set_option maxHeartbeats 64000000
namespace Go.Eng
def ct_uint : Ct where
  α := List UInt8 × Nat × Int
  as x := [.t (.sl (x.1.map byteT)), .t (.int .i64 x.2.1), .t (.int .i64 x.2.2)]
  ins _ := []
  pre x := x.1.length < 1000000000 ∧ 1 ≤ x.2.1 ∧ x.2.1 ≤ 8
  r x := .sl 0 0 (x.1.length + x.2.1)
  outs x := [.live 1 (((x.1 ++ beI x.2.1 x.2.2 x.2.1).map byteT).map V.t) true false]
  inj := by
    rintro ⟨a, s, n⟩ ⟨c, t, m⟩ h _
    simp only [List.cons.injEq, V.t.injEq, T.sl.injEq, T.int.injEq, true_and, and_true, mapB_inj, Int.natCast_inj] at h
    obtain ⟨rfl, rfl, rfl⟩ := h
    exact ⟨rfl, rfl⟩
theorem uint2 {b : List UInt8} {n : Int} (hb : b.length < 1000000000) : ct_uint.fs [.t (.sl (b.map byteT)), .t (.int .i64 2), .t (.int .i64 n)] [] = some (.sl 0 0 (b.length + 2), [.live 1 (((b ++ beI 2 n 2).map byteT).map V.t) true false]) := ct_uint.eq (b, 2, n) ⟨hb, by show 1 ≤ 2; omega, by show 2 ≤ 8; omega⟩
theorem beI_len {s k : Nat} {n : Int} : (beI s n k).length = k := by simp [beI]
def selL (bk : List Bank) (a : Nat) (s : Int) : Nat → List UInt8
  | 0 => []
  | i + 1 => if s / 2 ^ i % 2 = 1 then selL bk a s i ++ valL bk a i else selL bk a s i
theorem be32_len {n : Nat} : (be32 n).length = 4 := rfl
theorem selL_z {bk : List Bank} {a : Nat} {s : Int} : selL bk a s 0 = [] := rfl
theorem selL_pos {bk : List Bank} {a i : Nat} {s : Int} (h : s / 2 ^ i % 2 = 1) : selL bk a s (i + 1) = selL bk a s i ++ valL bk a i := if_pos h
theorem selL_neg {bk : List Bank} {a i : Nat} {s : Int} (h : ¬ s / 2 ^ i % 2 = 1) : selL bk a s (i + 1) = selL bk a s i := if_neg h
def PD (A B : Prop) (k : Nat) : Prop := (1 ≤ k → A) ∧ (2 ≤ k → B)
def badS (s : Int) : Prop := s < 0 ∨ 65535 < s
instance {s : Int} : Decidable (badS s) := inferInstanceAs (Decidable (_ ∨ _))
def headS (s0 s1 : Int) : List UInt8 := beI 2 s0 2 ++ beI 2 s1 2
def valS (bk : List Bank) (s0 s1 : Int) : List UInt8 := selL bk 0 s0 16 ++ selL bk 1 s1 16
def digE (bk : List Bank) (s0 s1 : Int) : Int := if badS s0 ∨ badS s1 then 1 else if (s0 ≠ 0 ∧ onB bk 0 = false) ∨ (s1 ≠ 0 ∧ onB bk 1 = false) then 27 else 0
def digR (bk : List Bank) (s0 s1 : Int) : V := if digE bk s0 s1 = 0 then .tup [.sl 0 0 32, .t (.int .i64 0)] else .tup [.nil, .t (.int .i64 (digE bk s0 s1))]
def digO (bk : List Bank) (s0 s1 : Int) : List Ob := if digE bk s0 s1 = 0 then [.live 1 (((hashL 5 [headS s0 s1, valS bk s0 s1]).map byteT).map V.t) true false] else []
theorem selL_le {bk : List Bank} (h : RV bk) (a : Nat) (s : Int) : ∀ i, (selL bk a s i).length ≤ 64 * i
  | 0 => by simp [selL]
  | i + 1 => by
    have ih := selL_le h a s i
    have hv : (valL bk a i).length ≤ 64 := by
      unfold valL
      rcases h.cases with rfl | ⟨b0, b1, rfl, _, _, m0, m1⟩
      · simp
      · match a with
        | 0 => exact getD_le m0
        | 1 => exact getD_le m1
        | a + 2 => simp
    unfold selL
    split
    · rw [List.length_append]; omega
    · omega
def ct_hash : Ct where
  α := Nat × List (List UInt8)
  as x := [.t (.int .i64 x.1), .t (.sl (x.2.map bsT))]
  ins _ := []
  pre x := x.1 < 256 ∧ (frameL x.1 x.2).length < 1000000000
  r _ := .sl 0 0 32
  outs x := [.live 1 (((hashL x.1 x.2).map byteT).map V.t) true false]
  inj := by
    rintro ⟨a, b⟩ ⟨c, d⟩ h _
    simp [mapBs_inj, Int.natCast_inj] at h
    obtain ⟨rfl, rfl⟩ := h
    exact ⟨rfl, rfl⟩
theorem hash_eq2 {x y : List UInt8} (h : (frameL 5 [x, y]).length < 1000000000) : ct_hash.fs [.t (.int .i64 5), .t (.sl [.sl (x.map byteT), .sl (y.map byteT)])] [] = some (.sl 0 0 32, [.live 1 (((hashL 5 [x, y]).map byteT).map V.t) true false]) := ct_hash.eq (5, [x, y]) ⟨by show 5 < 256; omega, h⟩
theorem w_registers_Digest (tab : Tab) (gl : Gl) (n1 n2 n3 : Nat) (h1 : tab.look n1 = some ct_uint.fs) (h2 : tab.look n2 = some ct_on.fs) (h3 : tab.look n3 = some ct_hash.fs) (bk : List Bank) (u s0 s1 : Int) (hv : RV bk) :
    (ac_registers_Digest n1 n2 n3).wp tab gl (zipF 0 [.t (regT bk u), .t (.agg [.int .i64 s0, .int .i64 s1])]) (zipF 0 []) (resF [] [(4, none), (5, none)] 0 (fun r o => r = digR bk s0 s1 ∧ o = digO bk s0 s1)) := by
  simp (config := { maxSteps := 2000000 }) (disch := (first | omega | (simp only [lens, lenm]; omega))) only [go_sem, ↓reduceIte, Nat.reduceAdd, Nat.reduceEqDiff, Nat.reduceSub, Nat.reduceMul, Nat.reduceLT, Nat.reduceLeDiff, Nat.reduceBEq, Int.reduceEq, Int.reduceLT, Int.reduceLE, Int.reduceToNat, Int.reduceNeg, Int.reduceAdd, Int.reduceSub, Int.reduceMul, Int.reduceMod, Int.reduceDiv, reduceCtorEq, Nat.reducePow, Int.reducePow, ac_registers_Digest]
  have t2 : List.take 2 (beI 2 s0 2) = beI 2 s0 2 := List.take_of_length_le (by rw [beI_len]; exact Nat.le_refl _)
  have t4 : List.take 4 (beI 2 s0 2 ++ beI 2 s1 2) = beI 2 s0 2 ++ beI 2 s1 2 := List.take_of_length_le (by rw [List.length_append, beI_len, beI_len]; exact Nat.le_refl _)
  by_cases b0 : badS s0
  · have hE : digE bk s0 s1 = 1 := by unfold digE; rw [if_pos (.inl b0)]
    rw [digR, digO, hE]
    unfold badS at b0
    refine loop_fuel 1 ?_
    by_cases c0 : s0 < 0
    · simp (config := { maxSteps := 2000000 }) (disch := (first | omega | (simp only [lens, lenm]; omega))) only [go_sem, ↓reduceIte, Nat.reduceAdd, Nat.reduceEqDiff, Nat.reduceSub, Nat.reduceMul, Nat.reduceLT, Nat.reduceLeDiff, Nat.reduceBEq, Int.reduceEq, Int.reduceLT, Int.reduceLE, Int.reduceToNat, Int.reduceNeg, Int.reduceAdd, Int.reduceSub, Int.reduceMul, Int.reduceMod, Int.reduceDiv, reduceCtorEq, Nat.reducePow, Int.reducePow, loopN_succ, ac_registers_Digest_L0, c0]
    · simp (config := { maxSteps := 2000000 }) (disch := (first | omega | (simp only [lens, lenm]; omega))) only [go_sem, ↓reduceIte, Nat.reduceAdd, Nat.reduceEqDiff, Nat.reduceSub, Nat.reduceMul, Nat.reduceLT, Nat.reduceLeDiff, Nat.reduceBEq, Int.reduceEq, Int.reduceLT, Int.reduceLE, Int.reduceToNat, Int.reduceNeg, Int.reduceAdd, Int.reduceSub, Int.reduceMul, Int.reduceMod, Int.reduceDiv, reduceCtorEq, Nat.reducePow, Int.reducePow, loopN_succ, ac_registers_Digest_L0, c0]
  have hb0 : ¬ s0 < 0 ∧ ¬ 65535 < s0 := by unfold badS at b0; omega
  obtain ⟨c0, d0⟩ := hb0
  have hm := hv.rm
  have hu := uint2 (b := []) (n := s0) (by decide)
  simp only [List.map_nil, List.length_nil, List.nil_append] at hu
  by_cases b1 : badS s1
  · have hE : digE bk s0 s1 = 1 := by unfold digE; rw [if_pos (.inr b1)]
    rw [digR, digO, hE]
    unfold badS at b1
    refine loop_fuel 2 ?_
    by_cases c1 : s1 < 0
    · simp (config := { maxSteps := 2000000 }) (disch := (first | omega | (simp only [lens, lenm]; omega))) only [go_sem, ↓reduceIte, Nat.reduceAdd, Nat.reduceEqDiff, Nat.reduceSub, Nat.reduceMul, Nat.reduceLT, Nat.reduceLeDiff, Nat.reduceBEq, Int.reduceEq, Int.reduceLT, Int.reduceLE, Int.reduceToNat, Int.reduceNeg, Int.reduceAdd, Int.reduceSub, Int.reduceMul, Int.reduceMod, Int.reduceDiv, reduceCtorEq, Nat.reducePow, Int.reducePow, loopN_succ, ac_registers_Digest_L0, c0, d0, c1, h1, hu, List.map_nil]
    · simp (config := { maxSteps := 2000000 }) (disch := (first | omega | (simp only [lens, lenm]; omega))) only [go_sem, ↓reduceIte, Nat.reduceAdd, Nat.reduceEqDiff, Nat.reduceSub, Nat.reduceMul, Nat.reduceLT, Nat.reduceLeDiff, Nat.reduceBEq, Int.reduceEq, Int.reduceLT, Int.reduceLE, Int.reduceToNat, Int.reduceNeg, Int.reduceAdd, Int.reduceSub, Int.reduceMul, Int.reduceMod, Int.reduceDiv, reduceCtorEq, Nat.reducePow, Int.reducePow, loopN_succ, ac_registers_Digest_L0, c0, d0, c1, h1, hu, List.map_nil]
  have hb1 : ¬ s1 < 0 ∧ ¬ 65535 < s1 := by unfold badS at b1; omega
  obtain ⟨c1, d1⟩ := hb1
  refine loop_upto 2 (fun k => match k with
    | 0 => [(2, .ref 4096 0 0), (3, .ref 4112 0 0), (6, .t (.sl (([] : List UInt8).map byteT))), (7, .nil), (13, .t (.agg [.int .i64 s0, .int .i64 s1])), (14, .t (.int .i64 0))]
    | 1 => [(2, .ref 4096 0 0), (3, .ref 4112 0 0), (6, .t (.sl ((beI 2 s0 2).map byteT))), (7, .nil), (13, .t (.agg [.int .i64 s0, .int .i64 s1])), (14, .t (.int .i64 1))]
    | _ => [(2, .ref 4096 0 0), (3, .ref 4112 0 0), (6, .t (.sl ((headS s0 s1).map byteT))), (7, .nil), (13, .t (.agg [.int .i64 s0, .int .i64 s1])), (14, .t (.int .i64 2))])
    (fun _ => [(4112, .live 1 [.t (.int .i64 s0), .t (.int .i64 s1)] true true), (4096, .live 2 [.t (regT bk u)] true true)]) ?_ (fun k hk => ?_)
  · refine Weak.rd id ?_ ?_ rfl
    all_goals simp (config := { maxSteps := 2000000 }) (disch := (first | omega | (simp only [lens, lenm]; omega))) only [go_sem, ↓reduceIte, Nat.reduceAdd, Nat.reduceEqDiff, Nat.reduceSub, Nat.reduceMul, Nat.reduceLT, Nat.reduceLeDiff, Nat.reduceBEq, Int.reduceEq, Int.reduceLT, Int.reduceLE, Int.reduceToNat, Int.reduceNeg, Int.reduceAdd, Int.reduceSub, Int.reduceMul, Int.reduceMod, Int.reduceDiv, reduceCtorEq, Nat.reducePow, Int.reducePow, id, List.map_nil]
  · rcases (show k = 0 ∨ k = 1 ∨ k = 2 by omega) with rfl | rfl | rfl
    · simp (config := { maxSteps := 2000000 }) (disch := (first | omega | (simp only [lens, lenm]; omega))) only [go_sem, ↓reduceIte, Nat.reduceAdd, Nat.reduceEqDiff, Nat.reduceSub, Nat.reduceMul, Nat.reduceLT, Nat.reduceLeDiff, Nat.reduceBEq, Int.reduceEq, Int.reduceLT, Int.reduceLE, Int.reduceToNat, Int.reduceNeg, Int.reduceAdd, Int.reduceSub, Int.reduceMul, Int.reduceMod, Int.reduceDiv, reduceCtorEq, Nat.reducePow, Int.reducePow, ac_registers_Digest_L0, c0, d0, h1, hu, List.map_nil]
      refine Weak.cv (hv := []) [32800] id ?_ rfl
      simp (config := { maxSteps := 2000000 }) (disch := (first | omega | (simp only [lens, lenm]; omega))) only [go_sem, ↓reduceIte, Nat.reduceAdd, Nat.reduceEqDiff, Nat.reduceSub, Nat.reduceMul, Nat.reduceLT, Nat.reduceLeDiff, Nat.reduceBEq, Int.reduceEq, Int.reduceLT, Int.reduceLE, Int.reduceToNat, Int.reduceNeg, Int.reduceAdd, Int.reduceSub, Int.reduceMul, Int.reduceMod, Int.reduceDiv, reduceCtorEq, Nat.reducePow, Int.reducePow, id, beI_len, t2]
      rfl
    · have hu := uint2 (b := beI 2 s0 2) (n := s1) (by rw [beI_len]; omega)
      rw [beI_len] at hu
      simp (config := { maxSteps := 2000000 }) (disch := (first | omega | (simp only [lens, lenm]; omega))) only [go_sem, ↓reduceIte, Nat.reduceAdd, Nat.reduceEqDiff, Nat.reduceSub, Nat.reduceMul, Nat.reduceLT, Nat.reduceLeDiff, Nat.reduceBEq, Int.reduceEq, Int.reduceLT, Int.reduceLE, Int.reduceToNat, Int.reduceNeg, Int.reduceAdd, Int.reduceSub, Int.reduceMul, Int.reduceMod, Int.reduceDiv, reduceCtorEq, Nat.reducePow, Int.reducePow, ac_registers_Digest_L0, c1, d1, h1, hu]
      refine Weak.cv (hv := []) [32800] id ?_ rfl
      simp (config := { maxSteps := 2000000 }) (disch := (first | omega | (simp only [lens, lenm]; omega))) only [go_sem, ↓reduceIte, Nat.reduceAdd, Nat.reduceEqDiff, Nat.reduceSub, Nat.reduceMul, Nat.reduceLT, Nat.reduceLeDiff, Nat.reduceBEq, Int.reduceEq, Int.reduceLT, Int.reduceLE, Int.reduceToNat, Int.reduceNeg, Int.reduceAdd, Int.reduceSub, Int.reduceMul, Int.reduceMod, Int.reduceDiv, reduceCtorEq, Nat.reducePow, Int.reducePow, id, beI_len, headS, t4]
      rfl
    · simp (config := { maxSteps := 2000000 }) (disch := (first | omega | (simp only [lens, lenm]; omega))) only [go_sem, ↓reduceIte, Nat.reduceAdd, Nat.reduceEqDiff, Nat.reduceSub, Nat.reduceMul, Nat.reduceLT, Nat.reduceLeDiff, Nat.reduceBEq, Int.reduceEq, Int.reduceLT, Int.reduceLE, Int.reduceToNat, Int.reduceNeg, Int.reduceAdd, Int.reduceSub, Int.reduceMul, Int.reduceMod, Int.reduceDiv, reduceCtorEq, Nat.reducePow, Int.reducePow, ac_registers_Digest_L0]
      refine loop_uptoP 2 (PD (s0 = 0 ∨ onB bk 0 = true) (s1 = 0 ∨ onB bk 1 = true)) (fun k => match k with | 0 => [(2, .ref 4096 0 0), (6, .t (.sl ((headS s0 s1).map byteT))), (7, .sl 9100 0 (List.length ([] : List UInt8))), (27, .t (.agg [.int .i64 s0, .int .i64 s1])), (28, .t (.int .i64 0))] | 1 => [(2, .ref 4096 0 0), (6, .t (.sl ((headS s0 s1).map byteT))), (7, .sl 9100 0 (List.length (selL bk 0 s0 16))), (27, .t (.agg [.int .i64 s0, .int .i64 s1])), (28, .t (.int .i64 1))] | _ => [(2, .ref 4096 0 0), (6, .t (.sl ((headS s0 s1).map byteT))), (7, .sl 9100 0 (List.length (selL bk 0 s0 16 ++ selL bk 1 s1 16))), (27, .t (.agg [.int .i64 s0, .int .i64 s1])), (28, .t (.int .i64 2))]) (fun k => match k with | 0 => [(9100, .live 1 ((([] : List UInt8).map byteT).map V.t) true false), (4096, .live 2 [.t (regT bk u)] true true)] | 1 => [(9100, .live 1 (((selL bk 0 s0 16).map byteT).map V.t) true false), (4096, .live 2 [.t (regT bk u)] true true)] | _ => [(9100, .live 1 (((selL bk 0 s0 16 ++ selL bk 1 s1 16).map byteT).map V.t) true false), (4096, .live 2 [.t (regT bk u)] true true)]) ⟨fun h => absurd h (by omega), fun h => absurd h (by omega)⟩ ?_ (fun k hk hP => ?_)
      · refine Weak.cv0 (hv := [(9100, .live 1 [] true false)]) (ho := [(4096, .live 2 [.t (regT bk u)] true true)]) id ?_ ?_ rfl rfl
        all_goals simp (config := { maxSteps := 2000000 }) (disch := (first | omega | (simp only [lens, lenm]; omega))) only [go_sem, ↓reduceIte, Nat.reduceAdd, Nat.reduceEqDiff, Nat.reduceSub, Nat.reduceMul, Nat.reduceLT, Nat.reduceLeDiff, Nat.reduceBEq, Int.reduceEq, Int.reduceLT, Int.reduceLE, Int.reduceToNat, Int.reduceNeg, Int.reduceAdd, Int.reduceSub, Int.reduceMul, Int.reduceMod, Int.reduceDiv, reduceCtorEq, Nat.reducePow, Int.reducePow, id, List.map_cons, List.map_nil, List.length_nil]
      · rcases (show k = 0 ∨ k = 1 ∨ k = 2 by omega) with rfl | rfl | rfl
        · by_cases z : s0 = 0
          · have zz : (s0 == 0) = true := by simpa using z
            simp (config := { maxSteps := 2000000 }) (disch := (first | omega | (simp only [lens, lenm]; omega))) only [go_sem, ↓reduceIte, Nat.reduceAdd, Nat.reduceEqDiff, Nat.reduceSub, Nat.reduceMul, Nat.reduceLT, Nat.reduceLeDiff, Nat.reduceBEq, Int.reduceEq, Int.reduceLT, Int.reduceLE, Int.reduceToNat, Int.reduceNeg, Int.reduceAdd, Int.reduceSub, Int.reduceMul, Int.reduceMod, Int.reduceDiv, reduceCtorEq, Nat.reducePow, Int.reducePow, ac_registers_Digest_L1, zz]
            refine loop_upto 16 (fun i => [(2, .ref 4096 0 0), (6, .t (.sl ((headS s0 s1).map byteT))), (7, .sl 9100 0 (List.length (selL bk 0 s0 i))), (10, .t (.int .i64 0)), (11, .t (.int .i64 s0)), (27, .t (.agg [.int .i64 s0, .int .i64 s1])), (28, .t (.int .i64 0)), (40, .t (.int .i64 (i : Nat)))]) (fun i => [(9100, .live 1 (((selL bk 0 s0 i).map byteT).map V.t) true false), (4096, .live 2 [.t (regT bk u)] true true)]) ?_ (fun i hi => ?_)
            · refine Weak.rd id ?_ ?_ rfl
              all_goals simp (config := { maxSteps := 2000000 }) (disch := (first | omega | (simp only [lens, lenm]; omega))) only [go_sem, ↓reduceIte, Nat.reduceAdd, Nat.reduceEqDiff, Nat.reduceSub, Nat.reduceMul, Nat.reduceLT, Nat.reduceLeDiff, Nat.reduceBEq, Int.reduceEq, Int.reduceLT, Int.reduceLE, Int.reduceToNat, Int.reduceNeg, Int.reduceAdd, Int.reduceSub, Int.reduceMul, Int.reduceMod, Int.reduceDiv, reduceCtorEq, Nat.reducePow, Int.reducePow, id, selL_z, List.append_nil]
            · have l0 := selL_le hv 0 s0 16
              have l1 := selL_le hv 0 s0 i
              by_cases hlt : i < 16
              · have hsh : s0.fdiv (2 ^ i) = s0 / 2 ^ i := Int.fdiv_eq_ediv_of_nonneg _ (Int.le_of_lt (Int.pow_pos (by decide)))
                have hb : ¬ s0 / 2 ^ i % 2 = 1 := by rw [z]; simp
                simp (config := { maxSteps := 2000000 }) (disch := (first | omega | (simp only [lens, lenm]; omega))) only [go_sem, ↓reduceIte, Nat.reduceAdd, Nat.reduceEqDiff, Nat.reduceSub, Nat.reduceMul, Nat.reduceLT, Nat.reduceLeDiff, Nat.reduceBEq, Int.reduceEq, Int.reduceLT, Int.reduceLE, Int.reduceToNat, Int.reduceNeg, Int.reduceAdd, Int.reduceSub, Int.reduceMul, Int.reduceMod, Int.reduceDiv, reduceCtorEq, Nat.reducePow, Int.reducePow, ac_registers_Digest_L2, hsh, hb]
                refine ⟨hlt, Weak.rd id ?_ ?_ rfl⟩
                all_goals simp (config := { maxSteps := 2000000 }) (disch := (first | omega | (simp only [lens, lenm]; omega))) only [go_sem, ↓reduceIte, Nat.reduceAdd, Nat.reduceEqDiff, Nat.reduceSub, Nat.reduceMul, Nat.reduceLT, Nat.reduceLeDiff, Nat.reduceBEq, Int.reduceEq, Int.reduceLT, Int.reduceLE, Int.reduceToNat, Int.reduceNeg, Int.reduceAdd, Int.reduceSub, Int.reduceMul, Int.reduceMod, Int.reduceDiv, reduceCtorEq, Nat.reducePow, Int.reducePow, id, selL_neg (bk := bk) (a := 0) hb]
              · have e : i = 16 := by omega
                subst e
                simp (config := { maxSteps := 2000000 }) (disch := (first | omega | (simp only [lens, lenm]; omega))) only [go_sem, ↓reduceIte, Nat.reduceAdd, Nat.reduceEqDiff, Nat.reduceSub, Nat.reduceMul, Nat.reduceLT, Nat.reduceLeDiff, Nat.reduceBEq, Int.reduceEq, Int.reduceLT, Int.reduceLE, Int.reduceToNat, Int.reduceNeg, Int.reduceAdd, Int.reduceSub, Int.reduceMul, Int.reduceMod, Int.reduceDiv, reduceCtorEq, Nat.reducePow, Int.reducePow, ac_registers_Digest_L2]
                refine ⟨⟨fun _ => .inl z, fun h => absurd h (by omega)⟩, Weak.rd id ?_ ?_ rfl⟩
                all_goals simp (config := { maxSteps := 2000000 }) (disch := (first | omega | (simp only [lens, lenm]; omega))) only [go_sem, ↓reduceIte, Nat.reduceAdd, Nat.reduceEqDiff, Nat.reduceSub, Nat.reduceMul, Nat.reduceLT, Nat.reduceLeDiff, Nat.reduceBEq, Int.reduceEq, Int.reduceLT, Int.reduceLE, Int.reduceToNat, Int.reduceNeg, Int.reduceAdd, Int.reduceSub, Int.reduceMul, Int.reduceMod, Int.reduceDiv, reduceCtorEq, Nat.reducePow, Int.reducePow, id]
          · have zz : (s0 == 0) = false := by simpa using z
            have c0 := on_eq (u := u) (a := 0) hv.1 (by omega)
            rw [show ((0 : Nat) : Int) = 0 from rfl] at c0
            cases ho : onB bk 0
            · rw [ho] at c0
              have hE : digE bk s0 s1 = 27 := by
                unfold digE
                rw [if_neg (by rintro (h | h); exact b0 h; exact b1 h), if_pos (.inl ⟨z, ho⟩)]
              rw [digR, digO, hE]
              simp (config := { maxSteps := 2000000 }) (disch := (first | omega | (simp only [lens, lenm]; omega))) only [go_sem, ↓reduceIte, Nat.reduceAdd, Nat.reduceEqDiff, Nat.reduceSub, Nat.reduceMul, Nat.reduceLT, Nat.reduceLeDiff, Nat.reduceBEq, Int.reduceEq, Int.reduceLT, Int.reduceLE, Int.reduceToNat, Int.reduceNeg, Int.reduceAdd, Int.reduceSub, Int.reduceMul, Int.reduceMod, Int.reduceDiv, reduceCtorEq, Nat.reducePow, Int.reducePow, ac_registers_Digest_L1, zz, h2, c0]
            · rw [ho] at c0
              have hbl := hv.1.len ho
              have hbn : List.length (bk.getD 0 []) = 16 := by simpa [onB] using ho
              simp (config := { maxSteps := 2000000 }) (disch := (first | omega | (simp only [lens, lenm]; omega))) only [go_sem, ↓reduceIte, Nat.reduceAdd, Nat.reduceEqDiff, Nat.reduceSub, Nat.reduceMul, Nat.reduceLT, Nat.reduceLeDiff, Nat.reduceBEq, Int.reduceEq, Int.reduceLT, Int.reduceLE, Int.reduceToNat, Int.reduceNeg, Int.reduceAdd, Int.reduceSub, Int.reduceMul, Int.reduceMod, Int.reduceDiv, reduceCtorEq, Nat.reducePow, Int.reducePow, ac_registers_Digest_L1, zz, h2, c0]
              refine loop_upto 16 (fun i => [(2, .ref 4096 0 0), (6, .t (.sl ((headS s0 s1).map byteT))), (7, .sl 9100 0 (List.length (selL bk 0 s0 i))), (10, .t (.int .i64 0)), (11, .t (.int .i64 s0)), (27, .t (.agg [.int .i64 s0, .int .i64 s1])), (28, .t (.int .i64 0)), (40, .t (.int .i64 (i : Nat)))]) (fun i => [(9100, .live 1 (((selL bk 0 s0 i).map byteT).map V.t) true false), (4096, .live 2 [.t (regT bk u)] true true)]) ?_ (fun i hi => ?_)
              · refine Weak.rd id ?_ ?_ rfl
                all_goals simp (config := { maxSteps := 2000000 }) (disch := (first | omega | (simp only [lens, lenm]; omega))) only [go_sem, ↓reduceIte, Nat.reduceAdd, Nat.reduceEqDiff, Nat.reduceSub, Nat.reduceMul, Nat.reduceLT, Nat.reduceLeDiff, Nat.reduceBEq, Int.reduceEq, Int.reduceLT, Int.reduceLE, Int.reduceToNat, Int.reduceNeg, Int.reduceAdd, Int.reduceSub, Int.reduceMul, Int.reduceMod, Int.reduceDiv, reduceCtorEq, Nat.reducePow, Int.reducePow, id, selL_z, List.append_nil]
              · have l0 := selL_le hv 0 s0 16
                have l1 := selL_le hv 0 s0 i
                by_cases hlt : i < 16
                · have hsh : s0.fdiv (2 ^ i) = s0 / 2 ^ i := Int.fdiv_eq_ediv_of_nonneg _ (Int.le_of_lt (Int.pow_pos (by decide)))
                  by_cases hb : s0 / 2 ^ i % 2 = 1
                  · have hvl := hm.val 0 i
                    have hx : (bk.getD 0 []).getD i [] = valL bk 0 i := rfl
                    simp (config := { maxSteps := 2000000 }) (disch := (first | omega | (simp only [lens, lenm]; omega))) only [go_sem, ↓reduceIte, Nat.reduceAdd, Nat.reduceEqDiff, Nat.reduceSub, Nat.reduceMul, Nat.reduceLT, Nat.reduceLeDiff, Nat.reduceBEq, Int.reduceEq, Int.reduceLT, Int.reduceLE, Int.reduceToNat, Int.reduceNeg, Int.reduceAdd, Int.reduceSub, Int.reduceMul, Int.reduceMod, Int.reduceDiv, reduceCtorEq, Nat.reducePow, Int.reducePow, ac_registers_Digest_L2, hsh, hb, hx]
                    refine ⟨hlt, Weak.rd (fun j => if j = 9100 then 77968 else j) ?_ ?_ rfl⟩
                    all_goals simp (config := { maxSteps := 2000000 }) (disch := (first | omega | (simp only [lens, lenm]; omega))) only [go_sem, ↓reduceIte, Nat.reduceAdd, Nat.reduceEqDiff, Nat.reduceSub, Nat.reduceMul, Nat.reduceLT, Nat.reduceLeDiff, Nat.reduceBEq, Int.reduceEq, Int.reduceLT, Int.reduceLE, Int.reduceToNat, Int.reduceNeg, Int.reduceAdd, Int.reduceSub, Int.reduceMul, Int.reduceMod, Int.reduceDiv, reduceCtorEq, Nat.reducePow, Int.reducePow, selL_pos (bk := bk) (a := 0) hb, List.append_assoc]
                    all_goals try omega
                  · simp (config := { maxSteps := 2000000 }) (disch := (first | omega | (simp only [lens, lenm]; omega))) only [go_sem, ↓reduceIte, Nat.reduceAdd, Nat.reduceEqDiff, Nat.reduceSub, Nat.reduceMul, Nat.reduceLT, Nat.reduceLeDiff, Nat.reduceBEq, Int.reduceEq, Int.reduceLT, Int.reduceLE, Int.reduceToNat, Int.reduceNeg, Int.reduceAdd, Int.reduceSub, Int.reduceMul, Int.reduceMod, Int.reduceDiv, reduceCtorEq, Nat.reducePow, Int.reducePow, ac_registers_Digest_L2, hsh, hb]
                    refine ⟨hlt, Weak.rd id ?_ ?_ rfl⟩
                    all_goals simp (config := { maxSteps := 2000000 }) (disch := (first | omega | (simp only [lens, lenm]; omega))) only [go_sem, ↓reduceIte, Nat.reduceAdd, Nat.reduceEqDiff, Nat.reduceSub, Nat.reduceMul, Nat.reduceLT, Nat.reduceLeDiff, Nat.reduceBEq, Int.reduceEq, Int.reduceLT, Int.reduceLE, Int.reduceToNat, Int.reduceNeg, Int.reduceAdd, Int.reduceSub, Int.reduceMul, Int.reduceMod, Int.reduceDiv, reduceCtorEq, Nat.reducePow, Int.reducePow, id, selL_neg (bk := bk) (a := 0) hb]
                · have e : i = 16 := by omega
                  subst e
                  simp (config := { maxSteps := 2000000 }) (disch := (first | omega | (simp only [lens, lenm]; omega))) only [go_sem, ↓reduceIte, Nat.reduceAdd, Nat.reduceEqDiff, Nat.reduceSub, Nat.reduceMul, Nat.reduceLT, Nat.reduceLeDiff, Nat.reduceBEq, Int.reduceEq, Int.reduceLT, Int.reduceLE, Int.reduceToNat, Int.reduceNeg, Int.reduceAdd, Int.reduceSub, Int.reduceMul, Int.reduceMod, Int.reduceDiv, reduceCtorEq, Nat.reducePow, Int.reducePow, ac_registers_Digest_L2]
                  refine ⟨⟨fun _ => (by first | exact .inr ho | trivial), fun h => absurd h (by omega)⟩, Weak.rd id ?_ ?_ rfl⟩
                  all_goals simp (config := { maxSteps := 2000000 }) (disch := (first | omega | (simp only [lens, lenm]; omega))) only [go_sem, ↓reduceIte, Nat.reduceAdd, Nat.reduceEqDiff, Nat.reduceSub, Nat.reduceMul, Nat.reduceLT, Nat.reduceLeDiff, Nat.reduceBEq, Int.reduceEq, Int.reduceLT, Int.reduceLE, Int.reduceToNat, Int.reduceNeg, Int.reduceAdd, Int.reduceSub, Int.reduceMul, Int.reduceMod, Int.reduceDiv, reduceCtorEq, Nat.reducePow, Int.reducePow, id]
        · by_cases z : s1 = 0
          · have zz : (s1 == 0) = true := by simpa using z
            simp (config := { maxSteps := 2000000 }) (disch := (first | omega | (simp only [lens, lenm]; omega))) only [go_sem, ↓reduceIte, Nat.reduceAdd, Nat.reduceEqDiff, Nat.reduceSub, Nat.reduceMul, Nat.reduceLT, Nat.reduceLeDiff, Nat.reduceBEq, Int.reduceEq, Int.reduceLT, Int.reduceLE, Int.reduceToNat, Int.reduceNeg, Int.reduceAdd, Int.reduceSub, Int.reduceMul, Int.reduceMod, Int.reduceDiv, reduceCtorEq, Nat.reducePow, Int.reducePow, ac_registers_Digest_L1, zz]
            refine loop_upto 16 (fun i => [(2, .ref 4096 0 0), (6, .t (.sl ((headS s0 s1).map byteT))), (7, .sl 9100 0 (List.length (selL bk 0 s0 16 ++ selL bk 1 s1 i))), (10, .t (.int .i64 1)), (11, .t (.int .i64 s1)), (27, .t (.agg [.int .i64 s0, .int .i64 s1])), (28, .t (.int .i64 1)), (40, .t (.int .i64 (i : Nat)))]) (fun i => [(9100, .live 1 (((selL bk 0 s0 16 ++ selL bk 1 s1 i).map byteT).map V.t) true false), (4096, .live 2 [.t (regT bk u)] true true)]) ?_ (fun i hi => ?_)
            · refine Weak.rd id ?_ ?_ rfl
              all_goals simp (config := { maxSteps := 2000000 }) (disch := (first | omega | (simp only [lens, lenm]; omega))) only [go_sem, ↓reduceIte, Nat.reduceAdd, Nat.reduceEqDiff, Nat.reduceSub, Nat.reduceMul, Nat.reduceLT, Nat.reduceLeDiff, Nat.reduceBEq, Int.reduceEq, Int.reduceLT, Int.reduceLE, Int.reduceToNat, Int.reduceNeg, Int.reduceAdd, Int.reduceSub, Int.reduceMul, Int.reduceMod, Int.reduceDiv, reduceCtorEq, Nat.reducePow, Int.reducePow, id, selL_z, List.append_nil]
            · have l0 := selL_le hv 0 s0 16
              have l1 := selL_le hv 1 s1 i
              by_cases hlt : i < 16
              · have hsh : s1.fdiv (2 ^ i) = s1 / 2 ^ i := Int.fdiv_eq_ediv_of_nonneg _ (Int.le_of_lt (Int.pow_pos (by decide)))
                have hb : ¬ s1 / 2 ^ i % 2 = 1 := by rw [z]; simp
                simp (config := { maxSteps := 2000000 }) (disch := (first | omega | (simp only [lens, lenm]; omega))) only [go_sem, ↓reduceIte, Nat.reduceAdd, Nat.reduceEqDiff, Nat.reduceSub, Nat.reduceMul, Nat.reduceLT, Nat.reduceLeDiff, Nat.reduceBEq, Int.reduceEq, Int.reduceLT, Int.reduceLE, Int.reduceToNat, Int.reduceNeg, Int.reduceAdd, Int.reduceSub, Int.reduceMul, Int.reduceMod, Int.reduceDiv, reduceCtorEq, Nat.reducePow, Int.reducePow, ac_registers_Digest_L2, hsh, hb]
                refine ⟨hlt, Weak.rd id ?_ ?_ rfl⟩
                all_goals simp (config := { maxSteps := 2000000 }) (disch := (first | omega | (simp only [lens, lenm]; omega))) only [go_sem, ↓reduceIte, Nat.reduceAdd, Nat.reduceEqDiff, Nat.reduceSub, Nat.reduceMul, Nat.reduceLT, Nat.reduceLeDiff, Nat.reduceBEq, Int.reduceEq, Int.reduceLT, Int.reduceLE, Int.reduceToNat, Int.reduceNeg, Int.reduceAdd, Int.reduceSub, Int.reduceMul, Int.reduceMod, Int.reduceDiv, reduceCtorEq, Nat.reducePow, Int.reducePow, id, selL_neg (bk := bk) (a := 1) hb]
              · have e : i = 16 := by omega
                subst e
                simp (config := { maxSteps := 2000000 }) (disch := (first | omega | (simp only [lens, lenm]; omega))) only [go_sem, ↓reduceIte, Nat.reduceAdd, Nat.reduceEqDiff, Nat.reduceSub, Nat.reduceMul, Nat.reduceLT, Nat.reduceLeDiff, Nat.reduceBEq, Int.reduceEq, Int.reduceLT, Int.reduceLE, Int.reduceToNat, Int.reduceNeg, Int.reduceAdd, Int.reduceSub, Int.reduceMul, Int.reduceMod, Int.reduceDiv, reduceCtorEq, Nat.reducePow, Int.reducePow, ac_registers_Digest_L2]
                refine ⟨⟨fun _ => hP.1 (by omega), fun _ => .inl z⟩, Weak.rd id ?_ ?_ rfl⟩
                all_goals simp (config := { maxSteps := 2000000 }) (disch := (first | omega | (simp only [lens, lenm]; omega))) only [go_sem, ↓reduceIte, Nat.reduceAdd, Nat.reduceEqDiff, Nat.reduceSub, Nat.reduceMul, Nat.reduceLT, Nat.reduceLeDiff, Nat.reduceBEq, Int.reduceEq, Int.reduceLT, Int.reduceLE, Int.reduceToNat, Int.reduceNeg, Int.reduceAdd, Int.reduceSub, Int.reduceMul, Int.reduceMod, Int.reduceDiv, reduceCtorEq, Nat.reducePow, Int.reducePow, id]
          · have zz : (s1 == 0) = false := by simpa using z
            have c1 := on_eq (u := u) (a := 1) hv.1 (by omega)
            rw [show ((1 : Nat) : Int) = 1 from rfl] at c1
            cases ho : onB bk 1
            · rw [ho] at c1
              have hE : digE bk s0 s1 = 27 := by
                unfold digE
                rw [if_neg (by rintro (h | h); exact b0 h; exact b1 h), if_pos (.inr ⟨z, ho⟩)]
              rw [digR, digO, hE]
              simp (config := { maxSteps := 2000000 }) (disch := (first | omega | (simp only [lens, lenm]; omega))) only [go_sem, ↓reduceIte, Nat.reduceAdd, Nat.reduceEqDiff, Nat.reduceSub, Nat.reduceMul, Nat.reduceLT, Nat.reduceLeDiff, Nat.reduceBEq, Int.reduceEq, Int.reduceLT, Int.reduceLE, Int.reduceToNat, Int.reduceNeg, Int.reduceAdd, Int.reduceSub, Int.reduceMul, Int.reduceMod, Int.reduceDiv, reduceCtorEq, Nat.reducePow, Int.reducePow, ac_registers_Digest_L1, zz, h2, c1]
            · rw [ho] at c1
              have hbl := hv.1.len ho
              have hbn : List.length (bk.getD 1 []) = 16 := by simpa [onB] using ho
              simp (config := { maxSteps := 2000000 }) (disch := (first | omega | (simp only [lens, lenm]; omega))) only [go_sem, ↓reduceIte, Nat.reduceAdd, Nat.reduceEqDiff, Nat.reduceSub, Nat.reduceMul, Nat.reduceLT, Nat.reduceLeDiff, Nat.reduceBEq, Int.reduceEq, Int.reduceLT, Int.reduceLE, Int.reduceToNat, Int.reduceNeg, Int.reduceAdd, Int.reduceSub, Int.reduceMul, Int.reduceMod, Int.reduceDiv, reduceCtorEq, Nat.reducePow, Int.reducePow, ac_registers_Digest_L1, zz, h2, c1]
              refine loop_upto 16 (fun i => [(2, .ref 4096 0 0), (6, .t (.sl ((headS s0 s1).map byteT))), (7, .sl 9100 0 (List.length (selL bk 0 s0 16 ++ selL bk 1 s1 i))), (10, .t (.int .i64 1)), (11, .t (.int .i64 s1)), (27, .t (.agg [.int .i64 s0, .int .i64 s1])), (28, .t (.int .i64 1)), (40, .t (.int .i64 (i : Nat)))]) (fun i => [(9100, .live 1 (((selL bk 0 s0 16 ++ selL bk 1 s1 i).map byteT).map V.t) true false), (4096, .live 2 [.t (regT bk u)] true true)]) ?_ (fun i hi => ?_)
              · refine Weak.rd id ?_ ?_ rfl
                all_goals simp (config := { maxSteps := 2000000 }) (disch := (first | omega | (simp only [lens, lenm]; omega))) only [go_sem, ↓reduceIte, Nat.reduceAdd, Nat.reduceEqDiff, Nat.reduceSub, Nat.reduceMul, Nat.reduceLT, Nat.reduceLeDiff, Nat.reduceBEq, Int.reduceEq, Int.reduceLT, Int.reduceLE, Int.reduceToNat, Int.reduceNeg, Int.reduceAdd, Int.reduceSub, Int.reduceMul, Int.reduceMod, Int.reduceDiv, reduceCtorEq, Nat.reducePow, Int.reducePow, id, selL_z, List.append_nil]
              · have l0 := selL_le hv 0 s0 16
                have l1 := selL_le hv 1 s1 i
                by_cases hlt : i < 16
                · have hsh : s1.fdiv (2 ^ i) = s1 / 2 ^ i := Int.fdiv_eq_ediv_of_nonneg _ (Int.le_of_lt (Int.pow_pos (by decide)))
                  by_cases hb : s1 / 2 ^ i % 2 = 1
                  · have hvl := hm.val 1 i
                    have hx : (bk.getD 1 []).getD i [] = valL bk 1 i := rfl
                    simp (config := { maxSteps := 2000000 }) (disch := (first | omega | (simp only [lens, lenm]; omega))) only [go_sem, ↓reduceIte, Nat.reduceAdd, Nat.reduceEqDiff, Nat.reduceSub, Nat.reduceMul, Nat.reduceLT, Nat.reduceLeDiff, Nat.reduceBEq, Int.reduceEq, Int.reduceLT, Int.reduceLE, Int.reduceToNat, Int.reduceNeg, Int.reduceAdd, Int.reduceSub, Int.reduceMul, Int.reduceMod, Int.reduceDiv, reduceCtorEq, Nat.reducePow, Int.reducePow, ac_registers_Digest_L2, hsh, hb, hx]
                    refine ⟨hlt, Weak.rd (fun j => if j = 9100 then 77968 else j) ?_ ?_ rfl⟩
                    all_goals simp (config := { maxSteps := 2000000 }) (disch := (first | omega | (simp only [lens, lenm]; omega))) only [go_sem, ↓reduceIte, Nat.reduceAdd, Nat.reduceEqDiff, Nat.reduceSub, Nat.reduceMul, Nat.reduceLT, Nat.reduceLeDiff, Nat.reduceBEq, Int.reduceEq, Int.reduceLT, Int.reduceLE, Int.reduceToNat, Int.reduceNeg, Int.reduceAdd, Int.reduceSub, Int.reduceMul, Int.reduceMod, Int.reduceDiv, reduceCtorEq, Nat.reducePow, Int.reducePow, selL_pos (bk := bk) (a := 1) hb, List.append_assoc]
                    all_goals try omega
                  · simp (config := { maxSteps := 2000000 }) (disch := (first | omega | (simp only [lens, lenm]; omega))) only [go_sem, ↓reduceIte, Nat.reduceAdd, Nat.reduceEqDiff, Nat.reduceSub, Nat.reduceMul, Nat.reduceLT, Nat.reduceLeDiff, Nat.reduceBEq, Int.reduceEq, Int.reduceLT, Int.reduceLE, Int.reduceToNat, Int.reduceNeg, Int.reduceAdd, Int.reduceSub, Int.reduceMul, Int.reduceMod, Int.reduceDiv, reduceCtorEq, Nat.reducePow, Int.reducePow, ac_registers_Digest_L2, hsh, hb]
                    refine ⟨hlt, Weak.rd id ?_ ?_ rfl⟩
                    all_goals simp (config := { maxSteps := 2000000 }) (disch := (first | omega | (simp only [lens, lenm]; omega))) only [go_sem, ↓reduceIte, Nat.reduceAdd, Nat.reduceEqDiff, Nat.reduceSub, Nat.reduceMul, Nat.reduceLT, Nat.reduceLeDiff, Nat.reduceBEq, Int.reduceEq, Int.reduceLT, Int.reduceLE, Int.reduceToNat, Int.reduceNeg, Int.reduceAdd, Int.reduceSub, Int.reduceMul, Int.reduceMod, Int.reduceDiv, reduceCtorEq, Nat.reducePow, Int.reducePow, id, selL_neg (bk := bk) (a := 1) hb]
                · have e : i = 16 := by omega
                  subst e
                  simp (config := { maxSteps := 2000000 }) (disch := (first | omega | (simp only [lens, lenm]; omega))) only [go_sem, ↓reduceIte, Nat.reduceAdd, Nat.reduceEqDiff, Nat.reduceSub, Nat.reduceMul, Nat.reduceLT, Nat.reduceLeDiff, Nat.reduceBEq, Int.reduceEq, Int.reduceLT, Int.reduceLE, Int.reduceToNat, Int.reduceNeg, Int.reduceAdd, Int.reduceSub, Int.reduceMul, Int.reduceMod, Int.reduceDiv, reduceCtorEq, Nat.reducePow, Int.reducePow, ac_registers_Digest_L2]
                  refine ⟨⟨fun _ => hP.1 (by omega), fun _ => by first | exact .inr ho | trivial⟩, Weak.rd id ?_ ?_ rfl⟩
                  all_goals simp (config := { maxSteps := 2000000 }) (disch := (first | omega | (simp only [lens, lenm]; omega))) only [go_sem, ↓reduceIte, Nat.reduceAdd, Nat.reduceEqDiff, Nat.reduceSub, Nat.reduceMul, Nat.reduceLT, Nat.reduceLeDiff, Nat.reduceBEq, Int.reduceEq, Int.reduceLT, Int.reduceLE, Int.reduceToNat, Int.reduceNeg, Int.reduceAdd, Int.reduceSub, Int.reduceMul, Int.reduceMod, Int.reduceDiv, reduceCtorEq, Nat.reducePow, Int.reducePow, id]
        · have l0 := selL_le hv 0 s0 16
          have l1 := selL_le hv 1 s1 16
          have p0 := hP.1 (by omega)
          have p1 := hP.2 (by omega)
          have hE : digE bk s0 s1 = 0 := by
            unfold digE
            rw [if_neg (by rintro (h | h); exact b0 h; exact b1 h), if_neg]
            rintro (⟨h1, h2⟩ | ⟨h1, h2⟩)
            · rcases p0 with h | h
              · exact h1 h
              · rw [h] at h2; cases h2
            · rcases p1 with h | h
              · exact h1 h
              · rw [h] at h2; cases h2
          have hv2 : (valS bk s0 s1).length ≤ 2048 := by unfold valS; rw [List.length_append]; omega
          have hh2 : (headS s0 s1).length = 4 := by unfold headS; rw [List.length_append, beI_len, beI_len]
          have hvs : selL bk 0 s0 16 ++ selL bk 1 s1 16 = valS bk s0 s1 := rfl
          rw [digR, digO, if_pos hE, if_pos hE]
          have hf : (frameL 5 [headS s0 s1, valS bk s0 s1]).length < 1000000000 := by
            simp only [frameL, List.flatMap_cons, List.flatMap_nil, List.length_cons, List.length_append, List.length_nil, be32_len]
            omega
          have hq := hash_eq2 hf
          have tv : List.take (valS bk s0 s1).length (valS bk s0 s1) = valS bk s0 s1 := List.take_of_length_le (Nat.le_refl _)
          simp (config := { maxSteps := 2000000 }) (disch := (first | omega | (simp only [lens, lenm]; omega))) only [go_sem, ↓reduceIte, Nat.reduceAdd, Nat.reduceEqDiff, Nat.reduceSub, Nat.reduceMul, Nat.reduceLT, Nat.reduceLeDiff, Nat.reduceBEq, Int.reduceEq, Int.reduceLT, Int.reduceLE, Int.reduceToNat, Int.reduceNeg, Int.reduceAdd, Int.reduceSub, Int.reduceMul, Int.reduceMod, Int.reduceDiv, reduceCtorEq, Nat.reducePow, Int.reducePow, ac_registers_Digest_L1, hvs, h3, hq, tv]
end Go.Eng
end
section
set_option maxRecDepth 20000
set_option maxHeartbeats 64000000
namespace Go.Eng
theorem w_ref8_Digest (tab : Tab) (gl : Gl) (n1 n2 n3 : Nat) (h1 : tab.look n1 = some ct_actv.fs) (h2 : tab.look n2 = some ct_uint.fs) (h3 : tab.look n3 = some ct_hash.fs) (bk : List Bank) (u s0 s1 : Int) (hv : RV bk) :
    (ac_ref8_Digest n1 n2 n3).wp tab gl (zipF 0 [.t (regT bk u), .t (.agg [.int .i64 s0, .int .i64 s1])]) (zipF 0 []) (resF [] [(4, none), (5, none)] 0 (fun r o => r = digR bk s0 s1 ∧ o = digO bk s0 s1)) := by
  have hm := hv.rm
  simp (config := { maxSteps := 2000000 }) (disch := (first | omega | (simp only [lens, lenm]; omega))) only [go_sem, ↓reduceIte, Nat.reduceAdd, Nat.reduceEqDiff, Nat.reduceSub, Nat.reduceMul, Nat.reduceLT, Nat.reduceLeDiff, Nat.reduceBEq, Int.reduceEq, Int.reduceLT, Int.reduceLE, Int.reduceToNat, Int.reduceNeg, Int.reduceAdd, Int.reduceSub, Int.reduceMul, Int.reduceMod, Int.reduceDiv, reduceCtorEq, Nat.reducePow, Int.reducePow, ac_ref8_Digest]
  by_cases b0 : badS s0
  · have hE : digE bk s0 s1 = 1 := by unfold digE; rw [if_pos (.inl b0)]
    rw [digR, digO, hE]
    unfold badS at b0
    refine loop_fuel 1 ?_
    by_cases c0 : s0 < 0
    · simp (config := { maxSteps := 2000000 }) (disch := (first | omega | (simp only [lens, lenm]; omega))) only [go_sem, ↓reduceIte, Nat.reduceAdd, Nat.reduceEqDiff, Nat.reduceSub, Nat.reduceMul, Nat.reduceLT, Nat.reduceLeDiff, Nat.reduceBEq, Int.reduceEq, Int.reduceLT, Int.reduceLE, Int.reduceToNat, Int.reduceNeg, Int.reduceAdd, Int.reduceSub, Int.reduceMul, Int.reduceMod, Int.reduceDiv, reduceCtorEq, Nat.reducePow, Int.reducePow, loopN_succ, ac_ref8_Digest_L0, c0]
    · simp (config := { maxSteps := 2000000 }) (disch := (first | omega | (simp only [lens, lenm]; omega))) only [go_sem, ↓reduceIte, Nat.reduceAdd, Nat.reduceEqDiff, Nat.reduceSub, Nat.reduceMul, Nat.reduceLT, Nat.reduceLeDiff, Nat.reduceBEq, Int.reduceEq, Int.reduceLT, Int.reduceLE, Int.reduceToNat, Int.reduceNeg, Int.reduceAdd, Int.reduceSub, Int.reduceMul, Int.reduceMod, Int.reduceDiv, reduceCtorEq, Nat.reducePow, Int.reducePow, loopN_succ, ac_ref8_Digest_L0, c0]
  have hb0 : ¬ s0 < 0 ∧ ¬ 65535 < s0 := by unfold badS at b0; omega
  obtain ⟨c0, d0⟩ := hb0
  by_cases b1 : badS s1
  · have hE : digE bk s0 s1 = 1 := by unfold digE; rw [if_pos (.inr b1)]
    rw [digR, digO, hE]
    unfold badS at b1
    refine loop_fuel 2 ?_
    by_cases c1 : s1 < 0
    · simp (config := { maxSteps := 2000000 }) (disch := (first | omega | (simp only [lens, lenm]; omega))) only [go_sem, ↓reduceIte, Nat.reduceAdd, Nat.reduceEqDiff, Nat.reduceSub, Nat.reduceMul, Nat.reduceLT, Nat.reduceLeDiff, Nat.reduceBEq, Int.reduceEq, Int.reduceLT, Int.reduceLE, Int.reduceToNat, Int.reduceNeg, Int.reduceAdd, Int.reduceSub, Int.reduceMul, Int.reduceMod, Int.reduceDiv, reduceCtorEq, Nat.reducePow, Int.reducePow, loopN_succ, ac_ref8_Digest_L0, c0, d0, c1]
    · simp (config := { maxSteps := 2000000 }) (disch := (first | omega | (simp only [lens, lenm]; omega))) only [go_sem, ↓reduceIte, Nat.reduceAdd, Nat.reduceEqDiff, Nat.reduceSub, Nat.reduceMul, Nat.reduceLT, Nat.reduceLeDiff, Nat.reduceBEq, Int.reduceEq, Int.reduceLT, Int.reduceLE, Int.reduceToNat, Int.reduceNeg, Int.reduceAdd, Int.reduceSub, Int.reduceMul, Int.reduceMod, Int.reduceDiv, reduceCtorEq, Nat.reducePow, Int.reducePow, loopN_succ, ac_ref8_Digest_L0, c0, d0, c1]
  have hb1 : ¬ s1 < 0 ∧ ¬ 65535 < s1 := by unfold badS at b1; omega
  obtain ⟨c1, d1⟩ := hb1
  refine loop_fuel 3 ?_
  simp (config := { maxSteps := 2000000 }) (disch := (first | omega | (simp only [lens, lenm]; omega))) only [go_sem, ↓reduceIte, Nat.reduceAdd, Nat.reduceEqDiff, Nat.reduceSub, Nat.reduceMul, Nat.reduceLT, Nat.reduceLeDiff, Nat.reduceBEq, Int.reduceEq, Int.reduceLT, Int.reduceLE, Int.reduceToNat, Int.reduceNeg, Int.reduceAdd, Int.reduceSub, Int.reduceMul, Int.reduceMod, Int.reduceDiv, reduceCtorEq, Nat.reducePow, Int.reducePow, loopN_succ, ac_ref8_Digest_L0, c0, d0, c1, d1]
  refine loop_uptoP 2 (PD (s0 = 0 ∨ onB bk 0 = true) (s1 = 0 ∨ onB bk 1 = true)) (fun k => match k with | 0 => [(2, .ref 4096 0 0), (3, .ref 4112 0 0), (7, .sl 9100 0 (List.length ([] : List UInt8))), (8, .t (.int .i64 0))] | 1 => [(2, .ref 4096 0 0), (3, .ref 4112 0 0), (7, .sl 9100 0 (List.length (selL bk 0 s0 16))), (8, .t (.int .i64 1))] | _ => [(2, .ref 4096 0 0), (3, .ref 4112 0 0), (7, .sl 9100 0 (List.length (selL bk 0 s0 16 ++ selL bk 1 s1 16))), (8, .t (.int .i64 2))]) (fun k => match k with | 0 => [(9100, .live 1 ((([] : List UInt8).map byteT).map V.t) true false), (4112, .live 1 [.t (.int .i64 s0), .t (.int .i64 s1)] true true), (4096, .live 2 [.t (regT bk u)] true true)] | 1 => [(9100, .live 1 (((selL bk 0 s0 16).map byteT).map V.t) true false), (4112, .live 1 [.t (.int .i64 s0), .t (.int .i64 s1)] true true), (4096, .live 2 [.t (regT bk u)] true true)] | _ => [(9100, .live 1 (((selL bk 0 s0 16 ++ selL bk 1 s1 16).map byteT).map V.t) true false), (4112, .live 1 [.t (.int .i64 s0), .t (.int .i64 s1)] true true), (4096, .live 2 [.t (regT bk u)] true true)]) ⟨fun h => absurd h (by omega), fun h => absurd h (by omega)⟩ ?_ (fun k hk hP => ?_)
  · refine Weak.cv0 (hv := [(9100, .live 1 [] true false)]) (ho := [(4112, .live 1 [.t (.int .i64 s0), .t (.int .i64 s1)] true true), (4096, .live 2 [.t (regT bk u)] true true)]) id ?_ ?_ rfl rfl
    all_goals simp (config := { maxSteps := 2000000 }) (disch := (first | omega | (simp only [lens, lenm]; omega))) only [go_sem, ↓reduceIte, Nat.reduceAdd, Nat.reduceEqDiff, Nat.reduceSub, Nat.reduceMul, Nat.reduceLT, Nat.reduceLeDiff, Nat.reduceBEq, Int.reduceEq, Int.reduceLT, Int.reduceLE, Int.reduceToNat, Int.reduceNeg, Int.reduceAdd, Int.reduceSub, Int.reduceMul, Int.reduceMod, Int.reduceDiv, reduceCtorEq, Nat.reducePow, Int.reducePow, id, List.map_cons, List.map_nil, List.length_nil]
  · rcases (show k = 0 ∨ k = 1 ∨ k = 2 by omega) with rfl | rfl | rfl
    · by_cases z : s0 = 0
      · have zz : (s0 == 0) = true := by simpa using z
        simp (config := { maxSteps := 2000000 }) (disch := (first | omega | (simp only [lens, lenm]; omega))) only [go_sem, ↓reduceIte, Nat.reduceAdd, Nat.reduceEqDiff, Nat.reduceSub, Nat.reduceMul, Nat.reduceLT, Nat.reduceLeDiff, Nat.reduceBEq, Int.reduceEq, Int.reduceLT, Int.reduceLE, Int.reduceToNat, Int.reduceNeg, Int.reduceAdd, Int.reduceSub, Int.reduceMul, Int.reduceMod, Int.reduceDiv, reduceCtorEq, Nat.reducePow, Int.reducePow, ac_ref8_Digest_L1, zz]
        refine loop_upto 16 (fun i => [(2, .ref 4096 0 0), (3, .ref 4112 0 0), (7, .sl 9100 0 (List.length (selL bk 0 s0 i))), (8, .t (.int .i64 0)), (9, .t (.int .i64 (i : Nat)))]) (fun i => [(9100, .live 1 (((selL bk 0 s0 i).map byteT).map V.t) true false), (4112, .live 1 [.t (.int .i64 s0), .t (.int .i64 s1)] true true), (4096, .live 2 [.t (regT bk u)] true true)]) ?_ (fun i hi => ?_)
        · refine Weak.rd id ?_ ?_ rfl
          all_goals simp (config := { maxSteps := 2000000 }) (disch := (first | omega | (simp only [lens, lenm]; omega))) only [go_sem, ↓reduceIte, Nat.reduceAdd, Nat.reduceEqDiff, Nat.reduceSub, Nat.reduceMul, Nat.reduceLT, Nat.reduceLeDiff, Nat.reduceBEq, Int.reduceEq, Int.reduceLT, Int.reduceLE, Int.reduceToNat, Int.reduceNeg, Int.reduceAdd, Int.reduceSub, Int.reduceMul, Int.reduceMod, Int.reduceDiv, reduceCtorEq, Nat.reducePow, Int.reducePow, id, selL_z, List.append_nil]
        · have l0 := selL_le hv 0 s0 16
          have l1 := selL_le hv 0 s0 i
          by_cases hlt : i < 16
          · have hsh : s0.fdiv (2 ^ i) = s0 / 2 ^ i := Int.fdiv_eq_ediv_of_nonneg _ (Int.le_of_lt (Int.pow_pos (by decide)))
            have hb : ¬ s0 / 2 ^ i % 2 = 1 := by rw [z]; simp
            simp (config := { maxSteps := 2000000 }) (disch := (first | omega | (simp only [lens, lenm]; omega))) only [go_sem, ↓reduceIte, Nat.reduceAdd, Nat.reduceEqDiff, Nat.reduceSub, Nat.reduceMul, Nat.reduceLT, Nat.reduceLeDiff, Nat.reduceBEq, Int.reduceEq, Int.reduceLT, Int.reduceLE, Int.reduceToNat, Int.reduceNeg, Int.reduceAdd, Int.reduceSub, Int.reduceMul, Int.reduceMod, Int.reduceDiv, reduceCtorEq, Nat.reducePow, Int.reducePow, ac_ref8_Digest_L2, hsh, hb]
            refine ⟨hlt, Weak.rd id ?_ ?_ rfl⟩
            all_goals simp (config := { maxSteps := 2000000 }) (disch := (first | omega | (simp only [lens, lenm]; omega))) only [go_sem, ↓reduceIte, Nat.reduceAdd, Nat.reduceEqDiff, Nat.reduceSub, Nat.reduceMul, Nat.reduceLT, Nat.reduceLeDiff, Nat.reduceBEq, Int.reduceEq, Int.reduceLT, Int.reduceLE, Int.reduceToNat, Int.reduceNeg, Int.reduceAdd, Int.reduceSub, Int.reduceMul, Int.reduceMod, Int.reduceDiv, reduceCtorEq, Nat.reducePow, Int.reducePow, id, selL_neg (bk := bk) (a := 0) hb]
          · have e : i = 16 := by omega
            subst e
            simp (config := { maxSteps := 2000000 }) (disch := (first | omega | (simp only [lens, lenm]; omega))) only [go_sem, ↓reduceIte, Nat.reduceAdd, Nat.reduceEqDiff, Nat.reduceSub, Nat.reduceMul, Nat.reduceLT, Nat.reduceLeDiff, Nat.reduceBEq, Int.reduceEq, Int.reduceLT, Int.reduceLE, Int.reduceToNat, Int.reduceNeg, Int.reduceAdd, Int.reduceSub, Int.reduceMul, Int.reduceMod, Int.reduceDiv, reduceCtorEq, Nat.reducePow, Int.reducePow, ac_ref8_Digest_L2]
            refine ⟨⟨fun _ => .inl z, fun h => absurd h (by omega)⟩, Weak.rd id ?_ ?_ rfl⟩
            all_goals simp (config := { maxSteps := 2000000 }) (disch := (first | omega | (simp only [lens, lenm]; omega))) only [go_sem, ↓reduceIte, Nat.reduceAdd, Nat.reduceEqDiff, Nat.reduceSub, Nat.reduceMul, Nat.reduceLT, Nat.reduceLeDiff, Nat.reduceBEq, Int.reduceEq, Int.reduceLT, Int.reduceLE, Int.reduceToNat, Int.reduceNeg, Int.reduceAdd, Int.reduceSub, Int.reduceMul, Int.reduceMod, Int.reduceDiv, reduceCtorEq, Nat.reducePow, Int.reducePow, id]
      · have zz : (s0 == 0) = false := by simpa using z
        have c0 := actv_eq (u := u) (a := 0) hv.1 (by omega)
        rw [show ((0 : Nat) : Int) = 0 from rfl] at c0
        cases ho : onB bk 0
        · rw [ho] at c0
          have hE : digE bk s0 s1 = 27 := by
            unfold digE
            rw [if_neg (by rintro (h | h); exact b0 h; exact b1 h), if_pos (.inl ⟨z, ho⟩)]
          rw [digR, digO, hE]
          simp (config := { maxSteps := 2000000 }) (disch := (first | omega | (simp only [lens, lenm]; omega))) only [go_sem, ↓reduceIte, Nat.reduceAdd, Nat.reduceEqDiff, Nat.reduceSub, Nat.reduceMul, Nat.reduceLT, Nat.reduceLeDiff, Nat.reduceBEq, Int.reduceEq, Int.reduceLT, Int.reduceLE, Int.reduceToNat, Int.reduceNeg, Int.reduceAdd, Int.reduceSub, Int.reduceMul, Int.reduceMod, Int.reduceDiv, reduceCtorEq, Nat.reducePow, Int.reducePow, ac_ref8_Digest_L1, zz, h1, c0]
        · rw [ho] at c0
          have hbl := hv.1.len ho
          have hbn : List.length (bk.getD 0 []) = 16 := by simpa [onB] using ho
          simp (config := { maxSteps := 2000000 }) (disch := (first | omega | (simp only [lens, lenm]; omega))) only [go_sem, ↓reduceIte, Nat.reduceAdd, Nat.reduceEqDiff, Nat.reduceSub, Nat.reduceMul, Nat.reduceLT, Nat.reduceLeDiff, Nat.reduceBEq, Int.reduceEq, Int.reduceLT, Int.reduceLE, Int.reduceToNat, Int.reduceNeg, Int.reduceAdd, Int.reduceSub, Int.reduceMul, Int.reduceMod, Int.reduceDiv, reduceCtorEq, Nat.reducePow, Int.reducePow, ac_ref8_Digest_L1, zz, h1, c0]
          refine loop_upto 16 (fun i => [(2, .ref 4096 0 0), (3, .ref 4112 0 0), (7, .sl 9100 0 (List.length (selL bk 0 s0 i))), (8, .t (.int .i64 0)), (9, .t (.int .i64 (i : Nat)))]) (fun i => [(9100, .live 1 (((selL bk 0 s0 i).map byteT).map V.t) true false), (4112, .live 1 [.t (.int .i64 s0), .t (.int .i64 s1)] true true), (4096, .live 2 [.t (regT bk u)] true true)]) ?_ (fun i hi => ?_)
          · refine Weak.rd id ?_ ?_ rfl
            all_goals simp (config := { maxSteps := 2000000 }) (disch := (first | omega | (simp only [lens, lenm]; omega))) only [go_sem, ↓reduceIte, Nat.reduceAdd, Nat.reduceEqDiff, Nat.reduceSub, Nat.reduceMul, Nat.reduceLT, Nat.reduceLeDiff, Nat.reduceBEq, Int.reduceEq, Int.reduceLT, Int.reduceLE, Int.reduceToNat, Int.reduceNeg, Int.reduceAdd, Int.reduceSub, Int.reduceMul, Int.reduceMod, Int.reduceDiv, reduceCtorEq, Nat.reducePow, Int.reducePow, id, selL_z, List.append_nil]
          · have l0 := selL_le hv 0 s0 16
            have l1 := selL_le hv 0 s0 i
            by_cases hlt : i < 16
            · have hsh : s0.fdiv (2 ^ i) = s0 / 2 ^ i := Int.fdiv_eq_ediv_of_nonneg _ (Int.le_of_lt (Int.pow_pos (by decide)))
              by_cases hb : s0 / 2 ^ i % 2 = 1
              · have hvl := hm.val 0 i
                have hx : (bk.getD 0 []).getD i [] = valL bk 0 i := rfl
                simp (config := { maxSteps := 2000000 }) (disch := (first | omega | (simp only [lens, lenm]; omega))) only [go_sem, ↓reduceIte, Nat.reduceAdd, Nat.reduceEqDiff, Nat.reduceSub, Nat.reduceMul, Nat.reduceLT, Nat.reduceLeDiff, Nat.reduceBEq, Int.reduceEq, Int.reduceLT, Int.reduceLE, Int.reduceToNat, Int.reduceNeg, Int.reduceAdd, Int.reduceSub, Int.reduceMul, Int.reduceMod, Int.reduceDiv, reduceCtorEq, Nat.reducePow, Int.reducePow, ac_ref8_Digest_L2, hsh, hb, hx]
                refine ⟨hlt, Weak.rd (fun j => if j = 9100 then 69776 else j) ?_ ?_ rfl⟩
                all_goals simp (config := { maxSteps := 2000000 }) (disch := (first | omega | (simp only [lens, lenm]; omega))) only [go_sem, ↓reduceIte, Nat.reduceAdd, Nat.reduceEqDiff, Nat.reduceSub, Nat.reduceMul, Nat.reduceLT, Nat.reduceLeDiff, Nat.reduceBEq, Int.reduceEq, Int.reduceLT, Int.reduceLE, Int.reduceToNat, Int.reduceNeg, Int.reduceAdd, Int.reduceSub, Int.reduceMul, Int.reduceMod, Int.reduceDiv, reduceCtorEq, Nat.reducePow, Int.reducePow, selL_pos (bk := bk) (a := 0) hb, List.append_assoc]
                all_goals try omega
              · simp (config := { maxSteps := 2000000 }) (disch := (first | omega | (simp only [lens, lenm]; omega))) only [go_sem, ↓reduceIte, Nat.reduceAdd, Nat.reduceEqDiff, Nat.reduceSub, Nat.reduceMul, Nat.reduceLT, Nat.reduceLeDiff, Nat.reduceBEq, Int.reduceEq, Int.reduceLT, Int.reduceLE, Int.reduceToNat, Int.reduceNeg, Int.reduceAdd, Int.reduceSub, Int.reduceMul, Int.reduceMod, Int.reduceDiv, reduceCtorEq, Nat.reducePow, Int.reducePow, ac_ref8_Digest_L2, hsh, hb]
                refine ⟨hlt, Weak.rd id ?_ ?_ rfl⟩
                all_goals simp (config := { maxSteps := 2000000 }) (disch := (first | omega | (simp only [lens, lenm]; omega))) only [go_sem, ↓reduceIte, Nat.reduceAdd, Nat.reduceEqDiff, Nat.reduceSub, Nat.reduceMul, Nat.reduceLT, Nat.reduceLeDiff, Nat.reduceBEq, Int.reduceEq, Int.reduceLT, Int.reduceLE, Int.reduceToNat, Int.reduceNeg, Int.reduceAdd, Int.reduceSub, Int.reduceMul, Int.reduceMod, Int.reduceDiv, reduceCtorEq, Nat.reducePow, Int.reducePow, id, selL_neg (bk := bk) (a := 0) hb]
            · have e : i = 16 := by omega
              subst e
              simp (config := { maxSteps := 2000000 }) (disch := (first | omega | (simp only [lens, lenm]; omega))) only [go_sem, ↓reduceIte, Nat.reduceAdd, Nat.reduceEqDiff, Nat.reduceSub, Nat.reduceMul, Nat.reduceLT, Nat.reduceLeDiff, Nat.reduceBEq, Int.reduceEq, Int.reduceLT, Int.reduceLE, Int.reduceToNat, Int.reduceNeg, Int.reduceAdd, Int.reduceSub, Int.reduceMul, Int.reduceMod, Int.reduceDiv, reduceCtorEq, Nat.reducePow, Int.reducePow, ac_ref8_Digest_L2]
              refine ⟨⟨fun _ => (by first | exact .inr ho | trivial), fun h => absurd h (by omega)⟩, Weak.rd id ?_ ?_ rfl⟩
              all_goals simp (config := { maxSteps := 2000000 }) (disch := (first | omega | (simp only [lens, lenm]; omega))) only [go_sem, ↓reduceIte, Nat.reduceAdd, Nat.reduceEqDiff, Nat.reduceSub, Nat.reduceMul, Nat.reduceLT, Nat.reduceLeDiff, Nat.reduceBEq, Int.reduceEq, Int.reduceLT, Int.reduceLE, Int.reduceToNat, Int.reduceNeg, Int.reduceAdd, Int.reduceSub, Int.reduceMul, Int.reduceMod, Int.reduceDiv, reduceCtorEq, Nat.reducePow, Int.reducePow, id]
    · by_cases z : s1 = 0
      · have zz : (s1 == 0) = true := by simpa using z
        simp (config := { maxSteps := 2000000 }) (disch := (first | omega | (simp only [lens, lenm]; omega))) only [go_sem, ↓reduceIte, Nat.reduceAdd, Nat.reduceEqDiff, Nat.reduceSub, Nat.reduceMul, Nat.reduceLT, Nat.reduceLeDiff, Nat.reduceBEq, Int.reduceEq, Int.reduceLT, Int.reduceLE, Int.reduceToNat, Int.reduceNeg, Int.reduceAdd, Int.reduceSub, Int.reduceMul, Int.reduceMod, Int.reduceDiv, reduceCtorEq, Nat.reducePow, Int.reducePow, ac_ref8_Digest_L1, zz]
        refine loop_upto 16 (fun i => [(2, .ref 4096 0 0), (3, .ref 4112 0 0), (7, .sl 9100 0 (List.length (selL bk 0 s0 16 ++ selL bk 1 s1 i))), (8, .t (.int .i64 1)), (9, .t (.int .i64 (i : Nat)))]) (fun i => [(9100, .live 1 (((selL bk 0 s0 16 ++ selL bk 1 s1 i).map byteT).map V.t) true false), (4112, .live 1 [.t (.int .i64 s0), .t (.int .i64 s1)] true true), (4096, .live 2 [.t (regT bk u)] true true)]) ?_ (fun i hi => ?_)
        · refine Weak.rd id ?_ ?_ rfl
          all_goals simp (config := { maxSteps := 2000000 }) (disch := (first | omega | (simp only [lens, lenm]; omega))) only [go_sem, ↓reduceIte, Nat.reduceAdd, Nat.reduceEqDiff, Nat.reduceSub, Nat.reduceMul, Nat.reduceLT, Nat.reduceLeDiff, Nat.reduceBEq, Int.reduceEq, Int.reduceLT, Int.reduceLE, Int.reduceToNat, Int.reduceNeg, Int.reduceAdd, Int.reduceSub, Int.reduceMul, Int.reduceMod, Int.reduceDiv, reduceCtorEq, Nat.reducePow, Int.reducePow, id, selL_z, List.append_nil]
        · have l0 := selL_le hv 0 s0 16
          have l1 := selL_le hv 1 s1 i
          by_cases hlt : i < 16
          · have hsh : s1.fdiv (2 ^ i) = s1 / 2 ^ i := Int.fdiv_eq_ediv_of_nonneg _ (Int.le_of_lt (Int.pow_pos (by decide)))
            have hb : ¬ s1 / 2 ^ i % 2 = 1 := by rw [z]; simp
            simp (config := { maxSteps := 2000000 }) (disch := (first | omega | (simp only [lens, lenm]; omega))) only [go_sem, ↓reduceIte, Nat.reduceAdd, Nat.reduceEqDiff, Nat.reduceSub, Nat.reduceMul, Nat.reduceLT, Nat.reduceLeDiff, Nat.reduceBEq, Int.reduceEq, Int.reduceLT, Int.reduceLE, Int.reduceToNat, Int.reduceNeg, Int.reduceAdd, Int.reduceSub, Int.reduceMul, Int.reduceMod, Int.reduceDiv, reduceCtorEq, Nat.reducePow, Int.reducePow, ac_ref8_Digest_L2, hsh, hb]
            refine ⟨hlt, Weak.rd id ?_ ?_ rfl⟩
            all_goals simp (config := { maxSteps := 2000000 }) (disch := (first | omega | (simp only [lens, lenm]; omega))) only [go_sem, ↓reduceIte, Nat.reduceAdd, Nat.reduceEqDiff, Nat.reduceSub, Nat.reduceMul, Nat.reduceLT, Nat.reduceLeDiff, Nat.reduceBEq, Int.reduceEq, Int.reduceLT, Int.reduceLE, Int.reduceToNat, Int.reduceNeg, Int.reduceAdd, Int.reduceSub, Int.reduceMul, Int.reduceMod, Int.reduceDiv, reduceCtorEq, Nat.reducePow, Int.reducePow, id, selL_neg (bk := bk) (a := 1) hb]
          · have e : i = 16 := by omega
            subst e
            simp (config := { maxSteps := 2000000 }) (disch := (first | omega | (simp only [lens, lenm]; omega))) only [go_sem, ↓reduceIte, Nat.reduceAdd, Nat.reduceEqDiff, Nat.reduceSub, Nat.reduceMul, Nat.reduceLT, Nat.reduceLeDiff, Nat.reduceBEq, Int.reduceEq, Int.reduceLT, Int.reduceLE, Int.reduceToNat, Int.reduceNeg, Int.reduceAdd, Int.reduceSub, Int.reduceMul, Int.reduceMod, Int.reduceDiv, reduceCtorEq, Nat.reducePow, Int.reducePow, ac_ref8_Digest_L2]
            refine ⟨⟨fun _ => hP.1 (by omega), fun _ => .inl z⟩, Weak.rd id ?_ ?_ rfl⟩
            all_goals simp (config := { maxSteps := 2000000 }) (disch := (first | omega | (simp only [lens, lenm]; omega))) only [go_sem, ↓reduceIte, Nat.reduceAdd, Nat.reduceEqDiff, Nat.reduceSub, Nat.reduceMul, Nat.reduceLT, Nat.reduceLeDiff, Nat.reduceBEq, Int.reduceEq, Int.reduceLT, Int.reduceLE, Int.reduceToNat, Int.reduceNeg, Int.reduceAdd, Int.reduceSub, Int.reduceMul, Int.reduceMod, Int.reduceDiv, reduceCtorEq, Nat.reducePow, Int.reducePow, id]
      · have zz : (s1 == 0) = false := by simpa using z
        have c1 := actv_eq (u := u) (a := 1) hv.1 (by omega)
        rw [show ((1 : Nat) : Int) = 1 from rfl] at c1
        cases ho : onB bk 1
        · rw [ho] at c1
          have hE : digE bk s0 s1 = 27 := by
            unfold digE
            rw [if_neg (by rintro (h | h); exact b0 h; exact b1 h), if_pos (.inr ⟨z, ho⟩)]
          rw [digR, digO, hE]
          simp (config := { maxSteps := 2000000 }) (disch := (first | omega | (simp only [lens, lenm]; omega))) only [go_sem, ↓reduceIte, Nat.reduceAdd, Nat.reduceEqDiff, Nat.reduceSub, Nat.reduceMul, Nat.reduceLT, Nat.reduceLeDiff, Nat.reduceBEq, Int.reduceEq, Int.reduceLT, Int.reduceLE, Int.reduceToNat, Int.reduceNeg, Int.reduceAdd, Int.reduceSub, Int.reduceMul, Int.reduceMod, Int.reduceDiv, reduceCtorEq, Nat.reducePow, Int.reducePow, ac_ref8_Digest_L1, zz, h1, c1]
        · rw [ho] at c1
          have hbl := hv.1.len ho
          have hbn : List.length (bk.getD 1 []) = 16 := by simpa [onB] using ho
          simp (config := { maxSteps := 2000000 }) (disch := (first | omega | (simp only [lens, lenm]; omega))) only [go_sem, ↓reduceIte, Nat.reduceAdd, Nat.reduceEqDiff, Nat.reduceSub, Nat.reduceMul, Nat.reduceLT, Nat.reduceLeDiff, Nat.reduceBEq, Int.reduceEq, Int.reduceLT, Int.reduceLE, Int.reduceToNat, Int.reduceNeg, Int.reduceAdd, Int.reduceSub, Int.reduceMul, Int.reduceMod, Int.reduceDiv, reduceCtorEq, Nat.reducePow, Int.reducePow, ac_ref8_Digest_L1, zz, h1, c1]
          refine loop_upto 16 (fun i => [(2, .ref 4096 0 0), (3, .ref 4112 0 0), (7, .sl 9100 0 (List.length (selL bk 0 s0 16 ++ selL bk 1 s1 i))), (8, .t (.int .i64 1)), (9, .t (.int .i64 (i : Nat)))]) (fun i => [(9100, .live 1 (((selL bk 0 s0 16 ++ selL bk 1 s1 i).map byteT).map V.t) true false), (4112, .live 1 [.t (.int .i64 s0), .t (.int .i64 s1)] true true), (4096, .live 2 [.t (regT bk u)] true true)]) ?_ (fun i hi => ?_)
          · refine Weak.rd id ?_ ?_ rfl
            all_goals simp (config := { maxSteps := 2000000 }) (disch := (first | omega | (simp only [lens, lenm]; omega))) only [go_sem, ↓reduceIte, Nat.reduceAdd, Nat.reduceEqDiff, Nat.reduceSub, Nat.reduceMul, Nat.reduceLT, Nat.reduceLeDiff, Nat.reduceBEq, Int.reduceEq, Int.reduceLT, Int.reduceLE, Int.reduceToNat, Int.reduceNeg, Int.reduceAdd, Int.reduceSub, Int.reduceMul, Int.reduceMod, Int.reduceDiv, reduceCtorEq, Nat.reducePow, Int.reducePow, id, selL_z, List.append_nil]
          · have l0 := selL_le hv 0 s0 16
            have l1 := selL_le hv 1 s1 i
            by_cases hlt : i < 16
            · have hsh : s1.fdiv (2 ^ i) = s1 / 2 ^ i := Int.fdiv_eq_ediv_of_nonneg _ (Int.le_of_lt (Int.pow_pos (by decide)))
              by_cases hb : s1 / 2 ^ i % 2 = 1
              · have hvl := hm.val 1 i
                have hx : (bk.getD 1 []).getD i [] = valL bk 1 i := rfl
                simp (config := { maxSteps := 2000000 }) (disch := (first | omega | (simp only [lens, lenm]; omega))) only [go_sem, ↓reduceIte, Nat.reduceAdd, Nat.reduceEqDiff, Nat.reduceSub, Nat.reduceMul, Nat.reduceLT, Nat.reduceLeDiff, Nat.reduceBEq, Int.reduceEq, Int.reduceLT, Int.reduceLE, Int.reduceToNat, Int.reduceNeg, Int.reduceAdd, Int.reduceSub, Int.reduceMul, Int.reduceMod, Int.reduceDiv, reduceCtorEq, Nat.reducePow, Int.reducePow, ac_ref8_Digest_L2, hsh, hb, hx]
                refine ⟨hlt, Weak.rd (fun j => if j = 9100 then 69776 else j) ?_ ?_ rfl⟩
                all_goals simp (config := { maxSteps := 2000000 }) (disch := (first | omega | (simp only [lens, lenm]; omega))) only [go_sem, ↓reduceIte, Nat.reduceAdd, Nat.reduceEqDiff, Nat.reduceSub, Nat.reduceMul, Nat.reduceLT, Nat.reduceLeDiff, Nat.reduceBEq, Int.reduceEq, Int.reduceLT, Int.reduceLE, Int.reduceToNat, Int.reduceNeg, Int.reduceAdd, Int.reduceSub, Int.reduceMul, Int.reduceMod, Int.reduceDiv, reduceCtorEq, Nat.reducePow, Int.reducePow, selL_pos (bk := bk) (a := 1) hb, List.append_assoc]
                all_goals try omega
              · simp (config := { maxSteps := 2000000 }) (disch := (first | omega | (simp only [lens, lenm]; omega))) only [go_sem, ↓reduceIte, Nat.reduceAdd, Nat.reduceEqDiff, Nat.reduceSub, Nat.reduceMul, Nat.reduceLT, Nat.reduceLeDiff, Nat.reduceBEq, Int.reduceEq, Int.reduceLT, Int.reduceLE, Int.reduceToNat, Int.reduceNeg, Int.reduceAdd, Int.reduceSub, Int.reduceMul, Int.reduceMod, Int.reduceDiv, reduceCtorEq, Nat.reducePow, Int.reducePow, ac_ref8_Digest_L2, hsh, hb]
                refine ⟨hlt, Weak.rd id ?_ ?_ rfl⟩
                all_goals simp (config := { maxSteps := 2000000 }) (disch := (first | omega | (simp only [lens, lenm]; omega))) only [go_sem, ↓reduceIte, Nat.reduceAdd, Nat.reduceEqDiff, Nat.reduceSub, Nat.reduceMul, Nat.reduceLT, Nat.reduceLeDiff, Nat.reduceBEq, Int.reduceEq, Int.reduceLT, Int.reduceLE, Int.reduceToNat, Int.reduceNeg, Int.reduceAdd, Int.reduceSub, Int.reduceMul, Int.reduceMod, Int.reduceDiv, reduceCtorEq, Nat.reducePow, Int.reducePow, id, selL_neg (bk := bk) (a := 1) hb]
            · have e : i = 16 := by omega
              subst e
              simp (config := { maxSteps := 2000000 }) (disch := (first | omega | (simp only [lens, lenm]; omega))) only [go_sem, ↓reduceIte, Nat.reduceAdd, Nat.reduceEqDiff, Nat.reduceSub, Nat.reduceMul, Nat.reduceLT, Nat.reduceLeDiff, Nat.reduceBEq, Int.reduceEq, Int.reduceLT, Int.reduceLE, Int.reduceToNat, Int.reduceNeg, Int.reduceAdd, Int.reduceSub, Int.reduceMul, Int.reduceMod, Int.reduceDiv, reduceCtorEq, Nat.reducePow, Int.reducePow, ac_ref8_Digest_L2]
              refine ⟨⟨fun _ => hP.1 (by omega), fun _ => (by first | exact .inr ho | trivial)⟩, Weak.rd id ?_ ?_ rfl⟩
              all_goals simp (config := { maxSteps := 2000000 }) (disch := (first | omega | (simp only [lens, lenm]; omega))) only [go_sem, ↓reduceIte, Nat.reduceAdd, Nat.reduceEqDiff, Nat.reduceSub, Nat.reduceMul, Nat.reduceLT, Nat.reduceLeDiff, Nat.reduceBEq, Int.reduceEq, Int.reduceLT, Int.reduceLE, Int.reduceToNat, Int.reduceNeg, Int.reduceAdd, Int.reduceSub, Int.reduceMul, Int.reduceMod, Int.reduceDiv, reduceCtorEq, Nat.reducePow, Int.reducePow, id]
    · have l0 := selL_le hv 0 s0 16
      have l1 := selL_le hv 1 s1 16
      have p0 := hP.1 (by omega)
      have p1 := hP.2 (by omega)
      have hE : digE bk s0 s1 = 0 := by
        unfold digE
        rw [if_neg (by rintro (h | h); exact b0 h; exact b1 h), if_neg]
        rintro (⟨h1, h2⟩ | ⟨h1, h2⟩)
        · rcases p0 with h | h
          · exact h1 h
          · rw [h] at h2; cases h2
        · rcases p1 with h | h
          · exact h1 h
          · rw [h] at h2; cases h2
      have hv2 : (valS bk s0 s1).length ≤ 2048 := by unfold valS; rw [List.length_append]; omega
      have hh2 : (headS s0 s1).length = 4 := by unfold headS; rw [List.length_append, beI_len, beI_len]
      have hvs : selL bk 0 s0 16 ++ selL bk 1 s1 16 = valS bk s0 s1 := rfl
      rw [digR, digO, if_pos hE, if_pos hE]
      have hf : (frameL 5 [headS s0 s1, valS bk s0 s1]).length < 1000000000 := by
        simp only [frameL, List.flatMap_cons, List.flatMap_nil, List.length_cons, List.length_append, List.length_nil, be32_len]
        omega
      have hq := hash_eq2 hf
      have hhs : beI 2 s0 2 ++ beI 2 s1 2 = headS s0 s1 := rfl
      have t2 : List.take 2 (beI 2 s0 2) = beI 2 s0 2 := List.take_of_length_le (by rw [beI_len]; exact Nat.le_refl _)
      have t4 : List.take 4 (headS s0 s1) = headS s0 s1 := List.take_of_length_le (by rw [hh2]; exact Nat.le_refl _)
      have hu := uint2 (b := []) (n := s0) (by decide)
      simp only [List.map_nil, List.length_nil, List.nil_append] at hu
      have hu2 := uint2 (b := beI 2 s0 2) (n := s1) (by rw [beI_len]; omega)
      rw [beI_len, hhs] at hu2
      have tv : List.take (valS bk s0 s1).length (valS bk s0 s1) = valS bk s0 s1 := List.take_of_length_le (Nat.le_refl _)
      simp (config := { maxSteps := 2000000 }) (disch := (first | omega | (simp only [lens, lenm]; omega))) only [go_sem, ↓reduceIte, Nat.reduceAdd, Nat.reduceEqDiff, Nat.reduceSub, Nat.reduceMul, Nat.reduceLT, Nat.reduceLeDiff, Nat.reduceBEq, Int.reduceEq, Int.reduceLT, Int.reduceLE, Int.reduceToNat, Int.reduceNeg, Int.reduceAdd, Int.reduceSub, Int.reduceMul, Int.reduceMod, Int.reduceDiv, reduceCtorEq, Nat.reducePow, Int.reducePow, ac_ref8_Digest_L1, hvs, h2, h3, hu, hu2, hq, tv, t2, t4, hh2, beI_len]
      all_goals try rfl
end Go.Eng
end
section
set_option maxRecDepth 20000
set_option maxHeartbeats 64000000
namespace Go.Eng
theorem nat_and2 (n : Nat) : n &&& 2 = n / 2 % 2 * 2 := by
  have h1 : (n &&& 2) / 2 = n / 2 % 2 := by
    rw [Nat.and_div_two]; exact Nat.and_one_is_mod _
  have h2 : (n &&& 2) % 2 = 0 := by
    have := Nat.and_mod_two_pow (a := n) (b := 2) (n := 1)
    simpa using this
  omega
theorem and2 {x : Int} : binI .and .i64 x .i64 2 = some (.int .i64 (x / 2 % 2 * 2)) := by
  have h2 : ((BitVec.ofInt 64 x &&& BitVec.ofInt 64 2).toNat : Int) = x / 2 % 2 * 2 := by
    rw [BitVec.toNat_and, BitVec.toNat_ofInt]
    have e2 : (BitVec.ofInt 64 2).toNat = 2 := by decide
    rw [e2, nat_and2]
    have e3 : ((2 ^ 64 : Nat) : Int) = 18446744073709551616 := by decide
    rw [e3]
    omega
  change some (T.int IntKind.i64 (IntKind.i64.wrap ((BitVec.ofInt 64 x &&& BitVec.ofInt 64 2).toNat : Int))) = _
  rw [h2, wrap_i64_id (by omega)]
attribute [go_sem ↓] and2
def ct_digs : Ct where
  α := List Bank × Int × Int × Int
  as x := [.t (regT x.1 x.2.1), .t (.agg [.int .i64 x.2.2.1, .int .i64 x.2.2.2])]
  ins _ := []
  pre x := RV x.1
  r x := digR x.1 x.2.2.1 x.2.2.2
  outs x := digO x.1 x.2.2.1 x.2.2.2
  inj := by
    rintro ⟨a, u, l, i⟩ ⟨b, v, l', i'⟩ h _
    simp only [List.cons.injEq, V.t.injEq, T.int.injEq, T.agg.injEq, true_and, and_true] at h
    obtain ⟨h1, rfl, rfl⟩ := h
    obtain ⟨rfl, rfl⟩ := regT_inj h1
    exact ⟨rfl, rfl⟩
theorem dig_cases {bk : List Bank} {u : Int} (h : RV bk) (s0 s1 : Int) : (∃ e : Int, ct_digs.fs [.t (.agg [.sl (bk.map bankT), .int .i64 u]), .t (.agg [.int .i64 s0, .int .i64 s1])] [] = some (.tup [.nil, .t (.int .i64 e)], [])) ∨
    (∃ v : List UInt8, v.length = 32 ∧ ct_digs.fs [.t (.agg [.sl (bk.map bankT), .int .i64 u]), .t (.agg [.int .i64 s0, .int .i64 s1])] [] = some (.tup [.sl 0 0 32, .t (.int .i64 0)], [.live 1 ((v.map byteT).map V.t) true false])) := by
  have he := ct_digs.eq (bk, u, s0, s1) h
  have he2 : ct_digs.fs [.t (.agg [.sl (bk.map bankT), .int .i64 u]), .t (.agg [.int .i64 s0, .int .i64 s1])] [] = some (digR bk s0 s1, digO bk s0 s1) := he
  rw [he2]
  unfold digR digO
  split
  · exact .inr ⟨_, sum256_length, rfl⟩
  · exact .inl ⟨_, rfl⟩
theorem w_RegistersDigest (tab : Tab) (gl : Gl) (n1 n2 n3 n4 n5 : Nat) (h1 : tab.look n1 = some ct_awake.fs) (h2 : tab.look n2 = some ct_drR.fs) (h3 : tab.look n3 = some ct_digs.fs) (h4 : tab.look n4 = some ct_digs.fs) (h5 : tab.look n5 = some ct_same.fs) (s : Int) (cs : List UInt8) (hcs : cs.length ≤ 9223372036854775807) (s0 s1 m : Int) :
    (ac_law8_RegistersDigest n1 n2 n3 n4 n5).wp tab gl (zipF 0 [.t (.int .i64 s), .t (.sl (cs.map byteT)), .t (.agg [.int .i64 s0, .int .i64 s1]), .t (.int .i64 m)]) (zipF 0 []) (resW [(8, none)] 0 (fun r o => r = .t (.bool true) ∧ o = [])) := by
  obtain ⟨bk, u, hv, hu0, hu1, hd⟩ := drR_eq (s := s) hcs
  have hX : ∀ a b : Int, ∃ (v : List UInt8) (e : Int), v.length = 32 ∧ (ct_digs.fs [.t (.agg [.sl (bk.map bankT), .int .i64 u]), .t (.agg [.int .i64 a, .int .i64 b])] [] = some (.tup [.nil, .t (.int .i64 e)], []) ∨ ct_digs.fs [.t (.agg [.sl (bk.map bankT), .int .i64 u]), .t (.agg [.int .i64 a, .int .i64 b])] [] = some (.tup [.sl 0 0 32, .t (.int .i64 0)], [.live 1 ((v.map byteT).map V.t) true false])) := by
    intro a b
    rcases dig_cases (u := u) hv a b with ⟨e, h⟩ | ⟨v, hl, h⟩
    · exact ⟨List.replicate 32 0, e, List.length_replicate, .inl h⟩
    · exact ⟨v, 0, hl, .inr h⟩
  obtain ⟨v, e, lv, hE⟩ := hX s0 s1
  have hs := same_refl (a := v) (by omega)
  have tv : List.take 32 v = v := List.take_of_length_le (by omega)
  cases q1 : (s % 2 == 0) <;> cases q2 : (s / 2 % 2 * 2 == 0) <;> cases q3 : (m % 2 == 0)
  · obtain ⟨w, e', lw, hF⟩ := hX (s0 % 65536) (s1 % 65536)
    have hs2 := same_refl (a := w) (by omega)
    have tw : List.take 32 w = w := List.take_of_length_le (by omega)
    rcases hE with hE | hE <;> rcases hF with hF | hF
    all_goals simp (config := { maxSteps := 2000000 }) (disch := (first | omega | (simp only [lens, lenm]; omega))) only [go_sem, ↓reduceIte, Nat.reduceAdd, Nat.reduceEqDiff, Nat.reduceSub, Nat.reduceMul, Nat.reduceLT, Nat.reduceLeDiff, Nat.reduceBEq, Int.reduceEq, Int.reduceLT, Int.reduceLE, Int.reduceToNat, Int.reduceNeg, Int.reduceAdd, Int.reduceSub, Int.reduceMul, Int.reduceMod, Int.reduceDiv, reduceCtorEq, Nat.reducePow, Int.reducePow, ac_law8_RegistersDigest, h1, h2, h3, h4, h5, awake_eq, hd, hE, hF, hs, hs2, tv, tw, same_nil, q1, q2, q3]
  · obtain ⟨w, e', lw, hF⟩ := hX (s0 % 65536) (s1 % 65536)
    have hs2 := same_refl (a := w) (by omega)
    have tw : List.take 32 w = w := List.take_of_length_le (by omega)
    rcases hE with hE | hE <;> rcases hF with hF | hF
    all_goals simp (config := { maxSteps := 2000000 }) (disch := (first | omega | (simp only [lens, lenm]; omega))) only [go_sem, ↓reduceIte, Nat.reduceAdd, Nat.reduceEqDiff, Nat.reduceSub, Nat.reduceMul, Nat.reduceLT, Nat.reduceLeDiff, Nat.reduceBEq, Int.reduceEq, Int.reduceLT, Int.reduceLE, Int.reduceToNat, Int.reduceNeg, Int.reduceAdd, Int.reduceSub, Int.reduceMul, Int.reduceMod, Int.reduceDiv, reduceCtorEq, Nat.reducePow, Int.reducePow, ac_law8_RegistersDigest, h1, h2, h3, h4, h5, awake_eq, hd, hE, hF, hs, hs2, tv, tw, same_nil, q1, q2, q3]
  · obtain ⟨w, e', lw, hF⟩ := hX (s0 % 65536) (s1 % 65536)
    have hs2 := same_refl (a := w) (by omega)
    have tw : List.take 32 w = w := List.take_of_length_le (by omega)
    rcases hE with hE | hE <;> rcases hF with hF | hF
    all_goals simp (config := { maxSteps := 2000000 }) (disch := (first | omega | (simp only [lens, lenm]; omega))) only [go_sem, ↓reduceIte, Nat.reduceAdd, Nat.reduceEqDiff, Nat.reduceSub, Nat.reduceMul, Nat.reduceLT, Nat.reduceLeDiff, Nat.reduceBEq, Int.reduceEq, Int.reduceLT, Int.reduceLE, Int.reduceToNat, Int.reduceNeg, Int.reduceAdd, Int.reduceSub, Int.reduceMul, Int.reduceMod, Int.reduceDiv, reduceCtorEq, Nat.reducePow, Int.reducePow, ac_law8_RegistersDigest, h1, h2, h3, h4, h5, awake_eq, hd, hE, hF, hs, hs2, tv, tw, same_nil, q1, q2, q3]
  · obtain ⟨w, e', lw, hF⟩ := hX (s0 % 65536) 0
    have hs2 := same_refl (a := w) (by omega)
    have tw : List.take 32 w = w := List.take_of_length_le (by omega)
    rcases hE with hE | hE <;> rcases hF with hF | hF
    all_goals simp (config := { maxSteps := 2000000 }) (disch := (first | omega | (simp only [lens, lenm]; omega))) only [go_sem, ↓reduceIte, Nat.reduceAdd, Nat.reduceEqDiff, Nat.reduceSub, Nat.reduceMul, Nat.reduceLT, Nat.reduceLeDiff, Nat.reduceBEq, Int.reduceEq, Int.reduceLT, Int.reduceLE, Int.reduceToNat, Int.reduceNeg, Int.reduceAdd, Int.reduceSub, Int.reduceMul, Int.reduceMod, Int.reduceDiv, reduceCtorEq, Nat.reducePow, Int.reducePow, ac_law8_RegistersDigest, h1, h2, h3, h4, h5, awake_eq, hd, hE, hF, hs, hs2, tv, tw, same_nil, q1, q2, q3]
  · obtain ⟨w, e', lw, hF⟩ := hX (s0 % 65536) (s1 % 65536)
    have hs2 := same_refl (a := w) (by omega)
    have tw : List.take 32 w = w := List.take_of_length_le (by omega)
    rcases hE with hE | hE <;> rcases hF with hF | hF
    all_goals simp (config := { maxSteps := 2000000 }) (disch := (first | omega | (simp only [lens, lenm]; omega))) only [go_sem, ↓reduceIte, Nat.reduceAdd, Nat.reduceEqDiff, Nat.reduceSub, Nat.reduceMul, Nat.reduceLT, Nat.reduceLeDiff, Nat.reduceBEq, Int.reduceEq, Int.reduceLT, Int.reduceLE, Int.reduceToNat, Int.reduceNeg, Int.reduceAdd, Int.reduceSub, Int.reduceMul, Int.reduceMod, Int.reduceDiv, reduceCtorEq, Nat.reducePow, Int.reducePow, ac_law8_RegistersDigest, h1, h2, h3, h4, h5, awake_eq, hd, hE, hF, hs, hs2, tv, tw, same_nil, q1, q2, q3]
  · obtain ⟨w, e', lw, hF⟩ := hX 0 (s1 % 65536)
    have hs2 := same_refl (a := w) (by omega)
    have tw : List.take 32 w = w := List.take_of_length_le (by omega)
    rcases hE with hE | hE <;> rcases hF with hF | hF
    all_goals simp (config := { maxSteps := 2000000 }) (disch := (first | omega | (simp only [lens, lenm]; omega))) only [go_sem, ↓reduceIte, Nat.reduceAdd, Nat.reduceEqDiff, Nat.reduceSub, Nat.reduceMul, Nat.reduceLT, Nat.reduceLeDiff, Nat.reduceBEq, Int.reduceEq, Int.reduceLT, Int.reduceLE, Int.reduceToNat, Int.reduceNeg, Int.reduceAdd, Int.reduceSub, Int.reduceMul, Int.reduceMod, Int.reduceDiv, reduceCtorEq, Nat.reducePow, Int.reducePow, ac_law8_RegistersDigest, h1, h2, h3, h4, h5, awake_eq, hd, hE, hF, hs, hs2, tv, tw, same_nil, q1, q2, q3]
  · obtain ⟨w, e', lw, hF⟩ := hX (s0 % 65536) (s1 % 65536)
    have hs2 := same_refl (a := w) (by omega)
    have tw : List.take 32 w = w := List.take_of_length_le (by omega)
    rcases hE with hE | hE <;> rcases hF with hF | hF
    all_goals simp (config := { maxSteps := 2000000 }) (disch := (first | omega | (simp only [lens, lenm]; omega))) only [go_sem, ↓reduceIte, Nat.reduceAdd, Nat.reduceEqDiff, Nat.reduceSub, Nat.reduceMul, Nat.reduceLT, Nat.reduceLeDiff, Nat.reduceBEq, Int.reduceEq, Int.reduceLT, Int.reduceLE, Int.reduceToNat, Int.reduceNeg, Int.reduceAdd, Int.reduceSub, Int.reduceMul, Int.reduceMod, Int.reduceDiv, reduceCtorEq, Nat.reducePow, Int.reducePow, ac_law8_RegistersDigest, h1, h2, h3, h4, h5, awake_eq, hd, hE, hF, hs, hs2, tv, tw, same_nil, q1, q2, q3]
  · obtain ⟨w, e', lw, hF⟩ := hX 0 0
    have hs2 := same_refl (a := w) (by omega)
    have tw : List.take 32 w = w := List.take_of_length_le (by omega)
    rcases hE with hE | hE <;> rcases hF with hF | hF
    all_goals simp (config := { maxSteps := 2000000 }) (disch := (first | omega | (simp only [lens, lenm]; omega))) only [go_sem, ↓reduceIte, Nat.reduceAdd, Nat.reduceEqDiff, Nat.reduceSub, Nat.reduceMul, Nat.reduceLT, Nat.reduceLeDiff, Nat.reduceBEq, Int.reduceEq, Int.reduceLT, Int.reduceLE, Int.reduceToNat, Int.reduceNeg, Int.reduceAdd, Int.reduceSub, Int.reduceMul, Int.reduceMod, Int.reduceDiv, reduceCtorEq, Nat.reducePow, Int.reducePow, ac_law8_RegistersDigest, h1, h2, h3, h4, h5, awake_eq, hd, hE, hF, hs, hs2, tv, tw, same_nil, q1, q2, q3]
end Go.Eng
end
