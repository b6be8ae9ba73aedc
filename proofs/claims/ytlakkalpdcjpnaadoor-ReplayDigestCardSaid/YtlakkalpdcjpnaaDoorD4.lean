/- My own text: an abstract machine, its walks over the functions reached, and their tie to the program. -/
import Derived.Test.YtlakkalpdcjpnaaDoorD3
set_option linter.unusedSimpArgs false
set_option linter.unusedVariables false
section
set_option maxRecDepth 20000
set_option maxHeartbeats 64000000
namespace Go.Eng
def extE (l0 l1 : Nat) (loc i : Int) (nd k0 k1 : Nat) : Int :=
 if loc < 0 ∨ 4 < loc ∨ i < 0 ∨ 16 ≤ i ∨ nd ≠ 2 then 1 else if loc < leastI i false then 13
 else if (l0 ≠ 16 ∧ 0 < k0) ∨ (l1 ≠ 16 ∧ 0 < k1) then 27 else if (l0 = 16 ∧ k0 ≠ 20) ∨ (l1 = 16 ∧ k1 ≠ 32) then 24 else 0
def ext1 (a : Nat) (b : Bank) (i : Nat) (d : List UInt8) : Bank := if List.length b = 16 then b.set i (sumA a (b.getD i [] ++ d)) else b
theorem ext1_length {a : Nat} {b : Bank} {i : Nat} {d : List UInt8} : List.length (ext1 a b i d) = List.length b := by
 unfold ext1; split <;> simp
def extBk (bk : List Bank) (i : Nat) (ds : List (List UInt8)) : List Bank := match bk with
 | [b0, b1] => [ext1 0 b0 i (ds.getD 0 []), ext1 1 b1 i (ds.getD 1 [])]
 | bk => bk
def extEr (bk : List Bank) (loc i : Int) (ds : List (List UInt8)) : Int := extE (bk.getD 0 []).length (bk.getD 1 []).length loc i ds.length (ds.getD 0 []).length (ds.getD 1 []).length
def extR (bk : List Bank) (u loc i : Int) (ds : List (List UInt8)) : V :=
 if extE (bk.getD 0 []).length (bk.getD 1 []).length loc i ds.length (ds.getD 0 []).length (ds.getD 1 []).length = 0 then .tup [.t (regT (extBk bk i.toNat ds) (u + 1)), .t (.int .i64 0)]
 else .tup [.t (regT [] 0), .t (.int .i64 (extE (bk.getD 0 []).length (bk.getD 1 []).length loc i ds.length (ds.getD 0 []).length (ds.getD 1 []).length))]
theorem sumA0 {x : List UInt8} : sumA 0 x = sum1 x := rfl
theorem sumA1 {x : List UInt8} : sumA 1 x = sum256 x := rfl
theorem take_sum1 {x : List UInt8} : List.take 20 (sum1 x) = sum1 x := List.take_of_length_le (by rw [sum1_length]; exact Nat.le_refl _)
theorem take_sum256 {x : List UInt8} : List.take 32 (sum256 x) = sum256 x := List.take_of_length_le (by rw [sum256_length]; exact Nat.le_refl _)
theorem w_registers_Extend2 (tab : Tab) (gl : Gl) (n1 n2 n3 n4 n5 n6 : Nat) (h1 : tab.look n1 = some ct_index.fs) (h2 : tab.look n2 = some ct_least.fs) (h3 : tab.look n3 = some ct_on.fs) (h4 : tab.look n4 = some ct_size.fs) (h5 : tab.look n5 = some ct_twin.fs) (h6 : tab.look n6 = some ct_sumA.fs)
   (b0 b1 : Bank) (u loc : Int) (n : Nat) (d0 d1 : List UInt8) (hu : 0 ≤ u ∧ u < 1000000000) (hk : RM [b0, b1]) (hv0 : (b0.getD n []).length ≤ 64) (hv1 : (b1.getD n []).length ≤ 64) (hd : d0.length < 9223372036854775808 ∧ d1.length < 9223372036854775808) (e1 : ¬(loc < 0 ∨ 4 < loc ∨ 16 ≤ n)) (e2 : ¬ loc < leastI n false) :
   (ac_registers_Extend n1 n2 n3 n4 n5 n6).wp tab gl (zipF 0 [.t (regT [b0, b1] u), .t (.int .i64 loc), .t (.int .i64 n), .t (.sl [bsT d0, bsT d1])]) (zipF 0 []) (resW [(8, some (2, true)), (9, none)] 0 (fun r o => r = extR [b0, b1] u loc n [d0, d1] ∧ o = [])) := by
 have gg : bkOk b0 ∧ bkOk b1 := by
   obtain ⟨hrk, _⟩ := hk
   cases hrk with
   | two _ _ h0 h1 => exact ⟨h0, h1⟩
 obtain ⟨g0, g1⟩ := gg
 simp (disch := omega) only [go_sem, ↓reduceIte, Nat.reduceAdd, Nat.reduceEqDiff, Nat.reduceLeDiff, reduceCtorEq, ac_registers_Extend, h1, index_t, h2, least_eq, List.map_nil, List.map_cons]
 refine loopW_weak (fs' := [(2, .t (.int .i64 (n : Nat))), (3, .t (.sl [bsT d0, bsT d1])), (4, .ref 4096 0 0), (8, .ref 4112 0 0), (38, .t (.sl [bsT d0, bsT d1])), (39, .t (.int .i64 2)), (40, .t (.int .i64 0))]) (hs' := [(4112, .live 2 [.agg [.nil, .t (.int .i64 0)]] true true), (4096, .live 2 [.t (regT [b0, b1] u)] true true)]) (Weak.rd id ?_ ?_ rfl) ?_
 · simp (disch := omega) only [go_sem, ↓reduceIte, Nat.reduceEqDiff, Nat.reduceBEq, reduceCtorEq, id]
 · simp (disch := omega) only [go_sem, ↓reduceIte, Nat.reduceEqDiff, id]
 rcases g0 with z0 | z0 <;> rcases g1 with z1 | z1
 · have zz : True := trivial
   by_cases p2 : 0 < d0.length
   · have zz : True := trivial
     have hE : extE 0 0 loc n 2 d0.length d1.length = 27 := by unfold extE; rw [if_neg (by omega), if_neg (by omega), if_pos (by omega)]
     refine loop_fuel 3 ?_
     simp (disch := omega) only [go_sem, ↓reduceIte, Nat.reduceAdd, Nat.reduceEqDiff, Nat.reduceLeDiff, Int.reduceEq, Int.reduceLT, Int.reduceLE, reduceCtorEq, loopN_succ, ac_registers_Extend_L0, h3, on_eq0 hk.1, on_eq1 hk.1, h4, size_eq0, size_eq1, h5, twin_eq2 hk, h6, sumA_eq0, sumA_eq1, z0, z1, hE, List.map_nil, extR, extEr, List.getD_cons_zero, List.getD_cons_succ, List.length_cons, List.length_nil]
     all_goals repeat refine And.intro rfl ?_
     all_goals rfl
   · have zz : True := trivial
     by_cases p1 : 0 < d1.length
     · have zz : True := trivial
       have hE : extE 0 0 loc n 2 d0.length d1.length = 27 := by unfold extE; rw [if_neg (by omega), if_neg (by omega), if_pos (by omega)]
       refine loop_fuel 3 ?_
       simp (disch := omega) only [go_sem, ↓reduceIte, Nat.reduceAdd, Nat.reduceEqDiff, Nat.reduceLeDiff, Int.reduceEq, Int.reduceLT, Int.reduceLE, Int.reduceAdd, reduceCtorEq, loopN_succ, ac_registers_Extend_L0, h3, on_eq0 hk.1, on_eq1 hk.1, h4, size_eq0, size_eq1, h5, twin_eq2 hk, h6, sumA_eq0, sumA_eq1, z0, z1, hE, List.map_nil, extR, extEr, List.getD_cons_zero, List.getD_cons_succ, List.length_cons, List.length_nil]
       all_goals repeat refine And.intro rfl ?_
       all_goals rfl
     · have zz : True := trivial
       refine loop_fuel 3 ?_
       simp (disch := omega) only [go_sem, ↓reduceIte, Nat.reduceAdd, Nat.reduceEqDiff, Nat.reduceLeDiff, Int.reduceLT, Int.reduceLE, Int.reduceAdd, reduceCtorEq, loopN_succ, ac_registers_Extend_L0, h3, on_eq0 hk.1, on_eq1 hk.1, h4, size_eq0, size_eq1, h5, twin_eq2 hk, h6, sumA_eq0, sumA_eq1, z0, z1]
       all_goals repeat refine And.intro rfl ?_
       refine loopW_weak (fs' := [(2, .t (.int .i64 (n : Nat))), (3, .t (.sl [bsT d0, bsT d1])), (4, .ref 4096 0 0), (8, .ref 4112 0 0), (56, .t (.sl [bsT d0, bsT d1])), (57, .t (.int .i64 2)), (58, .t (.int .i64 0))]) (hs' := [(4112, .live 2 [.agg [.nil, .t (.int .i64 0)]] true true), (4096, .live 2 [.t (regT [b0, b1] u)] true true)]) (Weak.rd id ?_ ?_ rfl) ?_
       · simp (disch := omega) only [go_sem, ↓reduceIte, Nat.reduceEqDiff, Nat.reduceBEq, id]
       · simp (disch := omega) only [go_sem, ↓reduceIte, Nat.reduceEqDiff, id]
       have hE : extE 0 0 loc n 2 d0.length d1.length = 0 := by unfold extE; rw [if_neg (by omega), if_neg (by omega), if_neg (by omega), if_neg (by omega)]
       refine loop_fuel 3 ?_
       simp (disch := omega) only [go_sem, ↓reduceIte, Nat.reduceAdd, Nat.reduceEqDiff, Nat.reduceLeDiff, Int.reduceLT, Int.reduceLE, Int.reduceAdd, reduceCtorEq, loopN_succ, ac_registers_Extend_L1, h3, on_eq0 hk.1, on_eq1 hk.1, h4, size_eq0, size_eq1, h5, twin_eq2 hk, h6, sumA_eq0, sumA_eq1, z0, z1]
       all_goals repeat refine And.intro rfl ?_
       refine loop_upto 2 (fun k => match k with | 0 => [(2, .t (.int .i64 (n : Nat))), (3, .t (.sl [bsT d0, bsT d1])), (4, .ref 4096 0 0), (8, .ref 4112 0 0), (14, .ref 73760 0 0), (79, .t (.int .i64 2)), (80, .t (.int .i64 0))] | 1 => [(2, .t (.int .i64 (n : Nat))), (3, .t (.sl [bsT d0, bsT d1])), (4, .ref 4096 0 0), (8, .ref 4112 0 0), (14, .ref 73760 0 0), (79, .t (.int .i64 2)), (80, .t (.int .i64 1))] | _ => [(2, .t (.int .i64 (n : Nat))), (3, .t (.sl [bsT d0, bsT d1])), (4, .ref 4096 0 0), (8, .ref 4112 0 0), (14, .ref 73760 0 0), (79, .t (.int .i64 2)), (80, .t (.int .i64 2))]) (fun k => match k with | 0 => [(73760, .live 2 [.agg [.sl 73744 0 2, .t (.int .i64 u)]] true true), (73746, .live 1 (((b1).map bsT).map V.t) true false), (73745, .live 1 (((b0).map bsT).map V.t) true false), (73744, .live 1 [.sl 73745 0 0, .sl 73746 0 0] true false), (4112, .live 2 [.agg [.nil, .t (.int .i64 0)]] true true), (4096, .live 2 [.t (regT [b0, b1] u)] true true)] | 1 => [(73760, .live 2 [.agg [.sl 73744 0 2, .t (.int .i64 u)]] true true), (73746, .live 1 (((b1).map bsT).map V.t) true false), (73745, .live 1 (((ext1 0 b0 n d0).map bsT).map V.t) true false), (73744, .live 1 [.sl 73745 0 0, .sl 73746 0 0] true false), (4112, .live 2 [.agg [.nil, .t (.int .i64 0)]] true true), (4096, .live 2 [.t (regT [b0, b1] u)] true true)] | _ => [(73760, .live 2 [.agg [.sl 73744 0 2, .t (.int .i64 u)]] true true), (73746, .live 1 (((ext1 1 b1 n d1).map bsT).map V.t) true false), (73745, .live 1 (((ext1 0 b0 n d0).map bsT).map V.t) true false), (73744, .live 1 [.sl 73745 0 0, .sl 73746 0 0] true false), (4112, .live 2 [.agg [.nil, .t (.int .i64 0)]] true true), (4096, .live 2 [.t (regT [b0, b1] u)] true true)]) ?_ (fun k hk2 => ?_)
       · refine Weak.rd id ?_ ?_ rfl
         all_goals simp (disch := omega) only [go_sem, ↓reduceIte, Nat.reduceAdd, Nat.reduceEqDiff, Nat.reduceBEq, id, z0, z1]
       · rcases (show k = 0 ∨ k = 1 ∨ k = 2 by omega) with rfl | rfl | rfl
         · have q := List.take_of_length_le (show (b0.getD n [] ++ d0).length ≤ (List.getD b0 n []).length + d0.length by rw [List.length_append]; exact Nat.le_refl _)
           simp (disch := omega) only [go_sem, ↓reduceIte, Nat.reduceAdd, Nat.reduceEqDiff, Nat.reduceLT, Nat.reduceLeDiff, Int.reduceLT, Int.reduceAdd, reduceCtorEq, ac_registers_Extend_L2, h3, on_eq0 hk.1, on_eq1 hk.1, h4, size_eq0, size_eq1, h5, twin_eq2 hk, h6, sumA_eq0, sumA_eq1, z0, z1, ext1_length, q]
           refine Weak.rd id ?_ ?_ rfl
           all_goals simp (disch := omega) only [go_sem, ↓reduceIte, Nat.reduceAdd, Nat.reduceEqDiff, Nat.reduceBEq, reduceCtorEq, id, ext1, z0, z1]
         · have q := List.take_of_length_le (show (b1.getD n [] ++ d1).length ≤ (List.getD b1 n []).length + d1.length by rw [List.length_append]; exact Nat.le_refl _)
           simp (disch := omega) only [go_sem, ↓reduceIte, Nat.reduceAdd, Nat.reduceEqDiff, Nat.reduceLT, Nat.reduceLeDiff, Int.reduceLT, Int.reduceAdd, reduceCtorEq, ac_registers_Extend_L2, h3, on_eq0 hk.1, on_eq1 hk.1, h4, size_eq0, size_eq1, h5, twin_eq2 hk, h6, sumA_eq0, sumA_eq1, z0, z1, ext1_length, q]
           refine Weak.rd id ?_ ?_ rfl
           all_goals simp (disch := omega) only [go_sem, ↓reduceIte, Nat.reduceAdd, Nat.reduceEqDiff, Nat.reduceBEq, reduceCtorEq, id, ext1, z0, z1]
         · have t0 : List.take 0 (ext1 0 b0 n d0) = ext1 0 b0 n d0 := List.take_of_length_le (by rw [ext1_length, z0]; exact Nat.le_refl _)
           have t1 : List.take 0 (ext1 1 b1 n d1) = ext1 1 b1 n d1 := List.take_of_length_le (by rw [ext1_length, z1]; exact Nat.le_refl _)
           have y0 : ext1 0 b0 n d0 = [] := List.eq_nil_of_length_eq_zero (by rw [ext1_length, z0])
           have y1 : ext1 1 b1 n d1 = [] := List.eq_nil_of_length_eq_zero (by rw [ext1_length, z1])
           simp (disch := omega) only [go_sem, ↓reduceIte, Nat.reduceAdd, Nat.reduceEqDiff, Nat.reduceLeDiff, Int.reduceLT, reduceCtorEq, ac_registers_Extend_L2, ext1_length, t0, t1, z0, z1, hE, extBk, Int.toNat_natCast, List.map_cons, List.map_nil, y0, y1, extR, extEr, List.getD_cons_zero, List.getD_cons_succ, List.length_cons, List.length_nil]
 · have zz : True := trivial
   by_cases p1 : 0 < d0.length
   · have zz : True := trivial
     have hE : extE 0 16 loc n 2 d0.length d1.length = 27 := by unfold extE; rw [if_neg (by omega), if_neg (by omega), if_pos (by omega)]
     refine loop_fuel 3 ?_
     simp (disch := omega) only [go_sem, ↓reduceIte, Nat.reduceAdd, Nat.reduceEqDiff, Nat.reduceLeDiff, Int.reduceEq, Int.reduceLT, Int.reduceLE, reduceCtorEq, loopN_succ, ac_registers_Extend_L0, h3, on_eq0 hk.1, on_eq1 hk.1, h4, size_eq0, size_eq1, h5, twin_eq2 hk, h6, sumA_eq0, sumA_eq1, z0, z1, hE, List.map_nil, extR, extEr, List.getD_cons_zero, List.getD_cons_succ, List.length_cons, List.length_nil]
     all_goals repeat refine And.intro rfl ?_
     all_goals rfl
   · have zz : True := trivial
     refine loop_fuel 3 ?_
     simp (disch := omega) only [go_sem, ↓reduceIte, Nat.reduceAdd, Nat.reduceEqDiff, Nat.reduceLeDiff, Int.reduceLT, Int.reduceLE, Int.reduceAdd, reduceCtorEq, loopN_succ, ac_registers_Extend_L0, h3, on_eq0 hk.1, on_eq1 hk.1, h4, size_eq0, size_eq1, h5, twin_eq2 hk, h6, sumA_eq0, sumA_eq1, z0, z1]
     all_goals repeat refine And.intro rfl ?_
     refine loopW_weak (fs' := [(2, .t (.int .i64 (n : Nat))), (3, .t (.sl [bsT d0, bsT d1])), (4, .ref 4096 0 0), (8, .ref 4112 0 0), (56, .t (.sl [bsT d0, bsT d1])), (57, .t (.int .i64 2)), (58, .t (.int .i64 0))]) (hs' := [(4112, .live 2 [.agg [.nil, .t (.int .i64 0)]] true true), (4096, .live 2 [.t (regT [b0, b1] u)] true true)]) (Weak.rd id ?_ ?_ rfl) ?_
     · simp (disch := omega) only [go_sem, ↓reduceIte, Nat.reduceEqDiff, Nat.reduceBEq, id]
     · simp (disch := omega) only [go_sem, ↓reduceIte, Nat.reduceEqDiff, id]
     by_cases q1 : d1.length ≠ 32
     · have zz : True := trivial
       have hE : extE 0 16 loc n 2 d0.length d1.length = 24 := by unfold extE; rw [if_neg (by omega), if_neg (by omega), if_neg (by omega), if_pos (by omega)]
       refine loop_fuel 3 ?_
       simp (disch := omega) only [go_sem, ↓reduceIte, Nat.reduceAdd, Nat.reduceEqDiff, Nat.reduceLeDiff, Int.reduceEq, Int.reduceLT, Int.reduceLE, Int.reduceAdd, reduceCtorEq, loopN_succ, ac_registers_Extend_L1, h3, on_eq0 hk.1, on_eq1 hk.1, h4, size_eq0, size_eq1, h5, twin_eq2 hk, h6, sumA_eq0, sumA_eq1, z0, z1, hE, List.map_nil, extR, extEr, List.getD_cons_zero, List.getD_cons_succ, List.length_cons, List.length_nil]
       all_goals repeat refine And.intro rfl ?_
       all_goals rfl
     · have zz : True := trivial
       have hE : extE 0 16 loc n 2 d0.length d1.length = 0 := by unfold extE; rw [if_neg (by omega), if_neg (by omega), if_neg (by omega), if_neg (by omega)]
       refine loop_fuel 3 ?_
       simp (disch := omega) only [go_sem, ↓reduceIte, Nat.reduceAdd, Nat.reduceEqDiff, Nat.reduceLeDiff, Int.reduceLT, Int.reduceLE, Int.reduceAdd, reduceCtorEq, loopN_succ, ac_registers_Extend_L1, h3, on_eq0 hk.1, on_eq1 hk.1, h4, size_eq0, size_eq1, h5, twin_eq2 hk, h6, sumA_eq0, sumA_eq1, z0, z1]
       all_goals repeat refine And.intro rfl ?_
       refine loop_upto 2 (fun k => match k with | 0 => [(2, .t (.int .i64 (n : Nat))), (3, .t (.sl [bsT d0, bsT d1])), (4, .ref 4096 0 0), (8, .ref 4112 0 0), (14, .ref 73760 0 0), (79, .t (.int .i64 2)), (80, .t (.int .i64 0))] | 1 => [(2, .t (.int .i64 (n : Nat))), (3, .t (.sl [bsT d0, bsT d1])), (4, .ref 4096 0 0), (8, .ref 4112 0 0), (14, .ref 73760 0 0), (79, .t (.int .i64 2)), (80, .t (.int .i64 1))] | _ => [(2, .t (.int .i64 (n : Nat))), (3, .t (.sl [bsT d0, bsT d1])), (4, .ref 4096 0 0), (8, .ref 4112 0 0), (14, .ref 73760 0 0), (79, .t (.int .i64 2)), (80, .t (.int .i64 2))]) (fun k => match k with | 0 => [(73760, .live 2 [.agg [.sl 73744 0 2, .t (.int .i64 u)]] true true), (73746, .live 1 (((b1).map bsT).map V.t) true false), (73745, .live 1 (((b0).map bsT).map V.t) true false), (73744, .live 1 [.sl 73745 0 0, .sl 73746 0 16] true false), (4112, .live 2 [.agg [.nil, .t (.int .i64 0)]] true true), (4096, .live 2 [.t (regT [b0, b1] u)] true true)] | 1 => [(73760, .live 2 [.agg [.sl 73744 0 2, .t (.int .i64 u)]] true true), (73746, .live 1 (((b1).map bsT).map V.t) true false), (73745, .live 1 (((ext1 0 b0 n d0).map bsT).map V.t) true false), (73744, .live 1 [.sl 73745 0 0, .sl 73746 0 16] true false), (4112, .live 2 [.agg [.nil, .t (.int .i64 0)]] true true), (4096, .live 2 [.t (regT [b0, b1] u)] true true)] | _ => [(73760, .live 2 [.agg [.sl 73744 0 2, .t (.int .i64 u)]] true true), (73746, .live 1 (((ext1 1 b1 n d1).map bsT).map V.t) true false), (73745, .live 1 (((ext1 0 b0 n d0).map bsT).map V.t) true false), (73744, .live 1 [.sl 73745 0 0, .sl 73746 0 16] true false), (4112, .live 2 [.agg [.nil, .t (.int .i64 0)]] true true), (4096, .live 2 [.t (regT [b0, b1] u)] true true)]) ?_ (fun k hk2 => ?_)
       · refine Weak.rd id ?_ ?_ rfl
         all_goals simp (disch := omega) only [go_sem, ↓reduceIte, Nat.reduceAdd, Nat.reduceEqDiff, Nat.reduceBEq, id, z0, z1]
       · rcases (show k = 0 ∨ k = 1 ∨ k = 2 by omega) with rfl | rfl | rfl
         · have q := List.take_of_length_le (show (b0.getD n [] ++ d0).length ≤ (List.getD b0 n []).length + d0.length by rw [List.length_append]; exact Nat.le_refl _)
           simp (disch := omega) only [go_sem, ↓reduceIte, Nat.reduceAdd, Nat.reduceEqDiff, Nat.reduceLT, Nat.reduceLeDiff, Int.reduceLT, Int.reduceAdd, reduceCtorEq, ac_registers_Extend_L2, h3, on_eq0 hk.1, on_eq1 hk.1, h4, size_eq0, size_eq1, h5, twin_eq2 hk, h6, sumA_eq0, sumA_eq1, z0, z1, ext1_length, q]
           refine Weak.rd id ?_ ?_ rfl
           all_goals simp (disch := omega) only [go_sem, ↓reduceIte, Nat.reduceAdd, Nat.reduceEqDiff, Nat.reduceBEq, reduceCtorEq, id, ext1, z0, z1]
         · have q := List.take_of_length_le (show (b1.getD n [] ++ d1).length ≤ (List.getD b1 n []).length + d1.length by rw [List.length_append]; exact Nat.le_refl _)
           simp (config := { maxSteps := 2000000 }) (disch := (first | omega | (simp only [lens, lenm]; omega))) only [go_sem, ↓reduceIte, Nat.reduceAdd, Nat.reduceEqDiff, Nat.reduceLT, Nat.reduceLeDiff, Int.reduceLT, Int.reduceLE, Int.reduceAdd, ac_registers_Extend_L2, h3, on_eq0 hk.1, on_eq1 hk.1, h4, size_eq0, size_eq1, h5, twin_eq2 hk, h6, sumA_eq0, sumA_eq1, z0, z1, ext1_length, q]
           repeat refine And.intro rfl ?_
           refine Weak.cv (hv := []) [94544] id ?_ rfl
           simp (config := { maxSteps := 2000000 }) (disch := (first | omega | (simp only [lens, lenm]; omega))) only [go_sem, ↓reduceIte, Nat.reduceAdd, Nat.reduceEqDiff, Nat.reduceLeDiff, Nat.reduceBEq, reduceCtorEq, id, ext1, z0, z1, take_sum1, take_sum256, sumA0, sumA1, sum1_length, sum256_length]
           all_goals rfl
         · have t0 : List.take 0 (ext1 0 b0 n d0) = ext1 0 b0 n d0 := List.take_of_length_le (by rw [ext1_length, z0]; exact Nat.le_refl _)
           have t1 : List.take 16 (ext1 1 b1 n d1) = ext1 1 b1 n d1 := List.take_of_length_le (by rw [ext1_length, z1]; exact Nat.le_refl _)
           have y0 : ext1 0 b0 n d0 = [] := List.eq_nil_of_length_eq_zero (by rw [ext1_length, z0])
           simp (disch := omega) only [go_sem, ↓reduceIte, Nat.reduceAdd, Nat.reduceEqDiff, Nat.reduceLeDiff, Int.reduceLT, reduceCtorEq, ac_registers_Extend_L2, ext1_length, t0, t1, z0, z1, hE, extBk, Int.toNat_natCast, List.map_cons, List.map_nil, y0, extR, extEr, List.getD_cons_zero, List.getD_cons_succ, List.length_cons, List.length_nil]
 · have zz : True := trivial
   by_cases p1 : 0 < d1.length
   · have zz : True := trivial
     have hE : extE 16 0 loc n 2 d0.length d1.length = 27 := by unfold extE; rw [if_neg (by omega), if_neg (by omega), if_pos (by omega)]
     refine loop_fuel 3 ?_
     simp (disch := omega) only [go_sem, ↓reduceIte, Nat.reduceAdd, Nat.reduceEqDiff, Nat.reduceLeDiff, Int.reduceEq, Int.reduceLT, Int.reduceLE, Int.reduceAdd, reduceCtorEq, loopN_succ, ac_registers_Extend_L0, h3, on_eq0 hk.1, on_eq1 hk.1, h4, size_eq0, size_eq1, h5, twin_eq2 hk, h6, sumA_eq0, sumA_eq1, z0, z1, hE, List.map_nil, extR, extEr, List.getD_cons_zero, List.getD_cons_succ, List.length_cons, List.length_nil]
     all_goals repeat refine And.intro rfl ?_
     all_goals rfl
   · have zz : True := trivial
     refine loop_fuel 3 ?_
     simp (disch := omega) only [go_sem, ↓reduceIte, Nat.reduceAdd, Nat.reduceEqDiff, Nat.reduceLeDiff, Int.reduceLT, Int.reduceLE, Int.reduceAdd, reduceCtorEq, loopN_succ, ac_registers_Extend_L0, h3, on_eq0 hk.1, on_eq1 hk.1, h4, size_eq0, size_eq1, h5, twin_eq2 hk, h6, sumA_eq0, sumA_eq1, z0, z1]
     all_goals repeat refine And.intro rfl ?_
     refine loopW_weak (fs' := [(2, .t (.int .i64 (n : Nat))), (3, .t (.sl [bsT d0, bsT d1])), (4, .ref 4096 0 0), (8, .ref 4112 0 0), (56, .t (.sl [bsT d0, bsT d1])), (57, .t (.int .i64 2)), (58, .t (.int .i64 0))]) (hs' := [(4112, .live 2 [.agg [.nil, .t (.int .i64 0)]] true true), (4096, .live 2 [.t (regT [b0, b1] u)] true true)]) (Weak.rd id ?_ ?_ rfl) ?_
     · simp (disch := omega) only [go_sem, ↓reduceIte, Nat.reduceEqDiff, Nat.reduceBEq, id]
     · simp (disch := omega) only [go_sem, ↓reduceIte, Nat.reduceEqDiff, id]
     by_cases q1 : d0.length ≠ 20
     · have zz : True := trivial
       have hE : extE 16 0 loc n 2 d0.length d1.length = 24 := by unfold extE; rw [if_neg (by omega), if_neg (by omega), if_neg (by omega), if_pos (by omega)]
       refine loop_fuel 3 ?_
       simp (disch := omega) only [go_sem, ↓reduceIte, Nat.reduceAdd, Nat.reduceEqDiff, Nat.reduceLeDiff, Int.reduceEq, Int.reduceLT, Int.reduceLE, loopN_succ, ac_registers_Extend_L1, h3, on_eq0 hk.1, on_eq1 hk.1, h4, size_eq0, size_eq1, h5, twin_eq2 hk, h6, sumA_eq0, sumA_eq1, z0, z1, hE, List.map_nil, extR, extEr, List.getD_cons_zero, List.getD_cons_succ, List.length_cons, List.length_nil]
       all_goals repeat refine And.intro rfl ?_
       all_goals rfl
     · have zz : True := trivial
       have hE : extE 16 0 loc n 2 d0.length d1.length = 0 := by unfold extE; rw [if_neg (by omega), if_neg (by omega), if_neg (by omega), if_neg (by omega)]
       refine loop_fuel 3 ?_
       simp (disch := omega) only [go_sem, ↓reduceIte, Nat.reduceAdd, Nat.reduceEqDiff, Nat.reduceLeDiff, Int.reduceLT, Int.reduceLE, Int.reduceAdd, reduceCtorEq, loopN_succ, ac_registers_Extend_L1, h3, on_eq0 hk.1, on_eq1 hk.1, h4, size_eq0, size_eq1, h5, twin_eq2 hk, h6, sumA_eq0, sumA_eq1, z0, z1]
       all_goals repeat refine And.intro rfl ?_
       refine loop_upto 2 (fun k => match k with | 0 => [(2, .t (.int .i64 (n : Nat))), (3, .t (.sl [bsT d0, bsT d1])), (4, .ref 4096 0 0), (8, .ref 4112 0 0), (14, .ref 73760 0 0), (79, .t (.int .i64 2)), (80, .t (.int .i64 0))] | 1 => [(2, .t (.int .i64 (n : Nat))), (3, .t (.sl [bsT d0, bsT d1])), (4, .ref 4096 0 0), (8, .ref 4112 0 0), (14, .ref 73760 0 0), (79, .t (.int .i64 2)), (80, .t (.int .i64 1))] | _ => [(2, .t (.int .i64 (n : Nat))), (3, .t (.sl [bsT d0, bsT d1])), (4, .ref 4096 0 0), (8, .ref 4112 0 0), (14, .ref 73760 0 0), (79, .t (.int .i64 2)), (80, .t (.int .i64 2))]) (fun k => match k with | 0 => [(73760, .live 2 [.agg [.sl 73744 0 2, .t (.int .i64 u)]] true true), (73746, .live 1 (((b1).map bsT).map V.t) true false), (73745, .live 1 (((b0).map bsT).map V.t) true false), (73744, .live 1 [.sl 73745 0 16, .sl 73746 0 0] true false), (4112, .live 2 [.agg [.nil, .t (.int .i64 0)]] true true), (4096, .live 2 [.t (regT [b0, b1] u)] true true)] | 1 => [(73760, .live 2 [.agg [.sl 73744 0 2, .t (.int .i64 u)]] true true), (73746, .live 1 (((b1).map bsT).map V.t) true false), (73745, .live 1 (((ext1 0 b0 n d0).map bsT).map V.t) true false), (73744, .live 1 [.sl 73745 0 16, .sl 73746 0 0] true false), (4112, .live 2 [.agg [.nil, .t (.int .i64 0)]] true true), (4096, .live 2 [.t (regT [b0, b1] u)] true true)] | _ => [(73760, .live 2 [.agg [.sl 73744 0 2, .t (.int .i64 u)]] true true), (73746, .live 1 (((ext1 1 b1 n d1).map bsT).map V.t) true false), (73745, .live 1 (((ext1 0 b0 n d0).map bsT).map V.t) true false), (73744, .live 1 [.sl 73745 0 16, .sl 73746 0 0] true false), (4112, .live 2 [.agg [.nil, .t (.int .i64 0)]] true true), (4096, .live 2 [.t (regT [b0, b1] u)] true true)]) ?_ (fun k hk2 => ?_)
       · refine Weak.rd id ?_ ?_ rfl
         all_goals simp (disch := omega) only [go_sem, ↓reduceIte, Nat.reduceAdd, Nat.reduceEqDiff, Nat.reduceBEq, id, z0, z1]
       · rcases (show k = 0 ∨ k = 1 ∨ k = 2 by omega) with rfl | rfl | rfl
         · have q := List.take_of_length_le (show (b0.getD n [] ++ d0).length ≤ (List.getD b0 n []).length + d0.length by rw [List.length_append]; exact Nat.le_refl _)
           simp (config := { maxSteps := 2000000 }) (disch := (first | omega | (simp only [lens, lenm]; omega))) only [go_sem, ↓reduceIte, Nat.reduceAdd, Nat.reduceEqDiff, Nat.reduceLT, Nat.reduceLeDiff, Int.reduceLT, Int.reduceLE, Int.reduceAdd, ac_registers_Extend_L2, h3, on_eq0 hk.1, on_eq1 hk.1, h4, size_eq0, size_eq1, h5, twin_eq2 hk, h6, sumA_eq0, sumA_eq1, z0, z1, ext1_length, q]
           repeat refine And.intro rfl ?_
           refine Weak.cv (hv := []) [94544] id ?_ rfl
           simp (config := { maxSteps := 2000000 }) (disch := (first | omega | (simp only [lens, lenm]; omega))) only [go_sem, ↓reduceIte, Nat.reduceAdd, Nat.reduceEqDiff, Nat.reduceLeDiff, Nat.reduceBEq, id, ext1, z0, z1, take_sum1, take_sum256, sumA0, sumA1, sum1_length, sum256_length]
           all_goals rfl
         · have q := List.take_of_length_le (show (b1.getD n [] ++ d1).length ≤ (List.getD b1 n []).length + d1.length by rw [List.length_append]; exact Nat.le_refl _)
           simp (disch := omega) only [go_sem, ↓reduceIte, Nat.reduceAdd, Nat.reduceEqDiff, Nat.reduceLT, Nat.reduceLeDiff, Int.reduceLT, Int.reduceAdd, reduceCtorEq, ac_registers_Extend_L2, h3, on_eq0 hk.1, on_eq1 hk.1, h4, size_eq0, size_eq1, h5, twin_eq2 hk, h6, sumA_eq0, sumA_eq1, z0, z1, ext1_length, q]
           refine Weak.rd id ?_ ?_ rfl
           all_goals simp (disch := omega) only [go_sem, ↓reduceIte, Nat.reduceAdd, Nat.reduceEqDiff, Nat.reduceBEq, reduceCtorEq, id, ext1, z0, z1]
         · have t0 : List.take 16 (ext1 0 b0 n d0) = ext1 0 b0 n d0 := List.take_of_length_le (by rw [ext1_length, z0]; exact Nat.le_refl _)
           have t1 : List.take 0 (ext1 1 b1 n d1) = ext1 1 b1 n d1 := List.take_of_length_le (by rw [ext1_length, z1]; exact Nat.le_refl _)
           have y1 : ext1 1 b1 n d1 = [] := List.eq_nil_of_length_eq_zero (by rw [ext1_length, z1])
           simp (disch := omega) only [go_sem, ↓reduceIte, Nat.reduceAdd, Nat.reduceEqDiff, Nat.reduceLeDiff, Int.reduceLT, reduceCtorEq, ac_registers_Extend_L2, ext1_length, t0, t1, z0, z1, hE, extBk, Int.toNat_natCast, List.map_cons, List.map_nil, y1, extR, extEr, List.getD_cons_zero, List.getD_cons_succ, List.length_cons, List.length_nil]
 · have zz : True := trivial
   refine loop_fuel 3 ?_
   simp (disch := omega) only [go_sem, ↓reduceIte, Nat.reduceAdd, Nat.reduceEqDiff, Nat.reduceLeDiff, Int.reduceLT, Int.reduceLE, Int.reduceAdd, loopN_succ, ac_registers_Extend_L0, h3, on_eq0 hk.1, on_eq1 hk.1, h4, size_eq0, size_eq1, h5, twin_eq2 hk, h6, sumA_eq0, sumA_eq1, z0, z1]
   all_goals repeat refine And.intro rfl ?_
   refine loopW_weak (fs' := [(2, .t (.int .i64 (n : Nat))), (3, .t (.sl [bsT d0, bsT d1])), (4, .ref 4096 0 0), (8, .ref 4112 0 0), (56, .t (.sl [bsT d0, bsT d1])), (57, .t (.int .i64 2)), (58, .t (.int .i64 0))]) (hs' := [(4112, .live 2 [.agg [.nil, .t (.int .i64 0)]] true true), (4096, .live 2 [.t (regT [b0, b1] u)] true true)]) (Weak.rd id ?_ ?_ rfl) ?_
   · simp (disch := omega) only [go_sem, ↓reduceIte, Nat.reduceEqDiff, Nat.reduceBEq, id]
   · simp (disch := omega) only [go_sem, ↓reduceIte, Nat.reduceEqDiff, id]
   by_cases q2 : d0.length ≠ 20
   · have zz : True := trivial
     have hE : extE 16 16 loc n 2 d0.length d1.length = 24 := by unfold extE; rw [if_neg (by omega), if_neg (by omega), if_neg (by omega), if_pos (by omega)]
     refine loop_fuel 3 ?_
     simp (disch := omega) only [go_sem, ↓reduceIte, Nat.reduceAdd, Nat.reduceEqDiff, Nat.reduceLeDiff, Int.reduceEq, Int.reduceLT, Int.reduceLE, loopN_succ, ac_registers_Extend_L1, h3, on_eq0 hk.1, on_eq1 hk.1, h4, size_eq0, size_eq1, h5, twin_eq2 hk, h6, sumA_eq0, sumA_eq1, z0, z1, hE, List.map_nil, extR, extEr, List.getD_cons_zero, List.getD_cons_succ, List.length_cons, List.length_nil]
     all_goals repeat refine And.intro rfl ?_
     all_goals rfl
   · have zz : True := trivial
     by_cases q1 : d1.length ≠ 32
     · have zz : True := trivial
       have hE : extE 16 16 loc n 2 d0.length d1.length = 24 := by unfold extE; rw [if_neg (by omega), if_neg (by omega), if_neg (by omega), if_pos (by omega)]
       refine loop_fuel 3 ?_
       simp (disch := omega) only [go_sem, ↓reduceIte, Nat.reduceAdd, Nat.reduceEqDiff, Nat.reduceLeDiff, Int.reduceEq, Int.reduceLT, Int.reduceLE, Int.reduceAdd, loopN_succ, ac_registers_Extend_L1, h3, on_eq0 hk.1, on_eq1 hk.1, h4, size_eq0, size_eq1, h5, twin_eq2 hk, h6, sumA_eq0, sumA_eq1, z0, z1, hE, List.map_nil, extR, extEr, List.getD_cons_zero, List.getD_cons_succ, List.length_cons, List.length_nil]
       all_goals repeat refine And.intro rfl ?_
       all_goals rfl
     · have zz : True := trivial
       have hE : extE 16 16 loc n 2 d0.length d1.length = 0 := by unfold extE; rw [if_neg (by omega), if_neg (by omega), if_neg (by omega), if_neg (by omega)]
       refine loop_fuel 3 ?_
       simp (disch := omega) only [go_sem, ↓reduceIte, Nat.reduceAdd, Nat.reduceEqDiff, Nat.reduceLeDiff, Int.reduceLT, Int.reduceLE, Int.reduceAdd, loopN_succ, ac_registers_Extend_L1, h3, on_eq0 hk.1, on_eq1 hk.1, h4, size_eq0, size_eq1, h5, twin_eq2 hk, h6, sumA_eq0, sumA_eq1, z0, z1]
       all_goals repeat refine And.intro rfl ?_
       refine loop_upto 2 (fun k => match k with | 0 => [(2, .t (.int .i64 (n : Nat))), (3, .t (.sl [bsT d0, bsT d1])), (4, .ref 4096 0 0), (8, .ref 4112 0 0), (14, .ref 73760 0 0), (79, .t (.int .i64 2)), (80, .t (.int .i64 0))] | 1 => [(2, .t (.int .i64 (n : Nat))), (3, .t (.sl [bsT d0, bsT d1])), (4, .ref 4096 0 0), (8, .ref 4112 0 0), (14, .ref 73760 0 0), (79, .t (.int .i64 2)), (80, .t (.int .i64 1))] | _ => [(2, .t (.int .i64 (n : Nat))), (3, .t (.sl [bsT d0, bsT d1])), (4, .ref 4096 0 0), (8, .ref 4112 0 0), (14, .ref 73760 0 0), (79, .t (.int .i64 2)), (80, .t (.int .i64 2))]) (fun k => match k with | 0 => [(73760, .live 2 [.agg [.sl 73744 0 2, .t (.int .i64 u)]] true true), (73746, .live 1 (((b1).map bsT).map V.t) true false), (73745, .live 1 (((b0).map bsT).map V.t) true false), (73744, .live 1 [.sl 73745 0 16, .sl 73746 0 16] true false), (4112, .live 2 [.agg [.nil, .t (.int .i64 0)]] true true), (4096, .live 2 [.t (regT [b0, b1] u)] true true)] | 1 => [(73760, .live 2 [.agg [.sl 73744 0 2, .t (.int .i64 u)]] true true), (73746, .live 1 (((b1).map bsT).map V.t) true false), (73745, .live 1 (((ext1 0 b0 n d0).map bsT).map V.t) true false), (73744, .live 1 [.sl 73745 0 16, .sl 73746 0 16] true false), (4112, .live 2 [.agg [.nil, .t (.int .i64 0)]] true true), (4096, .live 2 [.t (regT [b0, b1] u)] true true)] | _ => [(73760, .live 2 [.agg [.sl 73744 0 2, .t (.int .i64 u)]] true true), (73746, .live 1 (((ext1 1 b1 n d1).map bsT).map V.t) true false), (73745, .live 1 (((ext1 0 b0 n d0).map bsT).map V.t) true false), (73744, .live 1 [.sl 73745 0 16, .sl 73746 0 16] true false), (4112, .live 2 [.agg [.nil, .t (.int .i64 0)]] true true), (4096, .live 2 [.t (regT [b0, b1] u)] true true)]) ?_ (fun k hk2 => ?_)
       · refine Weak.rd id ?_ ?_ rfl
         all_goals simp (disch := omega) only [go_sem, ↓reduceIte, Nat.reduceAdd, Nat.reduceEqDiff, Nat.reduceBEq, id, z0, z1]
       · rcases (show k = 0 ∨ k = 1 ∨ k = 2 by omega) with rfl | rfl | rfl
         · have q := List.take_of_length_le (show (b0.getD n [] ++ d0).length ≤ (List.getD b0 n []).length + d0.length by rw [List.length_append]; exact Nat.le_refl _)
           simp (config := { maxSteps := 2000000 }) (disch := (first | omega | (simp only [lens, lenm]; omega))) only [go_sem, ↓reduceIte, Nat.reduceAdd, Nat.reduceEqDiff, Nat.reduceLT, Nat.reduceLeDiff, Int.reduceLT, Int.reduceLE, Int.reduceAdd, ac_registers_Extend_L2, h3, on_eq0 hk.1, on_eq1 hk.1, h4, size_eq0, size_eq1, h5, twin_eq2 hk, h6, sumA_eq0, sumA_eq1, z0, z1, ext1_length, q]
           repeat refine And.intro rfl ?_
           refine Weak.cv (hv := []) [94544] id ?_ rfl
           simp (config := { maxSteps := 2000000 }) (disch := (first | omega | (simp only [lens, lenm]; omega))) only [go_sem, ↓reduceIte, Nat.reduceAdd, Nat.reduceEqDiff, Nat.reduceLeDiff, Nat.reduceBEq, id, ext1, z0, z1, take_sum1, take_sum256, sumA0, sumA1, sum1_length, sum256_length]
           all_goals rfl
         · have q := List.take_of_length_le (show (b1.getD n [] ++ d1).length ≤ (List.getD b1 n []).length + d1.length by rw [List.length_append]; exact Nat.le_refl _)
           simp (config := { maxSteps := 2000000 }) (disch := (first | omega | (simp only [lens, lenm]; omega))) only [go_sem, ↓reduceIte, Nat.reduceAdd, Nat.reduceEqDiff, Nat.reduceLT, Nat.reduceLeDiff, Int.reduceLT, Int.reduceLE, Int.reduceAdd, ac_registers_Extend_L2, h3, on_eq0 hk.1, on_eq1 hk.1, h4, size_eq0, size_eq1, h5, twin_eq2 hk, h6, sumA_eq0, sumA_eq1, z0, z1, ext1_length, q]
           repeat refine And.intro rfl ?_
           refine Weak.cv (hv := []) [94544] id ?_ rfl
           simp (config := { maxSteps := 2000000 }) (disch := (first | omega | (simp only [lens, lenm]; omega))) only [go_sem, ↓reduceIte, Nat.reduceAdd, Nat.reduceEqDiff, Nat.reduceLeDiff, Nat.reduceBEq, id, ext1, z0, z1, take_sum1, take_sum256, sumA0, sumA1, sum1_length, sum256_length]
           all_goals rfl
         · have t0 : List.take 16 (ext1 0 b0 n d0) = ext1 0 b0 n d0 := List.take_of_length_le (by rw [ext1_length, z0]; exact Nat.le_refl _)
           have t1 : List.take 16 (ext1 1 b1 n d1) = ext1 1 b1 n d1 := List.take_of_length_le (by rw [ext1_length, z1]; exact Nat.le_refl _)
           simp (disch := omega) only [go_sem, ↓reduceIte, Nat.reduceAdd, Nat.reduceEqDiff, Nat.reduceLeDiff, Int.reduceLT, reduceCtorEq, ac_registers_Extend_L2, ext1_length, t0, t1, z0, z1, hE, extBk, Int.toNat_natCast, List.map_cons, List.map_nil, extR, extEr, List.getD_cons_zero, List.getD_cons_succ, List.length_cons, List.length_nil]
theorem w_ref8_Extend2 (tab : Tab) (gl : Gl) (n1 n2 n3 n4 n5 n6 : Nat) (h2 : tab.look n1 = some ct_rleast.fs) (h3 : tab.look n2 = some ct_actv.fs) (h4 : tab.look n3 = some ct_size.fs) (h5 : tab.look n4 = some ct_twin.fs) (h7 : tab.look n5 = some ct_copy.fs) (h6 : tab.look n6 = some ct_sumA.fs)
   (b0 b1 : Bank) (u loc : Int) (n : Nat) (d0 d1 : List UInt8) (hu : 0 ≤ u ∧ u < 1000000000) (hk : RM [b0, b1]) (hv0 : (b0.getD n []).length ≤ 64) (hv1 : (b1.getD n []).length ≤ 64) (hd : d0.length < 9223372036854775808 ∧ d1.length < 9223372036854775808) (e1 : ¬(loc < 0 ∨ 4 < loc ∨ 16 ≤ n)) (e2 : ¬ loc < leastI n false) :
   (ac_ref8_Extend n1 n2 n3 n4 n5 n6).wp tab gl (zipF 0 [.t (regT [b0, b1] u), .t (.int .i64 loc), .t (.int .i64 n), .t (.sl [bsT d0, bsT d1])]) (zipF 0 []) (resW [(8, some (2, true)), (9, none)] 0 (fun r o => r = extR [b0, b1] u loc n [d0, d1] ∧ o = [])) := by
 have gg : bkOk b0 ∧ bkOk b1 := by
   obtain ⟨hrk, _⟩ := hk
   cases hrk with
   | two _ _ h0 h1 => exact ⟨h0, h1⟩
 obtain ⟨g0, g1⟩ := gg
 have a6 : ¬ leastI (n : Int) false = 5 := by unfold leastI; split <;> (try split) <;> (try split) <;> simp_all
 simp (disch := omega) only [go_sem, ↓reduceIte, Nat.reduceAdd, Nat.reduceEqDiff, Nat.reduceLeDiff, reduceCtorEq, ac_ref8_Extend, h2, rleast_eq, a6, List.map_nil, List.map_cons]
 refine loopW_weak (fs' := [(2, .t (.int .i64 (n : Nat))), (3, .t (.sl [bsT d0, bsT d1])), (4, .ref 4096 0 0), (8, .ref 4112 0 0), (10, .t (.int .i64 0))]) (hs' := [(4112, .live 2 [.agg [.nil, .t (.int .i64 0)]] true true), (4096, .live 2 [.t (regT [b0, b1] u)] true true)]) (Weak.rd id ?_ ?_ rfl) ?_
 · simp (disch := omega) only [go_sem, ↓reduceIte, Nat.reduceEqDiff, Nat.reduceBEq, reduceCtorEq, id]
 · simp (disch := omega) only [go_sem, ↓reduceIte, Nat.reduceEqDiff, id]
 rcases g0 with z0 | z0 <;> rcases g1 with z1 | z1
 · have zz : True := trivial
   by_cases p2 : 0 < d0.length
   · have zz : True := trivial
     have hE : extE 0 0 loc n 2 d0.length d1.length = 27 := by unfold extE; rw [if_neg (by omega), if_neg (by omega), if_pos (by omega)]
     refine loop_fuel 3 ?_
     simp (disch := omega) only [go_sem, ↓reduceIte, Nat.reduceAdd, Nat.reduceEqDiff, Nat.reduceLeDiff, Int.reduceEq, Int.reduceLT, Int.reduceLE, reduceCtorEq, loopN_succ, ac_ref8_Extend_L0, h3, actv_eq0 hk.1, actv_eq1 hk.1, h4, size_eq0, size_eq1, h5, twin_eq2 hk, h7, copy_eq, h6, sumA_eq0, sumA_eq1, z0, z1, hE, List.map_nil, extR, extEr, List.getD_cons_zero, List.getD_cons_succ, List.length_cons, List.length_nil]
     all_goals repeat refine And.intro rfl ?_
     all_goals rfl
   · have zz : True := trivial
     by_cases p1 : 0 < d1.length
     · have zz : True := trivial
       have hE : extE 0 0 loc n 2 d0.length d1.length = 27 := by unfold extE; rw [if_neg (by omega), if_neg (by omega), if_pos (by omega)]
       refine loop_fuel 3 ?_
       simp (disch := omega) only [go_sem, ↓reduceIte, Nat.reduceAdd, Nat.reduceEqDiff, Nat.reduceLeDiff, Int.reduceEq, Int.reduceLT, Int.reduceLE, Int.reduceAdd, reduceCtorEq, loopN_succ, ac_ref8_Extend_L0, h3, actv_eq0 hk.1, actv_eq1 hk.1, h4, size_eq0, size_eq1, h5, twin_eq2 hk, h7, copy_eq, h6, sumA_eq0, sumA_eq1, z0, z1, hE, List.map_nil, extR, extEr, List.getD_cons_zero, List.getD_cons_succ, List.length_cons, List.length_nil]
       all_goals repeat refine And.intro rfl ?_
       all_goals rfl
     · have zz : True := trivial
       refine loop_fuel 3 ?_
       simp (disch := omega) only [go_sem, ↓reduceIte, Nat.reduceAdd, Nat.reduceEqDiff, Nat.reduceLeDiff, Int.reduceLT, Int.reduceLE, Int.reduceAdd, reduceCtorEq, loopN_succ, ac_ref8_Extend_L0, h3, actv_eq0 hk.1, actv_eq1 hk.1, h4, size_eq0, size_eq1, h5, twin_eq2 hk, h7, copy_eq, h6, sumA_eq0, sumA_eq1, z0, z1]
       all_goals repeat refine And.intro rfl ?_
       refine loopW_weak (fs' := [(2, .t (.int .i64 (n : Nat))), (3, .t (.sl [bsT d0, bsT d1])), (4, .ref 4096 0 0), (8, .ref 4112 0 0), (11, .t (.int .i64 0))]) (hs' := [(4112, .live 2 [.agg [.nil, .t (.int .i64 0)]] true true), (4096, .live 2 [.t (regT [b0, b1] u)] true true)]) (Weak.rd id ?_ ?_ rfl) ?_
       · simp (disch := omega) only [go_sem, ↓reduceIte, Nat.reduceEqDiff, Nat.reduceBEq, id]
       · simp (disch := omega) only [go_sem, ↓reduceIte, Nat.reduceEqDiff, id]
       have hE : extE 0 0 loc n 2 d0.length d1.length = 0 := by unfold extE; rw [if_neg (by omega), if_neg (by omega), if_neg (by omega), if_neg (by omega)]
       refine loop_fuel 3 ?_
       simp (disch := omega) only [go_sem, ↓reduceIte, Nat.reduceAdd, Nat.reduceEqDiff, Nat.reduceLeDiff, Int.reduceLT, Int.reduceAdd, reduceCtorEq, loopN_succ, ac_ref8_Extend_L1, h3, actv_eq0 hk.1, actv_eq1 hk.1, h4, size_eq0, size_eq1, h5, twin_eq2 hk, h7, copy_eq, h6, sumA_eq0, sumA_eq1, z0, z1]
       all_goals repeat refine And.intro rfl ?_
       refine loop_upto 2 (fun k => match k with | 0 => [(2, .t (.int .i64 (n : Nat))), (3, .t (.sl [bsT d0, bsT d1])), (4, .ref 4096 0 0), (8, .ref 4112 0 0), (12, .ref 65568 0 0), (13, .t (.int .i64 0))] | 1 => [(2, .t (.int .i64 (n : Nat))), (3, .t (.sl [bsT d0, bsT d1])), (4, .ref 4096 0 0), (8, .ref 4112 0 0), (12, .ref 65568 0 0), (13, .t (.int .i64 1))] | _ => [(2, .t (.int .i64 (n : Nat))), (3, .t (.sl [bsT d0, bsT d1])), (4, .ref 4096 0 0), (8, .ref 4112 0 0), (12, .ref 65568 0 0), (13, .t (.int .i64 2))]) (fun k => match k with | 0 => [(65568, .live 2 [.agg [.sl 65552 0 2, .t (.int .i64 u)]] true true), (65554, .live 1 (((b1).map bsT).map V.t) true false), (65553, .live 1 (((b0).map bsT).map V.t) true false), (65552, .live 1 [.sl 65553 0 0, .sl 65554 0 0] true false), (4112, .live 2 [.agg [.nil, .t (.int .i64 0)]] true true), (4096, .live 2 [.t (regT [b0, b1] u)] true true)] | 1 => [(65568, .live 2 [.agg [.sl 65552 0 2, .t (.int .i64 u)]] true true), (65554, .live 1 (((b1).map bsT).map V.t) true false), (65553, .live 1 (((ext1 0 b0 n d0).map bsT).map V.t) true false), (65552, .live 1 [.sl 65553 0 0, .sl 65554 0 0] true false), (4112, .live 2 [.agg [.nil, .t (.int .i64 0)]] true true), (4096, .live 2 [.t (regT [b0, b1] u)] true true)] | _ => [(65568, .live 2 [.agg [.sl 65552 0 2, .t (.int .i64 u)]] true true), (65554, .live 1 (((ext1 1 b1 n d1).map bsT).map V.t) true false), (65553, .live 1 (((ext1 0 b0 n d0).map bsT).map V.t) true false), (65552, .live 1 [.sl 65553 0 0, .sl 65554 0 0] true false), (4112, .live 2 [.agg [.nil, .t (.int .i64 0)]] true true), (4096, .live 2 [.t (regT [b0, b1] u)] true true)]) ?_ (fun k hk2 => ?_)
       · refine Weak.rd id ?_ ?_ rfl
         all_goals simp (disch := omega) only [go_sem, ↓reduceIte, Nat.reduceAdd, Nat.reduceEqDiff, Nat.reduceBEq, id, z0, z1]
       · rcases (show k = 0 ∨ k = 1 ∨ k = 2 by omega) with rfl | rfl | rfl
         · have q := List.take_of_length_le (show (b0.getD n [] ++ d0).length ≤ (List.getD b0 n []).length + d0.length by rw [List.length_append]; exact Nat.le_refl _)
           simp (disch := omega) only [go_sem, ↓reduceIte, Nat.reduceAdd, Nat.reduceEqDiff, Nat.reduceLT, Nat.reduceLeDiff, Int.reduceLT, Int.reduceAdd, reduceCtorEq, ac_ref8_Extend_L2, h3, actv_eq0 hk.1, actv_eq1 hk.1, h4, size_eq0, size_eq1, h5, twin_eq2 hk, h7, copy_eq, h6, sumA_eq0, sumA_eq1, z0, z1, ext1_length, q]
           refine Weak.rd id ?_ ?_ rfl
           all_goals simp (disch := omega) only [go_sem, ↓reduceIte, Nat.reduceAdd, Nat.reduceEqDiff, Nat.reduceBEq, reduceCtorEq, id, ext1, z0, z1]
         · have q := List.take_of_length_le (show (b1.getD n [] ++ d1).length ≤ (List.getD b1 n []).length + d1.length by rw [List.length_append]; exact Nat.le_refl _)
           simp (disch := omega) only [go_sem, ↓reduceIte, Nat.reduceAdd, Nat.reduceEqDiff, Nat.reduceLT, Nat.reduceLeDiff, Int.reduceLT, Int.reduceAdd, reduceCtorEq, ac_ref8_Extend_L2, h3, actv_eq0 hk.1, actv_eq1 hk.1, h4, size_eq0, size_eq1, h5, twin_eq2 hk, h7, copy_eq, h6, sumA_eq0, sumA_eq1, z0, z1, ext1_length, q]
           refine Weak.rd id ?_ ?_ rfl
           all_goals simp (disch := omega) only [go_sem, ↓reduceIte, Nat.reduceAdd, Nat.reduceEqDiff, Nat.reduceBEq, reduceCtorEq, id, ext1, z0, z1]
         · have t0 : List.take 0 (ext1 0 b0 n d0) = ext1 0 b0 n d0 := List.take_of_length_le (by rw [ext1_length, z0]; exact Nat.le_refl _)
           have t1 : List.take 0 (ext1 1 b1 n d1) = ext1 1 b1 n d1 := List.take_of_length_le (by rw [ext1_length, z1]; exact Nat.le_refl _)
           have y0 : ext1 0 b0 n d0 = [] := List.eq_nil_of_length_eq_zero (by rw [ext1_length, z0])
           have y1 : ext1 1 b1 n d1 = [] := List.eq_nil_of_length_eq_zero (by rw [ext1_length, z1])
           simp (disch := omega) only [go_sem, ↓reduceIte, Nat.reduceAdd, Nat.reduceEqDiff, Nat.reduceLeDiff, Int.reduceLT, reduceCtorEq, ac_ref8_Extend_L2, ext1_length, t0, t1, z0, z1, hE, extBk, Int.toNat_natCast, List.map_cons, List.map_nil, y0, y1, extR, extEr, List.getD_cons_zero, List.getD_cons_succ, List.length_cons, List.length_nil]
 · have zz : True := trivial
   by_cases p1 : 0 < d0.length
   · have zz : True := trivial
     have hE : extE 0 16 loc n 2 d0.length d1.length = 27 := by unfold extE; rw [if_neg (by omega), if_neg (by omega), if_pos (by omega)]
     refine loop_fuel 3 ?_
     simp (disch := omega) only [go_sem, ↓reduceIte, Nat.reduceAdd, Nat.reduceEqDiff, Nat.reduceLeDiff, Int.reduceEq, Int.reduceLT, Int.reduceLE, reduceCtorEq, loopN_succ, ac_ref8_Extend_L0, h3, actv_eq0 hk.1, actv_eq1 hk.1, h4, size_eq0, size_eq1, h5, twin_eq2 hk, h7, copy_eq, h6, sumA_eq0, sumA_eq1, z0, z1, hE, List.map_nil, extR, extEr, List.getD_cons_zero, List.getD_cons_succ, List.length_cons, List.length_nil]
     all_goals repeat refine And.intro rfl ?_
     all_goals rfl
   · have zz : True := trivial
     refine loop_fuel 3 ?_
     simp (disch := omega) only [go_sem, ↓reduceIte, Nat.reduceAdd, Nat.reduceEqDiff, Nat.reduceLeDiff, Int.reduceLT, Int.reduceLE, Int.reduceAdd, reduceCtorEq, loopN_succ, ac_ref8_Extend_L0, h3, actv_eq0 hk.1, actv_eq1 hk.1, h4, size_eq0, size_eq1, h5, twin_eq2 hk, h7, copy_eq, h6, sumA_eq0, sumA_eq1, z0, z1]
     all_goals repeat refine And.intro rfl ?_
     refine loopW_weak (fs' := [(2, .t (.int .i64 (n : Nat))), (3, .t (.sl [bsT d0, bsT d1])), (4, .ref 4096 0 0), (8, .ref 4112 0 0), (11, .t (.int .i64 0))]) (hs' := [(4112, .live 2 [.agg [.nil, .t (.int .i64 0)]] true true), (4096, .live 2 [.t (regT [b0, b1] u)] true true)]) (Weak.rd id ?_ ?_ rfl) ?_
     · simp (disch := omega) only [go_sem, ↓reduceIte, Nat.reduceEqDiff, Nat.reduceBEq, id]
     · simp (disch := omega) only [go_sem, ↓reduceIte, Nat.reduceEqDiff, id]
     by_cases q1 : d1.length ≠ 32
     · have zz : True := trivial
       have hE : extE 0 16 loc n 2 d0.length d1.length = 24 := by unfold extE; rw [if_neg (by omega), if_neg (by omega), if_neg (by omega), if_pos (by omega)]
       refine loop_fuel 3 ?_
       simp (disch := omega) only [go_sem, ↓reduceIte, Nat.reduceAdd, Nat.reduceEqDiff, Nat.reduceLeDiff, Int.reduceEq, Int.reduceLT, Int.reduceLE, Int.reduceAdd, reduceCtorEq, loopN_succ, ac_ref8_Extend_L1, h3, actv_eq0 hk.1, actv_eq1 hk.1, h4, size_eq0, size_eq1, h5, twin_eq2 hk, h7, copy_eq, h6, sumA_eq0, sumA_eq1, z0, z1, hE, List.map_nil, extR, extEr, List.getD_cons_zero, List.getD_cons_succ, List.length_cons, List.length_nil]
       all_goals repeat refine And.intro rfl ?_
       all_goals rfl
     · have zz : True := trivial
       have hE : extE 0 16 loc n 2 d0.length d1.length = 0 := by unfold extE; rw [if_neg (by omega), if_neg (by omega), if_neg (by omega), if_neg (by omega)]
       refine loop_fuel 3 ?_
       simp (disch := omega) only [go_sem, ↓reduceIte, Nat.reduceAdd, Nat.reduceEqDiff, Nat.reduceLeDiff, Int.reduceLT, Int.reduceLE, Int.reduceAdd, reduceCtorEq, loopN_succ, ac_ref8_Extend_L1, h3, actv_eq0 hk.1, actv_eq1 hk.1, h4, size_eq0, size_eq1, h5, twin_eq2 hk, h7, copy_eq, h6, sumA_eq0, sumA_eq1, z0, z1]
       all_goals repeat refine And.intro rfl ?_
       refine loop_upto 2 (fun k => match k with | 0 => [(2, .t (.int .i64 (n : Nat))), (3, .t (.sl [bsT d0, bsT d1])), (4, .ref 4096 0 0), (8, .ref 4112 0 0), (12, .ref 65568 0 0), (13, .t (.int .i64 0))] | 1 => [(2, .t (.int .i64 (n : Nat))), (3, .t (.sl [bsT d0, bsT d1])), (4, .ref 4096 0 0), (8, .ref 4112 0 0), (12, .ref 65568 0 0), (13, .t (.int .i64 1))] | _ => [(2, .t (.int .i64 (n : Nat))), (3, .t (.sl [bsT d0, bsT d1])), (4, .ref 4096 0 0), (8, .ref 4112 0 0), (12, .ref 65568 0 0), (13, .t (.int .i64 2))]) (fun k => match k with | 0 => [(65568, .live 2 [.agg [.sl 65552 0 2, .t (.int .i64 u)]] true true), (65554, .live 1 (((b1).map bsT).map V.t) true false), (65553, .live 1 (((b0).map bsT).map V.t) true false), (65552, .live 1 [.sl 65553 0 0, .sl 65554 0 16] true false), (4112, .live 2 [.agg [.nil, .t (.int .i64 0)]] true true), (4096, .live 2 [.t (regT [b0, b1] u)] true true)] | 1 => [(65568, .live 2 [.agg [.sl 65552 0 2, .t (.int .i64 u)]] true true), (65554, .live 1 (((b1).map bsT).map V.t) true false), (65553, .live 1 (((ext1 0 b0 n d0).map bsT).map V.t) true false), (65552, .live 1 [.sl 65553 0 0, .sl 65554 0 16] true false), (4112, .live 2 [.agg [.nil, .t (.int .i64 0)]] true true), (4096, .live 2 [.t (regT [b0, b1] u)] true true)] | _ => [(65568, .live 2 [.agg [.sl 65552 0 2, .t (.int .i64 u)]] true true), (65554, .live 1 (((ext1 1 b1 n d1).map bsT).map V.t) true false), (65553, .live 1 (((ext1 0 b0 n d0).map bsT).map V.t) true false), (65552, .live 1 [.sl 65553 0 0, .sl 65554 0 16] true false), (4112, .live 2 [.agg [.nil, .t (.int .i64 0)]] true true), (4096, .live 2 [.t (regT [b0, b1] u)] true true)]) ?_ (fun k hk2 => ?_)
       · refine Weak.rd id ?_ ?_ rfl
         all_goals simp (disch := omega) only [go_sem, ↓reduceIte, Nat.reduceAdd, Nat.reduceEqDiff, Nat.reduceBEq, id, z0, z1]
       · rcases (show k = 0 ∨ k = 1 ∨ k = 2 by omega) with rfl | rfl | rfl
         · have q := List.take_of_length_le (show (b0.getD n [] ++ d0).length ≤ (List.getD b0 n []).length + d0.length by rw [List.length_append]; exact Nat.le_refl _)
           simp (disch := omega) only [go_sem, ↓reduceIte, Nat.reduceAdd, Nat.reduceEqDiff, Nat.reduceLT, Nat.reduceLeDiff, Int.reduceLT, Int.reduceAdd, reduceCtorEq, ac_ref8_Extend_L2, h3, actv_eq0 hk.1, actv_eq1 hk.1, h4, size_eq0, size_eq1, h5, twin_eq2 hk, h7, copy_eq, h6, sumA_eq0, sumA_eq1, z0, z1, ext1_length, q]
           refine Weak.rd id ?_ ?_ rfl
           all_goals simp (disch := omega) only [go_sem, ↓reduceIte, Nat.reduceAdd, Nat.reduceEqDiff, Nat.reduceBEq, reduceCtorEq, id, ext1, z0, z1]
         · have q := List.take_of_length_le (show (b1.getD n [] ++ d1).length ≤ (List.getD b1 n []).length + d1.length by rw [List.length_append]; exact Nat.le_refl _)
           simp (config := { maxSteps := 2000000 }) (disch := (first | omega | (simp only [lens, lenm]; omega))) only [go_sem, ↓reduceIte, Nat.reduceAdd, Nat.reduceEqDiff, Nat.reduceLT, Nat.reduceLeDiff, Int.reduceLT, Int.reduceLE, Int.reduceAdd, ac_ref8_Extend_L2, h3, actv_eq0 hk.1, actv_eq1 hk.1, h4, size_eq0, size_eq1, h5, twin_eq2 hk, h7, copy_eq, h6, sumA_eq0, sumA_eq1, z0, z1, ext1_length, q]
           repeat refine And.intro rfl ?_
           refine Weak.cv (hv := []) [86352] id ?_ rfl
           simp (config := { maxSteps := 2000000 }) (disch := (first | omega | (simp only [lens, lenm]; omega))) only [go_sem, ↓reduceIte, Nat.reduceAdd, Nat.reduceEqDiff, Nat.reduceLeDiff, Nat.reduceBEq, reduceCtorEq, id, ext1, z0, z1, take_sum1, take_sum256, sumA0, sumA1, sum1_length, sum256_length]
           all_goals rfl
         · have t0 : List.take 0 (ext1 0 b0 n d0) = ext1 0 b0 n d0 := List.take_of_length_le (by rw [ext1_length, z0]; exact Nat.le_refl _)
           have t1 : List.take 16 (ext1 1 b1 n d1) = ext1 1 b1 n d1 := List.take_of_length_le (by rw [ext1_length, z1]; exact Nat.le_refl _)
           have y0 : ext1 0 b0 n d0 = [] := List.eq_nil_of_length_eq_zero (by rw [ext1_length, z0])
           simp (disch := omega) only [go_sem, ↓reduceIte, Nat.reduceAdd, Nat.reduceEqDiff, Nat.reduceLeDiff, Int.reduceLT, reduceCtorEq, ac_ref8_Extend_L2, ext1_length, t0, t1, z0, z1, hE, extBk, Int.toNat_natCast, List.map_cons, List.map_nil, y0, extR, extEr, List.getD_cons_zero, List.getD_cons_succ, List.length_cons, List.length_nil]
 · have zz : True := trivial
   by_cases p1 : 0 < d1.length
   · have zz : True := trivial
     have hE : extE 16 0 loc n 2 d0.length d1.length = 27 := by unfold extE; rw [if_neg (by omega), if_neg (by omega), if_pos (by omega)]
     refine loop_fuel 3 ?_
     simp (disch := omega) only [go_sem, ↓reduceIte, Nat.reduceAdd, Nat.reduceEqDiff, Nat.reduceLeDiff, Int.reduceEq, Int.reduceLT, Int.reduceLE, Int.reduceAdd, reduceCtorEq, loopN_succ, ac_ref8_Extend_L0, h3, actv_eq0 hk.1, actv_eq1 hk.1, h4, size_eq0, size_eq1, h5, twin_eq2 hk, h7, copy_eq, h6, sumA_eq0, sumA_eq1, z0, z1, hE, List.map_nil, extR, extEr, List.getD_cons_zero, List.getD_cons_succ, List.length_cons, List.length_nil]
     all_goals repeat refine And.intro rfl ?_
     all_goals rfl
   · have zz : True := trivial
     refine loop_fuel 3 ?_
     simp (disch := omega) only [go_sem, ↓reduceIte, Nat.reduceAdd, Nat.reduceEqDiff, Nat.reduceLeDiff, Int.reduceLT, Int.reduceLE, Int.reduceAdd, reduceCtorEq, loopN_succ, ac_ref8_Extend_L0, h3, actv_eq0 hk.1, actv_eq1 hk.1, h4, size_eq0, size_eq1, h5, twin_eq2 hk, h7, copy_eq, h6, sumA_eq0, sumA_eq1, z0, z1]
     all_goals repeat refine And.intro rfl ?_
     refine loopW_weak (fs' := [(2, .t (.int .i64 (n : Nat))), (3, .t (.sl [bsT d0, bsT d1])), (4, .ref 4096 0 0), (8, .ref 4112 0 0), (11, .t (.int .i64 0))]) (hs' := [(4112, .live 2 [.agg [.nil, .t (.int .i64 0)]] true true), (4096, .live 2 [.t (regT [b0, b1] u)] true true)]) (Weak.rd id ?_ ?_ rfl) ?_
     · simp (disch := omega) only [go_sem, ↓reduceIte, Nat.reduceEqDiff, Nat.reduceBEq, id]
     · simp (disch := omega) only [go_sem, ↓reduceIte, Nat.reduceEqDiff, id]
     by_cases q1 : d0.length ≠ 20
     · have zz : True := trivial
       have hE : extE 16 0 loc n 2 d0.length d1.length = 24 := by unfold extE; rw [if_neg (by omega), if_neg (by omega), if_neg (by omega), if_pos (by omega)]
       refine loop_fuel 3 ?_
       simp (disch := omega) only [go_sem, ↓reduceIte, Nat.reduceAdd, Nat.reduceEqDiff, Nat.reduceLeDiff, Int.reduceEq, Int.reduceLT, Int.reduceLE, loopN_succ, ac_ref8_Extend_L1, h3, actv_eq0 hk.1, actv_eq1 hk.1, h4, size_eq0, size_eq1, h5, twin_eq2 hk, h7, copy_eq, h6, sumA_eq0, sumA_eq1, z0, z1, hE, List.map_nil, extR, extEr, List.getD_cons_zero, List.getD_cons_succ, List.length_cons, List.length_nil]
       all_goals repeat refine And.intro rfl ?_
       all_goals rfl
     · have zz : True := trivial
       have hE : extE 16 0 loc n 2 d0.length d1.length = 0 := by unfold extE; rw [if_neg (by omega), if_neg (by omega), if_neg (by omega), if_neg (by omega)]
       refine loop_fuel 3 ?_
       simp (disch := omega) only [go_sem, ↓reduceIte, Nat.reduceAdd, Nat.reduceEqDiff, Nat.reduceLeDiff, Int.reduceLT, Int.reduceLE, Int.reduceAdd, reduceCtorEq, loopN_succ, ac_ref8_Extend_L1, h3, actv_eq0 hk.1, actv_eq1 hk.1, h4, size_eq0, size_eq1, h5, twin_eq2 hk, h7, copy_eq, h6, sumA_eq0, sumA_eq1, z0, z1]
       all_goals repeat refine And.intro rfl ?_
       refine loop_upto 2 (fun k => match k with | 0 => [(2, .t (.int .i64 (n : Nat))), (3, .t (.sl [bsT d0, bsT d1])), (4, .ref 4096 0 0), (8, .ref 4112 0 0), (12, .ref 65568 0 0), (13, .t (.int .i64 0))] | 1 => [(2, .t (.int .i64 (n : Nat))), (3, .t (.sl [bsT d0, bsT d1])), (4, .ref 4096 0 0), (8, .ref 4112 0 0), (12, .ref 65568 0 0), (13, .t (.int .i64 1))] | _ => [(2, .t (.int .i64 (n : Nat))), (3, .t (.sl [bsT d0, bsT d1])), (4, .ref 4096 0 0), (8, .ref 4112 0 0), (12, .ref 65568 0 0), (13, .t (.int .i64 2))]) (fun k => match k with | 0 => [(65568, .live 2 [.agg [.sl 65552 0 2, .t (.int .i64 u)]] true true), (65554, .live 1 (((b1).map bsT).map V.t) true false), (65553, .live 1 (((b0).map bsT).map V.t) true false), (65552, .live 1 [.sl 65553 0 16, .sl 65554 0 0] true false), (4112, .live 2 [.agg [.nil, .t (.int .i64 0)]] true true), (4096, .live 2 [.t (regT [b0, b1] u)] true true)] | 1 => [(65568, .live 2 [.agg [.sl 65552 0 2, .t (.int .i64 u)]] true true), (65554, .live 1 (((b1).map bsT).map V.t) true false), (65553, .live 1 (((ext1 0 b0 n d0).map bsT).map V.t) true false), (65552, .live 1 [.sl 65553 0 16, .sl 65554 0 0] true false), (4112, .live 2 [.agg [.nil, .t (.int .i64 0)]] true true), (4096, .live 2 [.t (regT [b0, b1] u)] true true)] | _ => [(65568, .live 2 [.agg [.sl 65552 0 2, .t (.int .i64 u)]] true true), (65554, .live 1 (((ext1 1 b1 n d1).map bsT).map V.t) true false), (65553, .live 1 (((ext1 0 b0 n d0).map bsT).map V.t) true false), (65552, .live 1 [.sl 65553 0 16, .sl 65554 0 0] true false), (4112, .live 2 [.agg [.nil, .t (.int .i64 0)]] true true), (4096, .live 2 [.t (regT [b0, b1] u)] true true)]) ?_ (fun k hk2 => ?_)
       · refine Weak.rd id ?_ ?_ rfl
         all_goals simp (disch := omega) only [go_sem, ↓reduceIte, Nat.reduceAdd, Nat.reduceEqDiff, Nat.reduceBEq, id, z0, z1]
       · rcases (show k = 0 ∨ k = 1 ∨ k = 2 by omega) with rfl | rfl | rfl
         · have q := List.take_of_length_le (show (b0.getD n [] ++ d0).length ≤ (List.getD b0 n []).length + d0.length by rw [List.length_append]; exact Nat.le_refl _)
           simp (config := { maxSteps := 2000000 }) (disch := (first | omega | (simp only [lens, lenm]; omega))) only [go_sem, ↓reduceIte, Nat.reduceAdd, Nat.reduceEqDiff, Nat.reduceLT, Nat.reduceLeDiff, Int.reduceLT, Int.reduceLE, Int.reduceAdd, ac_ref8_Extend_L2, h3, actv_eq0 hk.1, actv_eq1 hk.1, h4, size_eq0, size_eq1, h5, twin_eq2 hk, h7, copy_eq, h6, sumA_eq0, sumA_eq1, z0, z1, ext1_length, q]
           repeat refine And.intro rfl ?_
           refine Weak.cv (hv := []) [86352] id ?_ rfl
           simp (config := { maxSteps := 2000000 }) (disch := (first | omega | (simp only [lens, lenm]; omega))) only [go_sem, ↓reduceIte, Nat.reduceAdd, Nat.reduceEqDiff, Nat.reduceLeDiff, Nat.reduceBEq, id, ext1, z0, z1, take_sum1, take_sum256, sumA0, sumA1, sum1_length, sum256_length]
           all_goals rfl
         · have q := List.take_of_length_le (show (b1.getD n [] ++ d1).length ≤ (List.getD b1 n []).length + d1.length by rw [List.length_append]; exact Nat.le_refl _)
           simp (disch := omega) only [go_sem, ↓reduceIte, Nat.reduceAdd, Nat.reduceEqDiff, Nat.reduceLT, Nat.reduceLeDiff, Int.reduceLT, Int.reduceAdd, reduceCtorEq, ac_ref8_Extend_L2, h3, actv_eq0 hk.1, actv_eq1 hk.1, h4, size_eq0, size_eq1, h5, twin_eq2 hk, h7, copy_eq, h6, sumA_eq0, sumA_eq1, z0, z1, ext1_length, q]
           refine Weak.rd id ?_ ?_ rfl
           all_goals simp (disch := omega) only [go_sem, ↓reduceIte, Nat.reduceAdd, Nat.reduceEqDiff, Nat.reduceBEq, reduceCtorEq, id, ext1, z0, z1]
         · have t0 : List.take 16 (ext1 0 b0 n d0) = ext1 0 b0 n d0 := List.take_of_length_le (by rw [ext1_length, z0]; exact Nat.le_refl _)
           have t1 : List.take 0 (ext1 1 b1 n d1) = ext1 1 b1 n d1 := List.take_of_length_le (by rw [ext1_length, z1]; exact Nat.le_refl _)
           have y1 : ext1 1 b1 n d1 = [] := List.eq_nil_of_length_eq_zero (by rw [ext1_length, z1])
           simp (disch := omega) only [go_sem, ↓reduceIte, Nat.reduceAdd, Nat.reduceEqDiff, Nat.reduceLeDiff, Int.reduceLT, reduceCtorEq, ac_ref8_Extend_L2, ext1_length, t0, t1, z0, z1, hE, extBk, Int.toNat_natCast, List.map_cons, List.map_nil, y1, extR, extEr, List.getD_cons_zero, List.getD_cons_succ, List.length_cons, List.length_nil]
 · have zz : True := trivial
   refine loop_fuel 3 ?_
   simp (disch := omega) only [go_sem, ↓reduceIte, Nat.reduceAdd, Nat.reduceEqDiff, Nat.reduceLeDiff, Int.reduceLT, Int.reduceAdd, loopN_succ, ac_ref8_Extend_L0, h3, actv_eq0 hk.1, actv_eq1 hk.1, h4, size_eq0, size_eq1, h5, twin_eq2 hk, h7, copy_eq, h6, sumA_eq0, sumA_eq1, z0, z1]
   all_goals repeat refine And.intro rfl ?_
   refine loopW_weak (fs' := [(2, .t (.int .i64 (n : Nat))), (3, .t (.sl [bsT d0, bsT d1])), (4, .ref 4096 0 0), (8, .ref 4112 0 0), (11, .t (.int .i64 0))]) (hs' := [(4112, .live 2 [.agg [.nil, .t (.int .i64 0)]] true true), (4096, .live 2 [.t (regT [b0, b1] u)] true true)]) (Weak.rd id ?_ ?_ rfl) ?_
   · simp (disch := omega) only [go_sem, ↓reduceIte, Nat.reduceEqDiff, Nat.reduceBEq, id]
   · simp (disch := omega) only [go_sem, ↓reduceIte, Nat.reduceEqDiff, id]
   by_cases q2 : d0.length ≠ 20
   · have zz : True := trivial
     have hE : extE 16 16 loc n 2 d0.length d1.length = 24 := by unfold extE; rw [if_neg (by omega), if_neg (by omega), if_neg (by omega), if_pos (by omega)]
     refine loop_fuel 3 ?_
     simp (disch := omega) only [go_sem, ↓reduceIte, Nat.reduceAdd, Nat.reduceEqDiff, Nat.reduceLeDiff, Int.reduceEq, Int.reduceLT, Int.reduceLE, loopN_succ, ac_ref8_Extend_L1, h3, actv_eq0 hk.1, actv_eq1 hk.1, h4, size_eq0, size_eq1, h5, twin_eq2 hk, h7, copy_eq, h6, sumA_eq0, sumA_eq1, z0, z1, hE, List.map_nil, extR, extEr, List.getD_cons_zero, List.getD_cons_succ, List.length_cons, List.length_nil]
     all_goals repeat refine And.intro rfl ?_
     all_goals rfl
   · have zz : True := trivial
     by_cases q1 : d1.length ≠ 32
     · have zz : True := trivial
       have hE : extE 16 16 loc n 2 d0.length d1.length = 24 := by unfold extE; rw [if_neg (by omega), if_neg (by omega), if_neg (by omega), if_pos (by omega)]
       refine loop_fuel 3 ?_
       simp (disch := omega) only [go_sem, ↓reduceIte, Nat.reduceAdd, Nat.reduceEqDiff, Nat.reduceLeDiff, Int.reduceEq, Int.reduceLT, Int.reduceLE, Int.reduceAdd, loopN_succ, ac_ref8_Extend_L1, h3, actv_eq0 hk.1, actv_eq1 hk.1, h4, size_eq0, size_eq1, h5, twin_eq2 hk, h7, copy_eq, h6, sumA_eq0, sumA_eq1, z0, z1, hE, List.map_nil, extR, extEr, List.getD_cons_zero, List.getD_cons_succ, List.length_cons, List.length_nil]
       all_goals repeat refine And.intro rfl ?_
       all_goals rfl
     · have zz : True := trivial
       have hE : extE 16 16 loc n 2 d0.length d1.length = 0 := by unfold extE; rw [if_neg (by omega), if_neg (by omega), if_neg (by omega), if_neg (by omega)]
       refine loop_fuel 3 ?_
       simp (disch := omega) only [go_sem, ↓reduceIte, Nat.reduceAdd, Nat.reduceEqDiff, Nat.reduceLeDiff, Int.reduceLT, Int.reduceLE, Int.reduceAdd, loopN_succ, ac_ref8_Extend_L1, h3, actv_eq0 hk.1, actv_eq1 hk.1, h4, size_eq0, size_eq1, h5, twin_eq2 hk, h7, copy_eq, h6, sumA_eq0, sumA_eq1, z0, z1]
       all_goals repeat refine And.intro rfl ?_
       refine loop_upto 2 (fun k => match k with | 0 => [(2, .t (.int .i64 (n : Nat))), (3, .t (.sl [bsT d0, bsT d1])), (4, .ref 4096 0 0), (8, .ref 4112 0 0), (12, .ref 65568 0 0), (13, .t (.int .i64 0))] | 1 => [(2, .t (.int .i64 (n : Nat))), (3, .t (.sl [bsT d0, bsT d1])), (4, .ref 4096 0 0), (8, .ref 4112 0 0), (12, .ref 65568 0 0), (13, .t (.int .i64 1))] | _ => [(2, .t (.int .i64 (n : Nat))), (3, .t (.sl [bsT d0, bsT d1])), (4, .ref 4096 0 0), (8, .ref 4112 0 0), (12, .ref 65568 0 0), (13, .t (.int .i64 2))]) (fun k => match k with | 0 => [(65568, .live 2 [.agg [.sl 65552 0 2, .t (.int .i64 u)]] true true), (65554, .live 1 (((b1).map bsT).map V.t) true false), (65553, .live 1 (((b0).map bsT).map V.t) true false), (65552, .live 1 [.sl 65553 0 16, .sl 65554 0 16] true false), (4112, .live 2 [.agg [.nil, .t (.int .i64 0)]] true true), (4096, .live 2 [.t (regT [b0, b1] u)] true true)] | 1 => [(65568, .live 2 [.agg [.sl 65552 0 2, .t (.int .i64 u)]] true true), (65554, .live 1 (((b1).map bsT).map V.t) true false), (65553, .live 1 (((ext1 0 b0 n d0).map bsT).map V.t) true false), (65552, .live 1 [.sl 65553 0 16, .sl 65554 0 16] true false), (4112, .live 2 [.agg [.nil, .t (.int .i64 0)]] true true), (4096, .live 2 [.t (regT [b0, b1] u)] true true)] | _ => [(65568, .live 2 [.agg [.sl 65552 0 2, .t (.int .i64 u)]] true true), (65554, .live 1 (((ext1 1 b1 n d1).map bsT).map V.t) true false), (65553, .live 1 (((ext1 0 b0 n d0).map bsT).map V.t) true false), (65552, .live 1 [.sl 65553 0 16, .sl 65554 0 16] true false), (4112, .live 2 [.agg [.nil, .t (.int .i64 0)]] true true), (4096, .live 2 [.t (regT [b0, b1] u)] true true)]) ?_ (fun k hk2 => ?_)
       · refine Weak.rd id ?_ ?_ rfl
         all_goals simp (disch := omega) only [go_sem, ↓reduceIte, Nat.reduceAdd, Nat.reduceEqDiff, Nat.reduceBEq, id, z0, z1]
       · rcases (show k = 0 ∨ k = 1 ∨ k = 2 by omega) with rfl | rfl | rfl
         · have q := List.take_of_length_le (show (b0.getD n [] ++ d0).length ≤ (List.getD b0 n []).length + d0.length by rw [List.length_append]; exact Nat.le_refl _)
           simp (config := { maxSteps := 2000000 }) (disch := (first | omega | (simp only [lens, lenm]; omega))) only [go_sem, ↓reduceIte, Nat.reduceAdd, Nat.reduceEqDiff, Nat.reduceLT, Nat.reduceLeDiff, Int.reduceLT, Int.reduceLE, Int.reduceAdd, ac_ref8_Extend_L2, h3, actv_eq0 hk.1, actv_eq1 hk.1, h4, size_eq0, size_eq1, h5, twin_eq2 hk, h7, copy_eq, h6, sumA_eq0, sumA_eq1, z0, z1, ext1_length, q]
           repeat refine And.intro rfl ?_
           refine Weak.cv (hv := []) [86352] id ?_ rfl
           simp (config := { maxSteps := 2000000 }) (disch := (first | omega | (simp only [lens, lenm]; omega))) only [go_sem, ↓reduceIte, Nat.reduceAdd, Nat.reduceEqDiff, Nat.reduceLeDiff, Nat.reduceBEq, id, ext1, z0, z1, take_sum1, take_sum256, sumA0, sumA1, sum1_length, sum256_length]
           all_goals rfl
         · have q := List.take_of_length_le (show (b1.getD n [] ++ d1).length ≤ (List.getD b1 n []).length + d1.length by rw [List.length_append]; exact Nat.le_refl _)
           simp (config := { maxSteps := 2000000 }) (disch := (first | omega | (simp only [lens, lenm]; omega))) only [go_sem, ↓reduceIte, Nat.reduceAdd, Nat.reduceEqDiff, Nat.reduceLT, Nat.reduceLeDiff, Int.reduceLT, Int.reduceLE, Int.reduceAdd, ac_ref8_Extend_L2, h3, actv_eq0 hk.1, actv_eq1 hk.1, h4, size_eq0, size_eq1, h5, twin_eq2 hk, h7, copy_eq, h6, sumA_eq0, sumA_eq1, z0, z1, ext1_length, q]
           repeat refine And.intro rfl ?_
           refine Weak.cv (hv := []) [86352] id ?_ rfl
           simp (config := { maxSteps := 2000000 }) (disch := (first | omega | (simp only [lens, lenm]; omega))) only [go_sem, ↓reduceIte, Nat.reduceAdd, Nat.reduceEqDiff, Nat.reduceLeDiff, Nat.reduceBEq, id, ext1, z0, z1, take_sum1, take_sum256, sumA0, sumA1, sum1_length, sum256_length]
           all_goals rfl
         · have t0 : List.take 16 (ext1 0 b0 n d0) = ext1 0 b0 n d0 := List.take_of_length_le (by rw [ext1_length, z0]; exact Nat.le_refl _)
           have t1 : List.take 16 (ext1 1 b1 n d1) = ext1 1 b1 n d1 := List.take_of_length_le (by rw [ext1_length, z1]; exact Nat.le_refl _)
           simp (disch := omega) only [go_sem, ↓reduceIte, Nat.reduceAdd, Nat.reduceEqDiff, Nat.reduceLeDiff, Int.reduceLT, reduceCtorEq, ac_ref8_Extend_L2, ext1_length, t0, t1, z0, z1, hE, extBk, Int.toNat_natCast, List.map_cons, List.map_nil, extR, extEr, List.getD_cons_zero, List.getD_cons_succ, List.length_cons, List.length_nil]
theorem w_registers_Extend_bad (tab : Tab) (gl : Gl) (n1 n2 n3 n4 n5 n6 : Nat) (h1 : tab.look n1 = some ct_index.fs) (h2 : tab.look n2 = some ct_least.fs) (bk : List Bank) (u loc i : Int) (ds : List (List UInt8)) (hd : ds.length < 1000000000)
   (hb : (loc < 0 ∨ 4 < loc ∨ i < 0 ∨ 16 ≤ i ∨ ds.length ≠ 2) ∨ loc < leastI i false) :
   (ac_registers_Extend n1 n2 n3 n4 n5 n6).wp tab gl (zipF 0 [.t (regT bk u), .t (.int .i64 loc), .t (.int .i64 i), .t (.sl (ds.map bsT))]) (zipF 0 []) (resW [(8, some (2, true)), (9, none)] 0 (fun r o => r = .tup [.t (regT [] 0), .t (.int .i64 (if loc < 0 ∨ 4 < loc ∨ i < 0 ∨ 16 ≤ i ∨ ds.length ≠ 2 then 1 else 13))] ∧ o = [])) := by
 by_cases a1 : loc < 0
 · simp (disch := omega) only [go_sem, ↓reduceIte, Nat.reduceAdd, Nat.reduceEqDiff, Nat.reduceLeDiff, reduceCtorEq, ac_registers_Extend, a1, List.map_nil]
 · by_cases a2 : 4 < loc
   · simp (disch := omega) only [go_sem, ↓reduceIte, Nat.reduceAdd, Nat.reduceEqDiff, Nat.reduceLeDiff, reduceCtorEq, ac_registers_Extend, a1, a2, List.map_nil]
   · by_cases a3 : i < 0
     · simp (disch := omega) only [go_sem, ↓reduceIte, Nat.reduceAdd, Nat.reduceEqDiff, Nat.reduceLeDiff, reduceCtorEq, ac_registers_Extend, a1, a2, a3, h1, index_f, List.map_nil]
     · by_cases a4 : 16 ≤ i
       · simp (disch := omega) only [go_sem, ↓reduceIte, Nat.reduceAdd, Nat.reduceEqDiff, Nat.reduceLeDiff, reduceCtorEq, ac_registers_Extend, a1, a2, a3, a4, h1, index_f, List.map_nil]
       · by_cases a5 : ds.length = 2
         · have a6 : loc < leastI i false := by rcases hb with h | h; · omega
                                                · exact h
           simp (disch := omega) only [go_sem, ↓reduceIte, Nat.reduceAdd, Nat.reduceEqDiff, Nat.reduceLeDiff, reduceCtorEq, ac_registers_Extend, a1, a2, a3, a4, a5, a6, h1, index_t, h2, least_eq, List.map_nil, ne_eq]
         · simp (disch := omega) only [go_sem, ↓reduceIte, Nat.reduceAdd, Nat.reduceEqDiff, Nat.reduceLeDiff, reduceCtorEq, ac_registers_Extend, a1, a2, a3, a4, a5, h1, index_t, List.map_nil, ne_eq]
theorem w_ref8_Extend_bad (tab : Tab) (gl : Gl) (n1 n2 n3 n4 n5 n6 : Nat) (h2 : tab.look n1 = some ct_rleast.fs) (bk : List Bank) (u loc i : Int) (ds : List (List UInt8)) (hd : ds.length < 1000000000)
   (hb : (loc < 0 ∨ 4 < loc ∨ i < 0 ∨ 16 ≤ i ∨ ds.length ≠ 2) ∨ loc < leastI i false) :
   (ac_ref8_Extend n1 n2 n3 n4 n5 n6).wp tab gl (zipF 0 [.t (regT bk u), .t (.int .i64 loc), .t (.int .i64 i), .t (.sl (ds.map bsT))]) (zipF 0 []) (resW [(8, some (2, true)), (9, none)] 0 (fun r o => r = .tup [.t (regT [] 0), .t (.int .i64 (if loc < 0 ∨ 4 < loc ∨ i < 0 ∨ 16 ≤ i ∨ ds.length ≠ 2 then 1 else 13))] ∧ o = [])) := by
 have a7 : ¬ leastI i false = 5 := by unfold leastI; split <;> (try split) <;> (try split) <;> simp_all
 by_cases a1 : loc < 0
 · simp (disch := omega) only [go_sem, ↓reduceIte, Nat.reduceAdd, Nat.reduceEqDiff, Nat.reduceLeDiff, reduceCtorEq, ac_ref8_Extend, a1, List.map_nil]
 · by_cases a2 : 4 < loc
   · simp (disch := omega) only [go_sem, ↓reduceIte, Nat.reduceAdd, Nat.reduceEqDiff, Nat.reduceLeDiff, reduceCtorEq, ac_ref8_Extend, a1, a2, List.map_nil]
   · by_cases a3 : i < 0
     · simp (disch := omega) only [go_sem, ↓reduceIte, Nat.reduceAdd, Nat.reduceEqDiff, Nat.reduceLeDiff, reduceCtorEq, ac_ref8_Extend, a1, a2, a3, List.map_nil]
     · by_cases a4 : 16 ≤ i
       · simp (disch := omega) only [go_sem, ↓reduceIte, Nat.reduceAdd, Nat.reduceEqDiff, Nat.reduceLeDiff, reduceCtorEq, ac_ref8_Extend, a1, a2, a3, a4, List.map_nil]
       · by_cases a5 : ds.length = 2
         · have a6 : loc < leastI i false := by rcases hb with h | h; · omega
                                                · exact h
           simp (disch := omega) only [go_sem, ↓reduceIte, Nat.reduceAdd, Nat.reduceEqDiff, Nat.reduceLeDiff, reduceCtorEq, ac_ref8_Extend, a1, a2, a3, a4, a5, a6, a7, h2, rleast_eq, List.map_nil, ne_eq]
         · simp (disch := omega) only [go_sem, ↓reduceIte, Nat.reduceAdd, Nat.reduceEqDiff, Nat.reduceLeDiff, reduceCtorEq, ac_ref8_Extend, a1, a2, a3, a4, a5, List.map_nil, ne_eq]
theorem actv_eqn {u : Int} {a : Nat} (ha : a < 2) : ct_actv.fs [.t (.agg [.sl [], .int .i64 u]), .t (.int .i64 a)] [] = some (.t (.bool false), []) := (actv_eq (bk := []) .nil (by omega)).trans (by simp [onB])
theorem w_registers_Extend0 (tab : Tab) (gl : Gl) (n1 n2 n3 n4 n5 n6 : Nat) (h1 : tab.look n1 = some ct_index.fs) (h2 : tab.look n2 = some ct_least.fs) (h3 : tab.look n3 = some ct_on.fs) (h5 : tab.look n5 = some ct_twin.fs)
   (u loc : Int) (n : Nat) (d0 d1 : List UInt8) (hu : 0 ≤ u ∧ u < 1000000000) (hd : d0.length < 9223372036854775808 ∧ d1.length < 9223372036854775808) (e1 : ¬(loc < 0 ∨ 4 < loc ∨ 16 ≤ n)) (e2 : ¬ loc < leastI n false) :
   (ac_registers_Extend n1 n2 n3 n4 n5 n6).wp tab gl (zipF 0 [.t (regT [] u), .t (.int .i64 loc), .t (.int .i64 n), .t (.sl [bsT d0, bsT d1])]) (zipF 0 []) (resW [(8, some (2, true)), (9, none)] 0 (fun r o => r = extR [] u loc n [d0, d1] ∧ o = [])) := by
 have c0 := on_eqn (u := u) (a := 0) (by omega)
 have c1 := on_eqn (u := u) (a := 1) (by omega)
 rw [show ((0 : Nat) : Int) = 0 from rfl] at c0
 rw [show ((1 : Nat) : Int) = 1 from rfl] at c1
 simp (disch := omega) only [go_sem, ↓reduceIte, Nat.reduceAdd, Nat.reduceEqDiff, Nat.reduceLeDiff, reduceCtorEq, ac_registers_Extend, h1, index_t, h2, least_eq, List.map_nil, List.map_cons]
 refine loopW_weak (fs' := [(2, .t (.int .i64 (n : Nat))), (3, .t (.sl [bsT d0, bsT d1])), (4, .ref 4096 0 0), (8, .ref 4112 0 0), (38, .t (.sl [bsT d0, bsT d1])), (39, .t (.int .i64 2)), (40, .t (.int .i64 0))]) (hs' := [(4112, .live 2 [.agg [.nil, .t (.int .i64 0)]] true true), (4096, .live 2 [.t (regT [] u)] true true)]) (Weak.rd id ?_ ?_ rfl) ?_
 · simp (disch := omega) only [go_sem, ↓reduceIte, Nat.reduceEqDiff, Nat.reduceBEq, reduceCtorEq, id]
 · simp (disch := omega) only [go_sem, ↓reduceIte, Nat.reduceEqDiff, id, List.map_nil]
 by_cases p : 0 < d0.length ∨ 0 < d1.length
 · have hE : extE 0 0 loc n 2 d0.length d1.length = 27 := by unfold extE; rw [if_neg (by omega), if_neg (by omega), if_pos (by omega)]
   by_cases p0 : 0 < d0.length
   · refine loop_fuel 3 ?_
     simp (disch := omega) only [go_sem, ↓reduceIte, Nat.reduceAdd, Nat.reduceEqDiff, Nat.reduceLeDiff, Int.reduceEq, Int.reduceLT, Int.reduceLE, loopN_succ, ac_registers_Extend_L0, h3, c0, c1, hE, List.map_nil, extR, extEr, List.getD_nil, List.getD_cons_zero, List.getD_cons_succ, List.length_cons, List.length_nil]
   · refine loop_fuel 3 ?_
     simp (disch := omega) only [go_sem, ↓reduceIte, Nat.reduceAdd, Nat.reduceEqDiff, Nat.reduceLeDiff, Int.reduceEq, Int.reduceLT, Int.reduceLE, Int.reduceAdd, loopN_succ, ac_registers_Extend_L0, h3, c0, c1, hE, List.map_nil, extR, extEr, List.getD_nil, List.getD_cons_zero, List.getD_cons_succ, List.length_cons, List.length_nil]
 · have hE : extE 0 0 loc n 2 d0.length d1.length = 0 := by unfold extE; rw [if_neg (by omega), if_neg (by omega), if_neg (by omega), if_neg (by omega)]
   refine loop_fuel 3 ?_
   simp (disch := omega) only [go_sem, ↓reduceIte, Nat.reduceAdd, Nat.reduceEqDiff, Nat.reduceLeDiff, Int.reduceLT, Int.reduceLE, Int.reduceAdd, loopN_succ, ac_registers_Extend_L0, h3, c0, c1, List.map_nil]
   refine loop_fuel 3 ?_
   simp (disch := omega) only [go_sem, ↓reduceIte, Nat.reduceAdd, Nat.reduceEqDiff, Nat.reduceLeDiff, Int.reduceLT, Int.reduceLE, Int.reduceAdd, loopN_succ, ac_registers_Extend_L1, h3, c0, c1, h5, twin_eq0, List.map_nil]
   refine loop_fuel 1 ?_
   simp (disch := omega) only [go_sem, ↓reduceIte, Nat.reduceAdd, Nat.reduceEqDiff, Nat.reduceLeDiff, Int.reduceLT, reduceCtorEq, loopN_succ, ac_registers_Extend_L2, hE, List.map_nil, extR, extEr, extBk, List.getD_nil, List.getD_cons_zero, List.getD_cons_succ, List.length_cons, List.length_nil]
theorem w_ref8_Extend0 (tab : Tab) (gl : Gl) (n1 n2 n3 n4 n5 n6 : Nat) (h2 : tab.look n1 = some ct_rleast.fs) (h3 : tab.look n2 = some ct_actv.fs) (h5 : tab.look n4 = some ct_twin.fs)
   (u loc : Int) (n : Nat) (d0 d1 : List UInt8) (hu : 0 ≤ u ∧ u < 1000000000) (hd : d0.length < 9223372036854775808 ∧ d1.length < 9223372036854775808) (e1 : ¬(loc < 0 ∨ 4 < loc ∨ 16 ≤ n)) (e2 : ¬ loc < leastI n false) :
   (ac_ref8_Extend n1 n2 n3 n4 n5 n6).wp tab gl (zipF 0 [.t (regT [] u), .t (.int .i64 loc), .t (.int .i64 n), .t (.sl [bsT d0, bsT d1])]) (zipF 0 []) (resW [(8, some (2, true)), (9, none)] 0 (fun r o => r = extR [] u loc n [d0, d1] ∧ o = [])) := by
 have a6 : ¬ leastI (n : Int) false = 5 := by unfold leastI; split <;> (try split) <;> (try split) <;> simp_all
 have c0 := actv_eqn (u := u) (a := 0) (by omega)
 have c1 := actv_eqn (u := u) (a := 1) (by omega)
 rw [show ((0 : Nat) : Int) = 0 from rfl] at c0
 rw [show ((1 : Nat) : Int) = 1 from rfl] at c1
 simp (disch := omega) only [go_sem, ↓reduceIte, Nat.reduceAdd, Nat.reduceEqDiff, Nat.reduceLeDiff, reduceCtorEq, ac_ref8_Extend, h2, rleast_eq, a6, List.map_nil, List.map_cons]
 refine loopW_weak (fs' := [(2, .t (.int .i64 (n : Nat))), (3, .t (.sl [bsT d0, bsT d1])), (4, .ref 4096 0 0), (8, .ref 4112 0 0), (10, .t (.int .i64 0))]) (hs' := [(4112, .live 2 [.agg [.nil, .t (.int .i64 0)]] true true), (4096, .live 2 [.t (regT [] u)] true true)]) (Weak.rd id ?_ ?_ rfl) ?_
 · simp (disch := omega) only [go_sem, ↓reduceIte, Nat.reduceEqDiff, Nat.reduceBEq, reduceCtorEq, id]
 · simp (disch := omega) only [go_sem, ↓reduceIte, Nat.reduceEqDiff, id, List.map_nil]
 by_cases p : 0 < d0.length ∨ 0 < d1.length
 · have hE : extE 0 0 loc n 2 d0.length d1.length = 27 := by unfold extE; rw [if_neg (by omega), if_neg (by omega), if_pos (by omega)]
   by_cases p0 : 0 < d0.length
   · refine loop_fuel 3 ?_
     simp (disch := omega) only [go_sem, ↓reduceIte, Nat.reduceAdd, Nat.reduceEqDiff, Nat.reduceLeDiff, Int.reduceEq, Int.reduceLT, Int.reduceLE, loopN_succ, ac_ref8_Extend_L0, h3, c0, c1, hE, List.map_nil, extR, extEr, List.getD_nil, List.getD_cons_zero, List.getD_cons_succ, List.length_cons, List.length_nil]
     all_goals repeat refine And.intro rfl ?_
     all_goals rfl
   · refine loop_fuel 3 ?_
     simp (disch := omega) only [go_sem, ↓reduceIte, Nat.reduceAdd, Nat.reduceEqDiff, Nat.reduceLeDiff, Int.reduceEq, Int.reduceLT, Int.reduceLE, Int.reduceAdd, loopN_succ, ac_ref8_Extend_L0, h3, c0, c1, hE, List.map_nil, extR, extEr, List.getD_nil, List.getD_cons_zero, List.getD_cons_succ, List.length_cons, List.length_nil]
     all_goals repeat refine And.intro rfl ?_
     all_goals rfl
 · have hE : extE 0 0 loc n 2 d0.length d1.length = 0 := by unfold extE; rw [if_neg (by omega), if_neg (by omega), if_neg (by omega), if_neg (by omega)]
   refine loop_fuel 3 ?_
   simp (disch := omega) only [go_sem, ↓reduceIte, Nat.reduceAdd, Nat.reduceEqDiff, Nat.reduceLeDiff, Int.reduceLT, Int.reduceLE, Int.reduceAdd, loopN_succ, ac_ref8_Extend_L0, h3, c0, c1, List.map_nil]
   all_goals repeat refine And.intro rfl ?_
   refine loop_fuel 3 ?_
   simp (disch := omega) only [go_sem, ↓reduceIte, Nat.reduceAdd, Nat.reduceEqDiff, Nat.reduceLeDiff, Int.reduceLT, Int.reduceAdd, loopN_succ, ac_ref8_Extend_L1, h3, c0, c1, h5, twin_eq0, List.map_nil]
   all_goals repeat refine And.intro rfl ?_
   refine loop_fuel 3 ?_
   simp (disch := omega) only [go_sem, ↓reduceIte, Nat.reduceAdd, Nat.reduceEqDiff, Nat.reduceLeDiff, Int.reduceLT, Int.reduceAdd, reduceCtorEq, loopN_succ, ac_ref8_Extend_L2, h3, c0, c1, hE, List.map_nil, extR, extEr, extBk, List.getD_nil, List.getD_cons_zero, List.getD_cons_succ, List.length_cons, List.length_nil]
def RV (bk : List Bank) : Prop := RK bk ∧ ∀ b ∈ bk, ∀ x ∈ b, x.length ≤ 64
theorem RV.rm {bk : List Bank} (h : RV bk) : RM bk := by
 refine ⟨h.1, fun b hb => ⟨?_, fun x hx => Nat.lt_of_le_of_lt (h.2 b hb x hx) (by omega)⟩⟩
 have : bkOk b := by
   obtain ⟨hk, _⟩ := h
   cases hk with
   | nil => simp at hb
   | two b0 b1 h0 h1 =>
     simp only [List.mem_cons, List.not_mem_nil, or_false] at hb
     rcases hb with rfl | rfl
     · exact h0
     · exact h1
 rcases this with h | h <;> omega
theorem getD_le {b : Bank} {m n : Nat} (h : ∀ x ∈ b, x.length ≤ m) : (b.getD n []).length ≤ m := by
 by_cases hi : n < List.length b
 · have : b.getD n [] = b[n] := by simp [List.getD, hi]
   rw [this]; exact h _ (List.getElem_mem hi)
 · simp [List.getD, List.getElem?_eq_none (Nat.le_of_not_lt hi)]
abbrev ExtIn := List Bank × Int × Int × Int × List (List UInt8)
def extPre (x : ExtIn) : Prop := RV x.1 ∧ (0 ≤ x.2.1 ∧ x.2.1 < 1000000000) ∧ x.2.2.2.2.length < 1000000000 ∧ ∀ d ∈ x.2.2.2.2, d.length < 9223372036854775808
def ct_ext : Ct where
 α := ExtIn
 as x := [.t (regT x.1 x.2.1), .t (.int .i64 x.2.2.1), .t (.int .i64 x.2.2.2.1), .t (.sl (x.2.2.2.2.map bsT))]
 ins _ := []
 pre := extPre
 r x := extR x.1 x.2.1 x.2.2.1 x.2.2.2.1 x.2.2.2.2
 outs _ := []
 inj := by
   rintro ⟨a, u, l, i, ds⟩ ⟨b, v, l', i', ds'⟩ h _
   simp only [List.cons.injEq, V.t.injEq, T.int.injEq, T.sl.injEq, true_and, and_true, mapBs_inj] at h
   obtain ⟨h1, rfl, rfl, rfl⟩ := h
   obtain ⟨rfl, rfl⟩ := regT_inj h1
   exact ⟨rfl, rfl⟩
theorem extR_bad {bk : List Bank} {u loc i : Int} {ds : List (List UInt8)} (hb : (loc < 0 ∨ 4 < loc ∨ i < 0 ∨ 16 ≤ i ∨ ds.length ≠ 2) ∨ loc < leastI i false) :
   extR bk u loc i ds = .tup [.t (regT [] 0), .t (.int .i64 (if loc < 0 ∨ 4 < loc ∨ i < 0 ∨ 16 ≤ i ∨ ds.length ≠ 2 then 1 else 13))] := by
 have he : extE (bk.getD 0 []).length (bk.getD 1 []).length loc i ds.length (ds.getD 0 []).length (ds.getD 1 []).length = if loc < 0 ∨ 4 < loc ∨ i < 0 ∨ 16 ≤ i ∨ ds.length ≠ 2 then 1 else 13 := by
   unfold extE
   by_cases h : loc < 0 ∨ 4 < loc ∨ i < 0 ∨ 16 ≤ i ∨ ds.length ≠ 2
   · rw [if_pos h, if_pos h]
   · have h2 : loc < leastI i false := by rcases hb with h' | h'; exact absurd h' h; exact h'
     rw [if_neg h, if_neg h, if_pos h2]
 unfold extR
 rw [he]
 split
 · split at * <;> simp_all
 · rfl
theorem w_registers_Extend (tab : Tab) (gl : Gl) (n1 n2 n3 n4 n5 n6 : Nat) (h1 : tab.look n1 = some ct_index.fs) (h2 : tab.look n2 = some ct_least.fs) (h3 : tab.look n3 = some ct_on.fs) (h4 : tab.look n4 = some ct_size.fs) (h5 : tab.look n5 = some ct_twin.fs) (h6 : tab.look n6 = some ct_sumA.fs) (x : ct_ext.α) (hx : ct_ext.pre x) :
   (ac_registers_Extend n1 n2 n3 n4 n5 n6).wp tab gl (zipF 0 (ct_ext.as x)) (zipF 0 (ct_ext.ins x)) (resW [(8, some (2, true)), (9, none)] (ct_ext.ins x).length (fun r o => r = ct_ext.r x ∧ o = ct_ext.outs x)) := by
 obtain ⟨bk, u, loc, i, ds⟩ := x
 obtain ⟨hv, hu, hd, hd2⟩ := hx
 simp only [ct_ext] at *
 by_cases hb : (loc < 0 ∨ 4 < loc ∨ i < 0 ∨ 16 ≤ i ∨ ds.length ≠ 2) ∨ loc < leastI i false
 · rw [extR_bad hb]
   exact w_registers_Extend_bad tab gl n1 n2 n3 n4 n5 n6 h1 h2 bk u loc i ds hd hb
 · obtain ⟨n, rfl⟩ := Int.eq_ofNat_of_zero_le (show 0 ≤ i by omega)
   match ds, hd2, hb with
   | [d0, d1], hd2, hb =>
     have m0 := hd2 d0 (by simp)
     have m1 := hd2 d1 (by simp)
     have e1 : ¬(loc < 0 ∨ 4 < loc ∨ 16 ≤ n) := by omega
     have e2 : ¬ loc < leastI n false := by omega
     have hm := hv.rm
     obtain ⟨hk, hl⟩ := hv
     cases hk with
     | nil => exact w_registers_Extend0 tab gl n1 n2 n3 n4 n5 n6 h1 h2 h3 h5 u loc n d0 d1 hu ⟨m0, m1⟩ e1 e2
     | two b0 b1 g0 g1 => exact w_registers_Extend2 tab gl n1 n2 n3 n4 n5 n6 h1 h2 h3 h4 h5 h6 b0 b1 u loc n d0 d1 hu hm (getD_le (hl b0 (by simp))) (getD_le (hl b1 (by simp))) ⟨m0, m1⟩ e1 e2
   | [], _, hb => simp at hb
   | [_], _, hb => simp at hb
   | _ :: _ :: _ :: _, _, hb => simp at hb
theorem w_ref8_Extend (tab : Tab) (gl : Gl) (n1 n2 n3 n4 n5 n6 : Nat) (h2 : tab.look n1 = some ct_rleast.fs) (h3 : tab.look n2 = some ct_actv.fs) (h4 : tab.look n3 = some ct_size.fs) (h5 : tab.look n4 = some ct_twin.fs) (h7 : tab.look n5 = some ct_copy.fs) (h6 : tab.look n6 = some ct_sumA.fs) (x : ct_ext.α) (hx : ct_ext.pre x) :
   (ac_ref8_Extend n1 n2 n3 n4 n5 n6).wp tab gl (zipF 0 (ct_ext.as x)) (zipF 0 (ct_ext.ins x)) (resW [(8, some (2, true)), (9, none)] (ct_ext.ins x).length (fun r o => r = ct_ext.r x ∧ o = ct_ext.outs x)) := by
 obtain ⟨bk, u, loc, i, ds⟩ := x
 obtain ⟨hv, hu, hd, hd2⟩ := hx
 simp only [ct_ext] at *
 by_cases hb : (loc < 0 ∨ 4 < loc ∨ i < 0 ∨ 16 ≤ i ∨ ds.length ≠ 2) ∨ loc < leastI i false
 · rw [extR_bad hb]
   exact w_ref8_Extend_bad tab gl n1 n2 n3 n4 n5 n6 h2 bk u loc i ds hd hb
 · obtain ⟨n, rfl⟩ := Int.eq_ofNat_of_zero_le (show 0 ≤ i by omega)
   match ds, hd2, hb with
   | [d0, d1], hd2, hb =>
     have m0 := hd2 d0 (by simp)
     have m1 := hd2 d1 (by simp)
     have e1 : ¬(loc < 0 ∨ 4 < loc ∨ 16 ≤ n) := by omega
     have e2 : ¬ loc < leastI n false := by omega
     have hm := hv.rm
     obtain ⟨hk, hl⟩ := hv
     cases hk with
     | nil => exact w_ref8_Extend0 tab gl n1 n2 n3 n4 n5 n6 h2 h3 h5 u loc n d0 d1 hu ⟨m0, m1⟩ e1 e2
     | two b0 b1 g0 g1 => exact w_ref8_Extend2 tab gl n1 n2 n3 n4 n5 n6 h2 h3 h4 h5 h7 h6 b0 b1 u loc n d0 d1 hu hm (getD_le (hl b0 (by simp))) (getD_le (hl b1 (by simp))) ⟨m0, m1⟩ e1 e2
   | [], _, hb => simp at hb
   | [_], _, hb => simp at hb
   | _ :: _ :: _ :: _, _, hb => simp at hb
theorem RM.bank {bk : List Bank} (h : RM bk) (a : Nat) : modL (bk.getD a []) := by
 by_cases ha : a < bk.length
 · have e : bk.getD a [] = bk[a] := by simp [List.getD, ha]
   rw [e]; exact h.2 _ (List.getElem_mem ha)
 · have e : bk.getD a [] = [] := by simp [List.getD, List.getElem?_eq_none (Nat.le_of_not_lt ha)]
   rw [e]; exact ⟨by simp, by simp⟩
def ct_new : Ct where
 α := Int
 as s := [.t (.int .i64 s)]
 ins _ := []
 pre _ := True
 r s := twR (newBk s) 0
 outs s := twO (newBk s)
 inj := by
   rintro a b h _
   simp only [List.cons.injEq, V.t.injEq, T.int.injEq, true_and, and_true] at h
   subst h
   exact ⟨rfl, rfl⟩
def ct_val : Ct where
 α := List Bank × Int × Int × Int
 as x := [.t (regT x.1 x.2.1), .t (.int .i64 x.2.2.1), .t (.int .i64 x.2.2.2)]
 ins _ := []
 pre x := RM x.1
 r x := valR x.1 x.2.2.1 x.2.2.2
 outs x := valO x.1 x.2.2.1 x.2.2.2
 inj := by
   rintro ⟨a, u, l, i⟩ ⟨b, v, l', i'⟩ h _
   simp only [List.cons.injEq, V.t.injEq, T.int.injEq, true_and, and_true] at h
   obtain ⟨h1, rfl, rfl⟩ := h
   obtain ⟨rfl, rfl⟩ := regT_inj h1
   exact ⟨rfl, rfl⟩
theorem newB_ok {a : Nat} (ha : a < 2) : bkOk (newB a) := .inr newB_length
theorem newB_le {a : Nat} (ha : a < 2) : ∀ x ∈ newB a, x.length ≤ 64 := by
 intro x hx
 simp only [newB, List.mem_map, List.mem_range] at hx
 obtain ⟨i, _, rfl⟩ := hx
 simp only [List.length_replicate]
 have : a = 0 ∨ a = 1 := by omega
 rcases this with rfl | rfl <;> decide
theorem newBk_rv {s : Int} : RV (newBk s) := by
 unfold newBk
 split
 · exact ⟨.nil, by simp⟩
 · refine ⟨.two _ _ ?_ ?_, ?_⟩
   · split
     · exact newB_ok (by omega)
     · exact .inl rfl
   · split
     · exact newB_ok (by omega)
     · exact .inl rfl
   · intro b hb
     simp only [List.mem_cons, List.not_mem_nil, or_false] at hb
     rcases hb with rfl | rfl
     · split
       · exact newB_le (by omega)
       · simp
     · split
       · exact newB_le (by omega)
       · simp
def ct_awake : Ct where
 α := Unit
 as _ := []
 ins _ := []
 pre _ := True
 r _ := .t (.bool true)
 outs _ := []
 inj := by rintro a b h _; exact ⟨rfl, rfl⟩
theorem awake_eq : ct_awake.fs [] [] = some (.t (.bool true), []) := ct_awake.eq () trivial
end Go.Eng
end
section
set_option maxRecDepth 20000
namespace Go.Eng
theorem wc_digest_compress1 (tab : Tab) (gl : Gl) (n1 n2 : Nat) (h1 : tab.look n1 = some ct_word.fs) (h2 : tab.look n2 = some ct_rotl.fs) (x : (ct_comp 5 comp1).α) (hx : (ct_comp 5 comp1).pre x) :
   (ac_digest_compress1 n1 n2).wp tab gl (zipF 0 ((ct_comp 5 comp1).as x)) (zipF 0 ((ct_comp 5 comp1).ins x)) (resW [] ((ct_comp 5 comp1).ins x).length (fun r o => r = (ct_comp 5 comp1).r x ∧ o = (ct_comp 5 comp1).outs x)) := by
 obtain ⟨hs, bs⟩ := x
 obtain ⟨hb, hh⟩ := hx
 match hs, hh with
 | [x0, x1, x2, x3, x4], _ => exact w_digest_compress1 tab gl n1 n2 h1 h2 bs x0 x1 x2 x3 x4 hb
theorem wc_registers_active (tab : Tab) (gl : Gl) (x : ct_active.α) (hx : ct_active.pre x) :
   ac_registers_active.wp tab gl (zipF 0 (ct_active.as x)) (zipF 0 (ct_active.ins x)) (resW [(2, none)] (ct_active.ins x).length (fun r o => r = ct_active.r x ∧ o = ct_active.outs x)) := by
 obtain ⟨bk, u⟩ := x
 have hx' : RK bk := hx
 clear hx
 cases hx' with
 | nil => exact w_registers_active0 tab gl u
 | two b0 b1 h0 h1 => exact w_registers_active2 tab gl b0 b1 (by rcases h0 with h | h <;> omega) (by rcases h1 with h | h <;> omega) u
theorem wc_registers_twin (tab : Tab) (gl : Gl) (x : ct_twin.α) (hx : ct_twin.pre x) :
   ac_registers_twin.wp tab gl (zipF 0 (ct_twin.as x)) (zipF 0 (ct_twin.ins x)) (resF [] [(2, some (2, true))] (ct_twin.ins x).length (fun r o => r = ct_twin.r x ∧ o = ct_twin.outs x)) := by
 obtain ⟨bk, u⟩ := x
 obtain ⟨hk, hm⟩ := hx
 have hk' : RK bk := hk
 clear hk
 cases hk' with
 | nil => exact w_registers_twin0 tab gl u
 | two b0 b1 h0 h1 => exact w_registers_twin2 tab gl b0 b1 u (hm b0 (.head _)) (hm b1 (.tail _ (.head _)))
theorem wc_registers_New (tab : Tab) (gl : Gl) (n1 n2 : Nat) (h1 : tab.look n1 = some ct_size.fs) (h2 : tab.look n2 = some ct_fill.fs) (x : ct_new.α) :
   (ac_registers_New n1 n2).wp tab gl (zipF 0 (ct_new.as x)) (zipF 0 (ct_new.ins x)) (resF [] [(2, some (2, true))] (ct_new.ins x).length (fun r o => r = ct_new.r x ∧ o = ct_new.outs x)) := by
 have x' : Int := x
 by_cases h : (show Int from x) % 4 = 0
 · have := w_registers_New0 tab gl n1 n2 x h
   show (ac_registers_New n1 n2).wp tab gl (zipF 0 [.t (.int .i64 x)]) (zipF 0 []) (resF [] [(2, some (2, true))] 0 (fun r o => r = twR (newBk x) 0 ∧ o = twO (newBk x)))
   have e : newBk x = [] := if_pos h
   rw [e]; exact this
 · exact w_registers_New tab gl n1 n2 h1 h2 x h
theorem wc_ref8_New (tab : Tab) (gl : Gl) (n1 : Nat) (h1 : tab.look n1 = some ct_init.fs) (x : ct_new.α) :
   (ac_ref8_New n1).wp tab gl (zipF 0 (ct_new.as x)) (zipF 0 (ct_new.ins x)) (resF [] [(2, some (2, true))] (ct_new.ins x).length (fun r o => r = ct_new.r x ∧ o = ct_new.outs x)) := by
 by_cases h : (show Int from x) % 4 = 0
 · have := w_ref8_New0 tab gl n1 x h
   show (ac_ref8_New n1).wp tab gl (zipF 0 [.t (.int .i64 x)]) (zipF 0 []) (resF [] [(2, some (2, true))] 0 (fun r o => r = twR (newBk x) 0 ∧ o = twO (newBk x)))
   have e : newBk x = [] := if_pos h
   rw [e]; exact this
 · exact w_ref8_New tab gl n1 h1 x h
theorem wc_ref8_fill (tab : Tab) (gl : Gl) (x : ct_fill.α) (hx : ct_fill.pre x) :
   ac_ref8_fill.wp tab gl (zipF 0 (ct_fill.as x)) (zipF 0 (ct_fill.ins x)) (resF [] [(4, none)] (ct_fill.ins x).length (fun r o => r = ct_fill.r x ∧ o = ct_fill.outs x)) := by
 obtain ⟨n, x⟩ := x
 have hx' : n = 20 ∨ n = 32 := hx
 exact w_ref8_fill tab gl x n (by omega)
theorem wc_ref8_Active (tab : Tab) (gl : Gl) (x : ct_actv.α) (hx : ct_actv.pre x) :
   ac_ref8_Active.wp tab gl (zipF 0 (ct_actv.as x)) (zipF 0 (ct_actv.ins x)) (resW [(4, none)] (ct_actv.ins x).length (fun r o => r = ct_actv.r x ∧ o = ct_actv.outs x)) := by
 obtain ⟨bk, u, a⟩ := x
 obtain ⟨hk, ha⟩ := hx
 have hk' : RK bk := hk
 have ha' : a < 1000000000 := ha
 refine w_ref8_Active tab gl bk u a ha' ?_ ?_
 · cases hk' <;> simp
 · intro b hb
   clear hk
   cases hk' with
   | nil => simp at hb
   | two b0 b1 h0 h1 =>
     simp only [List.mem_cons, List.not_mem_nil, or_false] at hb
     rcases hb with rfl | rfl
     · rcases h0 with h | h <;> omega
     · rcases h1 with h | h <;> omega
end Go.Eng
end
section
set_option maxRecDepth 20000
set_option maxHeartbeats 16000000
namespace Go.Eng
def stN (x : List UInt8) (b : Bank) : Nat → Bank
 | 0 => b
 | k + 1 => (stN x b k).set (12 + k) x
theorem stN_length {x : List UInt8} {b : Bank} {k : Nat} : List.length (stN x b k) = List.length b := by
 induction k with
 | zero => rfl
 | succ k ih => simp only [stN, List.length_set, ih]
def resBk (bk : List Bank) : List Bank := match bk with
 | [b0, b1] => [stN (List.replicate 20 255) b0 4, stN (List.replicate 32 255) b1 4]
 | bk => bk
end Go.Eng
end
section
set_option maxRecDepth 20000
set_option maxHeartbeats 16000000
namespace Go.Eng
theorem wc_ref8_Copy (tab : Tab) (gl : Gl) (n1 : Nat) (h1 : tab.look n1 = some ct_copy.fs) (x : ct_twin.α) (hx : ct_twin.pre x) :
   (ac_ref8_Copy n1).wp tab gl (zipF 0 (ct_twin.as x)) (zipF 0 (ct_twin.ins x)) (resF [] [(2, some (2, true))] (ct_twin.ins x).length (fun r o => r = ct_twin.r x ∧ o = ct_twin.outs x)) := by
 obtain ⟨bk, u⟩ := x
 obtain ⟨hk, hm⟩ := hx
 have hk' : RK bk := hk
 clear hk
 cases hk' with
 | nil => exact w_ref8_Copy0 tab gl n1 u
 | two b0 b1 h0 h1' => exact w_ref8_Copy2 tab gl n1 h1 b0 b1 u (hm b0 (.head _)) (hm b1 (.tail _ (.head _)))
theorem RV.of2 {b0 b1 : Bank} (h0 : bkOk b0) (h1 : bkOk b1) (m0 : ∀ x ∈ b0, x.length ≤ 64) (m1 : ∀ x ∈ b1, x.length ≤ 64) : RV [b0, b1] := by
 refine ⟨.two _ _ h0 h1, fun b hb => ?_⟩
 simp only [List.mem_cons, List.not_mem_nil, or_false] at hb
 rcases hb with rfl | rfl
 · exact m0
 · exact m1
theorem bkOk_len {b c : Bank} (h : bkOk b) (hl : List.length c = List.length b) : bkOk c := by
 rcases h with h | h
 · exact .inl (by rw [hl, h])
 · exact .inr (by rw [hl, h])
theorem set_le {b : Bank} {i : Nat} {y : List UInt8} (h : ∀ x ∈ b, x.length ≤ 64) (hy : y.length ≤ 64) : ∀ x ∈ b.set i y, x.length ≤ 64 := by
 intro x hx
 rcases List.mem_or_eq_of_mem_set hx with h1 | rfl
 · exact h x h1
 · exact hy
theorem RV.cases {bk : List Bank} (h : RV bk) : bk = [] ∨ ∃ b0 b1, bk = [b0, b1] ∧ bkOk b0 ∧ bkOk b1 ∧ (∀ x ∈ b0, x.length ≤ 64) ∧ (∀ x ∈ b1, x.length ≤ 64) := by
 obtain ⟨hk, hm⟩ := h
 cases hk with
 | nil => exact .inl rfl
 | two b0 b1 h0 h1 => exact .inr ⟨b0, b1, rfl, h0, h1, hm b0 (.head _), hm b1 (.tail _ (.head _))⟩
theorem ext1_le {a : Nat} (ha : a < 2) {b : Bank} {i : Nat} {d : List UInt8} (h : ∀ x ∈ b, x.length ≤ 64) : ∀ x ∈ ext1 a b i d, x.length ≤ 64 := by
 unfold ext1
 split
 · refine set_le h ?_
   have : a = 0 ∨ a = 1 := by omega
   rcases this with rfl | rfl
   · rw [sumA0, sum1_length]; omega
   · rw [sumA1, sum256_length]; omega
 · exact h
theorem stN_le {y : List UInt8} {b : Bank} (hy : y.length ≤ 64) (h : ∀ x ∈ b, x.length ≤ 64) : ∀ k, ∀ x ∈ stN y b k, x.length ≤ 64
 | 0 => h
 | k + 1 => set_le (stN_le hy h k) hy
theorem RV.ext {bk : List Bank} (h : RV bk) (i : Nat) (ds : List (List UInt8)) : RV (extBk bk i ds) := by
 rcases h.cases with rfl | ⟨b0, b1, rfl, h0, h1, m0, m1⟩
 · exact h
 · exact .of2 (bkOk_len h0 ext1_length) (bkOk_len h1 ext1_length) (ext1_le (by omega) m0) (ext1_le (by omega) m1)
theorem RV.res {bk : List Bank} (h : RV bk) : RV (resBk bk) := by
 rcases h.cases with rfl | ⟨b0, b1, rfl, h0, h1, m0, m1⟩
 · exact h
 · exact .of2 (bkOk_len h0 stN_length) (bkOk_len h1 stN_length) (stN_le (by rw [List.length_replicate]; omega) m0 4) (stN_le (by rw [List.length_replicate]; omega) m1 4)
end Go.Eng
end
section
set_option maxRecDepth 20000
set_option maxHeartbeats 64000000
namespace Go.Eng
theorem setRange_map {α γ : Type} {f : α → γ} {l xs : List α} {i : Nat} : setRange (l.map f) i (xs.map f) = (setRange l i xs).map f := by
 simp [setRange]
def dgx (a : Nat) (b : List UInt8) : List UInt8 := List.take (szA a) b ++ List.replicate (szA a - min (szA a) b.length) 0
def dg1 (a : Nat) (b : List UInt8) : List UInt8 := (dgx a b).set (szA a - 1) ((dgx a b).getD (szA a - 1) 0 ^^^ UInt8.ofNat a)
theorem dgx_length {a : Nat} {b : List UInt8} : (dgx a b).length = szA a := by
 simp [dgx, Nat.min_def]
 split <;> omega
theorem dg1_length {a : Nat} {b : List UInt8} : (dg1 a b).length = szA a := by rw [dg1, List.length_set, dgx_length]
theorem dgx0 {b : List UInt8} : List.take 20 b ++ List.replicate (20 - min 20 b.length) 0 = dgx 0 b := rfl
theorem dgx1 {b : List UInt8} : List.take 32 b ++ List.replicate (32 - min 32 b.length) 0 = dgx 1 b := rfl
theorem dgx0_length {b : List UInt8} : (dgx 0 b).length = 20 := dgx_length
theorem dgx1_length {b : List UInt8} : (dgx 1 b).length = 32 := dgx_length
theorem dg10 {b : List UInt8} : (dgx 0 b).set 19 ((dgx 0 b).getD 19 0 ^^^ 0) = dg1 0 b := rfl
theorem dg11 {b : List UInt8} : (dgx 1 b).set 31 ((dgx 1 b).getD 31 0 ^^^ 1) = dg1 1 b := rfl
theorem dg1_len0 {b : List UInt8} : (dg1 0 b).length = 20 := dg1_length
theorem dg1_len1 {b : List UInt8} : (dg1 1 b).length = 32 := dg1_length
theorem dg1_take0 {b : List UInt8} : List.take 20 (dg1 0 b) = dg1 0 b := List.take_of_length_le (by rw [dg1_length]; decide)
theorem dg1_take1 {b : List UInt8} : List.take 32 (dg1 1 b) = dg1 1 b := List.take_of_length_le (by rw [dg1_length]; decide)
def dgb (s : Int) (a : Nat) (b : List UInt8) : List UInt8 := if s / (2 ^ a : Nat) % 2 = 1 then dg1 a b else []
theorem w_draw_Digests (tab : Tab) (gl : Gl) (s : Int) (b : List UInt8) : ac_draw_Digests.wp tab gl (zipF 0 [.t (.int .i64 s), .t (.sl (b.map byteT))]) (zipF 0 []) (resF [] [(4, none)] 0 (fun r o => r = .sl 0 0 2 ∧ o = [.live 1 [.t (bsT (dgb s 0 b)), .t (bsT (dgb s 1 b))] true false])) := by
 have hf1 : s.fdiv 1 = s := Int.fdiv_one s
 have hf2 : s.fdiv 2 = s / 2 := Int.fdiv_eq_ediv_of_nonneg s (by omega)
 have hc0 : s % 2 = 0 ∨ s % 2 = 1 := by omega
 have hc1 : s / 2 % 2 = 0 ∨ s / 2 % 2 = 1 := by omega
 have hz20 : List.replicate 20 (V.t (byteT 0)) = ((List.replicate 20 (0 : UInt8)).map byteT).map V.t := by simp
 have hz32 : List.replicate 32 (V.t (byteT 0)) = ((List.replicate 32 (0 : UInt8)).map byteT).map V.t := by simp
 have ht20 : ∀ m : Nat, List.take m ((b.map byteT).map V.t) = ((b.take m).map byteT).map V.t := fun m => by simp
 have l0 : (dgx 0 b).length = 20 := dgx_length
 have l1 : (dgx 1 b).length = 32 := dgx_length
 have hw0 : T.int .u8 (IntKind.u8.wrap 0) = byteT 0 := rfl
 have hw1 : T.int .u8 (IntKind.u8.wrap 1) = byteT 1 := rfl
 rcases hc0 with c0 | c0 <;> rcases hc1 with c1 | c1
 · have e0 : dgb s 0 b = [] := by unfold dgb; rw [if_neg (by simp [c0])]
   have e1 : dgb s 1 b = [] := by unfold dgb; rw [if_neg (by simp [c1])]
   rw [e0, e1]
   simp (disch := omega) only [go_sem, ↓reduceIte, Nat.reduceAdd, Nat.reduceMul, Nat.reduceLeDiff, Int.reduceLE, ac_draw_Digests]
   refine loop_upto 2 (fun k => match k with | 0 => [(0, .t (.int .i64 s)), (1, .t (.sl (b.map byteT))), (5, .sl 8192 0 2), (6, .t (.int .i64 0))] | 1 => [(0, .t (.int .i64 s)), (1, .t (.sl (b.map byteT))), (5, .sl 8192 0 2), (6, .t (.int .i64 1))] | _ => [(0, .t (.int .i64 s)), (1, .t (.sl (b.map byteT))), (5, .sl 8192 0 2), (6, .t (.int .i64 2))]) (fun k => match k with | 0 => [(8192, .live 1 [.t (bsT []), .t (bsT [])] true false)] | 1 => [(8192, .live 1 [.t (bsT []), .t (bsT [])] true false)] | _ => [(8192, .live 1 [.t (bsT []), .t (bsT [])] true false)]) ?_ (fun k hk2 => ?_)
   · refine Weak.rd id ?_ ?_ rfl
     all_goals simp (disch := omega) only [go_sem, ↓reduceIte, Nat.reduceAdd, Nat.reduceEqDiff, reduceCtorEq, id, List.map_nil]
   · rcases (show k = 0 ∨ k = 1 ∨ k = 2 by omega) with rfl | rfl | rfl
     · simp (disch := omega) only [go_sem, ↓reduceIte, Nat.reduceAdd, Nat.reduceEqDiff, Nat.reduceLT, Int.reduceLT, Int.reduceAdd, reduceCtorEq, Int.reducePow, ac_draw_Digests_L0, c0, c1, hf1, hf2, hz20, hz32, ht20, setRange_map, dgx0, dgx1, dgx0_length, dgx1_length, hw0, hw1, dg10, dg11, List.map_nil]
       refine Weak.rd id ?_ ?_ rfl
       all_goals simp (disch := omega) only [go_sem, ↓reduceIte, Nat.reduceAdd, Nat.reduceEqDiff, reduceCtorEq, id, List.map_nil]
     · simp (disch := omega) only [go_sem, ↓reduceIte, Nat.reduceAdd, Nat.reduceEqDiff, Nat.reduceLT, Int.reduceLT, Int.reduceAdd, reduceCtorEq, Int.reducePow, ac_draw_Digests_L0, c0, c1, hf1, hf2, hz20, hz32, ht20, setRange_map, dgx0, dgx1, dgx0_length, dgx1_length, hw0, hw1, dg10, dg11, List.map_nil]
       refine Weak.rd id ?_ ?_ rfl
       all_goals simp (disch := omega) only [go_sem, ↓reduceIte, Nat.reduceAdd, Nat.reduceEqDiff, reduceCtorEq, id, List.map_nil]
     · simp (disch := omega) only [go_sem, ↓reduceIte, Nat.reduceAdd, Nat.reduceEqDiff, Int.reduceLT, reduceCtorEq, ac_draw_Digests_L0, c0, c1, hf1, hf2, List.map_nil]
 · have e0 : dgb s 0 b = [] := by unfold dgb; rw [if_neg (by simp [c0])]
   have e1 : dgb s 1 b = (dg1 1 b) := by unfold dgb; rw [if_pos (by simp [c1])]
   rw [e0, e1]
   simp (disch := omega) only [go_sem, ↓reduceIte, Nat.reduceAdd, Nat.reduceMul, Nat.reduceLeDiff, Int.reduceLE, ac_draw_Digests]
   refine loop_upto 2 (fun k => match k with | 0 => [(0, .t (.int .i64 s)), (1, .t (.sl (b.map byteT))), (5, .sl 8192 0 2), (6, .t (.int .i64 0))] | 1 => [(0, .t (.int .i64 s)), (1, .t (.sl (b.map byteT))), (5, .sl 8192 0 2), (6, .t (.int .i64 1))] | _ => [(0, .t (.int .i64 s)), (1, .t (.sl (b.map byteT))), (5, .sl 8192 0 2), (6, .t (.int .i64 2))]) (fun k => match k with | 0 => [(8192, .live 1 [.t (bsT []), .t (bsT [])] true false)] | 1 => [(8192, .live 1 [.t (bsT []), .t (bsT [])] true false)] | _ => [(8192, .live 1 [.t (bsT []), .t (bsT (dg1 1 b))] true false)]) ?_ (fun k hk2 => ?_)
   · refine Weak.rd id ?_ ?_ rfl
     all_goals simp (disch := omega) only [go_sem, ↓reduceIte, Nat.reduceAdd, Nat.reduceEqDiff, reduceCtorEq, id, List.map_nil]
   · rcases (show k = 0 ∨ k = 1 ∨ k = 2 by omega) with rfl | rfl | rfl
     · simp (disch := omega) only [go_sem, ↓reduceIte, Nat.reduceAdd, Nat.reduceEqDiff, Nat.reduceLT, Int.reduceLT, Int.reduceAdd, reduceCtorEq, Int.reducePow, ac_draw_Digests_L0, c0, c1, hf1, hf2, hz20, hz32, ht20, setRange_map, dgx0, dgx1, dgx0_length, dgx1_length, hw0, hw1, dg10, dg11, List.map_nil]
       refine Weak.rd id ?_ ?_ rfl
       all_goals simp (disch := omega) only [go_sem, ↓reduceIte, Nat.reduceAdd, Nat.reduceEqDiff, reduceCtorEq, id, List.map_nil]
     · simp (disch := omega) only [go_sem, ↓reduceIte, Nat.reduceAdd, Nat.reduceEqDiff, Nat.reduceLT, Nat.reduceLeDiff, Int.reduceLT, Int.reduceLE, Int.reduceAdd, Int.reduceSub, Int.reduceMul, reduceCtorEq, Int.reducePow, ac_draw_Digests_L0, c0, c1, hf1, hf2, hz20, hz32, ht20, setRange_map, dgx0, dgx1, dgx0_length, dgx1_length, hw0, hw1, dg10, dg11, List.map_nil]
       refine Weak.cv (hv := []) [28720] id ?_ rfl
       simp (disch := omega) only [go_sem, ↓reduceIte, Nat.reduceAdd, Nat.reduceEqDiff, Nat.reduceLeDiff, reduceCtorEq, id, dg1_len0, dg1_len1, dg1_take0, dg1_take1, List.map_nil]
       all_goals rfl
     · simp (disch := omega) only [go_sem, ↓reduceIte, Nat.reduceAdd, Nat.reduceEqDiff, Int.reduceLT, reduceCtorEq, ac_draw_Digests_L0, c0, c1, hf1, hf2, List.map_nil]
 · have e0 : dgb s 0 b = (dg1 0 b) := by unfold dgb; rw [if_pos (by simp [c0])]
   have e1 : dgb s 1 b = [] := by unfold dgb; rw [if_neg (by simp [c1])]
   rw [e0, e1]
   simp (disch := omega) only [go_sem, ↓reduceIte, Nat.reduceAdd, Nat.reduceMul, Nat.reduceLeDiff, Int.reduceLE, ac_draw_Digests]
   refine loop_upto 2 (fun k => match k with | 0 => [(0, .t (.int .i64 s)), (1, .t (.sl (b.map byteT))), (5, .sl 8192 0 2), (6, .t (.int .i64 0))] | 1 => [(0, .t (.int .i64 s)), (1, .t (.sl (b.map byteT))), (5, .sl 8192 0 2), (6, .t (.int .i64 1))] | _ => [(0, .t (.int .i64 s)), (1, .t (.sl (b.map byteT))), (5, .sl 8192 0 2), (6, .t (.int .i64 2))]) (fun k => match k with | 0 => [(8192, .live 1 [.t (bsT []), .t (bsT [])] true false)] | 1 => [(8192, .live 1 [.t (bsT (dg1 0 b)), .t (bsT [])] true false)] | _ => [(8192, .live 1 [.t (bsT (dg1 0 b)), .t (bsT [])] true false)]) ?_ (fun k hk2 => ?_)
   · refine Weak.rd id ?_ ?_ rfl
     all_goals simp (disch := omega) only [go_sem, ↓reduceIte, Nat.reduceAdd, Nat.reduceEqDiff, reduceCtorEq, id, List.map_nil]
   · rcases (show k = 0 ∨ k = 1 ∨ k = 2 by omega) with rfl | rfl | rfl
     · simp (disch := omega) only [go_sem, ↓reduceIte, Nat.reduceAdd, Nat.reduceEqDiff, Nat.reduceLT, Nat.reduceLeDiff, Int.reduceLT, Int.reduceLE, Int.reduceAdd, Int.reduceSub, Int.reduceMul, reduceCtorEq, Int.reducePow, ac_draw_Digests_L0, c0, c1, hf1, hf2, hz20, hz32, ht20, setRange_map, dgx0, dgx1, dgx0_length, dgx1_length, hw0, hw1, dg10, dg11, List.map_nil]
       refine Weak.cv (hv := []) [28720] id ?_ rfl
       simp (disch := omega) only [go_sem, ↓reduceIte, Nat.reduceAdd, Nat.reduceEqDiff, Nat.reduceLeDiff, reduceCtorEq, id, dg1_len0, dg1_len1, dg1_take0, dg1_take1, List.map_nil]
       all_goals rfl
     · simp (disch := omega) only [go_sem, ↓reduceIte, Nat.reduceAdd, Nat.reduceEqDiff, Nat.reduceLT, Int.reduceLT, Int.reduceAdd, reduceCtorEq, Int.reducePow, ac_draw_Digests_L0, c0, c1, hf1, hf2, hz20, hz32, ht20, setRange_map, dgx0, dgx1, dgx0_length, dgx1_length, hw0, hw1, dg10, dg11, List.map_nil]
       refine Weak.rd id ?_ ?_ rfl
       all_goals simp (disch := omega) only [go_sem, ↓reduceIte, Nat.reduceAdd, Nat.reduceEqDiff, reduceCtorEq, id, List.map_nil]
     · simp (disch := omega) only [go_sem, ↓reduceIte, Nat.reduceAdd, Nat.reduceEqDiff, Int.reduceLT, reduceCtorEq, ac_draw_Digests_L0, c0, c1, hf1, hf2, List.map_nil]
 · have e0 : dgb s 0 b = (dg1 0 b) := by unfold dgb; rw [if_pos (by simp [c0])]
   have e1 : dgb s 1 b = (dg1 1 b) := by unfold dgb; rw [if_pos (by simp [c1])]
   rw [e0, e1]
   simp (disch := omega) only [go_sem, ↓reduceIte, Nat.reduceAdd, Nat.reduceMul, Nat.reduceLeDiff, Int.reduceLE, ac_draw_Digests]
   refine loop_upto 2 (fun k => match k with | 0 => [(0, .t (.int .i64 s)), (1, .t (.sl (b.map byteT))), (5, .sl 8192 0 2), (6, .t (.int .i64 0))] | 1 => [(0, .t (.int .i64 s)), (1, .t (.sl (b.map byteT))), (5, .sl 8192 0 2), (6, .t (.int .i64 1))] | _ => [(0, .t (.int .i64 s)), (1, .t (.sl (b.map byteT))), (5, .sl 8192 0 2), (6, .t (.int .i64 2))]) (fun k => match k with | 0 => [(8192, .live 1 [.t (bsT []), .t (bsT [])] true false)] | 1 => [(8192, .live 1 [.t (bsT (dg1 0 b)), .t (bsT [])] true false)] | _ => [(8192, .live 1 [.t (bsT (dg1 0 b)), .t (bsT (dg1 1 b))] true false)]) ?_ (fun k hk2 => ?_)
   · refine Weak.rd id ?_ ?_ rfl
     all_goals simp (disch := omega) only [go_sem, ↓reduceIte, Nat.reduceAdd, Nat.reduceEqDiff, reduceCtorEq, id, List.map_nil]
   · rcases (show k = 0 ∨ k = 1 ∨ k = 2 by omega) with rfl | rfl | rfl
     · simp (disch := omega) only [go_sem, ↓reduceIte, Nat.reduceAdd, Nat.reduceEqDiff, Nat.reduceLT, Nat.reduceLeDiff, Int.reduceLT, Int.reduceLE, Int.reduceAdd, Int.reduceSub, Int.reduceMul, reduceCtorEq, Int.reducePow, ac_draw_Digests_L0, c0, c1, hf1, hf2, hz20, hz32, ht20, setRange_map, dgx0, dgx1, dgx0_length, dgx1_length, hw0, hw1, dg10, dg11, List.map_nil]
       refine Weak.cv (hv := []) [28720] id ?_ rfl
       simp (disch := omega) only [go_sem, ↓reduceIte, Nat.reduceAdd, Nat.reduceEqDiff, Nat.reduceLeDiff, reduceCtorEq, id, dg1_len0, dg1_len1, dg1_take0, dg1_take1, List.map_nil]
       all_goals rfl
     · simp (disch := omega) only [go_sem, ↓reduceIte, Nat.reduceAdd, Nat.reduceEqDiff, Nat.reduceLT, Nat.reduceLeDiff, Int.reduceLT, Int.reduceLE, Int.reduceAdd, Int.reduceSub, Int.reduceMul, reduceCtorEq, Int.reducePow, ac_draw_Digests_L0, c0, c1, hf1, hf2, hz20, hz32, ht20, setRange_map, dgx0, dgx1, dgx0_length, dgx1_length, hw0, hw1, dg10, dg11, List.map_nil]
       refine Weak.cv (hv := []) [28720] id ?_ rfl
       simp (disch := omega) only [go_sem, ↓reduceIte, Nat.reduceAdd, Nat.reduceEqDiff, Nat.reduceLeDiff, reduceCtorEq, id, dg1_len0, dg1_len1, dg1_take0, dg1_take1, List.map_nil]
       all_goals rfl
     · simp (disch := omega) only [go_sem, ↓reduceIte, Nat.reduceAdd, Nat.reduceEqDiff, Int.reduceLT, reduceCtorEq, ac_draw_Digests_L0, c0, c1, hf1, hf2, List.map_nil]
def ct_ddg : Ct where
 α := Int × List UInt8
 as x := [.t (.int .i64 x.1), .t (.sl (x.2.map byteT))]
 ins _ := []
 pre _ := True
 r _ := .sl 0 0 2
 outs x := [.live 1 [.t (bsT (dgb x.1 0 x.2)), .t (bsT (dgb x.1 1 x.2))] true false]
 inj := by
   rintro ⟨s, b⟩ ⟨t, c⟩ h _
   simp only [List.cons.injEq, V.t.injEq, T.int.injEq, T.sl.injEq, true_and, and_true, mapB_inj] at h
   obtain ⟨rfl, rfl⟩ := h
   exact ⟨rfl, rfl⟩
def dgB (s : Int) (b : List UInt8) : List (List UInt8) := [dgb s 0 b, dgb s 1 b]
def extP (x : List Bank × Int) (l i : Int) (ds : List (List UInt8)) : List Bank × Int := if extEr x.1 l i ds = 0 then (extBk x.1 i.toNat ds, x.2 + 1) else x
def Ans (x : List Bank × Int) (v : V) (y : List Bank × Int) : Prop := ∃ (bk : List Bank) (u e : Int), v = .tup [.t (.agg [.sl (bk.map bankT), .int .i64 u]), .t (.int .i64 e)] ∧ ((e = 0 ∧ y = (bk, u)) ∨ (e ≠ 0 ∧ y = x))
def RS (n : Nat) (x : List Bank × Int) : Prop := RV x.1 ∧ 0 ≤ x.2 ∧ x.2 ≤ n
theorem RS.up {n m : Nat} {x : List Bank × Int} (h : RS n x) (hm : n ≤ m) : RS m x := ⟨h.1, h.2.1, by have := h.2.2; omega⟩
theorem RS.ext {n : Nat} {x : List Bank × Int} (h : RS n x) (l i : Int) (ds : List (List UInt8)) : RS (n + 1) (extP x l i ds) := by
 unfold extP
 split
 · exact ⟨h.1.ext _ _, by have := h.2.1; simp only; omega, by have := h.2.2; simp only; omega⟩
 · exact h.up (by omega)
theorem same_refl {a : List UInt8} (h : a.length < 1000000000) : ct_same.fs [.t (.sl (a.map byteT)), .t (.sl (a.map byteT))] [] = some (.t (.bool true), []) := by
 rw [same_eq ⟨h, h⟩, decide_eq_true rfl]
theorem Ans.rv {x : List Bank × Int} {v : V} {y : List Bank × Int} (h : Ans x v y) (hv : ∃ bk' u' e, v = .tup [.t (regT bk' u'), .t (.int .i64 e)] ∧ RV bk' ∧ (e = 0 → u' = x.2 + 1)) : ∃ bk' u' e, v = .tup [.t (.agg [.sl (bk'.map bankT), .int .i64 u']), .t (.int .i64 e)] ∧ RM bk' := by
 obtain ⟨bk', u', e, h1, h2, _⟩ := hv
 exact ⟨bk', u', e, h1, h2.rm⟩
theorem RK.cases {bk : List Bank} (h : RK bk) : bk = [] ∨ ∃ b0 b1, bk = [b0, b1] ∧ bkOk b0 ∧ bkOk b1 := by
 cases h with
 | nil => exact .inl rfl
 | two b0 b1 h0 h1 => exact .inr ⟨b0, b1, rfl, h0, h1⟩
theorem extBk_two {b0 b1 : Bank} {i : Nat} {ds : List (List UInt8)} : extBk [b0, b1] i ds = [ext1 0 b0 i (ds.getD 0 []), ext1 1 b1 i (ds.getD 1 [])] := rfl
def ct_uint : Ct where
 α := List UInt8 × Nat × Int
 as x := [.t (.sl (x.1.map byteT)), .t (.int .i64 x.2.1), .t (.int .i64 x.2.2)]
 ins _ := []
 pre x := x.1.length < 1000000000 ∧ 1 ≤ x.2.1 ∧ x.2.1 ≤ 8
 r x := .sl 0 0 (x.1.length + x.2.1)
 outs x := [.live 1 (((x.1 ++ beI x.2.1 x.2.2 x.2.1).map byteT).map V.t) true false]
 inj := by
   rintro ⟨a, s, n⟩ ⟨c, t, m⟩ h _
   simp only [List.cons.injEq, V.t.injEq, T.sl.injEq, T.int.injEq, true_and, and_true, mapB_inj, Int.natCast_inj] at h
   obtain ⟨rfl, rfl, rfl⟩ := h
   exact ⟨rfl, rfl⟩
theorem uint2 {b : List UInt8} {n : Int} (hb : b.length < 1000000000) : ct_uint.fs [.t (.sl (b.map byteT)), .t (.int .i64 2), .t (.int .i64 n)] [] = some (.sl 0 0 (b.length + 2), [.live 1 (((b ++ beI 2 n 2).map byteT).map V.t) true false]) := ct_uint.eq (b, 2, n) ⟨hb, by show 1 ≤ 2; omega, by show 2 ≤ 8; omega⟩
theorem beI_len {s k : Nat} {n : Int} : (beI s n k).length = k := by simp [beI]
def selL (bk : List Bank) (a : Nat) (s : Int) : Nat → List UInt8
 | 0 => []
 | i + 1 => if s / 2 ^ i % 2 = 1 then selL bk a s i ++ valL bk a i else selL bk a s i
theorem be32_len {n : Nat} : (be32 n).length = 4 := rfl
theorem selL_z {bk : List Bank} {a : Nat} {s : Int} : selL bk a s 0 = [] := rfl
theorem selL_pos {bk : List Bank} {a i : Nat} {s : Int} (h : s / 2 ^ i % 2 = 1) : selL bk a s (i + 1) = selL bk a s i ++ valL bk a i := if_pos h
theorem selL_neg {bk : List Bank} {a i : Nat} {s : Int} (h : ¬ s / 2 ^ i % 2 = 1) : selL bk a s (i + 1) = selL bk a s i := if_neg h
def PD (A B : Prop) (k : Nat) : Prop := (1 ≤ k → A) ∧ (2 ≤ k → B)
def badS (s : Int) : Prop := s < 0 ∨ 65535 < s
instance {s : Int} : Decidable (badS s) := inferInstanceAs (Decidable (_ ∨ _))
def headS (s0 s1 : Int) : List UInt8 := beI 2 s0 2 ++ beI 2 s1 2
def valS (bk : List Bank) (s0 s1 : Int) : List UInt8 := selL bk 0 s0 16 ++ selL bk 1 s1 16
def digE (bk : List Bank) (s0 s1 : Int) : Int := if badS s0 ∨ badS s1 then 1 else if (s0 ≠ 0 ∧ onB bk 0 = false) ∨ (s1 ≠ 0 ∧ onB bk 1 = false) then 27 else 0
def digR (bk : List Bank) (s0 s1 : Int) : V := if digE bk s0 s1 = 0 then .tup [.sl 0 0 32, .t (.int .i64 0)] else .tup [.nil, .t (.int .i64 (digE bk s0 s1))]
def digO (bk : List Bank) (s0 s1 : Int) : List Ob := if digE bk s0 s1 = 0 then [.live 1 (((hashL 5 [headS s0 s1, valS bk s0 s1]).map byteT).map V.t) true false] else []
theorem selL_le {bk : List Bank} (h : RV bk) (a : Nat) (s : Int) : ∀ i, (selL bk a s i).length ≤ 64 * i
 | 0 => by simp [selL]
 | i + 1 => by
   have ih := selL_le h a s i
   have hv : (valL bk a i).length ≤ 64 := by
     unfold valL
     rcases h.cases with rfl | ⟨b0, b1, rfl, _, _, m0, m1⟩
     · simp
     · match a with
       | 0 => exact getD_le m0
       | 1 => exact getD_le m1
       | a + 2 => simp
   unfold selL
   split
   · rw [List.length_append]; omega
   · omega
def ct_hash : Ct where
 α := Nat × List (List UInt8)
 as x := [.t (.int .i64 x.1), .t (.sl (x.2.map bsT))]
 ins _ := []
 pre x := x.1 < 256 ∧ (frameL x.1 x.2).length < 1000000000
 r _ := .sl 0 0 32
 outs x := [.live 1 (((hashL x.1 x.2).map byteT).map V.t) true false]
 inj := by
   rintro ⟨a, b⟩ ⟨c, d⟩ h _
   simp [mapBs_inj, Int.natCast_inj] at h
   obtain ⟨rfl, rfl⟩ := h
   exact ⟨rfl, rfl⟩
theorem hash_eq2 {x y : List UInt8} (h : (frameL 5 [x, y]).length < 1000000000) : ct_hash.fs [.t (.int .i64 5), .t (.sl [.sl (x.map byteT), .sl (y.map byteT)])] [] = some (.sl 0 0 32, [.live 1 (((hashL 5 [x, y]).map byteT).map V.t) true false]) := ct_hash.eq (5, [x, y]) ⟨by show 5 < 256; omega, h⟩
theorem w_registers_Digest (tab : Tab) (gl : Gl) (n1 n2 n3 : Nat) (h1 : tab.look n1 = some ct_uint.fs) (h2 : tab.look n2 = some ct_on.fs) (h3 : tab.look n3 = some ct_hash.fs) (bk : List Bank) (u s0 s1 : Int) (hv : RV bk) :
   (ac_registers_Digest n1 n2 n3).wp tab gl (zipF 0 [.t (regT bk u), .t (.agg [.int .i64 s0, .int .i64 s1])]) (zipF 0 []) (resF [] [(4, none), (5, none)] 0 (fun r o => r = digR bk s0 s1 ∧ o = digO bk s0 s1)) := by
 simp (disch := omega) only [go_sem, ↓reduceIte, Nat.reduceAdd, Nat.reduceEqDiff, Nat.reduceLeDiff, reduceCtorEq, ac_registers_Digest]
 have t2 : List.take 2 (beI 2 s0 2) = beI 2 s0 2 := List.take_of_length_le (by rw [beI_len]; exact Nat.le_refl _)
 have t4 : List.take 4 (beI 2 s0 2 ++ beI 2 s1 2) = beI 2 s0 2 ++ beI 2 s1 2 := List.take_of_length_le (by rw [List.length_append, beI_len, beI_len]; exact Nat.le_refl _)
 by_cases b0 : badS s0
 · have hE : digE bk s0 s1 = 1 := by unfold digE; rw [if_pos (.inl b0)]
   rw [digR, digO, hE]
   unfold badS at b0
   refine loop_fuel 1 ?_
   by_cases c0 : s0 < 0
   · simp (disch := omega) only [go_sem, ↓reduceIte, Nat.reduceAdd, Nat.reduceEqDiff, Int.reduceEq, Int.reduceLT, Int.reduceLE, loopN_succ, ac_registers_Digest_L0, c0]
   · simp (disch := omega) only [go_sem, ↓reduceIte, Nat.reduceAdd, Nat.reduceEqDiff, Int.reduceEq, Int.reduceLT, Int.reduceLE, loopN_succ, ac_registers_Digest_L0, c0]
 have hb0 : ¬ s0 < 0 ∧ ¬ 65535 < s0 := by unfold badS at b0; omega
 obtain ⟨c0, d0⟩ := hb0
 have hm := hv.rm
 have hu := uint2 (b := []) (n := s0) (by decide)
 simp only [List.map_nil, List.length_nil, List.nil_append] at hu
 by_cases b1 : badS s1
 · have hE : digE bk s0 s1 = 1 := by unfold digE; rw [if_pos (.inr b1)]
   rw [digR, digO, hE]
   unfold badS at b1
   refine loop_fuel 2 ?_
   by_cases c1 : s1 < 0
   · simp (disch := omega) only [go_sem, ↓reduceIte, Nat.reduceAdd, Nat.reduceEqDiff, Nat.reduceLeDiff, Int.reduceEq, Int.reduceLT, Int.reduceLE, Int.reduceAdd, loopN_succ, ac_registers_Digest_L0, c0, d0, c1, h1, hu, List.map_nil]
   · simp (disch := omega) only [go_sem, ↓reduceIte, Nat.reduceAdd, Nat.reduceEqDiff, Nat.reduceLeDiff, Int.reduceEq, Int.reduceLT, Int.reduceLE, Int.reduceAdd, loopN_succ, ac_registers_Digest_L0, c0, d0, c1, h1, hu, List.map_nil]
 have hb1 : ¬ s1 < 0 ∧ ¬ 65535 < s1 := by unfold badS at b1; omega
 obtain ⟨c1, d1⟩ := hb1
 refine loop_upto 2 (fun k => match k with
   | 0 => [(2, .ref 4096 0 0), (3, .ref 4112 0 0), (6, .t (.sl (([] : List UInt8).map byteT))), (7, .nil), (13, .t (.agg [.int .i64 s0, .int .i64 s1])), (14, .t (.int .i64 0))]
   | 1 => [(2, .ref 4096 0 0), (3, .ref 4112 0 0), (6, .t (.sl ((beI 2 s0 2).map byteT))), (7, .nil), (13, .t (.agg [.int .i64 s0, .int .i64 s1])), (14, .t (.int .i64 1))]
   | _ => [(2, .ref 4096 0 0), (3, .ref 4112 0 0), (6, .t (.sl ((headS s0 s1).map byteT))), (7, .nil), (13, .t (.agg [.int .i64 s0, .int .i64 s1])), (14, .t (.int .i64 2))])
   (fun _ => [(4112, .live 1 [.t (.int .i64 s0), .t (.int .i64 s1)] true true), (4096, .live 2 [.t (regT bk u)] true true)]) ?_ (fun k hk => ?_)
 · refine Weak.rd id ?_ ?_ rfl
   all_goals simp (disch := omega) only [go_sem, ↓reduceIte, Nat.reduceEqDiff, Nat.reduceBEq, id, List.map_nil]
 · rcases (show k = 0 ∨ k = 1 ∨ k = 2 by omega) with rfl | rfl | rfl
   · simp (disch := omega) only [go_sem, ↓reduceIte, Nat.reduceAdd, Nat.reduceEqDiff, Nat.reduceLT, Nat.reduceLeDiff, Int.reduceLT, Int.reduceLE, Int.reduceAdd, ac_registers_Digest_L0, c0, d0, h1, hu, List.map_nil]
     refine Weak.cv (hv := []) [32800] id ?_ rfl
     simp (disch := omega) only [go_sem, ↓reduceIte, Nat.reduceAdd, Nat.reduceEqDiff, Nat.reduceLeDiff, Nat.reduceBEq, id, beI_len, t2]
     rfl
   · have hu := uint2 (b := beI 2 s0 2) (n := s1) (by rw [beI_len]; omega)
     rw [beI_len] at hu
     simp (disch := omega) only [go_sem, ↓reduceIte, Nat.reduceAdd, Nat.reduceEqDiff, Nat.reduceLT, Nat.reduceLeDiff, Int.reduceLT, Int.reduceLE, Int.reduceAdd, ac_registers_Digest_L0, c1, d1, h1, hu]
     refine Weak.cv (hv := []) [32800] id ?_ rfl
     simp (disch := omega) only [go_sem, ↓reduceIte, Nat.reduceAdd, Nat.reduceEqDiff, Nat.reduceLeDiff, Nat.reduceBEq, id, beI_len, headS, t4]
     rfl
   · simp (disch := omega) only [go_sem, ↓reduceIte, Nat.reduceAdd, Nat.reduceEqDiff, Nat.reduceLeDiff, Int.reduceLT, ac_registers_Digest_L0]
     refine loop_uptoP 2 (PD (s0 = 0 ∨ onB bk 0 = true) (s1 = 0 ∨ onB bk 1 = true)) (fun k => match k with | 0 => [(2, .ref 4096 0 0), (6, .t (.sl ((headS s0 s1).map byteT))), (7, .sl 9100 0 (List.length ([] : List UInt8))), (27, .t (.agg [.int .i64 s0, .int .i64 s1])), (28, .t (.int .i64 0))] | 1 => [(2, .ref 4096 0 0), (6, .t (.sl ((headS s0 s1).map byteT))), (7, .sl 9100 0 (List.length (selL bk 0 s0 16))), (27, .t (.agg [.int .i64 s0, .int .i64 s1])), (28, .t (.int .i64 1))] | _ => [(2, .ref 4096 0 0), (6, .t (.sl ((headS s0 s1).map byteT))), (7, .sl 9100 0 (List.length (selL bk 0 s0 16 ++ selL bk 1 s1 16))), (27, .t (.agg [.int .i64 s0, .int .i64 s1])), (28, .t (.int .i64 2))]) (fun k => match k with | 0 => [(9100, .live 1 ((([] : List UInt8).map byteT).map V.t) true false), (4096, .live 2 [.t (regT bk u)] true true)] | 1 => [(9100, .live 1 (((selL bk 0 s0 16).map byteT).map V.t) true false), (4096, .live 2 [.t (regT bk u)] true true)] | _ => [(9100, .live 1 (((selL bk 0 s0 16 ++ selL bk 1 s1 16).map byteT).map V.t) true false), (4096, .live 2 [.t (regT bk u)] true true)]) ⟨fun h => absurd h (by omega), fun h => absurd h (by omega)⟩ ?_ (fun k hk hP => ?_)
     · refine Weak.cv0 (hv := [(9100, .live 1 [] true false)]) (ho := [(4096, .live 2 [.t (regT bk u)] true true)]) id ?_ ?_ rfl rfl
       all_goals simp (disch := omega) only [go_sem, ↓reduceIte, Nat.reduceEqDiff, id, List.map_cons, List.map_nil, List.length_nil]
     · rcases (show k = 0 ∨ k = 1 ∨ k = 2 by omega) with rfl | rfl | rfl
       · by_cases z : s0 = 0
         · have zz : (s0 == 0) = true := by simpa using z
           simp (disch := omega) only [go_sem, ↓reduceIte, Nat.reduceAdd, Nat.reduceEqDiff, Int.reduceLT, Int.reduceLE, ac_registers_Digest_L1, zz]
           refine loop_upto 16 (fun i => [(2, .ref 4096 0 0), (6, .t (.sl ((headS s0 s1).map byteT))), (7, .sl 9100 0 (List.length (selL bk 0 s0 i))), (10, .t (.int .i64 0)), (11, .t (.int .i64 s0)), (27, .t (.agg [.int .i64 s0, .int .i64 s1])), (28, .t (.int .i64 0)), (40, .t (.int .i64 (i : Nat)))]) (fun i => [(9100, .live 1 (((selL bk 0 s0 i).map byteT).map V.t) true false), (4096, .live 2 [.t (regT bk u)] true true)]) ?_ (fun i hi => ?_)
           · refine Weak.rd id ?_ ?_ rfl
             all_goals simp (disch := omega) only [go_sem, ↓reduceIte, Nat.reduceAdd, Nat.reduceEqDiff, Nat.reduceBEq, id, selL_z, List.append_nil]
           · have l0 := selL_le hv 0 s0 16
             have l1 := selL_le hv 0 s0 i
             by_cases hlt : i < 16
             · have hsh : s0.fdiv (2 ^ i) = s0 / 2 ^ i := Int.fdiv_eq_ediv_of_nonneg _ (Int.le_of_lt (Int.pow_pos (by decide)))
               have hb : ¬ s0 / 2 ^ i % 2 = 1 := by rw [z]; simp
               simp (disch := omega) only [go_sem, ↓reduceIte, Nat.reduceAdd, Nat.reduceEqDiff, ac_registers_Digest_L2, hsh, hb]
               refine ⟨hlt, Weak.rd id ?_ ?_ rfl⟩
               all_goals simp (disch := omega) only [go_sem, ↓reduceIte, Nat.reduceAdd, Nat.reduceEqDiff, Nat.reduceBEq, id, selL_neg (bk := bk) (a := 0) hb]
             · have e : i = 16 := by omega
               subst e
               simp (disch := omega) only [go_sem, ↓reduceIte, Nat.reduceAdd, Nat.reduceEqDiff, Nat.reduceLT, Int.reduceLT, Int.reduceAdd, ac_registers_Digest_L2]
               refine ⟨⟨fun _ => .inl z, fun h => absurd h (by omega)⟩, Weak.rd id ?_ ?_ rfl⟩
               all_goals simp (disch := omega) only [go_sem, ↓reduceIte, Nat.reduceAdd, Nat.reduceEqDiff, Nat.reduceBEq, id]
         · have zz : (s0 == 0) = false := by simpa using z
           have c0 := on_eq (u := u) (a := 0) hv.1 (by omega)
           rw [show ((0 : Nat) : Int) = 0 from rfl] at c0
           cases ho : onB bk 0
           · rw [ho] at c0
             have hE : digE bk s0 s1 = 27 := by
               unfold digE
               rw [if_neg (by rintro (h | h); exact b0 h; exact b1 h), if_pos (.inl ⟨z, ho⟩)]
             rw [digR, digO, hE]
             simp (disch := omega) only [go_sem, ↓reduceIte, Nat.reduceAdd, Nat.reduceEqDiff, Nat.reduceLeDiff, Int.reduceEq, Int.reduceLT, Int.reduceLE, ac_registers_Digest_L1, zz, h2, c0]
           · rw [ho] at c0
             have hbl := hv.1.len ho
             have hbn : List.length (bk.getD 0 []) = 16 := by simpa [onB] using ho
             simp (disch := omega) only [go_sem, ↓reduceIte, Nat.reduceAdd, Nat.reduceEqDiff, Nat.reduceLeDiff, Int.reduceLT, Int.reduceLE, ac_registers_Digest_L1, zz, h2, c0]
             refine loop_upto 16 (fun i => [(2, .ref 4096 0 0), (6, .t (.sl ((headS s0 s1).map byteT))), (7, .sl 9100 0 (List.length (selL bk 0 s0 i))), (10, .t (.int .i64 0)), (11, .t (.int .i64 s0)), (27, .t (.agg [.int .i64 s0, .int .i64 s1])), (28, .t (.int .i64 0)), (40, .t (.int .i64 (i : Nat)))]) (fun i => [(9100, .live 1 (((selL bk 0 s0 i).map byteT).map V.t) true false), (4096, .live 2 [.t (regT bk u)] true true)]) ?_ (fun i hi => ?_)
             · refine Weak.rd id ?_ ?_ rfl
               all_goals simp (disch := omega) only [go_sem, ↓reduceIte, Nat.reduceAdd, Nat.reduceEqDiff, Nat.reduceBEq, id, selL_z, List.append_nil]
             · have l0 := selL_le hv 0 s0 16
               have l1 := selL_le hv 0 s0 i
               by_cases hlt : i < 16
               · have hsh : s0.fdiv (2 ^ i) = s0 / 2 ^ i := Int.fdiv_eq_ediv_of_nonneg _ (Int.le_of_lt (Int.pow_pos (by decide)))
                 by_cases hb : s0 / 2 ^ i % 2 = 1
                 · have hvl := hm.val 0 i
                   have hx : (bk.getD 0 []).getD i [] = valL bk 0 i := rfl
                   simp (disch := omega) only [go_sem, ↓reduceIte, Nat.reduceAdd, Nat.reduceEqDiff, Nat.reduceLeDiff, Int.reduceLE, ac_registers_Digest_L2, hsh, hb, hx]
                   refine ⟨hlt, Weak.rd (fun j => if j = 9100 then 77968 else j) ?_ ?_ rfl⟩
                   all_goals simp (disch := omega) only [go_sem, ↓reduceIte, Nat.reduceAdd, Nat.reduceEqDiff, Nat.reduceBEq, selL_pos (bk := bk) (a := 0) hb, List.append_assoc]
                   all_goals try omega
                 · simp (disch := omega) only [go_sem, ↓reduceIte, Nat.reduceAdd, Nat.reduceEqDiff, ac_registers_Digest_L2, hsh, hb]
                   refine ⟨hlt, Weak.rd id ?_ ?_ rfl⟩
                   all_goals simp (disch := omega) only [go_sem, ↓reduceIte, Nat.reduceAdd, Nat.reduceEqDiff, Nat.reduceBEq, id, selL_neg (bk := bk) (a := 0) hb]
               · have e : i = 16 := by omega
                 subst e
                 simp (disch := omega) only [go_sem, ↓reduceIte, Nat.reduceAdd, Nat.reduceEqDiff, Nat.reduceLT, Int.reduceLT, Int.reduceAdd, ac_registers_Digest_L2]
                 refine ⟨⟨fun _ => (by first | exact .inr ho | trivial), fun h => absurd h (by omega)⟩, Weak.rd id ?_ ?_ rfl⟩
                 all_goals simp (disch := omega) only [go_sem, ↓reduceIte, Nat.reduceAdd, Nat.reduceEqDiff, Nat.reduceBEq, id]
       · by_cases z : s1 = 0
         · have zz : (s1 == 0) = true := by simpa using z
           simp (disch := omega) only [go_sem, ↓reduceIte, Nat.reduceAdd, Nat.reduceEqDiff, Int.reduceLT, Int.reduceLE, ac_registers_Digest_L1, zz]
           refine loop_upto 16 (fun i => [(2, .ref 4096 0 0), (6, .t (.sl ((headS s0 s1).map byteT))), (7, .sl 9100 0 (List.length (selL bk 0 s0 16 ++ selL bk 1 s1 i))), (10, .t (.int .i64 1)), (11, .t (.int .i64 s1)), (27, .t (.agg [.int .i64 s0, .int .i64 s1])), (28, .t (.int .i64 1)), (40, .t (.int .i64 (i : Nat)))]) (fun i => [(9100, .live 1 (((selL bk 0 s0 16 ++ selL bk 1 s1 i).map byteT).map V.t) true false), (4096, .live 2 [.t (regT bk u)] true true)]) ?_ (fun i hi => ?_)
           · refine Weak.rd id ?_ ?_ rfl
             all_goals simp (disch := omega) only [go_sem, ↓reduceIte, Nat.reduceAdd, Nat.reduceEqDiff, Nat.reduceBEq, id, selL_z, List.append_nil]
           · have l0 := selL_le hv 0 s0 16
             have l1 := selL_le hv 1 s1 i
             by_cases hlt : i < 16
             · have hsh : s1.fdiv (2 ^ i) = s1 / 2 ^ i := Int.fdiv_eq_ediv_of_nonneg _ (Int.le_of_lt (Int.pow_pos (by decide)))
               have hb : ¬ s1 / 2 ^ i % 2 = 1 := by rw [z]; simp
               simp (disch := omega) only [go_sem, ↓reduceIte, Nat.reduceAdd, Nat.reduceEqDiff, ac_registers_Digest_L2, hsh, hb]
               refine ⟨hlt, Weak.rd id ?_ ?_ rfl⟩
               all_goals simp (disch := omega) only [go_sem, ↓reduceIte, Nat.reduceAdd, Nat.reduceEqDiff, Nat.reduceBEq, id, selL_neg (bk := bk) (a := 1) hb]
             · have e : i = 16 := by omega
               subst e
               simp (disch := omega) only [go_sem, ↓reduceIte, Nat.reduceAdd, Nat.reduceEqDiff, Nat.reduceLT, Int.reduceLT, Int.reduceAdd, ac_registers_Digest_L2]
               refine ⟨⟨fun _ => hP.1 (by omega), fun _ => .inl z⟩, Weak.rd id ?_ ?_ rfl⟩
               all_goals simp (disch := omega) only [go_sem, ↓reduceIte, Nat.reduceAdd, Nat.reduceEqDiff, Nat.reduceBEq, id]
         · have zz : (s1 == 0) = false := by simpa using z
           have c1 := on_eq (u := u) (a := 1) hv.1 (by omega)
           rw [show ((1 : Nat) : Int) = 1 from rfl] at c1
           cases ho : onB bk 1
           · rw [ho] at c1
             have hE : digE bk s0 s1 = 27 := by
               unfold digE
               rw [if_neg (by rintro (h | h); exact b0 h; exact b1 h), if_pos (.inr ⟨z, ho⟩)]
             rw [digR, digO, hE]
             simp (disch := omega) only [go_sem, ↓reduceIte, Nat.reduceAdd, Nat.reduceEqDiff, Nat.reduceLeDiff, Int.reduceEq, Int.reduceLT, Int.reduceLE, ac_registers_Digest_L1, zz, h2, c1]
           · rw [ho] at c1
             have hbl := hv.1.len ho
             have hbn : List.length (bk.getD 1 []) = 16 := by simpa [onB] using ho
             simp (disch := omega) only [go_sem, ↓reduceIte, Nat.reduceAdd, Nat.reduceEqDiff, Nat.reduceLeDiff, Int.reduceLT, Int.reduceLE, ac_registers_Digest_L1, zz, h2, c1]
             refine loop_upto 16 (fun i => [(2, .ref 4096 0 0), (6, .t (.sl ((headS s0 s1).map byteT))), (7, .sl 9100 0 (List.length (selL bk 0 s0 16 ++ selL bk 1 s1 i))), (10, .t (.int .i64 1)), (11, .t (.int .i64 s1)), (27, .t (.agg [.int .i64 s0, .int .i64 s1])), (28, .t (.int .i64 1)), (40, .t (.int .i64 (i : Nat)))]) (fun i => [(9100, .live 1 (((selL bk 0 s0 16 ++ selL bk 1 s1 i).map byteT).map V.t) true false), (4096, .live 2 [.t (regT bk u)] true true)]) ?_ (fun i hi => ?_)
             · refine Weak.rd id ?_ ?_ rfl
               all_goals simp (disch := omega) only [go_sem, ↓reduceIte, Nat.reduceAdd, Nat.reduceEqDiff, Nat.reduceBEq, id, selL_z, List.append_nil]
             · have l0 := selL_le hv 0 s0 16
               have l1 := selL_le hv 1 s1 i
               by_cases hlt : i < 16
               · have hsh : s1.fdiv (2 ^ i) = s1 / 2 ^ i := Int.fdiv_eq_ediv_of_nonneg _ (Int.le_of_lt (Int.pow_pos (by decide)))
                 by_cases hb : s1 / 2 ^ i % 2 = 1
                 · have hvl := hm.val 1 i
                   have hx : (bk.getD 1 []).getD i [] = valL bk 1 i := rfl
                   simp (disch := omega) only [go_sem, ↓reduceIte, Nat.reduceAdd, Nat.reduceEqDiff, Nat.reduceLeDiff, Int.reduceLE, ac_registers_Digest_L2, hsh, hb, hx]
                   refine ⟨hlt, Weak.rd (fun j => if j = 9100 then 77968 else j) ?_ ?_ rfl⟩
                   all_goals simp (disch := omega) only [go_sem, ↓reduceIte, Nat.reduceAdd, Nat.reduceEqDiff, Nat.reduceBEq, selL_pos (bk := bk) (a := 1) hb, List.append_assoc]
                   all_goals try omega
                 · simp (disch := omega) only [go_sem, ↓reduceIte, Nat.reduceAdd, Nat.reduceEqDiff, ac_registers_Digest_L2, hsh, hb]
                   refine ⟨hlt, Weak.rd id ?_ ?_ rfl⟩
                   all_goals simp (disch := omega) only [go_sem, ↓reduceIte, Nat.reduceAdd, Nat.reduceEqDiff, Nat.reduceBEq, id, selL_neg (bk := bk) (a := 1) hb]
               · have e : i = 16 := by omega
                 subst e
                 simp (disch := omega) only [go_sem, ↓reduceIte, Nat.reduceAdd, Nat.reduceEqDiff, Nat.reduceLT, Int.reduceLT, Int.reduceAdd, ac_registers_Digest_L2]
                 refine ⟨⟨fun _ => hP.1 (by omega), fun _ => by first | exact .inr ho | trivial⟩, Weak.rd id ?_ ?_ rfl⟩
                 all_goals simp (disch := omega) only [go_sem, ↓reduceIte, Nat.reduceAdd, Nat.reduceEqDiff, Nat.reduceBEq, id]
       · have l0 := selL_le hv 0 s0 16
         have l1 := selL_le hv 1 s1 16
         have p0 := hP.1 (by omega)
         have p1 := hP.2 (by omega)
         have hE : digE bk s0 s1 = 0 := by
           unfold digE
           rw [if_neg (by rintro (h | h); exact b0 h; exact b1 h), if_neg]
           rintro (⟨h1, h2⟩ | ⟨h1, h2⟩)
           · rcases p0 with h | h
             · exact h1 h
             · rw [h] at h2; cases h2
           · rcases p1 with h | h
             · exact h1 h
             · rw [h] at h2; cases h2
         have hv2 : (valS bk s0 s1).length ≤ 2048 := by unfold valS; rw [List.length_append]; omega
         have hh2 : (headS s0 s1).length = 4 := by unfold headS; rw [List.length_append, beI_len, beI_len]
         have hvs : selL bk 0 s0 16 ++ selL bk 1 s1 16 = valS bk s0 s1 := rfl
         rw [digR, digO, if_pos hE, if_pos hE]
         have hf : (frameL 5 [headS s0 s1, valS bk s0 s1]).length < 1000000000 := by
           simp only [frameL, List.flatMap_cons, List.flatMap_nil, List.length_cons, List.length_append, List.length_nil, be32_len]
           omega
         have hq := hash_eq2 hf
         have tv : List.take (valS bk s0 s1).length (valS bk s0 s1) = valS bk s0 s1 := List.take_of_length_le (Nat.le_refl _)
         simp (disch := omega) only [go_sem, ↓reduceIte, Nat.reduceAdd, Nat.reduceEqDiff, Nat.reduceLT, Nat.reduceLeDiff, Int.reduceLT, ac_registers_Digest_L1, hvs, h3, hq, tv]
theorem new_casesX (s : Int) : (newBk s = [] ∧ ct_new.fs [.t (.int .i64 s)] [] = some (.agg [.nil, .t (.int .i64 0)], [])) ∨ ∃ b0 b1 : Bank, newBk s = [b0, b1] ∧ bkOk b0 ∧ bkOk b1 ∧ ct_new.fs [.t (.int .i64 s)] [] = some (.agg [.sl 0 0 2, .t (.int .i64 0)], [.live 1 [.sl 1 0 b0.length, .sl 2 0 b1.length] true false, .live 1 ((b0.map bsT).map V.t) true false, .live 1 ((b1.map bsT).map V.t) true false]) := by
 have h := ct_new.eq s trivial
 rcases (newBk_rv (s := s)).cases with e | ⟨b0, b1, e, h0, h1, _, _⟩
 · refine .inl ⟨e, h.trans ?_⟩
   show some (twR (newBk s) 0, twO (newBk s)) = _
   rw [e]; rfl
 · refine .inr ⟨b0, b1, e, h0, h1, h.trans ?_⟩
   show some (twR (newBk s) 0, twO (newBk s)) = _
   rw [e]; rfl
def dcSet (s : Rd) : Int := (rdUint s 1).1
def rgBad (s : Rd) : Prop := (rdUint s 1).2.2.2 = 0 ∧ 4 ≤ dcSet s
instance {s : Rd} : Decidable (rgBad s) := inferInstanceAs (Decidable (_ ∧ _))
theorem val_on {bk : List Bank} {u : Int} (h : RM bk) {a n : Nat} (ha : a < 2) (hn : n < 16) (ho : onB bk a = true) : ct_val.fs [.t (.agg [.sl (bk.map bankT), .int .i64 u]), .t (.int .i64 a), .t (.int .i64 n)] [] = some (.tup [.sl 0 0 (valL bk a n).length, .t (.int .i64 0)], [.live 1 (((valL bk a n).map byteT).map V.t) true false]) := by
 have he := ct_val.eq (bk, u, (a : Int), (n : Int)) h
 have he2 : ct_val.fs [.t (.agg [.sl (bk.map bankT), .int .i64 u]), .t (.int .i64 a), .t (.int .i64 n)] [] = some (valR bk a n, valO bk a n) := he
 have hb : ¬ badR (a : Int) (n : Int) := by unfold badR; omega
 rw [he2, valR, valO, if_neg hb, if_neg hb, Int.toNat_natCast, Int.toNat_natCast, if_pos ho, if_pos ho]
theorem val_off {bk : List Bank} {u : Int} (h : RM bk) {a n : Nat} (ha : a < 2) (hn : n < 16) (ho : onB bk a = false) : ct_val.fs [.t (.agg [.sl (bk.map bankT), .int .i64 u]), .t (.int .i64 a), .t (.int .i64 n)] [] = some (.tup [.nil, .t (.int .i64 27)], []) := by
 have he := ct_val.eq (bk, u, (a : Int), (n : Int)) h
 have he2 : ct_val.fs [.t (.agg [.sl (bk.map bankT), .int .i64 u]), .t (.int .i64 a), .t (.int .i64 n)] [] = some (valR bk a n, valO bk a n) := he
 have hb : ¬ badR (a : Int) (n : Int) := by unfold badR; omega
 rw [he2, valR, valO, if_neg hb, if_neg hb, Int.toNat_natCast, ho]; rfl
def RZ (bk : List Bank) : Prop := ∀ a, a < 2 → ∀ x ∈ bk.getD a [], x.length = szA a
theorem set_z {b : Bank} {i z : Nat} {y : List UInt8} (h : ∀ x ∈ b, x.length = z) (hy : y.length = z) : ∀ x ∈ b.set i y, x.length = z := by
 intro x hx
 rcases List.mem_or_eq_of_mem_set hx with h1 | rfl
 · exact h x h1
 · exact hy
theorem stN_z {y : List UInt8} {b : Bank} {z : Nat} (hy : y.length = z) (h : ∀ x ∈ b, x.length = z) : ∀ k, ∀ x ∈ stN y b k, x.length = z
 | 0 => h
 | k + 1 => set_z (stN_z hy h k) hy
theorem RZ.two {b0 b1 : Bank} (h0 : ∀ x ∈ b0, x.length = 20) (h1 : ∀ x ∈ b1, x.length = 32) : RZ [b0, b1] := by
 intro a ha
 match a, ha with
 | 0, _ => exact h0
 | 1, _ => exact h1
theorem RZ.nil : RZ [] := by
 intro a ha x hx
 simp at hx
theorem RZ.ext {bk : List Bank} {i : Nat} {ds : List (List UInt8)} (hv : RV bk) (h : RZ bk) : RZ (extBk bk i ds) := by
 rcases hv.1.cases with rfl | ⟨b0, b1, rfl, g0, g1⟩
 · exact RZ.nil
 · rw [extBk_two]
   refine RZ.two ?_ ?_
   · unfold ext1; split
     · exact set_z (h 0 (by omega)) (sumA_length (a := 0))
     · exact h 0 (by omega)
   · unfold ext1; split
     · exact set_z (h 1 (by omega)) (sumA_length (a := 1))
     · exact h 1 (by omega)
theorem RZ.res {bk : List Bank} (hv : RV bk) (h : RZ bk) : RZ (resBk bk) := by
 rcases hv.1.cases with rfl | ⟨b0, b1, rfl, g0, g1⟩
 · exact RZ.nil
 · exact RZ.two (stN_z List.length_replicate (h 0 (by omega)) 4) (stN_z List.length_replicate (h 1 (by omega)) 4)
theorem newB_z {a : Nat} : ∀ x ∈ newB a, x.length = szA a := by
 intro x hx
 unfold newB at hx
 obtain ⟨i, _, rfl⟩ := List.mem_map.1 hx
 exact List.length_replicate
theorem RZ.new {s : Int} : RZ (newBk s) := by
 unfold newBk
 split
 · exact RZ.nil
 · refine RZ.two ?_ ?_
   · split
     · exact newB_z (a := 0)
     · intro x hx; simp at hx
   · split
     · exact newB_z (a := 1)
     · intro x hx; simp at hx
end Go.Eng
end
section
namespace Go.Eng
def strT (s : List UInt8) : T := .str ⟨s.toArray⟩
theorem str_fold {s : List UInt8} : T.str ⟨s.toArray⟩ = strT s := Eq.trans (Eq.refl _) rfl
theorem baList_loop (b : ByteArray) : ∀ (n i : Nat) (r : List UInt8), n = b.size - i → ByteArray.toList.loop b i r = r.reverse ++ b.data.toList.drop i
 | 0, i, r, h => by
   unfold ByteArray.toList.loop
   rw [if_neg (by omega)]
   have : b.data.toList.drop i = [] := List.drop_eq_nil_of_le (by have : b.data.toList.length = b.size := rfl; omega)
   rw [this, List.append_nil]
 | n + 1, i, r, h => by
   unfold ByteArray.toList.loop
   have hi : i < b.size := by omega
   have hl : b.data.toList.length = b.size := rfl
   rw [if_pos hi, baList_loop b n (i + 1) _ (by omega)]
   have e : b.data.toList.drop i = b.data.toList[i]'(by omega) :: b.data.toList.drop (i + 1) := List.drop_eq_getElem_cons (by omega)
   rw [e]
   have e2 : b.get! i = b.data.toList[i]'(by omega) := by
     show b.data[i]! = _
     have hi' : i < b.data.size := hi
     rw [getElem!_pos b.data i hi']; simp
   rw [e2]; simp
theorem baList {s : List UInt8} : (ByteArray.mk s.toArray).toList = s := by
 unfold ByteArray.toList
 rw [baList_loop _ _ 0 [] rfl]; simp
theorem bin_s_eq {a b : List UInt8} : binT .eql (strT a) (strT b) = some (.bool (decide (a = b))) := by
 show some (T.bool ((ByteArray.mk a.toArray).toList == (ByteArray.mk b.toArray).toList)) = _
 rw [baList, baList]
 by_cases h : a = b <;> simp [h]
theorem bin_s_ne {a b : List UInt8} : binT .neq (strT a) (strT b) = some (.bool (!decide (a = b))) := by
 show some (T.bool (!((ByteArray.mk a.toArray).toList == (ByteArray.mk b.toArray).toList))) = _
 rw [baList, baList]
 by_cases h : a = b <;> simp [h]
theorem bin_s_add {a b : List UInt8} (h : a.length + b.length ≤ 9223372036854775807) : binT .add (strT a) (strT b) = some (strT (a ++ b)) := by
 show (if (ByteArray.mk a.toArray).size + (ByteArray.mk b.toArray).size ≤ maxLen then some (T.str (ByteArray.mk a.toArray ++ ByteArray.mk b.toArray)) else none) = _
 have h1 : (ByteArray.mk a.toArray).size = a.length := rfl
 have h2 : (ByteArray.mk b.toArray).size = b.length := rfl
 have h3 : maxLen = 9223372036854775807 := by decide
 rw [h1, h2, h3, if_pos h]
 have e : ByteArray.mk a.toArray ++ ByteArray.mk b.toArray = ⟨(a ++ b).toArray⟩ := by
   apply ByteArray.ext
   simp [ByteArray.data_append]
 rw [e]; rfl
theorem slen_strT {a : List UInt8} : semSlen [.t (strT a)] = .ret (.t (.int .i64 a.length), []) := Eq.trans (Eq.refl _) rfl
theorem sindex_strT {a : List UInt8} {k : IntKind} {i : Nat} (h : i < a.length) : semSindex [.t (strT a), .t (.int k (i : Nat))] = .ret (.t (byteT (a.getD i 0)), []) := by
 have e : (ByteArray.mk a.toArray).data.toList[(i : Int).toNat]? = some (a.getD i 0) := by simp [List.getD, h]
 simp only [strT, semSindex, intArg, Q.of, Q.bind, Q.assert, e]
 rw [if_pos (by omega)]
theorem s2b_strT {a : List UInt8} {nb : Nat} : semS2b nb [.t (strT a)] = Q.assert (sizeOk a.length 1) (.free nb (.ret (.sl nb 0 a.length, [(nb, .live 1 ((a.map byteT).map V.t) true false)]))) := by
 have h1 : (ByteArray.mk a.toArray).size = a.length := rfl
 have h2 : ((ByteArray.mk a.toArray).data.toList.map fun b => V.t (byteT b)) = (a.map byteT).map V.t := by simp [List.map_map, Function.comp_def]
 simp only [strT, semS2b, h1, h2]
theorem bytesOf_rows {bs : List UInt8} : bytesOf ((bs.map byteT).map V.t) = some bs := by
 have := bytesOf_bytes (bs := bs)
 rw [List.map_map]; exact this
theorem strT_inj {a b : List UInt8} : (strT a = strT b) = (a = b) := by
 apply propext
 constructor
 · intro h
   have h1 := congrArg (fun x => match x with | T.str s => s.data.toList | _ => []) h
   simpa [strT] using h1
 · rintro rfl; rfl
theorem tc_strT {s : List UInt8} : (strT s).cells = [strT s] := Eq.trans (Eq.refl _) rfl
theorem vc_strT {s : List UInt8} : (V.t (strT s)).cells = [V.t (strT s)] := Eq.trans (Eq.refl _) rfl
theorem vp_strT {s : List UInt8} : (V.t (strT s)).plain = true := Eq.trans (Eq.refl _) rfl
theorem single_strT {s : List UInt8} : (V.t (strT s)).single = true := Eq.trans (Eq.refl _) rfl
theorem flat_strT {s : List UInt8} : (strT s).flat = true := Eq.trans (Eq.refl _) rfl
attribute [go_sem ↓] bin_s_eq bin_s_ne bin_s_add slen_strT sindex_strT s2b_strT
attribute [go_sem] str_fold bytesOf_rows strT_inj tc_strT vc_strT vp_strT single_strT flat_strT
end Go.Eng
end
section
namespace Go.Eng
def ac_event_Check_L0 (n_digest_Size : Nat) : AC :=
 (.seq
 (rG 36864 [bT 49 .lss 48 47])
 (.seq
 (.cond (.tmp 49)
 .skip
 (.exit 1))
 (.seq
 (.block 2
 (.seq
 (rG 40960 [mv 50 48,oO 51 (.iaddr 1) [.tmp 46, .tmp 48],oO 52 (.load 1 false) [.tmp 51],mv 5 50,mv 6 52])
 (.seq
 (rG 45056 [mC 7 (.t (.int .i64 0))])
 (.seq
 (.seq
 (rG 49152 [oO 53 (.faddr 1) [.tmp 2],oO 54 (.load 1 false) [.tmp 53],bN 55 .neq 54 5,mv 56 55,mG 57 1 56,mG 58 5 56,oG 59 56 (.bin .shr) [.tmp 57, .tmp 58],oG 60 56 (.bin .and) [.tmp 59, .cst (.t (.int .i64 1))],oG 61 56 (.bin .eql) [.tmp 60, .cst (.t (.int .i64 1))],oO 62 .pick [.tmp 56, .tmp 61, .cst (.t (.bool false))]])
 (.cond (.tmp 62)
 (rG 53248 [mv 63 5,cL 64 n_digest_Size false [.tmp 63],mv 7 64])
 .skip))
 (.seq
 (rG 57344 [mv 65 6,oO 66 .len [.tmp 65],mv 67 7,bT 68 .neq 66 67])
 (.cond (.tmp 68)
 (.seq
 (rG 61440 [mC 4 (.t (.int .i64 27))])
 .ret)
 .skip))))))
 (rG 65536 [bN 69 .add 48 1,mv 48 69]))))
def ac_event_Check (n_digest_Size : Nat) : AC :=
 (.seq
 (rG 4096 [oO 2 .box [.tmp 0],mC 4 (.t (.int .i64 0))])
 (.seq
 (.block 0
 (.seq
 (rG 8192 [mv 9 1,bN 10 .lss 9 1,mv 11 10,mF 12 1 11,oF 13 11 (.bin .gtr) [.tmp 12, .cst (.t (.int .i64 3))],oO 14 .pick [.tmp 11, .cst (.t (.bool true)), .tmp 13],mv 15 14,oF 16 15 (.faddr 0) [.tmp 2],oF 17 15 (.load 1 false) [.tmp 16],oF 18 15 (.bin .lss) [.tmp 17, .cst (.t (.int .i64 0))],oO 19 .pick [.tmp 15, .cst (.t (.bool true)), .tmp 18],mv 20 19,oF 21 20 (.faddr 0) [.tmp 2],oF 22 20 (.load 1 false) [.tmp 21],oF 23 20 (.bin .gtr) [.tmp 22, .cst (.t (.int .i64 11))],oO 24 .pick [.tmp 20, .cst (.t (.bool true)), .tmp 23],mv 25 24,oF 26 25 (.faddr 1) [.tmp 2],oF 27 25 (.load 1 false) [.tmp 26],oF 28 25 (.bin .lss) [.tmp 27, .cst (.t (.int .i64 1))],oO 29 .pick [.tmp 25, .cst (.t (.bool true)), .tmp 28],mv 30 29,oF 31 30 (.faddr 1) [.tmp 2],oF 32 30 (.load 1 false) [.tmp 31],oF 33 30 (.bin .gtr) [.tmp 32, .cst (.t (.int .i64 5))],oO 34 .pick [.tmp 30, .cst (.t (.bool true)), .tmp 33],mv 8 34])
 (.cond (.tmp 8)
 (.seq
 (rG 12288 [mC 4 (.t (.int .i64 1))])
 .ret)
 (.seq
 (rG 16384 [oO 36 (.faddr 3) [.tmp 2],oO 37 (.load 1 false) [.tmp 36],oO 38 .len [.tmp 37],bN 39 .gtr 38 64,mv 35 39])
 (.cond (.tmp 35)
 (.seq
 (rG 20480 [mC 4 (.t (.int .i64 4))])
 .ret)
 (.seq
 (rG 24576 [oO 41 (.faddr 2) [.tmp 2],oO 42 (.load 1 false) [.tmp 41],oO 43 .len [.tmp 42],bN 44 .neq 43 2,mv 40 44])
 (.cond (.tmp 40)
 (.seq
 (rG 28672 [mC 4 (.t (.int .i64 27))])
 .ret)
 .skip)))))))
 (.seq
 (.seq
 (rG 32768 [oO 45 (.faddr 2) [.tmp 2],oO 46 (.load 1 false) [.tmp 45],oO 47 .len [.tmp 46],mC 48 (.t (.int .i64 0))])
 (.block 1
 (.loop (ac_event_Check_L0 n_digest_Size))))
 (.seq
 (rG 69632 [mC 4 (.t (.int .i64 0))])
 .ret))))
def hints_event_Check : List (Nat × List Nat) := []
def ac_event_Make_L0 (n_digest_Sum : Nat) : AC :=
 (.seq
 (rG 16384 [bT 21 .lss 20 19])
 (.seq
 (.cond (.tmp 21)
 .skip
 (.exit 0))
 (.seq
 (.block 1
 (.seq
 (rG 20480 [mv 22 20,mv 10 22])
 (.seq
 (rG 24576 [mv 23 1,bN 24 .neq 23 5,mv 25 24,mG 26 2 25,mG 27 10 25,oG 28 25 (.bin .shr) [.tmp 26, .tmp 27],oG 29 25 (.bin .and) [.tmp 28, .cst (.t (.int .i64 1))],oG 30 25 (.bin .eql) [.tmp 29, .cst (.t (.int .i64 1))],oO 31 .pick [.tmp 25, .tmp 30, .cst (.t (.bool false))]])
 (.cond (.tmp 31)
 (.reg 28672 (some [0, 1, 0, 0, 0, 24, 63, 127]) [oO 32 (.faddr 2) [.tmp 9],oO 33 (.load 1 false) [.tmp 32],mv 34 10,mv 35 10,mv 36 3,cL 37 n_digest_Sum false [.tmp 35, .tmp 36],oO 38 (.iaddr 1) [.tmp 33, .tmp 34],oS 1 38 37])
 .skip))))
 (rG 32768 [bN 39 .add 20 1,mv 20 39]))))
def ac_event_Make (n_bytes_Clone n_digest_Sum : Nat) : AC :=
 (.seq
 (rG 4096 [oO 8 (.new 4 [(.agg [(.t (.int .i64 0)), (.t (.int .i64 0)), .nil, .nil])]) []])
 (.seq
 (.reg 8192 (some [0, 0, 0, 0, 8, 31, 0, 127]) [mv 11 0,mv 12 1,oO 13 (.mkslice 1 24 .nil) [.cst (.t (.int .i64 2)), .cst (.t (.int .i64 2))],mv 14 3,cL 15 n_bytes_Clone true [.tmp 14],oO 16 (.build [(.t (.int .i64 0)), (.t (.int .i64 0)), .nil, .nil] [(0, 1), (1, 1), (2, 1), (3, 1)]) [.tmp 11, .tmp 12, .tmp 13, .tmp 15],oO 9 (.new 4 [(.agg [(.t (.int .i64 0)), (.t (.int .i64 0)), .nil, .nil])]) [],oS 4 9 16])
 (.seq
 (.seq
 (rG 12288 [oO 17 (.faddr 2) [.tmp 9],oO 18 (.load 1 false) [.tmp 17],oO 19 .len [.tmp 18],mC 20 (.t (.int .i64 0))])
 (.block 0
 (.loop (ac_event_Make_L0 n_digest_Sum))))
 (.seq
 (rG 36864 [oO 40 (.load 4 true) [.tmp 9],oS 4 8 40])
 .ret))))
def hints_event_Make : List (Nat × List Nat) := [(1, [4])]
def ac_ref25_Event (n_ref25_digestsFit : Nat) : AC :=
 (.seq
 (rG 4096 [oO 2 .box [.tmp 0],mC 4 (.t (.int .i64 0))])
 (.seq
 (.seq
 (rG 8192 [mv 5 1,bN 6 .lss 5 1,mv 7 6,mF 8 1 7,oF 9 7 (.bin .gtr) [.tmp 8, .cst (.t (.int .i64 3))],oO 10 .pick [.tmp 7, .cst (.t (.bool true)), .tmp 9],mv 11 10,oF 12 11 (.faddr 0) [.tmp 2],oF 13 11 (.load 1 false) [.tmp 12],oF 14 11 (.bin .lss) [.tmp 13, .cst (.t (.int .i64 0))],oO 15 .pick [.tmp 11, .cst (.t (.bool true)), .tmp 14],mv 16 15,oF 17 16 (.faddr 0) [.tmp 2],oF 18 16 (.load 1 false) [.tmp 17],oF 19 16 (.bin .gtr) [.tmp 18, .cst (.t (.int .i64 11))],oO 20 .pick [.tmp 16, .cst (.t (.bool true)), .tmp 19],mv 21 20,oF 22 21 (.faddr 1) [.tmp 2],oF 23 21 (.load 1 false) [.tmp 22],oF 24 21 (.bin .lss) [.tmp 23, .cst (.t (.int .i64 1))],oO 25 .pick [.tmp 21, .cst (.t (.bool true)), .tmp 24],mv 26 25,oF 27 26 (.faddr 1) [.tmp 2],oF 28 26 (.load 1 false) [.tmp 27],oF 29 26 (.bin .gtr) [.tmp 28, .cst (.t (.int .i64 5))],oO 30 .pick [.tmp 26, .cst (.t (.bool true)), .tmp 29]])
 (.cond (.tmp 30)
 (.seq
 (rG 12288 [mC 4 (.t (.int .i64 1))])
 .ret)
 .skip))
 (.seq
 (.seq
 (rG 16384 [oO 31 (.faddr 3) [.tmp 2],oO 32 (.load 1 false) [.tmp 31],oO 33 .len [.tmp 32],bN 34 .gtr 33 64])
 (.cond (.tmp 34)
 (.seq
 (rG 20480 [mC 4 (.t (.int .i64 4))])
 .ret)
 .skip))
 (.seq
 (.seq
 (rG 24576 [oO 35 (.load 4 true) [.tmp 2],mv 36 1,cL 37 n_ref25_digestsFit false [.tmp 35, .tmp 36],oO 38 (.un .not) [.tmp 37]])
 (.cond (.tmp 38)
 (.seq
 (rG 28672 [mC 4 (.t (.int .i64 27))])
 .ret)
 .skip))
 (.seq
 (rG 32768 [mC 4 (.t (.int .i64 0))])
 .ret)))))
def hints_ref25_Event : List (Nat × List Nat) := []
def ac_ref25_digestsFit_L0 (n_ref25_has n_ref1_Size : Nat) : AC :=
 (.seq
 (.seq
 (rG 20480 [mv 11 5,bN 12 .lss 11 2])
 (.cond (.tmp 12)
 .skip
 (.exit 0)))
 (.seq
 (.block 1
 (.seq
 (rG 28672 [mC 6 (.t (.int .i64 0))])
 (.seq
 (.seq
 (rG 32768 [oO 15 (.faddr 1) [.tmp 2],oO 16 (.load 1 false) [.tmp 15],bN 17 .neq 16 5,mv 18 17,mG 19 1 18,mG 20 5 18,cG 21 18 n_ref25_has false [.tmp 19, .tmp 20],oO 22 .pick [.tmp 18, .tmp 21, .cst (.t (.bool false))]])
 (.cond (.tmp 22)
 (rG 36864 [mv 23 5,cL 24 n_ref1_Size false [.tmp 23],mv 6 24])
 .skip))
 (.seq
 (rG 40960 [oO 25 (.faddr 2) [.tmp 2],oO 26 (.load 1 false) [.tmp 25],mv 27 5,oO 28 (.iaddr 1) [.tmp 26, .tmp 27],oO 29 (.load 1 false) [.tmp 28],oO 30 .len [.tmp 29],mv 31 6,bT 32 .neq 30 31])
 (.cond (.tmp 32)
 (.seq
 (rG 45056 [mC 4 (.t (.bool false))])
 .ret)
 .skip)))))
 (rG 24576 [mv 13 5,bN 14 .add 13 1,mv 5 14])))
def ac_ref25_digestsFit (n_ref25_has n_ref1_Size : Nat) : AC :=
 (.seq
 (rG 4096 [oO 2 .box [.tmp 0],mC 4 (.t (.bool false))])
 (.seq
 (.seq
 (rG 8192 [oO 7 (.faddr 2) [.tmp 2],oO 8 (.load 1 false) [.tmp 7],oO 9 .len [.tmp 8],bN 10 .neq 9 2])
 (.cond (.tmp 10)
 (.seq
 (rG 12288 [mC 4 (.t (.bool false))])
 .ret)
 .skip))
 (.seq
 (.seq
 (rG 16384 [mC 5 (.t (.int .i64 0))])
 (.block 0
 (.loop (ac_ref25_digestsFit_L0 n_ref25_has n_ref1_Size))))
 (.seq
 (rG 49152 [mC 4 (.t (.bool true))])
 .ret))))
def hints_ref25_digestsFit : List (Nat × List Nat) := []
def ac_ref25_has : AC :=
 (.seq
 (rG 4096 [mC 4 (.t (.bool false))])
 (.seq
 (rG 8192 [mv 5 0,mv 6 1,oO 7 (.conv .u64) [.tmp 6],bT 8 .shr 5 7,bN 9 .and 8 1,bN 10 .eql 9 1,mv 4 10])
 .ret))
def hints_ref25_has : List (Nat × List Nat) := []
def ac_ref25_Make_L0 (n_ref25_has n_ref1_Sum : Nat) : AC :=
 (.seq
 (.seq
 (rG 16384 [mv 16 10,bN 17 .lss 16 2])
 (.cond (.tmp 17)
 .skip
 (.exit 0)))
 (.seq
 (.block 1
 (.seq
 (rG 24576 [mv 20 2,mv 21 10,cL 22 n_ref25_has false [.tmp 20, .tmp 21],mv 23 22,mG 24 1 23,oG 25 23 (.bin .neq) [.tmp 24, .cst (.t (.int .i64 5))],oO 26 .pick [.tmp 23, .tmp 25, .cst (.t (.bool false))]])
 (.cond (.tmp 26)
 (.reg 28672 (some [0, 1, 0, 0, 0, 24, 63, 127]) [oO 27 (.faddr 2) [.tmp 9],oO 28 (.load 1 false) [.tmp 27],mv 29 10,mv 30 10,mv 31 3,cL 32 n_ref1_Sum false [.tmp 30, .tmp 31],oO 33 (.iaddr 1) [.tmp 28, .tmp 29],oS 1 33 32])
 .skip)))
 (rG 20480 [mv 18 10,bN 19 .add 18 1,mv 10 19])))
def ac_ref25_Make (n_ref25_has n_ref1_Sum : Nat) : AC :=
 (.seq
 (rG 4096 [oO 8 (.new 4 [(.agg [(.t (.int .i64 0)), (.t (.int .i64 0)), .nil, .nil])]) []])
 (.seq
 (rG 8192 [mv 11 0,mv 12 1,oO 13 (.mkslice 1 24 .nil) [.cst (.t (.int .i64 2)), .cst (.t (.int .i64 2))],mv 14 3,oO 15 (.build [(.t (.int .i64 0)), (.t (.int .i64 0)), .nil, .nil] [(0, 1), (1, 1), (2, 1), (3, 1)]) [.tmp 11, .tmp 12, .tmp 13, .tmp 14],oO 9 (.new 4 [(.agg [(.t (.int .i64 0)), (.t (.int .i64 0)), .nil, .nil])]) [],oS 4 9 15])
 (.seq
 (.seq
 (rG 12288 [mC 10 (.t (.int .i64 0))])
 (.block 0
 (.loop (ac_ref25_Make_L0 n_ref25_has n_ref1_Sum))))
 (.seq
 (rG 32768 [oO 34 (.load 4 true) [.tmp 9],oS 4 8 34])
 .ret))))
def hints_ref25_Make : List (Nat × List Nat) := []
def ac_ref25_Separator : AC :=
 (.seq
 (rG 4096 [mC 0 .nil])
 (.seq
 (rG 8192 [oO 1 (.bslice 1 4 (.t (byteT 0)) [0, 1, 2, 3]) [.cst (.t (byteT 0)), .cst (.t (byteT 0)), .cst (.t (byteT 0)), .cst (.t (byteT 0))],mv 0 1])
 .ret))
def hints_ref25_Separator : List (Nat × List Nat) := []
def ac_draw_Active (n_draw_Mod : Nat) : AC :=
 (.seq
 (rG 4096 [mC 2 (.t (.int .i64 0))])
 (.seq
 (rG 8192 [mv 3 0,cL 4 n_draw_Mod false [.tmp 3, .cst (.t (.int .i64 3))],oO 5 (.bin .add) [.cst (.t (.int .i64 1)), .tmp 4],mv 2 5])
 .ret))
def hints_draw_Active : List (Nat × List Nat) := []
def ac_draw_Cut : AC :=
 (.seq
 (rG 4096 [mC 4 .nil])
 (.seq
 (.seq
 (rG 8192 [mv 5 0,oO 6 .len [.tmp 5],mv 7 1,bT 8 .gtr 6 7])
 (.cond (.tmp 8)
 (.seq
 (rG 12288 [mv 9 0,mv 10 1,oO 11 (.slice 1 false true false) [.tmp 9, .tmp 10],mv 4 11])
 .ret)
 .skip))
 (.seq
 (rG 16384 [mv 12 0,mv 4 12])
 .ret)))
def hints_draw_Cut : List (Nat × List Nat) := []
def ac_draw_New : AC :=
 (.seq
 (rG 4096 [mC 4 (.t .pnil)])
 (.seq
 (.seq
 (rG 8192 [mv 5 0,oO 6 .len [.tmp 5],mv 7 1,bT 8 .gtr 6 7])
 (.cond (.tmp 8)
 (rG 12288 [mv 9 0,mv 10 1,oO 11 (.slice 1 false true false) [.tmp 9, .tmp 10],mv 0 11])
 .skip))
 (.seq
 (rG 16384 [mv 12 0,oO 13 (.build [.nil, (.t (.int .i64 0))] [(0, 1)]) [.tmp 12],oO 14 .box [.tmp 13],mv 4 14])
 .ret)))
def hints_draw_New : List (Nat × List Nat) := []
def ac_draw_Codes_Next : AC :=
 (.seq
 (rG 4096 [mC 4 (.t (.int .i64 0))])
 (.seq
 (.seq
 (.reg 8192 (some [0, 1, 3, 7, 0, 16, 48, 112, 240, 511]) [mv 5 0,oO 6 .nilchk [.tmp 5],oO 7 (.faddr 1) [.tmp 6],oO 8 (.load 1 false) [.tmp 7],mv 9 0,oO 10 .nilchk [.tmp 9],oO 11 (.faddr 0) [.tmp 10],oO 12 (.load 1 false) [.tmp 11],oO 13 .len [.tmp 12],bT 14 .geq 8 13])
 (.cond (.tmp 14)
 (.seq
 (rG 12288 [mC 4 (.t (.int .i64 0))])
 .ret)
 .skip))
 (.seq
 (rG 16384 [mv 15 0,oO 16 .nilchk [.tmp 15],oO 17 (.faddr 1) [.tmp 16],oO 18 (.load 1 false) [.tmp 17],bN 19 .add 18 1,oO 20 .nilchk [.tmp 15],oO 21 (.faddr 1) [.tmp 20],oS 1 21 19])
 (.seq
 (.reg 20480 (some [0, 1, 3, 7, 0, 16, 48, 112, 240, 511, 1023, 2047, 0, 8191, 16383]) [mv 22 0,oO 23 .nilchk [.tmp 22],oO 24 (.faddr 0) [.tmp 23],oO 25 (.load 1 false) [.tmp 24],mv 26 0,oO 27 .nilchk [.tmp 26],oO 28 (.faddr 1) [.tmp 27],oO 29 (.load 1 false) [.tmp 28],bN 30 .sub 29 1,oO 31 (.iaddr 1) [.tmp 25, .tmp 30],oO 32 (.load 1 false) [.tmp 31],oO 33 (.conv .i64) [.tmp 32],mv 34 1,bT 35 .rem 33 34,mv 4 35])
 .ret))))
def hints_draw_Codes_Next : List (Nat × List Nat) := []
def ac_draw_Codes_Line (n_draw_Codes_Next : Nat) : AC :=
 (.seq
 (rG 4096 [mC 2 .nil])
 (.seq
 (rG 8192 [oO 4 (.build [(.t (strT [])), (.t (strT [])), (.t (strT [])), (.t (strT [])), (.t (strT [])), (.t (strT []))] [(0, 1), (1, 1), (2, 1), (3, 1), (4, 1), (5, 1)]) [.cst (.t (strT [97, 61, 49])), .cst (.t (strT [99, 111, 117, 110, 116, 61, 53])), .cst (.t (strT [99, 111, 117, 110, 116, 61, 49, 55])), .cst (.t (strT [104, 111, 115, 116, 61, 120])), .cst (.t (strT [109, 111, 100, 101, 32, 98])), .cst (.t (strT [126]))],oO 3 (.new 1 [(.t (strT [])), (.t (strT [])), (.t (strT [])), (.t (strT [])), (.t (strT [])), (.t (strT []))]) [],oS 6 3 4])
 (.seq
 (rG 12288 [mv 5 0,cL 6 n_draw_Codes_Next true [.tmp 5, .cst (.t (.int .i64 6))],oO 7 (.aaddr 6 1) [.tmp 3, .tmp 6],oO 8 (.load 1 false) [.tmp 7],oO 9 .s2b [.tmp 8],mv 2 9])
 .ret)))
def hints_draw_Codes_Line : List (Nat × List Nat) := [(2, [1])]
def ac_draw_Codes_Event (n_draw_Codes_Line n_draw_Codes_Next n_ref25_Make n_draw_Digests : Nat) : AC :=
 (.seq
 (rG 4096 [oO 4 (.new 4 [(.agg [(.t (.int .i64 0)), (.t (.int .i64 0)), .nil, .nil])]) []])
 (.seq
 (rG 8192 [mv 9 0,cL 10 n_draw_Codes_Line true [.tmp 9],mv 5 10])
 (.seq
 (.seq
 (rG 12288 [mv 11 0,cL 12 n_draw_Codes_Next true [.tmp 11, .cst (.t (.int .i64 4))],bN 13 .eql 12 3])
 (.cond (.tmp 13)
 (rG 16384 [mv 14 5,mv 15 0,cL 16 n_draw_Codes_Next true [.tmp 15, .cst (.t (.int .i64 2))],oO 17 (.slice 1 false true false) [.tmp 14, .tmp 16],mv 5 17])
 .skip))
 (.seq
 (rG 20480 [mv 18 0,cL 19 n_draw_Codes_Next true [.tmp 18, .cst (.t (.int .i64 5))],oO 20 (.bin .add) [.cst (.t (.int .i64 1)), .tmp 19],mv 6 20])
 (.seq
 (rG 24576 [oO 21 (.bslice 1 8 (.t (.int .i64 0)) [0, 1, 2, 3, 4, 5, 6, 7]) [.cst (.t (.int .i64 0)), .cst (.t (.int .i64 0)), .cst (.t (.int .i64 4)), .cst (.t (.int .i64 8)), .cst (.t (.int .i64 9)), .cst (.t (.int .i64 9)), .cst (.t (.int .i64 1)), .cst (.t (.int .i64 11))],mv 22 0,cL 23 n_draw_Codes_Next true [.tmp 22, .cst (.t (.int .i64 8))],oO 24 (.iaddr 1) [.tmp 21, .tmp 23],oO 25 (.load 1 false) [.tmp 24],mv 7 25])
 (.seq
 (.seq
 (rG 28672 [mv 26 6,bN 27 .eql 26 2,mv 28 27,mG 29 0 28,cG 30 28 n_draw_Codes_Next true [.tmp 29, .cst (.t (.int .i64 4))],oG 31 28 (.bin .gtr) [.tmp 30, .cst (.t (.int .i64 0))],oO 32 .pick [.tmp 28, .tmp 31, .cst (.t (.bool false))]])
 (.cond (.tmp 32)
 (.seq
 (rG 32768 [oO 33 (.bslice 1 4 (.t (byteT 0)) [0, 1, 2, 3]) [.cst (.t (byteT 0)), .cst (.t (byteT 0)), .cst (.t (byteT 0)), .cst (.t (byteT 0))],mv 5 33])
 (rG 36864 [mv 34 0,cL 35 n_draw_Codes_Next true [.tmp 34, .cst (.t (.int .i64 8))],mv 7 35]))
 .skip))
 (.seq
 (rG 40960 [mv 36 7,mv 37 6,mv 38 1,mv 39 5,cL 40 n_ref25_Make true [.tmp 36, .tmp 37, .tmp 38, .tmp 39],oO 8 (.new 4 [(.agg [(.t (.int .i64 0)), (.t (.int .i64 0)), .nil, .nil])]) [],oS 4 8 40])
 (.seq
 (.seq
 (rG 45056 [mv 41 6,bN 42 .neq 41 5,mv 43 42,mG 44 0 43,cG 45 43 n_draw_Codes_Next true [.tmp 44, .cst (.t (.int .i64 4))],oG 46 43 (.bin .eql) [.tmp 45, .cst (.t (.int .i64 3))],oO 47 .pick [.tmp 43, .tmp 46, .cst (.t (.bool false))]])
 (.cond (.tmp 47)
 (rG 49152 [mv 48 1,mv 49 0,cL 50 n_draw_Codes_Next true [.tmp 49, .cst (.t (.int .i64 4))],oO 51 (.conv .u8) [.tmp 50],mv 52 6,oO 53 (.conv .u8) [.tmp 52],oO 54 (.bslice 1 2 (.t (byteT 0)) [0, 1]) [.tmp 51, .tmp 53],cL 55 n_draw_Digests true [.tmp 48, .tmp 54],oO 56 (.faddr 2) [.tmp 8],oS 1 56 55])
 .skip))
 (.seq
 (rG 53248 [oO 57 (.load 4 true) [.tmp 8],oS 4 4 57])
 .ret)))))))))
def hints_draw_Codes_Event : List (Nat × List Nat) := [(1, [1]), (2, [1]), (3, [2]), (4, [1]), (5, [2]), (6, [4]), (8, [1]), (9, [4]), (10, [4]), (11, [2, 7])]
def ac_bytes_Clone : AC :=
 (.seq
 (rG 4096 [mC 2 .nil])
 (.seq
 (.seq
 (rG 8192 [mv 3 0,oO 4 (.nileq false) [.tmp 3, .cst .nil]])
 (.cond (.tmp 4)
 (.seq
 (rG 12288 [mC 2 .nil])
 .ret)
 .skip))
 (.seq
 (rG 16384 [oO 5 (.bslice 1 0 (.t (byteT 0)) []) [],mv 6 0,oO 7 (.append 1 1) [.tmp 5, .tmp 6],mv 2 7])
 .ret)))
def hints_bytes_Clone : List (Nat × List Nat) := []
def ac_bytes_Equal : AC :=
 (.seq
 (rG 4096 [mC 4 (.t (.bool false))])
 (.seq
 (rG 8192 [mv 5 0,oO 6 .b2s [.tmp 5],mv 7 1,oO 8 .b2s [.tmp 7],bT 9 .eql 6 8,mv 4 9])
 .ret))
def hints_bytes_Equal : List (Nat × List Nat) := []
def ac_ref3_Blob (n_ref3_Uint : Nat) : AC :=
 (.seq
 (rG 4096 [mC 4 .nil])
 (.seq
 (.seq
 (rG 8192 [mv 5 1,oO 6 .len [.tmp 5],bN 7 .gtr 6 65535])
 (.cond (.tmp 7)
 (rG 12288 [mv 8 1,oO 9 (.slice 1 false true false) [.tmp 8, .cst (.t (.int .i64 65535))],mv 1 9])
 .skip))
 (.seq
 (rG 16384 [mv 10 0,mv 11 1,oO 12 .len [.tmp 11],cL 13 n_ref3_Uint false [.tmp 10, .cst (.t (.int .i64 2)), .tmp 12],mv 14 1,oO 15 (.append 1 1) [.tmp 13, .tmp 14],mv 4 15])
 .ret)))
def hints_ref3_Blob : List (Nat × List Nat) := []
end Go.Eng
end
section
set_option maxRecDepth 20000
set_option maxHeartbeats 64000000
namespace Go.Eng
abbrev Ev := Int × Int × List (List UInt8) × List UInt8
def evT (e : Ev) : T := .agg [.int .i64 e.1, .int .i64 e.2.1, .sl (e.2.2.1.map bsT), .sl (e.2.2.2.map byteT)]
theorem evT_def {a b : Int} {c : List (List UInt8)} {d : List UInt8} : evT (a, b, c, d) = .agg [.int .i64 a, .int .i64 b, .sl (c.map bsT), .sl (d.map byteT)] := Eq.trans (Eq.refl _) rfl
theorem evT_inj {e f : Ev} (h : evT e = evT f) : e = f := by
 obtain ⟨a, b, c, d⟩ := e
 obtain ⟨a', b', c', d'⟩ := f
 simp only [evT_def, T.agg.injEq, List.cons.injEq, T.int.injEq, T.sl.injEq, true_and, and_true, mapBs_inj, mapB_inj] at h
 obtain ⟨rfl, rfl, rfl, rfl⟩ := h
 rfl
def evM (e : Ev) : Prop := modL e.2.2.1 ∧ e.2.2.2.length < 1000000000
def wantL (kind act : Int) (a : Nat) : Nat := if kind ≠ 5 ∧ act / 2 ^ a % 2 = 1 then szA a else 0
def badE (r k act : Int) : Prop := act < 1 ∨ 3 < act ∨ r < 0 ∨ 11 < r ∨ k < 1 ∨ 5 < k
instance {r k act : Int} : Decidable (badE r k act) := by unfold badE; infer_instance
def fitE (k act : Int) (ds : List (List UInt8)) : Bool := decide (ds.length = 2) && decide ((ds.getD 0 []).length = wantL k act 0) && decide ((ds.getD 1 []).length = wantL k act 1)
def chkE (e : Ev) (act : Int) : Int := if badE e.1 e.2.1 act then 1 else if 64 < e.2.2.2.length then 4 else if fitE e.2.1 act e.2.2.1 then 0 else 27
theorem wantL_note {act : Int} {a : Nat} : wantL 5 act a = 0 := if_neg (by simp)
theorem len2 {α : Type} {l : List α} (h : l.length = 2) : ∃ a b, l = [a, b] := by
 match l, h with
 | [a, b], _ => exact ⟨a, b, rfl⟩
theorem fitE_two {k act : Int} {d0 d1 : List UInt8} : fitE k act [d0, d1] = (decide (d0.length = wantL k act 0) && decide (d1.length = wantL k act 1)) := by simp [fitE]
theorem goodE {r k act : Int} (hb : ¬ badE r k act) : (¬ act < 1 ∧ ¬ 3 < act) ∧ (¬ r < 0 ∧ ¬ 11 < r) ∧ (¬ k < 1 ∧ ¬ 5 < k) := by
 unfold badE at hb; omega
def ct_has : Ct where
 α := Int × Nat
 as x := [.t (.int .i64 x.1), .t (.int .i64 x.2)]
 ins _ := []
 pre x := (0 ≤ x.1 ∧ x.1 < 4) ∧ x.2 < 2
 r x := .t (.bool (decide (x.1 / 2 ^ x.2 % 2 = 1)))
 outs _ := []
 inj := by
   rintro ⟨a, b⟩ ⟨c, d⟩ h _
   simp only [List.cons.injEq, V.t.injEq, T.int.injEq, true_and, and_true, Int.natCast_inj] at h
   obtain ⟨rfl, rfl⟩ := h
   exact ⟨rfl, rfl⟩
theorem w_ref25_has (tab : Tab) (gl : Gl) (x : ct_has.α) (hx : ct_has.pre x) : ac_ref25_has.wp tab gl (zipF 0 (ct_has.as x)) (zipF 0 []) (resW [(4, none)] 0 (fun r o => r = ct_has.r x ∧ o = [])) := by
 obtain ⟨s, a⟩ := x
 obtain ⟨⟨h1, h2⟩, h3⟩ := hx
 simp only at h1 h2 h3
 show ac_ref25_has.wp tab gl (zipF 0 [.t (.int .i64 s), .t (.int .i64 a)]) (zipF 0 []) (resW [(4, none)] 0 (fun r o => r = .t (.bool (decide (s / 2 ^ a % 2 = 1))) ∧ o = []))
 rcases (show s = 0 ∨ s = 1 ∨ s = 2 ∨ s = 3 by omega) with rfl | rfl | rfl | rfl <;> rcases (show a = 0 ∨ a = 1 by omega) with rfl | rfl
 all_goals simp (disch := omega) only [go_sem, ↓reduceIte, Nat.reduceAdd, Nat.reduceEqDiff, Int.reduceEq, Int.reduceLT, Int.reduceMod, Int.reduceDiv, reduceCtorEq, Int.reducePow, ac_ref25_has]
 all_goals rfl
theorem has_eq {s : Int} {a : Nat} (h : (0 ≤ s ∧ s < 4) ∧ a < 2) : ct_has.fs [.t (.int .i64 s), .t (.int .i64 a)] [] = some (.t (.bool (decide (s / 2 ^ a % 2 = 1))), []) := ct_has.eq (s, a) h
theorem has_eq0 {s : Int} (h : 0 ≤ s ∧ s < 4) : ct_has.fs [.t (.int .i64 s), .t (.int .i64 0)] [] = some (.t (.bool (decide (s % 2 = 1))), []) := by
 have := has_eq (s := s) (a := 0) ⟨h, by omega⟩
 simpa using this
theorem has_eq1 {s : Int} (h : 0 ≤ s ∧ s < 4) : ct_has.fs [.t (.int .i64 s), .t (.int .i64 1)] [] = some (.t (.bool (decide (s / 2 % 2 = 1))), []) := by
 have := has_eq (s := s) (a := 1) ⟨h, by omega⟩
 simpa using this
theorem wantL0 {k s : Int} : wantL k s 0 = if k ≠ 5 ∧ s % 2 = 1 then 20 else 0 := by unfold wantL; simp [szA]
theorem wantL1 {k s : Int} : wantL k s 1 = if k ≠ 5 ∧ s / 2 % 2 = 1 then 32 else 0 := by unfold wantL; simp [szA]
def ct_clone : Ct where
 α := List UInt8
 as x := [.t (.sl (x.map byteT))]
 ins _ := []
 pre x := x.length < 1000000000
 r x := .t (.sl (x.map byteT))
 outs _ := []
 inj := by
   intro a b h _
   simp only [List.cons.injEq, V.t.injEq, T.sl.injEq, and_true, mapB_inj] at h
   subst h; exact ⟨rfl, rfl⟩
theorem clone_eq {x : List UInt8} (h : x.length < 1000000000) : ct_clone.fs [.t (.sl (x.map byteT))] [] = some (.t (.sl (x.map byteT)), []) := ct_clone.eq x h
theorem w_bytes_Clone (tab : Tab) (gl : Gl) (x : List UInt8) (hx : x.length < 1000000000) : ac_bytes_Clone.wp tab gl (zipF 0 [.t (.sl (x.map byteT))]) (zipF 0 []) (resW [(2, none)] 0 (fun r o => r = .t (.sl (x.map byteT)) ∧ o = [])) := by
 match x, hx with
 | [], hx => simp (disch := omega) only [go_sem, ↓reduceIte, Nat.reduceAdd, Nat.reduceEqDiff, Nat.reduceLeDiff, reduceCtorEq, ac_bytes_Clone, List.map_nil]
 | a :: r, hx =>
   simp only [List.length_cons] at hx
   simp (disch := omega) only [go_sem, ↓reduceIte, Nat.reduceAdd, Nat.reduceEqDiff, Nat.reduceLeDiff, reduceCtorEq, ac_bytes_Clone, List.map_cons, List.take_length]
def mkD (k act : Int) (d : List UInt8) (a : Nat) : List UInt8 := if k ≠ 5 ∧ act / 2 ^ a % 2 = 1 then sumA a d else []
def mkE (r k act : Int) (d : List UInt8) : Ev := (r, k, [mkD k act d 0, mkD k act d 1], d)
def ct_make : Ct where
 α := Int × Int × Int × List UInt8
 as x := [.t (.int .i64 x.1), .t (.int .i64 x.2.1), .t (.int .i64 x.2.2.1), .t (.sl (x.2.2.2.map byteT))]
 ins _ := []
 pre x := (0 ≤ x.2.2.1 ∧ x.2.2.1 < 4) ∧ x.2.2.2.length < 1000000000
 r x := .t (evT (mkE x.1 x.2.1 x.2.2.1 x.2.2.2))
 outs _ := []
 inj := by
   rintro ⟨a, b, c, d⟩ ⟨a', b', c', d'⟩ h _
   simp only [List.cons.injEq, V.t.injEq, T.int.injEq, T.sl.injEq, true_and, and_true, mapB_inj] at h
   obtain ⟨rfl, rfl, rfl, rfl⟩ := h
   exact ⟨rfl, rfl⟩
theorem make_eq {r k act : Int} {d : List UInt8} (h : (0 ≤ act ∧ act < 4) ∧ d.length < 1000000000) : ct_make.fs [.t (.int .i64 r), .t (.int .i64 k), .t (.int .i64 act), .t (.sl (d.map byteT))] [] =
   some (.t (.agg [.int .i64 r, .int .i64 k, .sl [bsT (mkD k act d 0), bsT (mkD k act d 1)], .sl (d.map byteT)]), []) := ct_make.eq (r, k, act, d) h
def mkA (k act : Int) (d : List UInt8) (i a : Nat) : List UInt8 := if a < i then mkD k act d a else []
theorem mkA_0 {k act : Int} {d : List UInt8} {a : Nat} : mkA k act d 0 a = [] := if_neg (by omega)
theorem mkA_10 {k act : Int} {d : List UInt8} : mkA k act d 1 0 = mkD k act d 0 := if_pos (by omega)
theorem mkA_11 {k act : Int} {d : List UInt8} : mkA k act d 1 1 = [] := if_neg (by omega)
theorem mkA_2 {k act : Int} {d : List UInt8} {a : Nat} (h : a < 2) : mkA k act d 2 a = mkD k act d a := if_pos h
theorem mkD0 {k act : Int} {d : List UInt8} : mkD k act d 0 = if k ≠ 5 ∧ act % 2 = 1 then sum1 d else [] := by unfold mkD; simp [sumA]
theorem mkD1 {k act : Int} {d : List UInt8} : mkD k act d 1 = if k ≠ 5 ∧ act / 2 % 2 = 1 then sum256 d else [] := by unfold mkD; simp [sumA]
theorem w_event_Make (tab : Tab) (gl : Gl) (n1 n2 : Nat) (h1 : tab.look n1 = some ct_clone.fs) (h2 : tab.look n2 = some ct_sumA.fs) (r k act : Int) (d : List UInt8) (ha : 0 ≤ act ∧ act < 4) (hd : d.length < 1000000000) :
   (ac_event_Make n1 n2).wp tab gl (zipF 0 [.t (.int .i64 r), .t (.int .i64 k), .t (.int .i64 act), .t (.sl (d.map byteT))]) (zipF 0 []) (resW [(8, some (4, true))] 0 (fun r' o => r' = .t (evT (mkE r k act d)) ∧ o = [])) := by
 have hc := clone_eq hd
 have s0 := sumA_eq0 hd
 have s1 := sumA_eq1 hd
 have e0 := mkD0 (k := k) (act := act) (d := d)
 have e1 := mkD1 (k := k) (act := act) (d := d)
 have l0 : (sum1 d).length = 20 := sum1_length
 have l1 : (sum256 d).length = 32 := sum256_length
 have t0 : List.take 20 (sum1 d) = sum1 d := take_sum1
 have t1 : List.take 32 (sum256 d) = sum256 d := take_sum256
 generalize sum1 d = S0 at *
 generalize sum256 d = S1 at *
 simp (disch := omega) only [go_sem, ↓reduceIte, Nat.reduceAdd, Nat.reduceEqDiff, Nat.reduceMul, Nat.reduceLeDiff, Int.reduceLE, reduceCtorEq, ac_event_Make, h1, hc]
 repeat refine And.intro rfl ?_
 refine loop_upto 2 (fun i => [(1, .t (.int .i64 k)), (2, .t (.int .i64 act)), (3, .t (.sl (d.map byteT))), (8, .ref 4096 0 0), (9, .ref 8288 0 0), (19, .t (.int .i64 2)), (20, .t (.int .i64 (i : Nat)))])
   (fun i => [(8288, .live 4 [.agg [.t (.int .i64 r), .t (.int .i64 k), .sl 8224 0 2, .t (.sl (d.map byteT))]] true true), (8224, .live 1 [.t (.sl ((mkA k act d i 0).map byteT)), .t (.sl ((mkA k act d i 1).map byteT))] true false), (4096, .live 4 [.agg [.t (.int .i64 0), .t (.int .i64 0), .nil, .nil]] true true)]) ?_ (fun i hi => ?_)
 · refine Weak.rd id ?_ ?_ rfl
   all_goals simp (disch := omega) only [go_sem, ↓reduceIte, Nat.reduceAdd, Nat.reduceEqDiff, Nat.reduceBEq, reduceCtorEq, id, mkA_0, List.map_nil]
 · rcases (show i = 0 ∨ i = 1 ∨ i = 2 by omega) with rfl | rfl | rfl
   · rcases (show k = 5 ∨ k ≠ 5 by omega) with rfl | hk
     · rw [if_neg (by simp)] at e0
       simp (disch := omega) only [go_sem, ↓reduceIte, Nat.reduceAdd, Nat.reduceEqDiff, Nat.reduceLT, Int.reduceLT, Int.reduceAdd, ac_event_Make_L0, mkA_0]
       refine Weak.rd id ?_ ?_ rfl
       all_goals simp (disch := omega) only [go_sem, ↓reduceIte, Nat.reduceAdd, Nat.reduceEqDiff, Nat.reduceBEq, id, mkA_10, mkA_11, e0, List.map_nil]
     · have k5 : (k == 5) = false := by simpa using hk
       have b5 : (k != 5) = true := by simpa using hk
       rcases (show act = 0 ∨ act = 1 ∨ act = 2 ∨ act = 3 by omega) with rfl | rfl | rfl | rfl
       all_goals simp only [hk, ne_eq, not_false_eq_true, true_and, Int.reduceMod, Int.reduceEq, if_true, if_false] at e0
       all_goals simp (disch := omega) only [go_sem, ↓reduceIte, Nat.reduceAdd, Nat.reduceEqDiff, Nat.reduceLT, Nat.reduceLeDiff, Int.reduceLT, Int.reduceLE, Int.reduceAdd, Int.reduceMod, reduceCtorEq, Int.reducePow, ac_event_Make_L0, mkA_0, k5, b5, h2, s0, Int.reduceFDiv]
       all_goals first
         | (refine ⟨rfl, Weak.cv (hv := []) [28752] id ?_ rfl⟩
            simp (disch := omega) only [go_sem, ↓reduceIte, Nat.reduceAdd, Nat.reduceEqDiff, Nat.reduceLeDiff, Nat.reduceBEq, id, mkA_10, mkA_11, e0, l0, t0, List.map_nil]
            rfl)
         | (refine Weak.rd id ?_ ?_ rfl
            all_goals simp (disch := omega) only [go_sem, ↓reduceIte, Nat.reduceAdd, Nat.reduceEqDiff, Nat.reduceBEq, id, mkA_10, mkA_11, e0, List.map_nil])
   · rcases (show k = 5 ∨ k ≠ 5 by omega) with rfl | hk
     · rw [if_neg (by simp)] at e1
       simp (disch := omega) only [go_sem, ↓reduceIte, Nat.reduceAdd, Nat.reduceEqDiff, Nat.reduceLT, Int.reduceLT, Int.reduceAdd, ac_event_Make_L0, mkA_10, mkA_11]
       refine Weak.rd id ?_ ?_ rfl
       all_goals simp (disch := omega) only [go_sem, ↓reduceIte, Nat.reduceAdd, Nat.reduceEqDiff, Nat.reduceBEq, id, mkA_2, e1, List.map_nil]
     · have k5 : (k == 5) = false := by simpa using hk
       have b5 : (k != 5) = true := by simpa using hk
       rcases (show act = 0 ∨ act = 1 ∨ act = 2 ∨ act = 3 by omega) with rfl | rfl | rfl | rfl
       all_goals simp only [hk, ne_eq, not_false_eq_true, true_and, Int.reduceDiv, Int.reduceMod, Int.reduceEq, if_true, if_false] at e1
       all_goals simp (disch := omega) only [go_sem, ↓reduceIte, Nat.reduceAdd, Nat.reduceEqDiff, Nat.reduceLT, Nat.reduceLeDiff, Int.reduceLT, Int.reduceLE, Int.reduceAdd, Int.reduceMod, reduceCtorEq, Int.reducePow, ac_event_Make_L0, mkA_10, mkA_11, k5, b5, h2, s1, Int.reduceFDiv]
       all_goals first
         | (refine ⟨rfl, Weak.cv (hv := []) [28752] id ?_ rfl⟩
            simp (disch := omega) only [go_sem, ↓reduceIte, Nat.reduceAdd, Nat.reduceEqDiff, Nat.reduceLeDiff, Nat.reduceBEq, id, mkA_2, e1, l1, t1, List.map_nil]
            rfl)
         | (refine Weak.rd id ?_ ?_ rfl
            all_goals simp (disch := omega) only [go_sem, ↓reduceIte, Nat.reduceAdd, Nat.reduceEqDiff, Nat.reduceBEq, id, mkA_2, e1, List.map_nil])
   · simp (disch := omega) only [go_sem, ↓reduceIte, Nat.reduceAdd, Nat.reduceEqDiff, Nat.reduceLeDiff, Int.reduceLT, ac_event_Make_L0, mkA_2, mkE, evT_def, List.map_cons, List.map_nil]
theorem w_ref25_Make (tab : Tab) (gl : Gl) (n1 n2 : Nat) (h1 : tab.look n1 = some ct_has.fs) (h2 : tab.look n2 = some ct_sumA.fs) (r k act : Int) (d : List UInt8) (ha : 0 ≤ act ∧ act < 4) (hd : d.length < 1000000000) :
   (ac_ref25_Make n1 n2).wp tab gl (zipF 0 [.t (.int .i64 r), .t (.int .i64 k), .t (.int .i64 act), .t (.sl (d.map byteT))]) (zipF 0 []) (resW [(8, some (4, true))] 0 (fun r' o => r' = .t (evT (mkE r k act d)) ∧ o = [])) := by
 have q0 := has_eq0 ha
 have q1 := has_eq1 ha
 have s0 := sumA_eq0 hd
 have s1 := sumA_eq1 hd
 have e0 := mkD0 (k := k) (act := act) (d := d)
 have e1 := mkD1 (k := k) (act := act) (d := d)
 have l0 : (sum1 d).length = 20 := sum1_length
 have l1 : (sum256 d).length = 32 := sum256_length
 have t0 : List.take 20 (sum1 d) = sum1 d := take_sum1
 have t1 : List.take 32 (sum256 d) = sum256 d := take_sum256
 generalize sum1 d = S0 at *
 generalize sum256 d = S1 at *
 simp (disch := omega) only [go_sem, ↓reduceIte, Nat.reduceAdd, Nat.reduceEqDiff, Nat.reduceMul, Nat.reduceLeDiff, Int.reduceLE, reduceCtorEq, ac_ref25_Make]
 repeat refine And.intro rfl ?_
 refine loop_upto 2 (fun i => [(1, .t (.int .i64 k)), (2, .t (.int .i64 act)), (3, .t (.sl (d.map byteT))), (8, .ref 4096 0 0), (9, .ref 8272 0 0), (10, .t (.int .i64 (i : Nat)))])
   (fun i => [(8272, .live 4 [.agg [.t (.int .i64 r), .t (.int .i64 k), .sl 8224 0 2, .t (.sl (d.map byteT))]] true true), (8224, .live 1 [.t (.sl ((mkA k act d i 0).map byteT)), .t (.sl ((mkA k act d i 1).map byteT))] true false), (4096, .live 4 [.agg [.t (.int .i64 0), .t (.int .i64 0), .nil, .nil]] true true)]) ?_ (fun i hi => ?_)
 · refine Weak.rd id ?_ ?_ rfl
   all_goals simp (disch := omega) only [go_sem, ↓reduceIte, Nat.reduceAdd, Nat.reduceEqDiff, Nat.reduceBEq, reduceCtorEq, id, mkA_0, List.map_nil]
 · have k5 : ∀ h : k ≠ 5, (k == 5) = false := fun h => by simpa using h
   have b5 : ∀ h : k ≠ 5, (k != 5) = true := fun h => by simpa using h
   rcases (show i = 0 ∨ i = 1 ∨ i = 2 by omega) with rfl | rfl | rfl
   · by_cases b0 : act % 2 = 1
     · rcases (show k = 5 ∨ k ≠ 5 by omega) with rfl | hk
       · rw [if_neg (by simp)] at e0
         simp (disch := omega) only [go_sem, ↓reduceIte, Nat.reduceAdd, Nat.reduceEqDiff, Nat.reduceLT, Nat.reduceLeDiff, Int.reduceLT, Int.reduceAdd, ac_ref25_Make_L0, mkA_0, h1, q0, b0]
         refine Weak.rd id ?_ ?_ rfl
         all_goals simp (disch := omega) only [go_sem, ↓reduceIte, Nat.reduceAdd, Nat.reduceEqDiff, Nat.reduceBEq, id, mkA_10, mkA_11, e0, List.map_nil]
       · rw [if_pos ⟨hk, b0⟩] at e0
         simp (disch := omega) only [go_sem, ↓reduceIte, Nat.reduceAdd, Nat.reduceEqDiff, Nat.reduceLT, Nat.reduceLeDiff, Int.reduceLT, Int.reduceLE, Int.reduceAdd, reduceCtorEq, ac_ref25_Make_L0, mkA_0, h1, q0, b0, k5 hk, b5 hk, h2, s0]
         refine ⟨rfl, Weak.cv (hv := []) [28752] id ?_ rfl⟩
         simp (disch := omega) only [go_sem, ↓reduceIte, Nat.reduceAdd, Nat.reduceEqDiff, Nat.reduceLeDiff, Nat.reduceBEq, id, mkA_10, mkA_11, e0, l0, t0, List.map_nil]
         rfl
     · rw [if_neg (by simp [b0])] at e0
       simp (disch := omega) only [go_sem, ↓reduceIte, Nat.reduceAdd, Nat.reduceEqDiff, Nat.reduceLT, Nat.reduceLeDiff, Int.reduceLT, Int.reduceAdd, ac_ref25_Make_L0, mkA_0, h1, q0, b0]
       refine Weak.rd id ?_ ?_ rfl
       all_goals simp (disch := omega) only [go_sem, ↓reduceIte, Nat.reduceAdd, Nat.reduceEqDiff, Nat.reduceBEq, id, mkA_10, mkA_11, e0, List.map_nil]
   · by_cases b0 : act / 2 % 2 = 1
     · rcases (show k = 5 ∨ k ≠ 5 by omega) with rfl | hk
       · rw [if_neg (by simp)] at e1
         simp (disch := omega) only [go_sem, ↓reduceIte, Nat.reduceAdd, Nat.reduceEqDiff, Nat.reduceLT, Nat.reduceLeDiff, Int.reduceLT, Int.reduceAdd, ac_ref25_Make_L0, mkA_10, mkA_11, h1, q1, b0]
         refine Weak.rd id ?_ ?_ rfl
         all_goals simp (disch := omega) only [go_sem, ↓reduceIte, Nat.reduceAdd, Nat.reduceEqDiff, Nat.reduceBEq, id, mkA_2, e1, List.map_nil]
       · rw [if_pos ⟨hk, b0⟩] at e1
         simp (disch := omega) only [go_sem, ↓reduceIte, Nat.reduceAdd, Nat.reduceEqDiff, Nat.reduceLT, Nat.reduceLeDiff, Int.reduceLT, Int.reduceLE, Int.reduceAdd, reduceCtorEq, ac_ref25_Make_L0, mkA_10, mkA_11, h1, q1, b0, k5 hk, b5 hk, h2, s1]
         refine ⟨rfl, Weak.cv (hv := []) [28752] id ?_ rfl⟩
         simp (disch := omega) only [go_sem, ↓reduceIte, Nat.reduceAdd, Nat.reduceEqDiff, Nat.reduceLeDiff, Nat.reduceBEq, id, mkA_2, e1, l1, t1, List.map_nil]
         rfl
     · rw [if_neg (by simp [b0])] at e1
       simp (disch := omega) only [go_sem, ↓reduceIte, Nat.reduceAdd, Nat.reduceEqDiff, Nat.reduceLT, Nat.reduceLeDiff, Int.reduceLT, Int.reduceAdd, ac_ref25_Make_L0, mkA_10, mkA_11, h1, q1, b0]
       refine Weak.rd id ?_ ?_ rfl
       all_goals simp (disch := omega) only [go_sem, ↓reduceIte, Nat.reduceAdd, Nat.reduceEqDiff, Nat.reduceBEq, id, mkA_2, e1, List.map_nil]
   · simp (disch := omega) only [go_sem, ↓reduceIte, Nat.reduceAdd, Nat.reduceEqDiff, Nat.reduceLeDiff, Int.reduceLT, ac_ref25_Make_L0, mkA_2, mkE, evT_def, List.map_cons, List.map_nil]
def ct_eqB : Ct where
 α := List UInt8 × List UInt8
 as x := [.t (.sl (x.1.map byteT)), .t (.sl (x.2.map byteT))]
 ins _ := []
 pre _ := True
 r x := .t (.bool (decide (x.1 = x.2)))
 outs _ := []
 inj := by
   rintro ⟨a, b⟩ ⟨c, d⟩ h _
   simp only [List.cons.injEq, V.t.injEq, T.sl.injEq, and_true, mapB_inj] at h
   obtain ⟨rfl, rfl⟩ := h
   exact ⟨rfl, rfl⟩
theorem eqB_eq {a b : List UInt8} : ct_eqB.fs [.t (.sl (a.map byteT)), .t (.sl (b.map byteT))] [] = some (.t (.bool (decide (a = b))), []) := ct_eqB.eq (a, b) trivial
theorem w_bytes_Equal (tab : Tab) (gl : Gl) (x : ct_eqB.α) : ac_bytes_Equal.wp tab gl (zipF 0 (ct_eqB.as x)) (zipF 0 []) (resW [(4, none)] 0 (fun r o => r = ct_eqB.r x ∧ o = [])) := by
 obtain ⟨a, b⟩ := x
 show ac_bytes_Equal.wp tab gl (zipF 0 [.t (.sl (a.map byteT)), .t (.sl (b.map byteT))]) (zipF 0 []) (resW [(4, none)] 0 (fun r o => r = .t (.bool (decide (a = b))) ∧ o = []))
 simp (disch := omega) only [go_sem, ↓reduceIte, Nat.reduceAdd, Nat.reduceEqDiff, reduceCtorEq, ac_bytes_Equal]
def sep4 : List UInt8 := [0, 0, 0, 0]
def ct_sep : Ct where
 α := Unit
 as _ := []
 ins _ := []
 pre _ := True
 r _ := .sl 0 0 4
 outs _ := [.live 1 ((sep4.map byteT).map V.t) true true]
 inj := by intro a b _ _; exact ⟨rfl, rfl⟩
theorem sep_eq : ct_sep.fs [] [] = some (.sl 0 0 4, [.live 1 ((sep4.map byteT).map V.t) true true]) := ct_sep.eq () trivial
theorem w_ref25_Separator (tab : Tab) (gl : Gl) : ac_ref25_Separator.wp tab gl (zipF 0 []) (zipF 0 []) (resF [] [(0, none)] 0 (fun r o => r = .sl 0 0 4 ∧ o = [.live 1 ((sep4.map byteT).map V.t) true true])) := by
 simp (disch := omega) only [go_sem, ↓reduceIte, Nat.reduceAdd, Nat.reduceLT, ac_ref25_Separator, sep4, List.map_cons, List.map_nil]
def okC (c : UInt8) : Bool := !decide (c.toNat < 32) && !decide (c.toNat > 126)
def blL (b x : List UInt8) : List UInt8 := b ++ beI 2 (x.length : Int) 2 ++ x
theorem blL_len {b x : List UInt8} : (blL b x).length = b.length + 2 + x.length := by unfold blL; rw [List.length_append, List.length_append, beI_len]
def ct_blob : Ct where
 α := List UInt8 × List UInt8
 as x := [.t (.sl (x.1.map byteT)), .t (.sl (x.2.map byteT))]
 ins _ := []
 pre x := x.1.length < 100000000 ∧ x.2.length ≤ 65535
 r x := .sl 0 0 (x.1.length + 2 + x.2.length)
 outs x := [.live 1 (((blL x.1 x.2).map byteT).map V.t) true false]
 inj := by
   rintro ⟨a, b⟩ ⟨c, d⟩ h _
   simp only [List.cons.injEq, V.t.injEq, T.sl.injEq, and_true, mapB_inj] at h
   obtain ⟨rfl, rfl⟩ := h
   exact ⟨rfl, rfl⟩
theorem blob_eq {b x : List UInt8} (h : b.length < 100000000 ∧ x.length ≤ 65535) : ct_blob.fs [.t (.sl (b.map byteT)), .t (.sl (x.map byteT))] [] = some (.sl 0 0 (b.length + 2 + x.length), [.live 1 (((blL b x).map byteT).map V.t) true false]) := ct_blob.eq (b, x) h
theorem w_ref3_Blob (tab : Tab) (gl : Gl) (n1 : Nat) (h1 : tab.look n1 = some ct_uint.fs) (b x : List UInt8) (hb : b.length < 100000000) (hx : x.length ≤ 65535) :
   (ac_ref3_Blob n1).wp tab gl (zipF 0 [.t (.sl (b.map byteT)), .t (.sl (x.map byteT))]) (zipF 0 []) (resF [] [(4, none)] 0 (fun r o => r = .sl 0 0 (b.length + 2 + x.length) ∧ o = [.live 1 (((blL b x).map byteT).map V.t) true false])) := by
 have hu := uint2 (b := b) (n := (x.length : Int)) (by omega)
 have hl : (b ++ beI 2 (x.length : Int) 2).length = b.length + 2 := by rw [List.length_append, beI_len]
 have hbl : blL b x = b ++ beI 2 (x.length : Int) 2 ++ x := rfl
 have hno : ¬ 65535 < (x.length : Int) := by omega
 rw [hbl]
 generalize b ++ beI 2 (x.length : Int) 2 = B at *
 simp (disch := omega) only [go_sem, ↓reduceIte, Nat.reduceAdd, Nat.reduceEqDiff, Nat.reduceLeDiff, reduceCtorEq, ac_ref3_Blob, h1, hu, hl, hno, List.take_length]
def wrBad (r k : Int) (n m : Nat) : Prop := r < 0 ∨ 11 < r ∨ k < 1 ∨ 5 < k ∨ n ≠ 2 ∨ 64 < m
instance {r k : Int} {n m : Nat} : Decidable (wrBad r k n m) := by unfold wrBad; infer_instance
def wrE (e : Ev) : Bool := !decide (wrBad e.1 e.2.1 e.2.2.1.length e.2.2.2.length) && (decide ((e.2.2.1.getD 0 []).length ≤ 32) && decide ((e.2.2.1.getD 1 []).length ≤ 32))
theorem wrE_two {r k : Int} {d0 d1 d : List UInt8} (h : ¬ wrBad r k 2 d.length) : wrE (r, k, [d0, d1], d) = (decide (d0.length ≤ 32) && decide (d1.length ≤ 32)) := by
 unfold wrE
 simp only [List.length_cons, List.length_nil]
 rw [decide_eq_false h]; rfl
theorem shl8_i64 {a : Nat} {k' : IntKind} (h : a < 1000000) : binI .shl .i64 (a : Int) k' 8 = some (.int .i64 ((256 * a : Nat) : Int)) := by
 change (if (8 : Int) < 0 then none else some (T.int .i64 (IntKind.i64.wrap ((a : Int) * 2 ^ min (8 : Int).toNat 64)))) = _
 rw [if_neg (by omega), show (a : Int) * 2 ^ min (8 : Int).toNat 64 = ((256 * a : Nat) : Int) by
   rw [show min (8 : Int).toNat 64 = 8 from rfl]; omega, wrap_i64_id (by omega)]
theorem or8_i64 {a : Nat} {x : UInt8} (h : a < 1000000) : binI .or .i64 ((256 * a : Nat) : Int) .i64 (x.toNat : Int) = some (.int .i64 ((256 * a + x.toNat : Nat) : Int)) := by
 have hx := x.toNat_lt
 change some (T.int .i64 (IntKind.i64.wrap ((BitVec.ofInt 64 ((256 * a : Nat) : Int) ||| BitVec.ofInt 64 (x.toNat : Int)).toNat : Int))) = _
 have e : (BitVec.ofInt 64 ((256 * a : Nat) : Int) ||| BitVec.ofInt 64 (x.toNat : Int)).toNat = 256 * a + x.toNat := by
   rw [BitVec.toNat_or, BitVec.toNat_ofInt, BitVec.toNat_ofInt, Int.emod_eq_of_lt (by omega) (by omega), Int.emod_eq_of_lt (by omega) (by omega), Int.toNat_natCast, Int.toNat_natCast, or8 (by omega)]
 rw [e, wrap_i64_id (by omega)]
attribute [go_sem ↓] shl8_i64 or8_i64
abbrev Cd := List UInt8 × Nat
def cdOb (c : Cd) : Ob := .live 2 [.t (.agg [.sl (c.1.map byteT), .int .i64 (c.2 : Int)])] true true
abbrev cdO (c : Cd) : Ob := .live 2 [.t (.agg [.sl (c.1.map byteT), .int .i64 (c.2 : Int)])] true true
theorem cdOb_eq {b : List UInt8} {a : Nat} : cdOb (b, a) = .live 2 [.t (.agg [.sl (b.map byteT), .int .i64 (a : Int)])] true true := rfl
theorem cdOb_inj {s t : Cd} (h : cdOb s = cdOb t) : s = t := by
 obtain ⟨b, a⟩ := s
 obtain ⟨b', a'⟩ := t
 simp only [cdOb_eq, Ob.live.injEq, List.cons.injEq, V.t.injEq, T.agg.injEq, T.sl.injEq, T.int.injEq, mapB_inj, Int.natCast_inj] at h
 simp only [Prod.mk.injEq]
 exact ⟨h.2.1.1.1, h.2.1.1.2.1.2⟩
def cdOk (c : Cd) : Prop := c.2 ≤ c.1.length ∧ c.1.length < 1000000000
def nx (c : Cd) (n : Nat) : Nat × Cd := if c.1.length ≤ c.2 then (0, c) else ((c.1.getD c.2 0).toNat % n, (c.1, c.2 + 1))
theorem nx_ok {c : Cd} {n : Nat} (h : cdOk c) : cdOk (nx c n).2 := by
 unfold nx cdOk at *
 split
 · exact h
 · exact ⟨by simp only; omega, h.2⟩
theorem nx_lt {c : Cd} {n : Nat} (h : 1 ≤ n) : (nx c n).1 < n := by
 unfold nx
 split
 · exact h
 · exact Nat.mod_lt _ (by omega)
def ct_next : Ct where
 α := Cd × Nat
 as x := [.ref 0 0 0, .t (.int .i64 x.2)]
 ins x := [cdOb x.1]
 pre x := cdOk x.1 ∧ 1 ≤ x.2 ∧ x.2 ≤ 1000000000
 r x := .t (.int .i64 (nx x.1 x.2).1)
 outs x := [cdOb (nx x.1 x.2).2]
 inj := by
   rintro ⟨s, a⟩ ⟨t, c⟩ h1 h2
   simp only [List.cons.injEq, V.t.injEq, T.int.injEq, true_and, and_true, Int.natCast_inj] at h1
   simp only [List.cons.injEq, and_true] at h2
   subst h1
   cases cdOb_inj h2
   exact ⟨rfl, rfl⟩
theorem next_eq {c : Cd} {n : Nat} (h : cdOk c ∧ 1 ≤ n ∧ n ≤ 1000000000) : ct_next.fs [.ref 0 0 0, .t (.int .i64 n)] [cdO c] = some (.t (.int .i64 (nx c n).1), [cdO (nx c n).2]) := ct_next.eq (c, n) h
theorem w_draw_Next (tab : Tab) (gl : Gl) (c : Cd) (n : Nat) (hc : cdOk c) (h1 : 1 ≤ n) (h2 : n ≤ 1000000000) :
   ac_draw_Codes_Next.wp tab gl (zipF 0 [.ref 0 0 0, .t (.int .i64 n)]) (zipF 0 [cdOb c]) (resW [(4, none)] 1 (fun r o => r = .t (.int .i64 (nx c n).1) ∧ o = [cdOb (nx c n).2])) := by
 obtain ⟨b, a⟩ := c
 obtain ⟨q1, q2⟩ := hc
 simp only at q1 q2
 by_cases h : b.length ≤ a
 · have e : nx (b, a) n = (0, (b, a)) := if_pos h
   rw [e]
   simp (disch := omega) only [go_sem, ↓reduceIte, Nat.reduceAdd, Nat.reduceEqDiff, Nat.reduceLeDiff, reduceCtorEq, ac_draw_Codes_Next, cdOb_eq, h]
   rfl
 · have e : nx (b, a) n = ((b.getD a 0).toNat % n, (b, a + 1)) := if_neg h
   rw [e]
   simp (disch := omega) only [go_sem, ↓reduceIte, Nat.reduceAdd, Nat.reduceEqDiff, Nat.reduceLeDiff, reduceCtorEq, ac_draw_Codes_Next, cdOb_eq, h]
   exact ⟨rfl, rfl, by rw [Int.tmod_eq_emod_of_nonneg (Int.natCast_nonneg _)]; norm_cast⟩
def ct_dnew : Ct where
 α := List UInt8 × Nat
 as x := [.t (.sl (x.1.map byteT)), .t (.int .i64 x.2)]
 ins _ := []
 pre x := x.1.length ≤ 9223372036854775807 ∧ x.2 ≤ 1000000
 r _ := .ref 0 0 0
 outs x := [cdOb (x.1.take x.2, 0)]
 inj := by
   rintro ⟨a, b⟩ ⟨c, d⟩ h _
   simp only [List.cons.injEq, V.t.injEq, T.sl.injEq, T.int.injEq, true_and, and_true, mapB_inj, Int.natCast_inj] at h
   obtain ⟨rfl, rfl⟩ := h
   exact ⟨rfl, rfl⟩
theorem dnew_eq {b : List UInt8} {n : Nat} (h : b.length ≤ 9223372036854775807 ∧ n ≤ 1000000) : ct_dnew.fs [.t (.sl (b.map byteT)), .t (.int .i64 n)] [] = some (.ref 0 0 0, [cdO (b.take n, 0)]) := ct_dnew.eq (b, n) h
theorem w_draw_New (tab : Tab) (gl : Gl) (b : List UInt8) (n : Nat) (h1 : b.length ≤ 9223372036854775807) (h2 : n ≤ 1000000) :
   ac_draw_New.wp tab gl (zipF 0 [.t (.sl (b.map byteT)), .t (.int .i64 n)]) (zipF 0 []) (resF [] [(4, none)] 0 (fun r o => r = .ref 0 0 0 ∧ o = [cdOb (b.take n, 0)])) := by
 by_cases h : n < b.length
 · simp (disch := omega) only [go_sem, ↓reduceIte, Nat.reduceAdd, Nat.reduceEqDiff, Nat.reduceLeDiff, Int.reduceLE, reduceCtorEq, ac_draw_New, cdOb_eq, h]
 · have e : b.take n = b := List.take_of_length_le (by omega)
   simp (disch := omega) only [go_sem, ↓reduceIte, Nat.reduceAdd, Nat.reduceEqDiff, Nat.reduceLeDiff, reduceCtorEq, ac_draw_New, cdOb_eq, h, e]
def ct_cut : Ct where
 α := List UInt8 × Nat
 as x := [.t (.sl (x.1.map byteT)), .t (.int .i64 x.2)]
 ins _ := []
 pre x := x.1.length ≤ 9223372036854775807 ∧ x.2 ≤ 1000000
 r x := .t (.sl ((x.1.take x.2).map byteT))
 outs _ := []
 inj := by
   rintro ⟨a, b⟩ ⟨c, d⟩ h _
   simp only [List.cons.injEq, V.t.injEq, T.sl.injEq, T.int.injEq, true_and, and_true, mapB_inj, Int.natCast_inj] at h
   obtain ⟨rfl, rfl⟩ := h
   exact ⟨rfl, rfl⟩
theorem cut_eq {b : List UInt8} {n : Nat} (h : b.length ≤ 9223372036854775807 ∧ n ≤ 1000000) : ct_cut.fs [.t (.sl (b.map byteT)), .t (.int .i64 n)] [] = some (.t (.sl ((b.take n).map byteT)), []) := ct_cut.eq (b, n) h
theorem w_draw_Cut (tab : Tab) (gl : Gl) (b : List UInt8) (n : Nat) (h1 : b.length ≤ 9223372036854775807) (h2 : n ≤ 1000000) :
   ac_draw_Cut.wp tab gl (zipF 0 [.t (.sl (b.map byteT)), .t (.int .i64 n)]) (zipF 0 []) (resW [(4, none)] 0 (fun r o => r = .t (.sl ((b.take n).map byteT)) ∧ o = [])) := by
 by_cases h : n < b.length
 · simp (disch := omega) only [go_sem, ↓reduceIte, Nat.reduceAdd, Nat.reduceEqDiff, Int.reduceLE, reduceCtorEq, ac_draw_Cut, h]
 · have e : b.take n = b := List.take_of_length_le (by omega)
   simp (disch := omega) only [go_sem, ↓reduceIte, Nat.reduceAdd, Nat.reduceEqDiff, reduceCtorEq, ac_draw_Cut, h, e]
def ct_mod : Ct where
 α := Int × Int
 as x := [.t (.int .i64 x.1), .t (.int .i64 x.2)]
 ins _ := []
 pre x := (-9223372036854775808 ≤ x.1 ∧ x.1 < 9223372036854775808) ∧ (-9223372036854775808 ≤ x.2 ∧ x.2 < 9223372036854775808)
 r x := .t (.int .i64 (modI x.1 x.2))
 outs _ := []
 inj := by
   rintro ⟨a, b⟩ ⟨c, d⟩ h _
   simp only [List.cons.injEq, V.t.injEq, T.int.injEq, true_and, and_true] at h
   obtain ⟨rfl, rfl⟩ := h
   exact ⟨rfl, rfl⟩
theorem mod_eq {a b : Int} (h : (-9223372036854775808 ≤ a ∧ a < 9223372036854775808) ∧ (-9223372036854775808 ≤ b ∧ b < 9223372036854775808)) : ct_mod.fs [.t (.int .i64 a), .t (.int .i64 b)] [] = some (.t (.int .i64 (modI a b)), []) := ct_mod.eq (a, b) h
theorem mkD_len {k act : Int} {d : List UInt8} {a : Nat} : (mkD k act d a).length = wantL k act a := by
 unfold mkD wantL
 split
 · exact sumA_length
 · rfl
theorem wantL_le {k act : Int} {a : Nat} : wantL k act a ≤ 32 := by
 unfold wantL szA
 split
 · split
   · omega
   · split <;> omega
 · omega
theorem mkE_m {r k act : Int} {d : List UInt8} (h : d.length < 1000000000) : evM (mkE r k act d) := by
 have w0 := wantL_le (k := k) (act := act) (a := 0)
 have w1 := wantL_le (k := k) (act := act) (a := 1)
 refine ⟨⟨by simp [mkE], fun x hx => ?_⟩, h⟩
 simp only [mkE, List.mem_cons, List.not_mem_nil, or_false] at hx
 rcases hx with rfl | rfl <;> (rw [mkD_len]; omega)
theorem mkE_ok {r k act : Int} {d : List UInt8} (hr : 0 ≤ r ∧ r ≤ 11) (hk : 1 ≤ k ∧ k ≤ 5) (ha : 1 ≤ act ∧ act ≤ 3) (hd : d.length ≤ 64) : chkE (mkE r k act d) act = 0 := by
 unfold chkE mkE
 simp only
 rw [if_neg (by unfold badE; omega), if_neg (by omega), if_pos]
 rw [fitE_two, mkD_len, mkD_len, decide_eq_true rfl, decide_eq_true rfl]; rfl
theorem mkE_wr {r k act : Int} {d : List UInt8} (hr : 0 ≤ r ∧ r ≤ 11) (hk : 1 ≤ k ∧ k ≤ 5) (hd : d.length ≤ 64) : wrE (mkE r k act d) = true := by
 have w0 := wantL_le (k := k) (act := act) (a := 0)
 have w1 := wantL_le (k := k) (act := act) (a := 1)
 unfold mkE
 rw [wrE_two (by unfold wrBad; omega), mkD_len, mkD_len, decide_eq_true w0, decide_eq_true w1]; rfl
theorem modI_lt {a m : Int} (h : 1 ≤ m) : 0 ≤ modI a m ∧ modI a m < m := by
 unfold modI
 rw [if_neg (by omega)]
 exact ⟨Int.emod_nonneg _ (by omega), Int.emod_lt_of_pos _ (by omega)⟩
def lineL (i : Nat) : List UInt8 := match i with
 | 0 => [97, 61, 49]
 | 1 => [99, 111, 117, 110, 116, 61, 53]
 | 2 => [99, 111, 117, 110, 116, 61, 49, 55]
 | 3 => [104, 111, 115, 116, 61, 120]
 | 4 => [109, 111, 100, 101, 32, 98]
 | _ => [126]
theorem lineL_len {i : Nat} : 1 ≤ (lineL i).length ∧ (lineL i).length ≤ 8 := by
 unfold lineL; split <;> decide
def ct_line : Ct where
 α := Cd
 as _ := [.ref 0 0 0]
 ins x := [cdOb x]
 pre x := cdOk x
 r x := .t (.sl ((lineL (nx x 6).1).map byteT))
 outs x := [cdOb (nx x 6).2]
 inj := by
   intro s t _ h2
   simp only [List.cons.injEq, and_true] at h2
   cases cdOb_inj h2
   exact ⟨rfl, rfl⟩
theorem line_eq {c : Cd} (h : cdOk c) : ct_line.fs [.ref 0 0 0] [cdO c] = some (.t (.sl ((lineL (nx c 6).1).map byteT)), [cdO (nx c 6).2]) := ct_line.eq c h
theorem w_draw_Line (tab : Tab) (gl : Gl) (n1 : Nat) (h1 : tab.look n1 = some ct_next.fs) (c : Cd) (hc : cdOk c) :
   (ac_draw_Codes_Line n1).wp tab gl (zipF 0 [.ref 0 0 0]) (zipF 0 [cdOb c]) (resW [(2, none)] 1 (fun r o => r = .t (.sl ((lineL (nx c 6).1).map byteT)) ∧ o = [cdOb (nx c 6).2])) := by
 have hn := next_eq (c := c) (n := 6) ⟨hc, by omega, by omega⟩
 have hl := nx_lt (c := c) (n := 6) (by omega)
 have k6 : ((6 : Nat) : Int) = 6 := rfl
 rw [k6] at hn
 generalize nx c 6 = q at *
 obtain ⟨i, b', a'⟩ := q
 obtain ⟨b, a⟩ := c
 simp only at hl hn
 rcases (show i = 0 ∨ i = 1 ∨ i = 2 ∨ i = 3 ∨ i = 4 ∨ i = 5 by omega) with rfl | rfl | rfl | rfl | rfl | rfl
 all_goals simp only [cdO, Int.natCast_zero, Int.natCast_one, Int.cast_ofNat_Int] at hn
 all_goals simp (disch := omega) only [go_sem, ↓reduceIte, Nat.reduceAdd, Nat.reduceEqDiff, Nat.reduceSub, Nat.reduceLeDiff, Nat.reduceBEq, Int.reduceLT, Int.reduceLE, reduceCtorEq, ac_draw_Codes_Line, cdOb_eq, h1, hn, lineL, List.map_cons, List.map_nil]
def regT8 (i : Nat) : Int := match i with | 2 => 4 | 3 => 8 | 4 => 9 | 5 => 9 | 6 => 1 | 7 => 11 | _ => 0
theorem regT8_le {i : Nat} : 0 ≤ regT8 i ∧ regT8 i ≤ 11 := by unfold regT8; split <;> omega
theorem regT8_get {i : Nat} (h : i < 8) : [V.t (.int .i64 0), V.t (.int .i64 0), V.t (.int .i64 4), V.t (.int .i64 8), V.t (.int .i64 9), V.t (.int .i64 9), V.t (.int .i64 1), V.t (.int .i64 11)][i]? = some (V.t (.int .i64 (regT8 i))) := by
 rcases (show i = 0 ∨ i = 1 ∨ i = 2 ∨ i = 3 ∨ i = 4 ∨ i = 5 ∨ i = 6 ∨ i = 7 by omega) with rfl | rfl | rfl | rfl | rfl | rfl | rfl | rfl <;> rfl
def evData (c : Cd) : List UInt8 × Cd := if (nx (nx c 6).2 4).1 = 3 then ((lineL (nx c 6).1).take (nx (nx (nx c 6).2 4).2 2).1, (nx (nx (nx c 6).2 4).2 2).2) else (lineL (nx c 6).1, (nx (nx c 6).2 4).2)
def evKind (c : Cd) : Int × Int × Cd := (1 + ((nx c 5).1 : Int), regT8 (nx (nx c 5).2 8).1, (nx (nx c 5).2 8).2)
def evSep (k r : Int) (d : List UInt8) (c : Cd) : Int × List UInt8 × Cd :=
 if k = 2 then (if 0 < (nx c 4).1 then ((nx (nx c 4).2 8).1, sep4, (nx (nx c 4).2 8).2) else (r, d, (nx c 4).2)) else (r, d, c)
def evDig (k r act : Int) (d : List UInt8) (c : Cd) : Ev × Cd :=
 if k = 5 then (mkE r k act d, c) else if (nx c 4).1 = 3 then ((r, k, dgB act [UInt8.ofNat (nx (nx c 4).2 4).1, UInt8.ofNat k.toNat], d), (nx (nx c 4).2 4).2) else (mkE r k act d, (nx c 4).2)
def evG (c : Cd) (act : Int) : Ev × Cd :=
 let d := evData c
 let k := evKind d.2
 let s := evSep k.1 k.2.1 d.1 k.2.2
 evDig k.1 s.1 act s.2.1 s.2.2
theorem evData_le {c : Cd} : (evData c).1.length ≤ 8 := by
 unfold evData; split
 · have := (lineL_len (i := (nx c 6).1)).2
   simp only [List.length_take]; omega
 · exact lineL_len.2
theorem evKind_le {c : Cd} : (1 ≤ (evKind c).1 ∧ (evKind c).1 ≤ 5) ∧ 0 ≤ (evKind c).2.1 ∧ (evKind c).2.1 ≤ 11 := by
 have h := nx_lt (c := c) (n := 5) (by omega)
 refine ⟨⟨?_, ?_⟩, regT8_le⟩ <;> (unfold evKind; simp only; omega)
theorem evSep_le {k r : Int} {d : List UInt8} {c : Cd} (hr : 0 ≤ r ∧ r ≤ 11) (hd : d.length ≤ 8) : (0 ≤ (evSep k r d c).1 ∧ (evSep k r d c).1 ≤ 11) ∧ (evSep k r d c).2.1.length ≤ 8 := by
 unfold evSep
 split
 · split
   · have := nx_lt (c := (nx c 4).2) (n := 8) (by omega)
     refine ⟨⟨?_, ?_⟩, ?_⟩
     · simp only; omega
     · simp only; omega
     · show sep4.length ≤ 8
       decide
   · exact ⟨hr, hd⟩
 · exact ⟨hr, hd⟩
def ct_devt : Ct where
 α := Cd × Int
 as x := [.ref 0 0 0, .t (.int .i64 x.2)]
 ins x := [cdOb x.1]
 pre x := cdOk x.1 ∧ 1 ≤ x.2 ∧ x.2 ≤ 3
 r x := .t (evT (evG x.1 x.2).1)
 outs x := [cdOb (evG x.1 x.2).2]
 inj := by
   rintro ⟨s, a⟩ ⟨t, c⟩ h1 h2
   simp only [List.cons.injEq, V.t.injEq, T.int.injEq, true_and, and_true] at h1
   simp only [List.cons.injEq, and_true] at h2
   subst h1
   cases cdOb_inj h2
   exact ⟨rfl, rfl⟩
theorem nxF (n : Nat) {c : Cd} (h : cdOk c) (h1 : 1 ≤ n) (h2 : n ≤ 1000000000) : ∃ i b a, nx c n = (i, (b, a)) ∧ i < n ∧ cdOk (b, a) ∧ ct_next.fs [.ref 0 0 0, .t (.int .i64 n)] [.live 2 [.t (.agg [.sl (c.1.map byteT), .int .i64 (c.2 : Int)])] true true] = some (.t (.int .i64 i), [.live 2 [.t (.agg [.sl (b.map byteT), .int .i64 (a : Int)])] true true]) := by
 have e := next_eq (c := c) (n := n) ⟨h, h1, h2⟩
 have l := nx_lt (c := c) (n := n) h1
 have k := nx_ok (n := n) h
 obtain ⟨⟨i, b, a⟩, hq⟩ : ∃ q, nx c n = q := ⟨_, rfl⟩
 rw [hq] at e l k
 exact ⟨i, b, a, hq, l, k, e⟩
theorem w_draw_Event (tab : Tab) (gl : Gl) (n1 n2 n3 n4 : Nat) (h1 : tab.look n1 = some ct_line.fs) (h2 : tab.look n2 = some ct_next.fs) (h3 : tab.look n3 = some ct_make.fs) (h4 : tab.look n4 = some ct_ddg.fs) (c : Cd) (hc : cdOk c) (act : Int) (ha : 1 ≤ act ∧ act ≤ 3) :
   (ac_draw_Codes_Event n1 n2 n3 n4).wp tab gl (zipF 0 [.ref 0 0 0, .t (.int .i64 act)]) (zipF 0 [cdOb c]) (resW [(4, some (4, true))] 1 (fun r o => r = .t (evT (evG c act).1) ∧ o = [cdOb (evG c act).2])) := by
 have hL := line_eq hc
 have lA := lineL_len (i := (nx c 6).1)
 obtain ⟨iA, bA, aA, eA, _, okA, _⟩ := nxF 6 hc (by omega) (by omega)
 rw [eA] at hL lA
 obtain ⟨bC, aC⟩ := c
 obtain ⟨iP, bP, aP, eP, lP, okP, hP⟩ := nxF 4 okA (by omega) (by omega)
 have k4 : ((4 : Nat) : Int) = 4 := rfl
 have k2 : ((2 : Nat) : Int) = 2 := rfl
 have k5 : ((5 : Nat) : Int) = 5 := rfl
 have k8 : ((8 : Nat) : Int) = 8 := rfl
 have k3 : ((3 : Nat) : Int) = 3 := rfl
 have w2 : T.int .u8 (IntKind.u8.wrap 2) = byteT (UInt8.ofNat 2) := rfl
 simp only [cdO, k4] at hL hP
 simp only at lA
 by_cases p3 : iP = 3
 · subst p3
   simp only [k3] at hP
   obtain ⟨iQ, bQ, aQ, eQ, lQ, okQ, hQ⟩ := nxF 2 okP (by omega) (by omega)
   simp only [k2, k4, k5, k8] at hQ
   have lX : ((lineL iA).take iQ).length ≤ 8 := by rw [List.length_take]; omega
   have lQ1 : iQ ≤ (lineL iA).length := by omega
   obtain ⟨iK, bK, aK, eK, lK, okK, hK⟩ := nxF 5 okQ (by omega) (by omega)
   simp only [k2, k4, k5, k8] at hK
   obtain ⟨iR, bR, aR, eR, lR, okR, hR⟩ := nxF 8 okK (by omega) (by omega)
   simp only [k2, k4, k5, k8] at hR
   have hg := regT8_get lR
   have hg2 := regT8_le (i := iR)
   by_cases q1 : iK = 1
   · subst q1
     simp only [Int.natCast_one] at hK
     obtain ⟨iW, bW, aW, eW, lW, okW, hW⟩ := nxF 4 okR (by omega) (by omega)
     simp only [k2, k4, k5, k8] at hW
     by_cases w0 : iW = 0
     · subst w0
       simp only [Int.natCast_zero] at hW
       obtain ⟨iZ, bZ, aZ, eZ, lZ, okZ, hZ⟩ := nxF 4 okW (by omega) (by omega)
       simp only [k2, k4, k5, k8] at hZ
       by_cases z3 : iZ = 3
       · subst z3
         simp only [k3] at hZ
         obtain ⟨iY, bY, aY, eY, lY, okY, hY⟩ := nxF 4 okZ (by omega) (by omega)
         simp only [k2, k4, k5, k8] at hY
         have hm := make_eq (r := (regT8 iR)) (k := 2) (act := act) (d := ((lineL iA).take iQ)) ⟨⟨by omega, by omega⟩, by omega⟩
         have hd : ct_ddg.fs [.t (.int .i64 act), .t (.sl [byteT (UInt8.ofNat iY), byteT (UInt8.ofNat 2)])] [] = some (.sl 0 0 2, [.live 1 [.t (bsT (dgb act 0 [UInt8.ofNat iY, UInt8.ofNat 2])), .t (bsT (dgb act 1 [UInt8.ofNat iY, UInt8.ofNat 2]))] true false]) := ct_ddg.eq (act, [UInt8.ofNat iY, UInt8.ofNat 2]) trivial
         have hG : evG (bC, aC) act = (((regT8 iR), 2, dgB act [UInt8.ofNat iY, UInt8.ofNat 2], ((lineL iA).take iQ)), (bY, aY)) := by simp [evG, evData, evKind, evSep, evDig, eA, eP, eQ, eK, eR, eW, eZ, eY]
         have hT : evT ((regT8 iR), 2, dgB act [UInt8.ofNat iY, UInt8.ofNat 2], ((lineL iA).take iQ)) = .agg [.int .i64 (regT8 iR), .int .i64 2, .sl [bsT (dgb act 0 [UInt8.ofNat iY, UInt8.ofNat 2]), bsT (dgb act 1 [UInt8.ofNat iY, UInt8.ofNat 2])], .sl ((((lineL iA).take iQ)).map byteT)] := rfl
         rw [hG]
         generalize evT ((regT8 iR), 2, dgB act [UInt8.ofNat iY, UInt8.ofNat 2], ((lineL iA).take iQ)) = X at *
         generalize mkD 2 act ((lineL iA).take iQ) 0 = D0 at *
         generalize mkD 2 act ((lineL iA).take iQ) 1 = D1 at *
         generalize dgb act 0 [UInt8.ofNat iY, UInt8.ofNat 2] = E0 at *
         generalize dgb act 1 [UInt8.ofNat iY, UInt8.ofNat 2] = E1 at *
         simp only [bsT_def, sep4, List.map_cons, List.map_nil] at hm hT hd
         simp (config := { maxSteps := 2000000 }) (disch := (first | omega | (simp only [lens, lenm]; omega))) only [go_sem, ↓reduceIte, Nat.reduceAdd, Nat.reduceEqDiff, Nat.reduceSub, Nat.reduceLT, Nat.reduceLeDiff, Nat.reduceBEq, Int.reduceLE, Int.reduceAdd, reduceCtorEq, ac_draw_Codes_Event, cdOb_eq, h1, hL, h2, hP, hQ, hK, hR, hg, hW, hZ, hY, h3, hm, hT, h4, hd, w2]
         all_goals rfl
       · have z3b : ((iZ : Int) == 3) = false := by simpa using (by omega : ¬ (iZ : Int) = 3)
         have hm := make_eq (r := (regT8 iR)) (k := 2) (act := act) (d := ((lineL iA).take iQ)) ⟨⟨by omega, by omega⟩, by omega⟩
         have hT : evT (mkE (regT8 iR) 2 act ((lineL iA).take iQ)) = .agg [.int .i64 (regT8 iR), .int .i64 2, .sl [bsT (mkD 2 act ((lineL iA).take iQ) 0), bsT (mkD 2 act ((lineL iA).take iQ) 1)], .sl ((((lineL iA).take iQ)).map byteT)] := rfl
         have hG : evG (bC, aC) act = (mkE (regT8 iR) 2 act ((lineL iA).take iQ), (bZ, aZ)) := by simp [evG, evData, evKind, evSep, evDig, eA, eP, eQ, eK, eR, eW, eZ, z3]
         rw [hG]
         generalize evT (mkE (regT8 iR) 2 act ((lineL iA).take iQ)) = X at *
         generalize mkD 2 act ((lineL iA).take iQ) 0 = D0 at *
         generalize mkD 2 act ((lineL iA).take iQ) 1 = D1 at *
         simp only [bsT_def, sep4, List.map_cons, List.map_nil] at hm hT
         simp (disch := omega) only [go_sem, ↓reduceIte, Nat.reduceAdd, Nat.reduceEqDiff, Nat.reduceSub, Nat.reduceLT, Nat.reduceLeDiff, Int.reduceLE, Int.reduceAdd, reduceCtorEq, ac_draw_Codes_Event, cdOb_eq, h1, hL, h2, hP, hQ, hK, hR, hg, hW, hZ, z3b, h3, hm, hT]
         all_goals rfl
     · have w1 : 0 < iW := by omega
       have l4 : sep4.length = 4 := rfl
       obtain ⟨iV, bV, aV, eV, lV, okV, hV⟩ := nxF 8 okW (by omega) (by omega)
       simp only [k2, k4, k5, k8] at hV
       obtain ⟨iZ, bZ, aZ, eZ, lZ, okZ, hZ⟩ := nxF 4 okV (by omega) (by omega)
       simp only [k2, k4, k5, k8] at hZ
       by_cases z3 : iZ = 3
       · subst z3
         simp only [k3] at hZ
         obtain ⟨iY, bY, aY, eY, lY, okY, hY⟩ := nxF 4 okZ (by omega) (by omega)
         simp only [k2, k4, k5, k8] at hY
         have hm := make_eq (r := ((iV : Nat) : Int)) (k := 2) (act := act) (d := sep4) ⟨⟨by omega, by omega⟩, by omega⟩
         have hd : ct_ddg.fs [.t (.int .i64 act), .t (.sl [byteT (UInt8.ofNat iY), byteT (UInt8.ofNat 2)])] [] = some (.sl 0 0 2, [.live 1 [.t (bsT (dgb act 0 [UInt8.ofNat iY, UInt8.ofNat 2])), .t (bsT (dgb act 1 [UInt8.ofNat iY, UInt8.ofNat 2]))] true false]) := ct_ddg.eq (act, [UInt8.ofNat iY, UInt8.ofNat 2]) trivial
         have hG : evG (bC, aC) act = ((((iV : Nat) : Int), 2, dgB act [UInt8.ofNat iY, UInt8.ofNat 2], sep4), (bY, aY)) := by simp [evG, evData, evKind, evSep, evDig, eA, eP, eQ, eK, eR, eW, w1, eV, eZ, eY]
         have hT : evT (((iV : Nat) : Int), 2, dgB act [UInt8.ofNat iY, UInt8.ofNat 2], sep4) = .agg [.int .i64 ((iV : Nat) : Int), .int .i64 2, .sl [bsT (dgb act 0 [UInt8.ofNat iY, UInt8.ofNat 2]), bsT (dgb act 1 [UInt8.ofNat iY, UInt8.ofNat 2])], .sl ((sep4).map byteT)] := rfl
         rw [hG]
         generalize evT (((iV : Nat) : Int), 2, dgB act [UInt8.ofNat iY, UInt8.ofNat 2], sep4) = X at *
         generalize mkD 2 act sep4 0 = D0 at *
         generalize mkD 2 act sep4 1 = D1 at *
         generalize dgb act 0 [UInt8.ofNat iY, UInt8.ofNat 2] = E0 at *
         generalize dgb act 1 [UInt8.ofNat iY, UInt8.ofNat 2] = E1 at *
         simp only [bsT_def, sep4, List.map_cons, List.map_nil] at hm hT hd
         simp (config := { maxSteps := 2000000 }) (disch := (first | omega | (simp only [lens, lenm]; omega))) only [go_sem, ↓reduceIte, Nat.reduceAdd, Nat.reduceEqDiff, Nat.reduceSub, Nat.reduceLT, Nat.reduceLeDiff, Nat.reduceBEq, Int.reduceLE, Int.reduceAdd, reduceCtorEq, ac_draw_Codes_Event, cdOb_eq, h1, hL, h2, hP, hQ, hK, hR, hg, hW, w1, hV, hZ, hY, h3, hm, hT, h4, hd, w2]
         all_goals rfl
       · have z3b : ((iZ : Int) == 3) = false := by simpa using (by omega : ¬ (iZ : Int) = 3)
         have hm := make_eq (r := ((iV : Nat) : Int)) (k := 2) (act := act) (d := sep4) ⟨⟨by omega, by omega⟩, by omega⟩
         have hT : evT (mkE ((iV : Nat) : Int) 2 act sep4) = .agg [.int .i64 ((iV : Nat) : Int), .int .i64 2, .sl [bsT (mkD 2 act sep4 0), bsT (mkD 2 act sep4 1)], .sl ((sep4).map byteT)] := rfl
         have hG : evG (bC, aC) act = (mkE ((iV : Nat) : Int) 2 act sep4, (bZ, aZ)) := by simp [evG, evData, evKind, evSep, evDig, eA, eP, eQ, eK, eR, eW, w1, eV, eZ, z3]
         rw [hG]
         generalize evT (mkE ((iV : Nat) : Int) 2 act sep4) = X at *
         generalize mkD 2 act sep4 0 = D0 at *
         generalize mkD 2 act sep4 1 = D1 at *
         simp only [bsT_def, sep4, List.map_cons, List.map_nil] at hm hT
         simp (disch := omega) only [go_sem, ↓reduceIte, Nat.reduceAdd, Nat.reduceEqDiff, Nat.reduceSub, Nat.reduceLT, Nat.reduceLeDiff, Int.reduceLE, Int.reduceAdd, reduceCtorEq, ac_draw_Codes_Event, cdOb_eq, h1, hL, h2, hP, hQ, hK, hR, hg, hW, w1, hV, hZ, z3b, h3, hm, hT]
         all_goals rfl
   · by_cases q4 : iK = 4
     · subst q4
       simp only [k4] at hK
       have hm := make_eq (r := (regT8 iR)) (k := 5) (act := act) (d := ((lineL iA).take iQ)) ⟨⟨by omega, by omega⟩, by omega⟩
       have hT : evT (mkE (regT8 iR) 5 act ((lineL iA).take iQ)) = .agg [.int .i64 (regT8 iR), .int .i64 5, .sl [bsT (mkD 5 act ((lineL iA).take iQ) 0), bsT (mkD 5 act ((lineL iA).take iQ) 1)], .sl ((((lineL iA).take iQ)).map byteT)] := rfl
       have hG : evG (bC, aC) act = (mkE (regT8 iR) 5 act ((lineL iA).take iQ), (bR, aR)) := by simp [evG, evData, evKind, evSep, evDig, eA, eP, eQ, eK, eR]
       rw [hG]
       generalize evT (mkE (regT8 iR) 5 act ((lineL iA).take iQ)) = X at *
       generalize mkD 5 act ((lineL iA).take iQ) 0 = D0 at *
       generalize mkD 5 act ((lineL iA).take iQ) 1 = D1 at *
       simp only [bsT_def, sep4, List.map_cons, List.map_nil] at hm hT
       simp (disch := omega) only [go_sem, ↓reduceIte, Nat.reduceAdd, Nat.reduceEqDiff, Nat.reduceSub, Nat.reduceLT, Nat.reduceLeDiff, Int.reduceLE, Int.reduceAdd, reduceCtorEq, ac_draw_Codes_Event, cdOb_eq, h1, hL, h2, hP, hQ, hK, hR, hg, h3, hm, hT]
       all_goals rfl
     · have n2 : ¬ (1 + (iK : Int) = 2) := by omega
       have n5 : ¬ (1 + (iK : Int) = 5) := by omega
       have n2b : ((1 + iK : Nat) : Int) ≠ 2 := by omega
       have n5b : ((1 + iK : Nat) : Int) ≠ 5 := by omega
       have m2 : (((1 + iK : Nat) : Int) == 2) = false := by simpa using n2b
       have m5 : (((1 + iK : Nat) : Int) != 5) = true := by simpa using n5b
       have m5c : (((1 + iK : Nat) : Int) == 5) = false := by simpa using n5b
       have ek : (1 + (iK : Int)) = ((1 + iK : Nat) : Int) := by omega
       obtain ⟨iZ, bZ, aZ, eZ, lZ, okZ, hZ⟩ := nxF 4 okR (by omega) (by omega)
       simp only [k2, k4, k5, k8] at hZ
       by_cases z3 : iZ = 3
       · subst z3
         simp only [k3] at hZ
         obtain ⟨iY, bY, aY, eY, lY, okY, hY⟩ := nxF 4 okZ (by omega) (by omega)
         simp only [k2, k4, k5, k8] at hY
         have hm := make_eq (r := (regT8 iR)) (k := ((1 + iK : Nat) : Int)) (act := act) (d := ((lineL iA).take iQ)) ⟨⟨by omega, by omega⟩, by omega⟩
         have hd : ct_ddg.fs [.t (.int .i64 act), .t (.sl [byteT (UInt8.ofNat iY), byteT (UInt8.ofNat (1 + iK))])] [] = some (.sl 0 0 2, [.live 1 [.t (bsT (dgb act 0 [UInt8.ofNat iY, UInt8.ofNat (1 + iK)])), .t (bsT (dgb act 1 [UInt8.ofNat iY, UInt8.ofNat (1 + iK)]))] true false]) := ct_ddg.eq (act, [UInt8.ofNat iY, UInt8.ofNat (1 + iK)]) trivial
         have hG : evG (bC, aC) act = (((regT8 iR), (1 + (iK : Int)), dgB act [UInt8.ofNat iY, UInt8.ofNat (1 + (iK : Int)).toNat], ((lineL iA).take iQ)), (bY, aY)) := by simp only [evG, evData, evKind, evSep, evDig, eA, eP, eQ, eK, eR, n2, n5, eZ, eY, ↓reduceIte, Nat.reduceEqDiff]
         rw [ek, Int.toNat_natCast] at hG
         have hT : evT ((regT8 iR), ((1 + iK : Nat) : Int), dgB act [UInt8.ofNat iY, UInt8.ofNat (1 + iK)], ((lineL iA).take iQ)) = .agg [.int .i64 (regT8 iR), .int .i64 ((1 + iK : Nat) : Int), .sl [bsT (dgb act 0 [UInt8.ofNat iY, UInt8.ofNat (1 + iK)]), bsT (dgb act 1 [UInt8.ofNat iY, UInt8.ofNat (1 + iK)])], .sl ((((lineL iA).take iQ)).map byteT)] := rfl
         rw [hG]
         generalize evT ((regT8 iR), ((1 + iK : Nat) : Int), dgB act [UInt8.ofNat iY, UInt8.ofNat (1 + iK)], ((lineL iA).take iQ)) = X at *
         generalize mkD ((1 + iK : Nat) : Int) act ((lineL iA).take iQ) 0 = D0 at *
         generalize mkD ((1 + iK : Nat) : Int) act ((lineL iA).take iQ) 1 = D1 at *
         generalize dgb act 0 [UInt8.ofNat iY, UInt8.ofNat (1 + iK)] = E0 at *
         generalize dgb act 1 [UInt8.ofNat iY, UInt8.ofNat (1 + iK)] = E1 at *
         simp only [bsT_def, sep4, List.map_cons, List.map_nil] at hm hT hd
         simp (disch := omega) only [go_sem, ↓reduceIte, Nat.reduceAdd, Nat.reduceEqDiff, Nat.reduceSub, Nat.reduceLT, Nat.reduceLeDiff, Nat.reduceBEq, Int.reduceLE, reduceCtorEq, ac_draw_Codes_Event, cdOb_eq, h1, hL, h2, hP, hQ, hK, hR, hg, m2, m5, m5c, hZ, hY, h3, hm, hT, h4, hd, w2]
         all_goals rfl
       · have z3b : ((iZ : Int) == 3) = false := by simpa using (by omega : ¬ (iZ : Int) = 3)
         have hm := make_eq (r := (regT8 iR)) (k := ((1 + iK : Nat) : Int)) (act := act) (d := ((lineL iA).take iQ)) ⟨⟨by omega, by omega⟩, by omega⟩
         have hT : evT (mkE (regT8 iR) ((1 + iK : Nat) : Int) act ((lineL iA).take iQ)) = .agg [.int .i64 (regT8 iR), .int .i64 ((1 + iK : Nat) : Int), .sl [bsT (mkD ((1 + iK : Nat) : Int) act ((lineL iA).take iQ) 0), bsT (mkD ((1 + iK : Nat) : Int) act ((lineL iA).take iQ) 1)], .sl ((((lineL iA).take iQ)).map byteT)] := rfl
         have hG : evG (bC, aC) act = (mkE (regT8 iR) (1 + (iK : Int)) act ((lineL iA).take iQ), (bZ, aZ)) := by simp only [evG, evData, evKind, evSep, evDig, eA, eP, eQ, eK, eR, n2, n5, eZ, z3, ↓reduceIte, Nat.reduceEqDiff]
         rw [ek] at hG
         rw [hG]
         generalize evT (mkE (regT8 iR) ((1 + iK : Nat) : Int) act ((lineL iA).take iQ)) = X at *
         generalize mkD ((1 + iK : Nat) : Int) act ((lineL iA).take iQ) 0 = D0 at *
         generalize mkD ((1 + iK : Nat) : Int) act ((lineL iA).take iQ) 1 = D1 at *
         simp only [bsT_def, sep4, List.map_cons, List.map_nil] at hm hT
         simp (disch := omega) only [go_sem, ↓reduceIte, Nat.reduceAdd, Nat.reduceEqDiff, Nat.reduceSub, Nat.reduceLT, Nat.reduceLeDiff, Int.reduceLE, reduceCtorEq, ac_draw_Codes_Event, cdOb_eq, h1, hL, h2, hP, hQ, hK, hR, hg, m2, m5, m5c, hZ, z3b, h3, hm, hT]
         all_goals rfl
 · have p3b : ((iP : Int) == 3) = false := by simpa using (by omega : ¬ (iP : Int) = 3)
   obtain ⟨iK, bK, aK, eK, lK, okK, hK⟩ := nxF 5 okP (by omega) (by omega)
   simp only [k2, k4, k5, k8] at hK
   obtain ⟨iR, bR, aR, eR, lR, okR, hR⟩ := nxF 8 okK (by omega) (by omega)
   simp only [k2, k4, k5, k8] at hR
   have hg := regT8_get lR
   have hg2 := regT8_le (i := iR)
   by_cases q1 : iK = 1
   · subst q1
     simp only [Int.natCast_one] at hK
     obtain ⟨iW, bW, aW, eW, lW, okW, hW⟩ := nxF 4 okR (by omega) (by omega)
     simp only [k2, k4, k5, k8] at hW
     by_cases w0 : iW = 0
     · subst w0
       simp only [Int.natCast_zero] at hW
       obtain ⟨iZ, bZ, aZ, eZ, lZ, okZ, hZ⟩ := nxF 4 okW (by omega) (by omega)
       simp only [k2, k4, k5, k8] at hZ
       by_cases z3 : iZ = 3
       · subst z3
         simp only [k3] at hZ
         obtain ⟨iY, bY, aY, eY, lY, okY, hY⟩ := nxF 4 okZ (by omega) (by omega)
         simp only [k2, k4, k5, k8] at hY
         have hm := make_eq (r := (regT8 iR)) (k := 2) (act := act) (d := (lineL iA)) ⟨⟨by omega, by omega⟩, by omega⟩
         have hd : ct_ddg.fs [.t (.int .i64 act), .t (.sl [byteT (UInt8.ofNat iY), byteT (UInt8.ofNat 2)])] [] = some (.sl 0 0 2, [.live 1 [.t (bsT (dgb act 0 [UInt8.ofNat iY, UInt8.ofNat 2])), .t (bsT (dgb act 1 [UInt8.ofNat iY, UInt8.ofNat 2]))] true false]) := ct_ddg.eq (act, [UInt8.ofNat iY, UInt8.ofNat 2]) trivial
         have hG : evG (bC, aC) act = (((regT8 iR), 2, dgB act [UInt8.ofNat iY, UInt8.ofNat 2], (lineL iA)), (bY, aY)) := by simp [evG, evData, evKind, evSep, evDig, eA, eP, p3, eK, eR, eW, eZ, eY]
         have hT : evT ((regT8 iR), 2, dgB act [UInt8.ofNat iY, UInt8.ofNat 2], (lineL iA)) = .agg [.int .i64 (regT8 iR), .int .i64 2, .sl [bsT (dgb act 0 [UInt8.ofNat iY, UInt8.ofNat 2]), bsT (dgb act 1 [UInt8.ofNat iY, UInt8.ofNat 2])], .sl (((lineL iA)).map byteT)] := rfl
         rw [hG]
         generalize evT ((regT8 iR), 2, dgB act [UInt8.ofNat iY, UInt8.ofNat 2], (lineL iA)) = X at *
         generalize mkD 2 act (lineL iA) 0 = D0 at *
         generalize mkD 2 act (lineL iA) 1 = D1 at *
         generalize dgb act 0 [UInt8.ofNat iY, UInt8.ofNat 2] = E0 at *
         generalize dgb act 1 [UInt8.ofNat iY, UInt8.ofNat 2] = E1 at *
         simp only [bsT_def, sep4, List.map_cons, List.map_nil] at hm hT hd
         simp (disch := omega) only [go_sem, ↓reduceIte, Nat.reduceAdd, Nat.reduceEqDiff, Nat.reduceSub, Nat.reduceLT, Nat.reduceLeDiff, Nat.reduceBEq, Int.reduceAdd, reduceCtorEq, ac_draw_Codes_Event, cdOb_eq, h1, hL, h2, hP, p3b, hK, hR, hg, hW, hZ, hY, h3, hm, hT, h4, hd, w2]
         all_goals rfl
       · have z3b : ((iZ : Int) == 3) = false := by simpa using (by omega : ¬ (iZ : Int) = 3)
         have hm := make_eq (r := (regT8 iR)) (k := 2) (act := act) (d := (lineL iA)) ⟨⟨by omega, by omega⟩, by omega⟩
         have hT : evT (mkE (regT8 iR) 2 act (lineL iA)) = .agg [.int .i64 (regT8 iR), .int .i64 2, .sl [bsT (mkD 2 act (lineL iA) 0), bsT (mkD 2 act (lineL iA) 1)], .sl (((lineL iA)).map byteT)] := rfl
         have hG : evG (bC, aC) act = (mkE (regT8 iR) 2 act (lineL iA), (bZ, aZ)) := by simp [evG, evData, evKind, evSep, evDig, eA, eP, p3, eK, eR, eW, eZ, z3]
         rw [hG]
         generalize evT (mkE (regT8 iR) 2 act (lineL iA)) = X at *
         generalize mkD 2 act (lineL iA) 0 = D0 at *
         generalize mkD 2 act (lineL iA) 1 = D1 at *
         simp only [bsT_def, sep4, List.map_cons, List.map_nil] at hm hT
         simp (disch := omega) only [go_sem, ↓reduceIte, Nat.reduceAdd, Nat.reduceEqDiff, Nat.reduceSub, Nat.reduceLT, Nat.reduceLeDiff, Int.reduceAdd, reduceCtorEq, ac_draw_Codes_Event, cdOb_eq, h1, hL, h2, hP, p3b, hK, hR, hg, hW, hZ, z3b, h3, hm, hT]
         all_goals rfl
     · have w1 : 0 < iW := by omega
       have l4 : sep4.length = 4 := rfl
       obtain ⟨iV, bV, aV, eV, lV, okV, hV⟩ := nxF 8 okW (by omega) (by omega)
       simp only [k2, k4, k5, k8] at hV
       obtain ⟨iZ, bZ, aZ, eZ, lZ, okZ, hZ⟩ := nxF 4 okV (by omega) (by omega)
       simp only [k2, k4, k5, k8] at hZ
       by_cases z3 : iZ = 3
       · subst z3
         simp only [k3] at hZ
         obtain ⟨iY, bY, aY, eY, lY, okY, hY⟩ := nxF 4 okZ (by omega) (by omega)
         simp only [k2, k4, k5, k8] at hY
         have hm := make_eq (r := ((iV : Nat) : Int)) (k := 2) (act := act) (d := sep4) ⟨⟨by omega, by omega⟩, by omega⟩
         have hd : ct_ddg.fs [.t (.int .i64 act), .t (.sl [byteT (UInt8.ofNat iY), byteT (UInt8.ofNat 2)])] [] = some (.sl 0 0 2, [.live 1 [.t (bsT (dgb act 0 [UInt8.ofNat iY, UInt8.ofNat 2])), .t (bsT (dgb act 1 [UInt8.ofNat iY, UInt8.ofNat 2]))] true false]) := ct_ddg.eq (act, [UInt8.ofNat iY, UInt8.ofNat 2]) trivial
         have hG : evG (bC, aC) act = ((((iV : Nat) : Int), 2, dgB act [UInt8.ofNat iY, UInt8.ofNat 2], sep4), (bY, aY)) := by simp [evG, evData, evKind, evSep, evDig, eA, eP, p3, eK, eR, eW, w1, eV, eZ, eY]
         have hT : evT (((iV : Nat) : Int), 2, dgB act [UInt8.ofNat iY, UInt8.ofNat 2], sep4) = .agg [.int .i64 ((iV : Nat) : Int), .int .i64 2, .sl [bsT (dgb act 0 [UInt8.ofNat iY, UInt8.ofNat 2]), bsT (dgb act 1 [UInt8.ofNat iY, UInt8.ofNat 2])], .sl ((sep4).map byteT)] := rfl
         rw [hG]
         generalize evT (((iV : Nat) : Int), 2, dgB act [UInt8.ofNat iY, UInt8.ofNat 2], sep4) = X at *
         generalize mkD 2 act sep4 0 = D0 at *
         generalize mkD 2 act sep4 1 = D1 at *
         generalize dgb act 0 [UInt8.ofNat iY, UInt8.ofNat 2] = E0 at *
         generalize dgb act 1 [UInt8.ofNat iY, UInt8.ofNat 2] = E1 at *
         simp only [bsT_def, sep4, List.map_cons, List.map_nil] at hm hT hd
         simp (config := { maxSteps := 2000000 }) (disch := (first | omega | (simp only [lens, lenm]; omega))) only [go_sem, ↓reduceIte, Nat.reduceAdd, Nat.reduceEqDiff, Nat.reduceSub, Nat.reduceLT, Nat.reduceLeDiff, Nat.reduceBEq, Int.reduceAdd, reduceCtorEq, ac_draw_Codes_Event, cdOb_eq, h1, hL, h2, hP, p3b, hK, hR, hg, hW, w1, hV, hZ, hY, h3, hm, hT, h4, hd, w2]
         all_goals rfl
       · have z3b : ((iZ : Int) == 3) = false := by simpa using (by omega : ¬ (iZ : Int) = 3)
         have hm := make_eq (r := ((iV : Nat) : Int)) (k := 2) (act := act) (d := sep4) ⟨⟨by omega, by omega⟩, by omega⟩
         have hT : evT (mkE ((iV : Nat) : Int) 2 act sep4) = .agg [.int .i64 ((iV : Nat) : Int), .int .i64 2, .sl [bsT (mkD 2 act sep4 0), bsT (mkD 2 act sep4 1)], .sl ((sep4).map byteT)] := rfl
         have hG : evG (bC, aC) act = (mkE ((iV : Nat) : Int) 2 act sep4, (bZ, aZ)) := by simp [evG, evData, evKind, evSep, evDig, eA, eP, p3, eK, eR, eW, w1, eV, eZ, z3]
         rw [hG]
         generalize evT (mkE ((iV : Nat) : Int) 2 act sep4) = X at *
         generalize mkD 2 act sep4 0 = D0 at *
         generalize mkD 2 act sep4 1 = D1 at *
         simp only [bsT_def, sep4, List.map_cons, List.map_nil] at hm hT
         simp (disch := omega) only [go_sem, ↓reduceIte, Nat.reduceAdd, Nat.reduceEqDiff, Nat.reduceSub, Nat.reduceLT, Nat.reduceLeDiff, Int.reduceAdd, reduceCtorEq, ac_draw_Codes_Event, cdOb_eq, h1, hL, h2, hP, p3b, hK, hR, hg, hW, w1, hV, hZ, z3b, h3, hm, hT]
         all_goals rfl
   · by_cases q4 : iK = 4
     · subst q4
       simp only [k4] at hK
       have hm := make_eq (r := (regT8 iR)) (k := 5) (act := act) (d := (lineL iA)) ⟨⟨by omega, by omega⟩, by omega⟩
       have hT : evT (mkE (regT8 iR) 5 act (lineL iA)) = .agg [.int .i64 (regT8 iR), .int .i64 5, .sl [bsT (mkD 5 act (lineL iA) 0), bsT (mkD 5 act (lineL iA) 1)], .sl (((lineL iA)).map byteT)] := rfl
       have hG : evG (bC, aC) act = (mkE (regT8 iR) 5 act (lineL iA), (bR, aR)) := by simp [evG, evData, evKind, evSep, evDig, eA, eP, p3, eK, eR]
       rw [hG]
       generalize evT (mkE (regT8 iR) 5 act (lineL iA)) = X at *
       generalize mkD 5 act (lineL iA) 0 = D0 at *
       generalize mkD 5 act (lineL iA) 1 = D1 at *
       simp only [bsT_def, sep4, List.map_cons, List.map_nil] at hm hT
       simp (disch := omega) only [go_sem, ↓reduceIte, Nat.reduceAdd, Nat.reduceEqDiff, Nat.reduceSub, Nat.reduceLT, Nat.reduceLeDiff, Int.reduceAdd, reduceCtorEq, ac_draw_Codes_Event, cdOb_eq, h1, hL, h2, hP, p3b, hK, hR, hg, h3, hm, hT]
       all_goals rfl
     · have n2 : ¬ (1 + (iK : Int) = 2) := by omega
       have n5 : ¬ (1 + (iK : Int) = 5) := by omega
       have n2b : ((1 + iK : Nat) : Int) ≠ 2 := by omega
       have n5b : ((1 + iK : Nat) : Int) ≠ 5 := by omega
       have m2 : (((1 + iK : Nat) : Int) == 2) = false := by simpa using n2b
       have m5 : (((1 + iK : Nat) : Int) != 5) = true := by simpa using n5b
       have m5c : (((1 + iK : Nat) : Int) == 5) = false := by simpa using n5b
       have ek : (1 + (iK : Int)) = ((1 + iK : Nat) : Int) := by omega
       obtain ⟨iZ, bZ, aZ, eZ, lZ, okZ, hZ⟩ := nxF 4 okR (by omega) (by omega)
       simp only [k2, k4, k5, k8] at hZ
       by_cases z3 : iZ = 3
       · subst z3
         simp only [k3] at hZ
         obtain ⟨iY, bY, aY, eY, lY, okY, hY⟩ := nxF 4 okZ (by omega) (by omega)
         simp only [k2, k4, k5, k8] at hY
         have hm := make_eq (r := (regT8 iR)) (k := ((1 + iK : Nat) : Int)) (act := act) (d := (lineL iA)) ⟨⟨by omega, by omega⟩, by omega⟩
         have hd : ct_ddg.fs [.t (.int .i64 act), .t (.sl [byteT (UInt8.ofNat iY), byteT (UInt8.ofNat (1 + iK))])] [] = some (.sl 0 0 2, [.live 1 [.t (bsT (dgb act 0 [UInt8.ofNat iY, UInt8.ofNat (1 + iK)])), .t (bsT (dgb act 1 [UInt8.ofNat iY, UInt8.ofNat (1 + iK)]))] true false]) := ct_ddg.eq (act, [UInt8.ofNat iY, UInt8.ofNat (1 + iK)]) trivial
         have hG : evG (bC, aC) act = (((regT8 iR), (1 + (iK : Int)), dgB act [UInt8.ofNat iY, UInt8.ofNat (1 + (iK : Int)).toNat], (lineL iA)), (bY, aY)) := by simp only [evG, evData, evKind, evSep, evDig, eA, eP, p3, eK, eR, n2, n5, eZ, eY, ↓reduceIte, Nat.reduceEqDiff]
         rw [ek, Int.toNat_natCast] at hG
         have hT : evT ((regT8 iR), ((1 + iK : Nat) : Int), dgB act [UInt8.ofNat iY, UInt8.ofNat (1 + iK)], (lineL iA)) = .agg [.int .i64 (regT8 iR), .int .i64 ((1 + iK : Nat) : Int), .sl [bsT (dgb act 0 [UInt8.ofNat iY, UInt8.ofNat (1 + iK)]), bsT (dgb act 1 [UInt8.ofNat iY, UInt8.ofNat (1 + iK)])], .sl (((lineL iA)).map byteT)] := rfl
         rw [hG]
         generalize evT ((regT8 iR), ((1 + iK : Nat) : Int), dgB act [UInt8.ofNat iY, UInt8.ofNat (1 + iK)], (lineL iA)) = X at *
         generalize mkD ((1 + iK : Nat) : Int) act (lineL iA) 0 = D0 at *
         generalize mkD ((1 + iK : Nat) : Int) act (lineL iA) 1 = D1 at *
         generalize dgb act 0 [UInt8.ofNat iY, UInt8.ofNat (1 + iK)] = E0 at *
         generalize dgb act 1 [UInt8.ofNat iY, UInt8.ofNat (1 + iK)] = E1 at *
         simp only [bsT_def, sep4, List.map_cons, List.map_nil] at hm hT hd
         simp (disch := omega) only [go_sem, ↓reduceIte, Nat.reduceAdd, Nat.reduceEqDiff, Nat.reduceSub, Nat.reduceLT, Nat.reduceLeDiff, Nat.reduceBEq, reduceCtorEq, ac_draw_Codes_Event, cdOb_eq, h1, hL, h2, hP, p3b, hK, hR, hg, m2, m5, m5c, hZ, hY, h3, hm, hT, h4, hd, w2]
         all_goals rfl
       · have z3b : ((iZ : Int) == 3) = false := by simpa using (by omega : ¬ (iZ : Int) = 3)
         have hm := make_eq (r := (regT8 iR)) (k := ((1 + iK : Nat) : Int)) (act := act) (d := (lineL iA)) ⟨⟨by omega, by omega⟩, by omega⟩
         have hT : evT (mkE (regT8 iR) ((1 + iK : Nat) : Int) act (lineL iA)) = .agg [.int .i64 (regT8 iR), .int .i64 ((1 + iK : Nat) : Int), .sl [bsT (mkD ((1 + iK : Nat) : Int) act (lineL iA) 0), bsT (mkD ((1 + iK : Nat) : Int) act (lineL iA) 1)], .sl (((lineL iA)).map byteT)] := rfl
         have hG : evG (bC, aC) act = (mkE (regT8 iR) (1 + (iK : Int)) act (lineL iA), (bZ, aZ)) := by simp only [evG, evData, evKind, evSep, evDig, eA, eP, p3, eK, eR, n2, n5, eZ, z3, ↓reduceIte, Nat.reduceEqDiff]
         rw [ek] at hG
         rw [hG]
         generalize evT (mkE (regT8 iR) ((1 + iK : Nat) : Int) act (lineL iA)) = X at *
         generalize mkD ((1 + iK : Nat) : Int) act (lineL iA) 0 = D0 at *
         generalize mkD ((1 + iK : Nat) : Int) act (lineL iA) 1 = D1 at *
         simp only [bsT_def, sep4, List.map_cons, List.map_nil] at hm hT
         simp (disch := omega) only [go_sem, ↓reduceIte, Nat.reduceAdd, Nat.reduceEqDiff, Nat.reduceSub, Nat.reduceLT, Nat.reduceLeDiff, reduceCtorEq, ac_draw_Codes_Event, cdOb_eq, h1, hL, h2, hP, p3b, hK, hR, hg, m2, m5, m5c, hZ, z3b, h3, hm, hT]
         all_goals rfl
def rI (n : Int) : Prop := -9223372036854775808 ≤ n ∧ n < 9223372036854775808
def ct_dact : Ct where
 α := Int
 as x := [.t (.int .i64 x)]
 ins _ := []
 pre x := rI x
 r x := .t (.int .i64 (1 + modI x 3))
 outs _ := []
 inj := by
   intro a b h _
   simp only [List.cons.injEq, V.t.injEq, T.int.injEq, true_and, and_true] at h
   subst h; exact ⟨rfl, rfl⟩
theorem dact_eq {a : Int} (h : rI a) : ct_dact.fs [.t (.int .i64 a)] [] = some (.t (.int .i64 (1 + modI a 3)), []) := ct_dact.eq a h
theorem w_draw_Active (tab : Tab) (gl : Gl) (n1 : Nat) (h1 : tab.look n1 = some ct_mod.fs) (a : Int) (ha : rI a) :
   (ac_draw_Active n1).wp tab gl (zipF 0 [.t (.int .i64 a)]) (zipF 0 []) (resW [(2, none)] 0 (fun r o => r = .t (.int .i64 (1 + modI a 3)) ∧ o = [])) := by
 have hm := mod_eq (a := a) (b := 3) ⟨ha, by omega⟩
 have lm := modI_lt (a := a) (m := 3) (by omega)
 generalize modI a 3 = M at *
 simp (disch := omega) only [go_sem, ↓reduceIte, Nat.reduceAdd, Nat.reduceLeDiff, reduceCtorEq, ac_draw_Active, h1, hm]
def evX (e : Ev) : Prop := e.2.2.1.length ≤ 9223372036854775807 ∧ (∀ x ∈ e.2.2.1, x.length ≤ 9223372036854775807) ∧ e.2.2.2.length ≤ 9223372036854775807
theorem dgb_want {act : Int} {a : Nat} {b : List UInt8} {k : Int} (hk : k ≠ 5) : (dgb act a b).length = wantL k act a := by
 unfold dgb wantL
 have e : ((2 ^ a : Nat) : Int) = (2 : Int) ^ a := by norm_cast
 rw [e]
 by_cases h : act / 2 ^ a % 2 = 1
 · rw [if_pos h, if_pos ⟨hk, h⟩, dg1_length]
 · rw [if_neg h, if_neg (fun q => h q.2)]; rfl
theorem evG_ok {c : Cd} {act : Int} (ha : 1 ≤ act ∧ act ≤ 3) : chkE (evG c act).1 act = 0 ∧ wrE (evG c act).1 = true ∧ evM (evG c act).1 := by
 have hk := evKind_le (c := (evData c).2)
 have hs := evSep_le (k := (evKind (evData c).2).1) (r := (evKind (evData c).2).2.1) (d := (evData c).1) (c := (evKind (evData c).2).2.2) hk.2 evData_le
 have hG : evG c act = evDig (evKind (evData c).2).1 (evSep (evKind (evData c).2).1 (evKind (evData c).2).2.1 (evData c).1 (evKind (evData c).2).2.2).1 act (evSep (evKind (evData c).2).1 (evKind (evData c).2).2.1 (evData c).1 (evKind (evData c).2).2.2).2.1 (evSep (evKind (evData c).2).1 (evKind (evData c).2).2.1 (evData c).1 (evKind (evData c).2).2.2).2.2 := rfl
 rw [hG]
 obtain ⟨hs1, hs2⟩ := hs
 generalize (evSep (evKind (evData c).2).1 (evKind (evData c).2).2.1 (evData c).1 (evKind (evData c).2).2.2) = S at *
 obtain ⟨r, d, c'⟩ := S
 have hk1 := hk.1
 generalize (evKind (evData c).2).1 = k at *
 simp only at hs1 hs2 ⊢
 have mk : chkE (mkE r k act d) act = 0 ∧ wrE (mkE r k act d) = true ∧ evM (mkE r k act d) := ⟨mkE_ok hs1 hk1 ha (by omega), mkE_wr hs1 hk1 (by omega), mkE_m (by omega)⟩
 unfold evDig
 split
 · exact mk
 · split
   · rename_i h5 _
     generalize [UInt8.ofNat (nx (nx c' 4).2 4).1, UInt8.ofNat k.toNat] = x
     have g0 : (dgb act 0 x).length = wantL k act 0 := dgb_want h5
     have g1 : (dgb act 1 x).length = wantL k act 1 := dgb_want h5
     have w0 := wantL_le (k := k) (act := act) (a := 0)
     have w1 := wantL_le (k := k) (act := act) (a := 1)
     refine ⟨?_, ?_, ⟨⟨by simp [dgB], fun y hy => ?_⟩, by simp only; omega⟩⟩
     · unfold chkE dgB
       simp only
       rw [if_neg (by unfold badE; omega), if_neg (by omega), if_pos]
       rw [fitE_two, g0, g1, decide_eq_true rfl, decide_eq_true rfl]; rfl
     · show wrE (r, k, [dgb act 0 x, dgb act 1 x], d) = true
       rw [wrE_two (by unfold wrBad; omega), g0, g1, decide_eq_true w0, decide_eq_true w1]; rfl
     · simp only [dgB, List.mem_cons, List.not_mem_nil, or_false] at hy
       rcases hy with rfl | rfl <;> omega
   · exact mk
theorem devt_eq {c : Cd} {act : Int} (h : cdOk c ∧ 1 ≤ act ∧ act ≤ 3) : ct_devt.fs [.ref 0 0 0, .t (.int .i64 act)] [cdO c] = some (.t (evT (evG c act).1), [cdO (evG c act).2]) := ct_devt.eq (c, act) h
end Go.Eng
end
section
namespace Go.Eng
variable {tab : Tab} {gl : Gl} {fs : Fs} {hs : Hs} {Qx : Post}
def invG {σ : Type} (Inv : σ → Prop) (μ : σ → Nat) (fI : σ → Fs) (hI : σ → Hs) (s : σ) (fs : Fs) (hs : Hs) : Prop := ∃ t, Inv t ∧ μ t < μ s ∧ Weak fs hs (fI t) (hI t)
def invK {σ : Type} (Inv : σ → Prop) (μ : σ → Nat) (fI : σ → Fs) (hI : σ → Hs) (s : σ) (Qx : Post) : Post := fun e fs' hs' => match e with | .normal => invG Inv μ fI hI s fs' hs' | e => Qx e fs' hs'
theorem invK_normal {σ : Type} {Inv : σ → Prop} {μ : σ → Nat} {fI : σ → Fs} {hI : σ → Hs} {s : σ} : invK Inv μ fI hI s Qx .normal fs hs = invG Inv μ fI hI s fs hs := Eq.trans (Eq.refl _) rfl
theorem invK_exit {σ : Type} {Inv : σ → Prop} {μ : σ → Nat} {fI : σ → Fs} {hI : σ → Hs} {s : σ} {id : Nat} : invK Inv μ fI hI s Qx (.exit id) fs hs = Qx (.exit id) fs hs := Eq.trans (Eq.refl _) rfl
theorem invK_ret {σ : Type} {Inv : σ → Prop} {μ : σ → Nat} {fI : σ → Fs} {hI : σ → Hs} {s : σ} : invK Inv μ fI hI s Qx .ret fs hs = Qx .ret fs hs := Eq.trans (Eq.refl _) rfl
attribute [go_sem] invK_normal invK_exit invK_ret
theorem invG.of {σ : Type} {Inv : σ → Prop} {μ : σ → Nat} {fI : σ → Fs} {hI : σ → Hs} {s : σ} (t : σ) (h1 : Inv t) (h2 : μ t < μ s) (h3 : Weak fs hs (fI t) (hI t)) : invG Inv μ fI hI s fs hs := ⟨t, h1, h2, h3⟩
theorem loop_inv {a : AC} {σ : Type} (Inv : σ → Prop) (μ : σ → Nat) (fI : σ → Fs) (hI : σ → Hs) (s0 : σ) (hP : Inv s0) (h0 : Weak fs hs (fI s0) (hI s0)) (h : ∀ s, Inv s → a.wp tab gl (fI s) (hI s) (invK Inv μ fI hI s Qx)) : loopW tab gl a fs hs Qx := by
 refine loop_rule (ι := { s : σ // Inv s }) (fun i => (fI i.1, hI i.1)) (fun i => μ i.1) ⟨s0, hP⟩ h0 (fun i => ?_)
 refine wp_post_mono (fun e f g hq => ?_) (h i.1 i.2)
 cases e with
 | normal =>
   obtain ⟨t, h1, h2, h3⟩ := hq
   exact ⟨⟨t, h1⟩, h2, h3⟩
 | exit id => exact hq
 | ret => exact hq
end Go.Eng
end
section
set_option maxRecDepth 20000
set_option maxHeartbeats 64000000
namespace Go.Eng
abbrev Im := Int × List UInt8 × Int × List UInt8
def imT (x : Im) : T := .agg [.int .i64 x.1, strT x.2.1, .int .i64 x.2.2.1, .sl (x.2.2.2.map byteT)]
theorem imT_def {a v : Int} {s p : List UInt8} : imT (a, s, v, p) = .agg [.int .i64 a, strT s, .int .i64 v, .sl (p.map byteT)] := Eq.trans (Eq.refl _) rfl
theorem imT_inj {e f : Im} (h : imT e = imT f) : e = f := by
 obtain ⟨a, b, c, d⟩ := e
 obtain ⟨a', b', c', d'⟩ := f
 simp only [imT_def, T.agg.injEq, List.cons.injEq, T.int.injEq, T.sl.injEq, true_and, and_true, strT_inj, mapB_inj] at h
 obtain ⟨rfl, rfl, rfl, rfl⟩ := h
 rfl
def imM (x : Im) : Prop := x.2.1.length ≤ 9223372036854775807 ∧ x.2.2.2.length < 1000000000 ∧ rI x.1 ∧ rI x.2.2.1
def okN (c : UInt8) : Bool := (!decide (c.toNat < 97) && !decide (c.toNat > 122)) || ((!decide (c.toNat < 48) && !decide (c.toNat > 57)) || decide (c = 45))
def nameB (s : List UInt8) : Bool := (!decide (s.length < 1) && !decide (12 < s.length)) && s.all okN
def lnS (out : List (List UInt8)) (line : List UInt8) : List UInt8 → List (List UInt8)
 | [] => if 0 < line.length then [] else out
 | c :: r => if c = 10 then (if line.length = 0 ∨ 4 ≤ out.length then [] else lnS (out ++ [line]) [] r) else if okC c = true then lnS out (line ++ [c]) r else []
def lnL (p : List UInt8) : List (List UInt8) := lnS [] [] p
def badI (r v : Int) : Prop := r < 1 ∨ 4 < r ∨ v < 0 ∨ 1000000 < v
instance {r v : Int} : Decidable (badI r v) := by unfold badI; infer_instance
def chkI (x : Im) : Int := if badI x.1 x.2.2.1 then 1 else if nameB x.2.1 = false then 43 else if 64 < x.2.2.2.length then 4 else if x.1 = 4 ∧ (lnL x.2.2.2).length = 0 then 40 else 0
def encI (x : Im) : List UInt8 := blL (blL (beI 1 x.1 1 ++ beI 4 x.2.2.1 4) x.2.1) x.2.2.2
def encI' (x : Im) : List UInt8 := if chkI x = 0 then encI x else []
def regI (r : Int) : Int := if r = 1 then 0 else if r = 2 then 4 else if r = 3 then 8 else if r = 4 then 9 else -1
def decL : Nat → Nat → List UInt8
 | 0, n => [UInt8.ofNat (48 + n)]
 | k + 1, n => if n < 10 then [UInt8.ofNat (48 + n)] else decL k (n / 10) ++ [UInt8.ofNat (48 + n % 10)]
def numL (n : Nat) : List UInt8 := decL 7 n
def labL (s : List UInt8) (n : Nat) : List UInt8 := s ++ [32] ++ numL n
def digI (x : Im) (act : Int) (a : Nat) : List UInt8 := if 0 < (encI' x).length ∧ act / 2 ^ a % 2 = 1 then sumA a (encI' x) else []
def ofI (x : Im) (act : Int) : Ev := if chkI x ≠ 0 ∨ x.1 = 4 then (0, 0, [], []) else (regI x.1, 1, [digI x act 0, digI x act 1], labL x.2.1 x.2.2.1.toNat)
def chF (pre : List Im) : List Im → Int
 | [] => if pre.any (fun y => decide (y.1 = 1)) && pre.any (fun y => decide (y.1 = 3)) then 0 else 40
 | x :: r => if chkI x ≠ 0 then chkI x else if pre ≠ [] ∧ x.1 < (pre.getLastD (0, [], 0, [])).1 then 41 else if pre.any (fun y => decide (y.1 = x.1) && decide (y.2.1 = x.2.1)) then 42 else chF (pre ++ [x]) r
def chkC (l : List Im) : Int := if l.length = 0 ∨ 8 < l.length then 1 else chF [] l
def evsR (act r : Int) (l : List Im) : List Ev := (l.filter (fun x => decide (x.1 = r))).flatMap fun x => if r = 4 then (lnL x.2.2.2).map (mkE 9 3 act) else [ofI x act]
def seps (act : Int) : List Ev := (List.range 8).map fun (i : Nat) => mkE (i : Int) 2 act sep4
def evsC (act : Int) (l : List Im) : List Ev := (evsR act 1 l ++ evsR act 2 l) ++ seps act ++ (evsR act 3 l ++ evsR act 4 l)
def evsI (l : List Im) (act : Int) : List Ev := if chkC l ≠ 0 ∨ act < 1 ∨ 3 < act then [] else evsC act l
theorem lnS_len {p : List UInt8} : ∀ {out : List (List UInt8)} {line : List UInt8}, out.length ≤ 4 → (lnS out line p).length ≤ 4 := by
 induction p with
 | nil => intro out line h; unfold lnS; split <;> simp_all
 | cons c r ih =>
   intro out line h
   unfold lnS
   split
   · split
     · simp
     · rename_i hq
       exact ih (by simp; omega)
   · split
     · exact ih h
     · simp
theorem lnL_len {p : List UInt8} : (lnL p).length ≤ 4 := lnS_len (by simp)
theorem lnS_el {p : List UInt8} : ∀ {out : List (List UInt8)} {line : List UInt8} {n : Nat}, (∀ x ∈ out, x.length ≤ n) → line.length + p.length ≤ n → ∀ x ∈ lnS out line p, x.length ≤ n := by
 induction p with
 | nil => intro out line n h1 h2 x hx; unfold lnS at hx; split at hx <;> simp_all
 | cons c r ih =>
   intro out line n h1 h2
   simp only [List.length_cons] at h2
   unfold lnS
   split
   · split
     · simp
     · refine ih (fun x hx => ?_) (by simp; omega)
       simp only [List.mem_append, List.mem_cons, List.not_mem_nil, or_false] at hx
       rcases hx with hx | rfl
       · exact h1 x hx
       · omega
   · split
     · exact ih h1 (by simp; omega)
     · simp
theorem lnL_el {p : List UInt8} : ∀ x ∈ lnL p, x.length ≤ p.length := lnS_el (by simp) (by simp)
theorem decL_len : ∀ {k n : Nat}, 1 ≤ (decL k n).length ∧ (decL k n).length ≤ k + 1
 | 0, n => by simp [decL]
 | k + 1, n => by
   unfold decL
   split
   · simp
   · have := decL_len (k := k) (n := n / 10)
     simp; omega
def nmL (i : Nat) : List UInt8 := match i with
 | 0 => [97]
 | 1 => [103, 114, 117, 98]
 | 2 => [108, 105, 110, 117, 120]
 | 3 => [110, 101, 116, 45, 48]
 | _ => [116, 119, 101, 108, 118, 101, 45, 98, 121, 116, 101, 115]
def payN : Nat → Cd → List UInt8 → List UInt8 × Cd
 | 0, c, b => (b, c)
 | k + 1, c, b => payN k (nx c 6).2 (b ++ lineL (nx c 6).1 ++ [10])
def payG (c : Cd) : List UInt8 × Cd := payN (1 + (nx c 4).1) (nx c 4).2 []
def vrG (c : Cd) : Int × Cd := if (nx (nx c 5).2 9).1 = 8 then ((1000000 - ((nx (nx (nx c 5).2 9).2 3).1 : Int)), (nx (nx (nx c 5).2 9).2 3).2) else (((nx c 5).1 : Int), (nx (nx c 5).2 9).2)
def byN : Nat → Cd → List UInt8 → List UInt8 × Cd
 | 0, c, b => (b, c)
 | k + 1, c, b => byN k (nx c 256).2 (b ++ [UInt8.ofNat (nx c 256).1])
def plG (c : Cd) (role : Int) : List UInt8 × Cd := if role = 4 then payG c else byN (nx c 7).1 (nx c 7).2 []
def imG (c : Cd) (role : Int) : Im × Cd := ((role, nmL (nx c 5).1, (vrG (nx c 5).2).1, (plG (vrG (nx c 5).2).2 role).1), (plG (vrG (nx c 5).2).2 role).2)
def isD (l : List Im) (x : Im) : Bool := l.any (fun y => decide (y.1 = x.1) && decide (y.2.1 = x.2.1))
def chN : Nat → Cd → Int → List Im → List Im × Cd
 | 0, c, _, l => (l, c)
 | k + 1, c, r, l => chN k (imG c r).2 r (if isD l (imG c r).1 then l else l ++ [(imG c r).1])
def chK (c : Cd) (r : Int) : Nat × Cd := if r = 1 ∨ r = 3 then (1 + (nx (nx c 3).2 2).1, (nx (nx c 3).2 2).2) else nx c 3
def chR (r : Int) (s : List Im × Cd) : List Im × Cd := chN (chK s.2 r).1 (chK s.2 r).2 r s.1
def chG (b : List UInt8) : List Im := (chR 4 (chR 3 (chR 2 (chR 1 ([], (b.take 200, 0)))))).1
def evN : Nat → Cd → Int → List Ev → List Ev × Cd
 | 0, c, _, l => (l, c)
 | k + 1, c, a, l => if c.2 < c.1.length then evN k (evG c a).2 a (l ++ [(evG c a).1]) else (l, c)
def ev0 : Ev := (0, 0, [], [])
def noteL : List UInt8 := [110, 111, 116, 101]
def lgS (act : Int) (s : List Ev × Cd) : List Ev × Cd :=
 let k := nx s.2 s.1.length
 let w := nx k.2 5
 if w.1 = 0 then (s.1.take k.1 ++ s.1.drop (k.1 + 1), w.2)
 else if w.1 = 1 then (s.1.take k.1 ++ [s.1.getD k.1 ev0] ++ s.1.drop k.1, w.2)
 else if w.1 = 2 then ((s.1.set k.1 (s.1.getD (nx w.2 s.1.length).1 ev0)).set (nx w.2 s.1.length).1 (s.1.getD k.1 ev0), (nx w.2 s.1.length).2)
 else if w.1 = 3 then (s.1.take k.1 ++ [(evG w.2 act).1] ++ s.1.drop k.1, (evG w.2 act).2)
 else (s.1.take k.1 ++ [mkE 3 5 act noteL] ++ s.1.drop k.1, w.2)
def lgN (act : Int) : Nat → List Ev × Cd → List Ev × Cd
 | 0, s => s
 | k + 1, s => lgN act k (lgS act s)
def lgG (b : List UInt8) (act : Int) : List Ev :=
 let h := nx (b.take 240, 0) 3
 if h.1 = 0 then (evN 14 h.2 act []).1
 else (lgN act (nx h.2 4).1 (evsI (chG (h.2.1.drop h.2.2)) act, (nx h.2 4).2)).1
theorem okC10 {c : UInt8} (h : okC c = true) : c ≠ 10 := by rintro rfl; revert h; decide
theorem lnS_app {s r : List UInt8} {out : List (List UInt8)} : ∀ {l : List UInt8}, s.all okC = true → lnS out l (s ++ r) = lnS out (l ++ s) r := by
 induction s with
 | nil => intro l _; simp
 | cons c s ih =>
   intro l h
   simp only [List.all_cons, Bool.and_eq_true] at h
   rw [List.cons_append, lnS, if_neg (okC10 h.1), if_pos h.1, ih h.2]; simp
theorem lnS_nl {r l : List UInt8} {out : List (List UInt8)} (h1 : 0 < l.length) (h2 : out.length < 4) : lnS out l (10 :: r) = lnS (out ++ [l]) [] r := by
 rw [lnS, if_pos rfl, if_neg (by omega)]
theorem lineL_ok {i : Nat} : (lineL i).all okC = true := by unfold lineL; split <;> decide
theorem payN_ok : ∀ {k : Nat} {c : Cd} {b : List UInt8} {out : List (List UInt8)}, (∀ r, lnS [] [] (b ++ r) = lnS out [] r) → out.length + k ≤ 4 → (lnL (payN k c b).1).length = out.length + k ∧ (payN k c b).1.length ≤ b.length + 9 * k
 | 0, c, b, out, h, hk => by
   have := h []
   rw [List.append_nil] at this
   refine ⟨?_, by simp [payN]⟩
   show (lnS [] [] b).length = _
   rw [this]; simp [lnS]
 | k + 1, c, b, out, h, hk => by
   have hl := lineL_len (i := (nx c 6).1)
   have := payN_ok (k := k) (c := (nx c 6).2) (b := b ++ lineL (nx c 6).1 ++ [10]) (out := out ++ [lineL (nx c 6).1]) (fun r => by
     rw [List.append_assoc, List.append_assoc, h, lnS_app lineL_ok]
     exact lnS_nl hl.1 (by omega)) (by simp; omega)
   simp only [List.length_append, List.length_cons, List.length_nil] at this
   refine ⟨by unfold payN; omega, ?_⟩
   unfold payN
   omega
theorem payG_ok {c : Cd} : 1 ≤ (lnL (payG c).1).length ∧ (payG c).1.length ≤ 36 := by
 have hn := nx_lt (c := c) (n := 4) (by omega)
 have := payN_ok (k := 1 + (nx c 4).1) (c := (nx c 4).2) (b := []) (out := []) (fun r => rfl) (by simp; omega)
 simp only [List.length_nil] at this
 unfold payG
 omega
theorem payN_cd : ∀ {k : Nat} {c : Cd} {b : List UInt8}, cdOk c → cdOk (payN k c b).2
 | 0, _, _, h => h
 | k + 1, _, _, h => payN_cd (k := k) (nx_ok h)
theorem byN_cd : ∀ {k : Nat} {c : Cd} {b : List UInt8}, cdOk c → cdOk (byN k c b).2
 | 0, _, _, h => h
 | k + 1, _, _, h => byN_cd (k := k) (nx_ok h)
theorem byN_len : ∀ {k : Nat} {c : Cd} {b : List UInt8}, (byN k c b).1.length = b.length + k
 | 0, _, _ => rfl
 | k + 1, c, b => by
   have := byN_len (k := k) (c := (nx c 256).2) (b := b ++ [UInt8.ofNat (nx c 256).1])
   unfold byN
   rw [this]; simp; omega
theorem plG_cd {c : Cd} {r : Int} (h : cdOk c) : cdOk (plG c r).2 := by
 unfold plG
 split
 · exact payN_cd (nx_ok h)
 · exact byN_cd (nx_ok h)
theorem plG_len {c : Cd} {r : Int} : (plG c r).1.length ≤ 36 := by
 unfold plG
 split
 · exact payG_ok.2
 · have := nx_lt (c := c) (n := 7) (by omega)
   rw [byN_len]; simp; omega
theorem vrG_cd {c : Cd} (h : cdOk c) : cdOk (vrG c).2 := by
 unfold vrG
 split
 · exact nx_ok (nx_ok (nx_ok h))
 · exact nx_ok (nx_ok h)
theorem vrG_le {c : Cd} : 0 ≤ (vrG c).1 ∧ (vrG c).1 ≤ 1000000 := by
 unfold vrG
 split
 · have := nx_lt (c := (nx (nx c 5).2 9).2) (n := 3) (by omega)
   simp only; omega
 · have := nx_lt (c := c) (n := 5) (by omega)
   simp only; omega
theorem nmL_ok {i : Nat} : nameB (nmL i) = true := by unfold nmL; split <;> decide
theorem imG_cd {c : Cd} {r : Int} (h : cdOk c) : cdOk (imG c r).2 := plG_cd (vrG_cd (nx_ok h))
theorem imG_role {c : Cd} {r : Int} : (imG c r).1.1 = r := rfl
theorem imG_ok {c : Cd} {r : Int} (hr : 1 ≤ r ∧ r ≤ 4) : chkI (imG c r).1 = 0 := by
 have hv := vrG_le (c := (nx c 5).2)
 have hl := plG_len (c := (vrG (nx c 5).2).2) (r := r)
 unfold chkI imG
 simp only
 rw [if_neg (by unfold badI; omega), nmL_ok, if_neg (by decide), if_neg (by omega), if_neg]
 rintro ⟨rfl, h⟩
 have hp := payG_ok (c := (vrG (nx c 5).2).2)
 have e : (plG (vrG (nx c 5).2).2 4).1 = (payG (vrG (nx c 5).2).2).1 := by unfold plG; rw [if_pos rfl]
 rw [e] at h
 omega
theorem chkI_good {x : Im} (h : chkI x = 0) : (1 ≤ x.1 ∧ x.1 ≤ 4) ∧ (0 ≤ x.2.2.1 ∧ x.2.2.1 ≤ 1000000) ∧ nameB x.2.1 = true ∧ x.2.2.2.length ≤ 64 ∧ (x.1 = 4 → 1 ≤ (lnL x.2.2.2).length) := by
 unfold chkI at h
 split at h
 · simp at h
 · rename_i h1
   split at h
   · simp at h
   · rename_i h2
     split at h
     · simp at h
     · rename_i h3
       split at h
       · simp at h
       · rename_i h4
         unfold badI at h1
         refine ⟨by omega, by omega, by simpa using h2, by omega, fun h5 => ?_⟩
         by_cases h6 : (lnL x.2.2.2).length = 0
         · exact absurd ⟨h5, h6⟩ h4
         · omega
theorem nameB_len {s : List UInt8} (h : nameB s = true) : 1 ≤ s.length ∧ s.length ≤ 12 := by
 unfold nameB at h
 simp only [Bool.and_eq_true, Bool.not_eq_true', decide_eq_false_iff_not] at h
 omega
theorem chkI_m {x : Im} (h : chkI x = 0) : imM x := by
 obtain ⟨h1, h2, h3, h4, h5⟩ := chkI_good h
 have h6 := nameB_len h3
 exact ⟨by omega, by omega, by unfold rI; omega, by unfold rI; omega⟩
def chP (l : List Im) : Prop := ∀ r, chF [] (l ++ r) = chF l r
theorem chP_nil : chP [] := fun _ => rfl
theorem chP_snoc {l : List Im} {x : Im} (h : chP l) (h1 : chkI x = 0) (h2 : ∀ y ∈ l, y.1 ≤ x.1) (h3 : isD l x = false) : chP (l ++ [x]) := by
 intro r
 rw [List.append_assoc, h, List.cons_append, List.nil_append, chF, if_neg (by omega), if_neg, if_neg (by unfold isD at h3; rw [h3]; decide)]
 rintro ⟨h4, h5⟩
 have hg : l.getLastD (0, [], 0, []) = l.getLast h4 := by
   rw [List.getLastD_eq_getLast?, List.getLast?_eq_some_getLast h4]; rfl
 rw [hg] at h5
 have := h2 _ (List.getLast_mem h4)
 omega
structure ChO (r : Int) (l : List Im) : Prop where
 p : chP l
 ok : ∀ x ∈ l, chkI x = 0
 le : ∀ x ∈ l, x.1 ≤ r
theorem ChO.up {r q : Int} {l : List Im} (h : ChO r l) (hq : r ≤ q) : ChO q l := ⟨h.p, h.ok, fun x hx => by have := h.le x hx; omega⟩
theorem isD_any {l : List Im} {x : Im} (h : isD l x = true) : ∃ y ∈ l, y.1 = x.1 := by
 unfold isD at h
 obtain ⟨y, hy, h2⟩ := List.any_eq_true.1 h
 simp only [Bool.and_eq_true, decide_eq_true_eq] at h2
 exact ⟨y, hy, h2.1⟩
theorem chN_ok {r : Int} (hr : 1 ≤ r ∧ r ≤ 4) : ∀ {k : Nat} {c : Cd} {l : List Im}, ChO r l → cdOk c → ChO r (chN k c r l).1 ∧ cdOk (chN k c r l).2 ∧ (∀ x ∈ l, x ∈ (chN k c r l).1) ∧ (chN k c r l).1.length ≤ l.length + k ∧ (1 ≤ k → ∃ y ∈ (chN k c r l).1, y.1 = r)
 | 0, c, l, h, hc => ⟨h, hc, fun _ hx => hx, by simp [chN], by omega⟩
 | k + 1, c, l, h, hc => by
   unfold chN
   cases hd : isD l (imG c r).1
   · have h' : ChO r (l ++ [(imG c r).1]) := by
       refine ⟨chP_snoc h.p (imG_ok hr) (fun y hy => h.le y hy) hd, fun x hx => ?_, fun x hx => ?_⟩
       · simp only [List.mem_append, List.mem_cons, List.not_mem_nil, or_false] at hx
         rcases hx with hx | rfl
         · exact h.ok x hx
         · exact imG_ok hr
       · simp only [List.mem_append, List.mem_cons, List.not_mem_nil, or_false] at hx
         rcases hx with hx | rfl
         · exact h.le x hx
         · exact Int.le_of_eq imG_role
     obtain ⟨g1, g2, g3, g4, g5⟩ := chN_ok hr (k := k) h' (imG_cd (r := r) hc)
     rw [if_neg (by decide)]
     refine ⟨g1, g2, fun x hx => g3 x (by simp [hx]), by simp at g4; omega, fun _ => ⟨_, g3 (imG c r).1 (by simp), imG_role⟩⟩
   · obtain ⟨g1, g2, g3, g4, g5⟩ := chN_ok hr (k := k) h (imG_cd (r := r) hc)
     rw [if_pos rfl]
     obtain ⟨y, hy, hy2⟩ := isD_any hd
     exact ⟨g1, g2, g3, by omega, fun _ => ⟨y, g3 y hy, hy2⟩⟩
theorem chK_ok {c : Cd} {r : Int} (hc : cdOk c) : cdOk (chK c r).2 ∧ (chK c r).1 ≤ 2 ∧ (r = 1 ∨ r = 3 → 1 ≤ (chK c r).1) := by
 unfold chK
 split
 · have := nx_lt (c := (nx c 3).2) (n := 2) (by omega)
   exact ⟨nx_ok (nx_ok hc), by simp only; omega, fun _ => by simp only; omega⟩
 · rename_i h
   have := nx_lt (c := c) (n := 3) (by omega)
   exact ⟨nx_ok hc, by omega, fun h' => absurd h' h⟩
theorem chR_ok {r : Int} (hr : 1 ≤ r ∧ r ≤ 4) {s : List Im × Cd} (h : ChO r s.1) (hc : cdOk s.2) : ChO r (chR r s).1 ∧ cdOk (chR r s).2 ∧ (∀ x ∈ s.1, x ∈ (chR r s).1) ∧ (chR r s).1.length ≤ s.1.length + 2 ∧ (r = 1 ∨ r = 3 → ∃ y ∈ (chR r s).1, y.1 = r) := by
 obtain ⟨k1, k2, k3⟩ := chK_ok (r := r) hc
 obtain ⟨g1, g2, g3, g4, g5⟩ := chN_ok hr (k := (chK s.2 r).1) h k1
 exact ⟨g1, g2, g3, by unfold chR; omega, fun h => g5 (k3 h)⟩
theorem chG_ok {b : List UInt8} : chkC (chG b) = 0 ∧ (∀ x ∈ chG b, chkI x = 0) ∧ (chG b).length ≤ 8 := by
 have c0 : cdOk (b.take 200, 0) := ⟨Nat.zero_le _, by simp only [List.length_take]; omega⟩
 obtain ⟨a1, a2, a3, a4, a5⟩ := chR_ok (r := 1) (by omega) (s := ([], (b.take 200, 0))) ⟨chP_nil, by simp, by simp⟩ c0
 obtain ⟨b1, b2, b3, b4, b5⟩ := chR_ok (r := 2) (by omega) (a1.up (by omega)) a2
 obtain ⟨c1, c2, c3, c4, c5⟩ := chR_ok (r := 3) (by omega) (b1.up (by omega)) b2
 obtain ⟨d1, d2, d3, d4, d5⟩ := chR_ok (r := 4) (by omega) (c1.up (by omega)) c2
 have hg : (chR 4 (chR 3 (chR 2 (chR 1 ([], (b.take 200, 0)))))).1 = chG b := rfl
 rw [hg] at d1 d3 d4
 simp only [List.length_nil] at a4
 obtain ⟨y, hy, hy1⟩ := a5 (.inl rfl)
 obtain ⟨z, hz, hz1⟩ := c5 (.inr rfl)
 have my := d3 _ (c3 _ (b3 _ hy))
 have mz := d3 _ hz
 refine ⟨?_, d1.ok, by omega⟩
 have hp : 0 < (chG b).length := List.length_pos_of_mem my
 unfold chkC
 rw [if_neg (by omega)]
 have := d1.p []
 rw [List.append_nil] at this
 rw [this, chF, List.any_eq_true.2 ⟨y, my, by simp [hy1]⟩, List.any_eq_true.2 ⟨z, mz, by simp [hz1]⟩]
 rfl
theorem chF_ok : ∀ {l pre : List Im}, chF pre l = 0 → ∀ x ∈ l, chkI x = 0
 | [], _, _, x, hx => by simp at hx
 | y :: l, pre, h, x, hx => by
   unfold chF at h
   split at h
   · omega
   · rename_i h1
     split at h
     · simp at h
     · split at h
       · simp at h
       · rcases List.mem_cons.1 hx with rfl | hx
         · omega
         · exact chF_ok h x hx
theorem chkC_ok {l : List Im} (h : chkC l = 0) : (∀ x ∈ l, chkI x = 0) ∧ 1 ≤ l.length ∧ l.length ≤ 8 := by
 unfold chkC at h
 split at h
 · simp at h
 · exact ⟨chF_ok h, by omega⟩
def evV (act : Int) (e : Ev) : Prop := chkE e act = 0 ∧ evM e
theorem digI_len {x : Im} {act : Int} {a : Nat} (h : chkI x = 0) : (digI x act a).length = wantL 1 act a := by
 have he : 0 < (encI' x).length := by
   unfold encI'
   rw [if_pos h]
   unfold encI
   rw [blL_len]; omega
 unfold digI wantL
 by_cases hb : act / 2 ^ a % 2 = 1
 · rw [if_pos ⟨he, hb⟩, if_pos ⟨by decide, hb⟩]; exact sumA_length
 · rw [if_neg (fun h => hb h.2), if_neg (fun h => hb h.2)]; rfl
theorem labL_len {s : List UInt8} {n : Nat} : (labL s n).length ≤ s.length + 9 := by
 have := decL_len (k := 7) (n := n)
 unfold labL numL
 simp only [List.length_append, List.length_cons, List.length_nil]; omega
theorem regI_le {r : Int} (h : 1 ≤ r ∧ r ≤ 3) : 0 ≤ regI r ∧ regI r ≤ 11 := by
 unfold regI
 split
 · omega
 · split
   · omega
   · split <;> omega
theorem ofI_ok {x : Im} {act : Int} (ha : 1 ≤ act ∧ act ≤ 3) (h : chkI x = 0) (h4 : x.1 ≠ 4) : evV act (ofI x act) := by
 obtain ⟨h1, h2, h3, _, _⟩ := chkI_good h
 have h6 := nameB_len h3
 have h7 := labL_len (s := x.2.1) (n := x.2.2.1.toNat)
 have h8 := regI_le (r := x.1) (by omega)
 have d0 := digI_len (act := act) (a := 0) h
 have d1 := digI_len (act := act) (a := 1) h
 have w0 := wantL_le (k := 1) (act := act) (a := 0)
 have w1 := wantL_le (k := 1) (act := act) (a := 1)
 unfold ofI
 rw [if_neg (by omega)]
 refine ⟨?_, ⟨by simp, fun y hy => ?_⟩, by simp only; omega⟩
 · unfold chkE
   simp only
   rw [if_neg (by unfold badE; omega), if_neg (by omega), if_pos]
   rw [fitE_two, d0, d1, decide_eq_true rfl, decide_eq_true rfl]; rfl
 · simp only [List.mem_cons, List.not_mem_nil, or_false] at hy
   rcases hy with rfl | rfl <;> omega
theorem mkE_v {r k act : Int} {d : List UInt8} (hr : 0 ≤ r ∧ r ≤ 11) (hk : 1 ≤ k ∧ k ≤ 5) (ha : 1 ≤ act ∧ act ≤ 3) (hd : d.length ≤ 64) : evV act (mkE r k act d) := ⟨mkE_ok hr hk ha hd, mkE_m (by omega)⟩
theorem evsR_ok {act r : Int} {l : List Im} (ha : 1 ≤ act ∧ act ≤ 3) (h : ∀ x ∈ l, chkI x = 0) : ∀ e ∈ evsR act r l, evV act e := by
 intro e he
 unfold evsR at he
 obtain ⟨x, hx, he⟩ := List.mem_flatMap.1 he
 obtain ⟨hx, hr⟩ := List.mem_filter.1 hx
 have hr : x.1 = r := by simpa using hr
 split at he
 · obtain ⟨s, hs, rfl⟩ := List.mem_map.1 he
   have := lnL_el s hs
   have := (chkI_good (h x hx)).2.2.2.1
   exact mkE_v (by omega) (by omega) ha (by omega)
 · rename_i h4
   simp only [List.mem_cons, List.not_mem_nil, or_false] at he
   subst he
   exact ofI_ok ha (h x hx) (by omega)
theorem flat_len {α γ : Type} {f : α → List γ} {n : Nat} : ∀ {l : List α}, (∀ x ∈ l, (f x).length ≤ n) → (l.flatMap f).length ≤ l.length * n
 | [], _ => by simp
 | a :: l, h => by
   have h1 := h a (by simp)
   have h2 := flat_len (l := l) (fun x hx => h x (by simp [hx]))
   rw [List.flatMap_cons, List.length_append, List.length_cons, Nat.add_mul]
   omega
theorem evsR_len {act r : Int} {l : List Im} : (evsR act r l).length ≤ (l.filter (fun x => decide (x.1 = r))).length * 4 := by
 unfold evsR
 refine flat_len (fun x _ => ?_)
 split
 · rw [List.length_map]; exact lnL_len
 · simp
theorem seps_len {act : Int} : (seps act).length = 8 := by simp [seps]
theorem evsC_len {act : Int} {l : List Im} : 8 ≤ (evsC act l).length ∧ (evsC act l).length ≤ 8 + 16 * l.length := by
 have f : ∀ r : Int, (evsR act r l).length ≤ l.length * 4 := fun r => Nat.le_trans evsR_len (Nat.mul_le_mul_right _ (List.length_filter_le _ _))
 have := f 1
 have := f 2
 have := f 3
 have := f 4
 unfold evsC
 simp only [List.length_append, seps_len]
 omega
theorem evsC_ok {act : Int} {l : List Im} (ha : 1 ≤ act ∧ act ≤ 3) (h : ∀ x ∈ l, chkI x = 0) : ∀ e ∈ evsC act l, evV act e := by
 intro e he
 unfold evsC at he
 simp only [List.mem_append] at he
 rcases he with ((he | he) | he) | (he | he)
 · exact evsR_ok ha h e he
 · exact evsR_ok ha h e he
 · unfold seps at he
   obtain ⟨i, hi, rfl⟩ := List.mem_map.1 he
   have := List.mem_range.1 hi
   exact mkE_v (by omega) (by omega) ha (by decide)
 · exact evsR_ok ha h e he
 · exact evsR_ok ha h e he
theorem evG_v {c : Cd} {act : Int} (ha : 1 ≤ act ∧ act ≤ 3) : evV act (evG c act).1 := ⟨(evG_ok ha).1, (evG_ok ha).2.2⟩
theorem evN_ok {act : Int} (ha : 1 ≤ act ∧ act ≤ 3) : ∀ {k : Nat} {c : Cd} {l : List Ev}, (∀ e ∈ l, evV act e) → (∀ e ∈ (evN k c act l).1, evV act e) ∧ (evN k c act l).1.length ≤ l.length + k
 | 0, c, l, h => ⟨h, by simp [evN]⟩
 | k + 1, c, l, h => by
   unfold evN
   split
   · obtain ⟨g1, g2⟩ := evN_ok ha (k := k) (c := (evG c act).2) (l := l ++ [(evG c act).1]) (fun e he => by
       simp only [List.mem_append, List.mem_cons, List.not_mem_nil, or_false] at he
       rcases he with he | rfl
       · exact h e he
       · exact evG_v ha)
     exact ⟨g1, by simp at g2; omega⟩
   · exact ⟨h, by simp only; omega⟩
theorem getD_in {α : Type} {l : List α} {k : Nat} {d : α} (h : k < l.length) : l.getD k d ∈ l := by
 have : l.getD k d = l[k] := by simp [List.getD, h]
 rw [this]; exact List.getElem_mem h
theorem lgS_ok {act : Int} (ha : 1 ≤ act ∧ act ≤ 3) {s : List Ev × Cd} (h : ∀ e ∈ s.1, evV act e) (hl : 1 ≤ s.1.length) : (∀ e ∈ (lgS act s).1, evV act e) ∧ s.1.length ≤ (lgS act s).1.length + 1 ∧ (lgS act s).1.length ≤ s.1.length + 1 := by
 obtain ⟨l, c⟩ := s
 simp only at h hl
 have hk := nx_lt (c := c) (n := l.length) hl
 unfold lgS
 simp only
 generalize nx c l.length = K at *
 obtain ⟨k, c1⟩ := K
 simp only at hk ⊢
 generalize nx c1 5 = W
 obtain ⟨w, c2⟩ := W
 simp only
 have gk : evV act (l.getD k ev0) := h _ (getD_in hk)
 have tk : ∀ {n} {e}, e ∈ l.take n → evV act e := fun he => h _ (List.mem_of_mem_take he)
 have dk : ∀ {n} {e}, e ∈ l.drop n → evV act e := fun he => h _ (List.mem_of_mem_drop he)
 have ins : ∀ {x : Ev}, evV act x → (∀ e ∈ l.take k ++ [x] ++ l.drop k, evV act e) ∧ l.length ≤ (l.take k ++ [x] ++ l.drop k).length + 1 ∧ (l.take k ++ [x] ++ l.drop k).length ≤ l.length + 1 := by
   intro x hx
   refine ⟨fun e he => ?_, ?_⟩
   · simp only [List.mem_append, List.mem_cons, List.not_mem_nil, or_false] at he
     rcases he with (he | rfl) | he
     · exact tk he
     · exact hx
     · exact dk he
   · simp only [List.length_append, List.length_take, List.length_drop, List.length_cons, List.length_nil]; omega
 split
 · refine ⟨fun e he => ?_, ?_⟩
   · rcases List.mem_append.1 he with he | he
     · exact tk he
     · exact dk he
   · simp only [List.length_append, List.length_take, List.length_drop]; omega
 · split
   · exact ins gk
   · split
     · have hj := nx_lt (c := c2) (n := l.length) hl
       generalize nx c2 l.length = J at *
       obtain ⟨j, c3⟩ := J
       simp only at hj ⊢
       refine ⟨fun e he => ?_, by simp⟩
       rcases List.mem_or_eq_of_mem_set he with he | rfl
       · rcases List.mem_or_eq_of_mem_set he with he | rfl
         · exact h e he
         · exact h _ (getD_in hj)
       · exact gk
     · split
       · exact ins (evG_v ha)
       · exact ins (mkE_v (by omega) (by omega) ha (by decide))
theorem lgN_ok {act : Int} (ha : 1 ≤ act ∧ act ≤ 3) : ∀ {k : Nat} {s : List Ev × Cd}, (∀ e ∈ s.1, evV act e) → k < s.1.length → (∀ e ∈ (lgN act k s).1, evV act e) ∧ (lgN act k s).1.length ≤ s.1.length + k
 | 0, s, h, _ => ⟨h, by simp [lgN]⟩
 | k + 1, s, h, hl => by
   obtain ⟨g1, g2, g3⟩ := lgS_ok ha h (by omega)
   obtain ⟨q1, q2⟩ := lgN_ok ha (k := k) g1 (by omega)
   exact ⟨q1, by unfold lgN; omega⟩
theorem evsI_G {b : List UInt8} {act : Int} (ha : 1 ≤ act ∧ act ≤ 3) : evsI (chG b) act = evsC act (chG b) := by
 obtain ⟨h, _, _⟩ := chG_ok (b := b)
 unfold evsI
 rw [if_neg (by omega)]
theorem lgG_ok {b : List UInt8} {act : Int} (ha : 1 ≤ act ∧ act ≤ 3) : (∀ e ∈ lgG b act, evV act e) ∧ (lgG b act).length ≤ 200 := by
 unfold lgG
 simp only
 generalize nx (b.take 240, 0) 3 = H
 obtain ⟨h, c⟩ := H
 simp only
 split
 · obtain ⟨g1, g2⟩ := evN_ok ha (k := 14) (c := c) (l := []) (by simp)
   exact ⟨g1, by simp only [List.length_nil] at g2; omega⟩
 · obtain ⟨hc, ho, hl⟩ := chG_ok (b := c.1.drop c.2)
   rw [evsI_G ha]
   have hn := nx_lt (c := c) (n := 4) (by omega)
   obtain ⟨e1, e2⟩ := evsC_len (act := act) (l := chG (c.1.drop c.2))
   obtain ⟨q1, q2⟩ := lgN_ok ha (k := (nx c 4).1) (s := (evsC act (chG (c.1.drop c.2)), (nx c 4).2)) (evsC_ok ha ho) (by simp only; omega)
   exact ⟨q1, by simp only at q2; omega⟩
theorem evM.x {e : Ev} (h : evM e) : evX e := ⟨by have := h.1.1; omega, fun x hx => by have := h.1.2 x hx; omega, by have := h.2; omega⟩
def ct_chkX : Ct where
 α := Ev × Int
 as x := [.t (evT x.1), .t (.int .i64 x.2)]
 ins _ := []
 pre x := evX x.1
 r x := .t (.int .i64 (chkE x.1 x.2))
 outs _ := []
 inj := by
   rintro ⟨e, a⟩ ⟨f, b⟩ h _
   simp only [List.cons.injEq, V.t.injEq, T.int.injEq, true_and, and_true] at h
   obtain ⟨h1, rfl⟩ := h
   cases evT_inj h1
   exact ⟨rfl, rfl⟩
theorem w_event_CheckX (tab : Tab) (gl : Gl) (n1 : Nat) (h1 : tab.look n1 = some ct_size.fs) (e : Ev) (act : Int) (hm : evX e) :
   (ac_event_Check n1).wp tab gl (zipF 0 [.t (evT e), .t (.int .i64 act)]) (zipF 0 []) (resW [(4, none)] 0 (fun r o => r = .t (.int .i64 (chkE e act)) ∧ o = [])) := by
 obtain ⟨r, k, ds, d⟩ := e
 have hl := hm.2.2
 have hd := hm.1
 simp only at hl hd
 by_cases hb : badE r k act
 · have hr : chkE (r, k, ds, d) act = 1 := if_pos hb
   rw [hr]
   by_cases c1 : act < 1
   · simp (disch := omega) only [go_sem, ↓reduceIte, Nat.reduceAdd, Nat.reduceEqDiff, reduceCtorEq, ac_event_Check, evT_def, c1]
   by_cases c2 : 3 < act
   · simp (disch := omega) only [go_sem, ↓reduceIte, Nat.reduceAdd, Nat.reduceEqDiff, reduceCtorEq, ac_event_Check, evT_def, c1, c2]
   by_cases c3 : r < 0
   · simp (disch := omega) only [go_sem, ↓reduceIte, Nat.reduceAdd, Nat.reduceEqDiff, Nat.reduceLeDiff, reduceCtorEq, ac_event_Check, evT_def, c1, c2, c3]
   by_cases c4 : 11 < r
   · simp (disch := omega) only [go_sem, ↓reduceIte, Nat.reduceAdd, Nat.reduceEqDiff, Nat.reduceLeDiff, reduceCtorEq, ac_event_Check, evT_def, c1, c2, c3, c4]
   by_cases c5 : k < 1
   · simp (disch := omega) only [go_sem, ↓reduceIte, Nat.reduceAdd, Nat.reduceEqDiff, Nat.reduceLeDiff, reduceCtorEq, ac_event_Check, evT_def, c1, c2, c3, c4, c5]
   have c6 : 5 < k := by unfold badE at hb; omega
   simp (disch := omega) only [go_sem, ↓reduceIte, Nat.reduceAdd, Nat.reduceEqDiff, Nat.reduceLeDiff, reduceCtorEq, ac_event_Check, evT_def, c1, c2, c3, c4, c5, c6]
 · obtain ⟨⟨c1, c2⟩, ⟨c3, c4⟩, c5, c6⟩ := goodE hb
   by_cases c7 : 64 < d.length
   · have hr : chkE (r, k, ds, d) act = 4 := by unfold chkE; rw [if_neg hb, if_pos c7]
     rw [hr]
     simp (disch := omega) only [go_sem, ↓reduceIte, Nat.reduceAdd, Nat.reduceEqDiff, Nat.reduceLeDiff, reduceCtorEq, ac_event_Check, evT_def, c1, c2, c3, c4, c5, c6, c7]
   · have hr : chkE (r, k, ds, d) act = if fitE k act ds then 0 else 27 := by unfold chkE; rw [if_neg hb, if_neg c7]
     rw [hr]
     by_cases c8 : ds.length = 2
     · obtain ⟨d0, d1, rfl⟩ := len2 c8
       have m0 := hm.2.1 d0 (by simp)
       have m1 := hm.2.1 d1 (by simp)
       rw [fitE_two]
       rcases (show k = 5 ∨ k ≠ 5 by omega) with rfl | hk
       · simp only [wantL_note]
         by_cases l0 : d0.length = 0 <;> by_cases l1 : d1.length = 0
         all_goals simp (disch := omega) only [go_sem, ↓reduceIte, Nat.reduceAdd, Nat.reduceEqDiff, Nat.reduceLeDiff, reduceCtorEq, ac_event_Check, evT_def, c1, c2, c3, c4, c5, c6, c7, List.map_cons, List.map_nil]
         all_goals refine loop_fuel 3 ?_
         all_goals simp (disch := omega) only [go_sem, ↓reduceIte, Nat.reduceAdd, Nat.reduceEqDiff, Nat.reduceLeDiff, Int.reduceLT, Int.reduceLE, Int.reduceAdd, reduceCtorEq, loopN_succ, ac_event_Check_L0, h1, l0, l1, Int.reduceFDiv]
       · have k5 : (k == 5) = false := by simpa using hk
         rcases (show act = 1 ∨ act = 2 ∨ act = 3 by omega) with rfl | rfl | rfl
         · have w0 : wantL k 1 0 = 20 := if_pos ⟨hk, by decide⟩
           have w1 : wantL k 1 1 = 0 := if_neg (by simp)
           rw [w0, w1]
           by_cases l0 : d0.length = 20 <;> by_cases l1 : d1.length = 0
           all_goals simp (disch := omega) only [go_sem, ↓reduceIte, Nat.reduceAdd, Nat.reduceEqDiff, Nat.reduceLeDiff, Int.reduceLT, reduceCtorEq, ac_event_Check, evT_def, c3, c4, c5, c6, c7, List.map_cons, List.map_nil]
           all_goals refine loop_fuel 3 ?_
           all_goals simp (disch := omega) only [go_sem, ↓reduceIte, Nat.reduceAdd, Nat.reduceEqDiff, Nat.reduceLeDiff, Int.reduceLT, Int.reduceLE, Int.reduceAdd, Int.reduceMod, reduceCtorEq, Int.reducePow, loopN_succ, ac_event_Check_L0, h1, size_eq0, size_eq1, k5, l0, l1, Int.reduceFDiv]
         · have w0 : wantL k 2 0 = 0 := if_neg (by simp)
           have w1 : wantL k 2 1 = 32 := if_pos ⟨hk, by decide⟩
           rw [w0, w1]
           by_cases l0 : d0.length = 0 <;> by_cases l1 : d1.length = 32
           all_goals simp (disch := omega) only [go_sem, ↓reduceIte, Nat.reduceAdd, Nat.reduceEqDiff, Nat.reduceLeDiff, Int.reduceLT, reduceCtorEq, ac_event_Check, evT_def, c3, c4, c5, c6, c7, List.map_cons, List.map_nil]
           all_goals refine loop_fuel 3 ?_
           all_goals simp (disch := omega) only [go_sem, ↓reduceIte, Nat.reduceAdd, Nat.reduceEqDiff, Nat.reduceLeDiff, Int.reduceLT, Int.reduceLE, Int.reduceAdd, Int.reduceMod, reduceCtorEq, Int.reducePow, loopN_succ, ac_event_Check_L0, h1, size_eq0, size_eq1, k5, l0, l1, Int.reduceFDiv]
         · have w0 : wantL k 3 0 = 20 := if_pos ⟨hk, by decide⟩
           have w1 : wantL k 3 1 = 32 := if_pos ⟨hk, by decide⟩
           rw [w0, w1]
           by_cases l0 : d0.length = 20 <;> by_cases l1 : d1.length = 32
           all_goals simp (disch := omega) only [go_sem, ↓reduceIte, Nat.reduceAdd, Nat.reduceEqDiff, Nat.reduceLeDiff, Int.reduceLT, reduceCtorEq, ac_event_Check, evT_def, c3, c4, c5, c6, c7, List.map_cons, List.map_nil]
           all_goals refine loop_fuel 3 ?_
           all_goals simp (disch := omega) only [go_sem, ↓reduceIte, Nat.reduceAdd, Nat.reduceEqDiff, Nat.reduceLeDiff, Int.reduceLT, Int.reduceLE, Int.reduceAdd, Int.reduceMod, reduceCtorEq, Int.reducePow, loopN_succ, ac_event_Check_L0, h1, size_eq0, size_eq1, k5, l0, l1, Int.reduceFDiv]
     · have hf : fitE k act ds = false := by unfold fitE; rw [decide_eq_false c8]; rfl
       rw [hf]
       have c9 : ((ds.length : Int) == 2) = false := by simpa using (by omega : ¬ (ds.length : Int) = 2)
       simp (disch := omega) only [go_sem, ↓reduceIte, Nat.reduceAdd, Nat.reduceEqDiff, Nat.reduceLeDiff, reduceCtorEq, ac_event_Check, evT_def, c1, c2, c3, c4, c5, c6, c7, c8, c9]
theorem chkX_eq {a b : Int} {c : List (List UInt8)} {d : List UInt8} {act : Int} (h : evX (a, b, c, d)) : ct_chkX.fs [.t (.agg [.int .i64 a, .int .i64 b, .sl (c.map bsT), .sl (d.map byteT)]), .t (.int .i64 act)] [] = some (.t (.int .i64 (chkE (a, b, c, d) act)), []) := ct_chkX.eq ((a, b, c, d), act) h
def ct_fitX : Ct where
 α := Ev × Int
 as x := [.t (evT x.1), .t (.int .i64 x.2)]
 ins _ := []
 pre x := evX x.1 ∧ 0 ≤ x.2 ∧ x.2 < 4
 r x := .t (.bool (fitE x.1.2.1 x.2 x.1.2.2.1))
 outs _ := []
 inj := by
   rintro ⟨e, a⟩ ⟨f, b⟩ h _
   simp only [List.cons.injEq, V.t.injEq, T.int.injEq, true_and, and_true] at h
   obtain ⟨h1, rfl⟩ := h
   cases evT_inj h1
   exact ⟨rfl, rfl⟩
theorem fitX_eq {a b : Int} {c : List (List UInt8)} {d : List UInt8} {act : Int} (h : evX (a, b, c, d) ∧ 0 ≤ act ∧ act < 4) : ct_fitX.fs [.t (.agg [.int .i64 a, .int .i64 b, .sl (c.map bsT), .sl (d.map byteT)]), .t (.int .i64 act)] [] = some (.t (.bool (fitE b act c)), []) := ct_fitX.eq ((a, b, c, d), act) h
theorem w_ref25_digestsFitX (tab : Tab) (gl : Gl) (n1 n2 : Nat) (h1 : tab.look n1 = some ct_has.fs) (h2 : tab.look n2 = some ct_size.fs) (e : Ev) (act : Int) (hm : evX e) (ha : 0 ≤ act ∧ act < 4) :
   (ac_ref25_digestsFit n1 n2).wp tab gl (zipF 0 [.t (evT e), .t (.int .i64 act)]) (zipF 0 []) (resW [(4, none)] 0 (fun r o => r = .t (.bool (fitE e.2.1 act e.2.2.1)) ∧ o = [])) := by
 obtain ⟨r, k, ds, d⟩ := e
 have hd := hm.1
 simp only at hd
 have q0 := has_eq0 ha
 have q1 := has_eq1 ha
 by_cases c8 : ds.length = 2
 · obtain ⟨d0, d1, rfl⟩ := len2 c8
   have m0 := hm.2.1 d0 (by simp)
   have m1 := hm.2.1 d1 (by simp)
   simp only [fitE_two, wantL0, wantL1]
   rcases (show k = 5 ∨ k ≠ 5 by omega) with rfl | hk
   · by_cases l0 : d0.length = 0 <;> by_cases l1 : d1.length = 0
     all_goals simp (disch := omega) only [go_sem, ↓reduceIte, Nat.reduceAdd, Nat.reduceEqDiff, Nat.reduceLeDiff, reduceCtorEq, ac_ref25_digestsFit, evT_def, List.map_cons, List.map_nil]
     all_goals refine loop_fuel 3 ?_
     all_goals simp (disch := omega) only [go_sem, ↓reduceIte, Nat.reduceAdd, Nat.reduceEqDiff, Nat.reduceLeDiff, Int.reduceLT, Int.reduceLE, Int.reduceAdd, reduceCtorEq, loopN_succ, ac_ref25_digestsFit_L0, h1, h2, l0, l1, ne_eq]
   · have k5 : (k == 5) = false := by simpa using hk
     by_cases b0 : act % 2 = 1 <;> by_cases b1 : act / 2 % 2 = 1
     · by_cases l0 : d0.length = 20 <;> by_cases l1 : d1.length = 32
       all_goals simp (disch := omega) only [go_sem, ↓reduceIte, Nat.reduceAdd, Nat.reduceEqDiff, Nat.reduceLeDiff, reduceCtorEq, ac_ref25_digestsFit, evT_def, List.map_cons, List.map_nil]
       all_goals refine loop_fuel 3 ?_
       all_goals simp (disch := omega) only [go_sem, ↓reduceIte, Nat.reduceAdd, Nat.reduceEqDiff, Nat.reduceLeDiff, Int.reduceLT, Int.reduceLE, Int.reduceAdd, reduceCtorEq, loopN_succ, ac_ref25_digestsFit_L0, h1, h2, q0, q1, b0, b1, size_eq0, size_eq1, k5, hk, l0, l1, ne_eq]
     · by_cases l0 : d0.length = 20 <;> by_cases l1 : d1.length = 0
       all_goals simp (disch := omega) only [go_sem, ↓reduceIte, Nat.reduceAdd, Nat.reduceEqDiff, Nat.reduceLeDiff, reduceCtorEq, ac_ref25_digestsFit, evT_def, List.map_cons, List.map_nil]
       all_goals refine loop_fuel 3 ?_
       all_goals simp (disch := omega) only [go_sem, ↓reduceIte, Nat.reduceAdd, Nat.reduceEqDiff, Nat.reduceLeDiff, Int.reduceLT, Int.reduceLE, Int.reduceAdd, reduceCtorEq, loopN_succ, ac_ref25_digestsFit_L0, h1, h2, q0, q1, b0, b1, size_eq0, size_eq1, k5, hk, l0, l1, ne_eq]
     · by_cases l0 : d0.length = 0 <;> by_cases l1 : d1.length = 32
       all_goals simp (disch := omega) only [go_sem, ↓reduceIte, Nat.reduceAdd, Nat.reduceEqDiff, Nat.reduceLeDiff, reduceCtorEq, ac_ref25_digestsFit, evT_def, List.map_cons, List.map_nil]
       all_goals refine loop_fuel 3 ?_
       all_goals simp (disch := omega) only [go_sem, ↓reduceIte, Nat.reduceAdd, Nat.reduceEqDiff, Nat.reduceLeDiff, Int.reduceLT, Int.reduceLE, Int.reduceAdd, reduceCtorEq, loopN_succ, ac_ref25_digestsFit_L0, h1, h2, q0, q1, b0, b1, size_eq0, size_eq1, k5, hk, l0, l1, ne_eq]
     · by_cases l0 : d0.length = 0 <;> by_cases l1 : d1.length = 0
       all_goals simp (disch := omega) only [go_sem, ↓reduceIte, Nat.reduceAdd, Nat.reduceEqDiff, Nat.reduceLeDiff, reduceCtorEq, ac_ref25_digestsFit, evT_def, List.map_cons, List.map_nil]
       all_goals refine loop_fuel 3 ?_
       all_goals simp (disch := omega) only [go_sem, ↓reduceIte, Nat.reduceAdd, Nat.reduceEqDiff, Nat.reduceLeDiff, Int.reduceLT, Int.reduceLE, Int.reduceAdd, reduceCtorEq, loopN_succ, ac_ref25_digestsFit_L0, h1, h2, q0, q1, b0, b1, size_eq0, size_eq1, k5, hk, l0, l1, ne_eq]
 · have hf : fitE k act ds = false := by unfold fitE; rw [decide_eq_false c8]; rfl
   have c9 : ((ds.length : Int) == 2) = false := by simpa using (by omega : ¬ (ds.length : Int) = 2)
   simp only [hf]
   simp (disch := omega) only [go_sem, ↓reduceIte, Nat.reduceAdd, Nat.reduceEqDiff, Nat.reduceLeDiff, reduceCtorEq, ac_ref25_digestsFit, evT_def, c8, c9]
theorem w_ref25_EventX (tab : Tab) (gl : Gl) (n1 : Nat) (h1 : tab.look n1 = some ct_fitX.fs) (e : Ev) (act : Int) (hm : evX e) :
   (ac_ref25_Event n1).wp tab gl (zipF 0 [.t (evT e), .t (.int .i64 act)]) (zipF 0 []) (resW [(4, none)] 0 (fun r o => r = .t (.int .i64 (chkE e act)) ∧ o = [])) := by
 obtain ⟨r, k, ds, d⟩ := e
 have hl := hm.2.2
 simp only at hl
 by_cases hb : badE r k act
 · have hr : chkE (r, k, ds, d) act = 1 := if_pos hb
   rw [hr]
   by_cases c1 : act < 1
   · simp (disch := omega) only [go_sem, ↓reduceIte, Nat.reduceAdd, Nat.reduceEqDiff, reduceCtorEq, ac_ref25_Event, evT_def, c1]
   by_cases c2 : 3 < act
   · simp (disch := omega) only [go_sem, ↓reduceIte, Nat.reduceAdd, Nat.reduceEqDiff, reduceCtorEq, ac_ref25_Event, evT_def, c1, c2]
   by_cases c3 : r < 0
   · simp (disch := omega) only [go_sem, ↓reduceIte, Nat.reduceAdd, Nat.reduceEqDiff, Nat.reduceLeDiff, reduceCtorEq, ac_ref25_Event, evT_def, c1, c2, c3]
   by_cases c4 : 11 < r
   · simp (disch := omega) only [go_sem, ↓reduceIte, Nat.reduceAdd, Nat.reduceEqDiff, Nat.reduceLeDiff, reduceCtorEq, ac_ref25_Event, evT_def, c1, c2, c3, c4]
   by_cases c5 : k < 1
   · simp (disch := omega) only [go_sem, ↓reduceIte, Nat.reduceAdd, Nat.reduceEqDiff, Nat.reduceLeDiff, reduceCtorEq, ac_ref25_Event, evT_def, c1, c2, c3, c4, c5]
   have c6 : 5 < k := by unfold badE at hb; omega
   simp (disch := omega) only [go_sem, ↓reduceIte, Nat.reduceAdd, Nat.reduceEqDiff, Nat.reduceLeDiff, reduceCtorEq, ac_ref25_Event, evT_def, c1, c2, c3, c4, c5, c6]
 · obtain ⟨⟨c1, c2⟩, ⟨c3, c4⟩, c5, c6⟩ := goodE hb
   by_cases c7 : 64 < d.length
   · have hr : chkE (r, k, ds, d) act = 4 := by unfold chkE; rw [if_neg hb, if_pos c7]
     rw [hr]
     simp (disch := omega) only [go_sem, ↓reduceIte, Nat.reduceAdd, Nat.reduceEqDiff, Nat.reduceLeDiff, reduceCtorEq, ac_ref25_Event, evT_def, c1, c2, c3, c4, c5, c6, c7]
   · have hr : chkE (r, k, ds, d) act = if fitE k act ds then 0 else 27 := by unfold chkE; rw [if_neg hb, if_neg c7]
     have hf := fitX_eq (a := r) (b := k) (c := ds) (d := d) (act := act) ⟨hm, by omega, by omega⟩
     rw [hr]
     cases hq : fitE k act ds
     all_goals rw [hq] at hf
     all_goals simp (disch := omega) only [go_sem, ↓reduceIte, Nat.reduceAdd, Nat.reduceEqDiff, Nat.reduceLeDiff, reduceCtorEq, ac_ref25_Event, evT_def, c1, c2, c3, c4, c5, c6, c7, h1, hf]
abbrev Lg := Int × Int × List Ev
def lgT (l : Lg) : T := .agg [.int .i64 l.1, .int .i64 l.2.1, .sl (l.2.2.map evT)]
theorem lgT_def {a r : Int} {es : List Ev} : lgT (a, r, es) = .agg [.int .i64 a, .int .i64 r, .sl (es.map evT)] := Eq.trans (Eq.refl _) rfl
theorem mapE_inj {l m : List Ev} : (l.map evT = m.map evT) = (l = m) := propext ⟨map_inj' (fun _ _ => evT_inj), fun h => by rw [h]⟩
theorem lgT_inj {l m : Lg} (h : lgT l = lgT m) : l = m := by
 obtain ⟨a, b, c⟩ := l
 obtain ⟨a', b', c'⟩ := m
 simp only [lgT_def, T.agg.injEq, List.cons.injEq, T.int.injEq, T.sl.injEq, true_and, and_true, mapE_inj] at h
 obtain ⟨rfl, rfl, rfl⟩ := h
 rfl
def esM (es : List Ev) : Prop := es.length < 1000000 ∧ ∀ e ∈ es, evX e
def firstE (act : Int) : List Ev → Int
 | [] => 0
 | e :: r => if chkE e act ≠ 0 then chkE e act else firstE act r
def rpE (act : Int) (es : List Ev) : Int := if act < 1 ∨ 3 < act then 1 else firstE act es
abbrev Rg := List Bank × Int
def rpS (x : Rg) (e : Ev) : Rg := if e.2.1 = 5 then x else extP x 0 e.1 e.2.2.1
def rp0 (act : Int) : Rg := (newBk act, 0)
def rpF (act : Int) (es : List Ev) : Rg := es.foldl rpS (rp0 act)
def rpG (act : Int) (es : List Ev) : Rg := if rpE act es = 0 then rpF act es else ([], 0)
def rpV (act : Int) (es : List Ev) : V := .tup [.t (regT (rpG act es).1 (rpG act es).2), .t (.int .i64 (rpE act es))]
def ct_rpl : Ct where
 α := Lg
 as x := [.t (lgT x)]
 ins _ := []
 pre x := esM x.2.2
 r x := rpV x.1 x.2.2
 outs _ := []
 inj := by
   intro a b h _
   simp only [List.cons.injEq, V.t.injEq, and_true] at h
   cases lgT_inj h
   exact ⟨rfl, rfl⟩
def ShA (act : Int) (bk : List Bank) : Prop := ∃ b0 b1 : Bank, bk = [b0, b1] ∧ List.length b0 = (if act % 2 = 1 then 16 else 0) ∧ List.length b1 = (if act / 2 % 2 = 1 then 16 else 0) ∧ (∀ x ∈ b0, x.length = 20) ∧ ∀ x ∈ b1, x.length = 32
theorem ShA.new {act : Int} (ha : 1 ≤ act ∧ act ≤ 3) : ShA act (newBk act) := by
 have h : newBk act = [if act % 2 = 1 then newB 0 else [], if act / 2 % 2 = 1 then newB 1 else []] := newBk_of (by omega)
 refine ⟨_, _, h, ?_, ?_, fun x hx => ?_, fun x hx => ?_⟩
 · split
   · exact newB_length
   · rfl
 · split
   · exact newB_length
   · rfl
 · split at hx
   · exact newB_z (a := 0) x hx
   · simp at hx
 · split at hx
   · exact newB_z (a := 1) x hx
   · simp at hx
theorem ShA.rv {act : Int} {bk : List Bank} (h : ShA act bk) : RV bk := by
 obtain ⟨b0, b1, rfl, h0, h1, z0, z1⟩ := h
 refine ⟨.two _ _ ?_ ?_, fun b hb x hx => ?_⟩
 · split at h0
   · exact .inr h0
   · exact .inl h0
 · split at h1
   · exact .inr h1
   · exact .inl h1
 · simp only [List.mem_cons, List.not_mem_nil, or_false] at hb
   rcases hb with rfl | rfl
   · have := z0 x hx; omega
   · have := z1 x hx; omega
theorem ShA.ext {act : Int} {bk : List Bank} (h : ShA act bk) (i : Nat) (ds : List (List UInt8)) : ShA act (extBk bk i ds) := by
 obtain ⟨b0, b1, rfl, h0, h1, z0, z1⟩ := h
 rw [extBk_two]
 refine ⟨_, _, rfl, ext1_length.trans h0, ext1_length.trans h1, ?_, ?_⟩
 · unfold ext1; split
   · exact set_z z0 (sumA_length (a := 0))
   · exact z0
 · unfold ext1; split
   · exact set_z z1 (sumA_length (a := 1))
   · exact z1
theorem leastI_lo {i : Int} (h : i ≤ 11) : leastI i false = 0 := by
 unfold leastI
 rw [if_neg (by simp), if_neg (by omega), if_neg (by omega)]
theorem ext_ok {act : Int} {bk : List Bank} {e : Ev} (h : ShA act bk) (hc : chkE e act = 0) (h5 : e.2.1 ≠ 5) : extEr bk 0 e.1 e.2.2.1 = 0 := by
 obtain ⟨r, k, ds, d⟩ := e
 obtain ⟨b0, b1, rfl, h0, h1, z0, z1⟩ := h
 unfold chkE at hc
 simp only at hc h5 ⊢
 split at hc
 · simp at hc
 · rename_i hb
   obtain ⟨⟨c1, c2⟩, ⟨c3, c4⟩, c5, c6⟩ := goodE hb
   split at hc
   · simp at hc
   · split at hc
     · rename_i hf
       unfold fitE at hf
       simp only [Bool.and_eq_true, decide_eq_true_eq] at hf
       obtain ⟨⟨f0, f1⟩, f2⟩ := hf
       rw [wantL0] at f1
       rw [wantL1] at f2
       unfold extEr
       rw [show ([b0, b1] : List Bank).getD 0 [] = b0 from rfl, show ([b0, b1] : List Bank).getD 1 [] = b1 from rfl, h0, h1, f0, f1, f2]
       have h5' : k ≠ 5 := h5
       unfold extE
       rw [if_neg (by omega), leastI_lo (by omega), if_neg (by omega), if_neg, if_neg]
       · by_cases q0 : act % 2 = 1 <;> by_cases q1 : act / 2 % 2 = 1 <;> simp [q0, q1, h5']
       · by_cases q0 : act % 2 = 1 <;> by_cases q1 : act / 2 % 2 = 1 <;> simp [q0, q1, h5']
     · simp at hc
theorem rpS_ext {act : Int} {x : Rg} {e : Ev} (h : ShA act x.1) (hc : chkE e act = 0) (h5 : e.2.1 ≠ 5) : rpS x e = (extBk x.1 e.1.toNat e.2.2.1, x.2 + 1) := by
 unfold rpS
 rw [if_neg h5]
 unfold extP
 rw [if_pos (ext_ok h hc h5)]
def RQ (act : Int) (n : Nat) (x : Rg) : Prop := ShA act x.1 ∧ 0 ≤ x.2 ∧ x.2 ≤ n
theorem RQ.zero {act : Int} (ha : 1 ≤ act ∧ act ≤ 3) : RQ act 0 (rp0 act) := ⟨ShA.new ha, by simp [rp0], by simp [rp0]⟩
theorem RQ.up {act : Int} {n m : Nat} {x : Rg} (h : RQ act n x) (hm : n ≤ m) : RQ act m x := ⟨h.1, h.2.1, by have := h.2.2; omega⟩
theorem RQ.ext {act : Int} {n : Nat} {x : Rg} (h : RQ act n x) (l i : Int) (ds : List (List UInt8)) : RQ act (n + 1) (extP x l i ds) := by
 unfold extP
 split
 · exact ⟨h.1.ext _ _, by have := h.2.1; simp only; omega, by have := h.2.2; simp only; omega⟩
 · exact h.up (by omega)
theorem RQ.step {act : Int} {n : Nat} {x : Rg} {e : Ev} (h : RQ act n x) : RQ act (n + 1) (rpS x e) := by
 unfold rpS
 split
 · exact h.up (by omega)
 · exact h.ext _ _ _
theorem RQ.fold {act : Int} (ha : 1 ≤ act ∧ act ≤ 3) : ∀ {es : List Ev} {n : Nat} {x : Rg}, RQ act n x → RQ act (n + es.length) (es.foldl rpS x)
 | [], n, x, h => h
 | e :: es, n, x, h => by
   have := RQ.fold ha (es := es) (h.step (e := e))
   rw [List.length_cons, show n + (es.length + 1) = n + 1 + es.length by omega]
   exact this
theorem rpF_rq {act : Int} (ha : 1 ≤ act ∧ act ≤ 3) {es : List Ev} : RQ act es.length (rpF act es) := by
 have := RQ.fold ha (es := es) (RQ.zero ha)
 rwa [Nat.zero_add] at this
theorem firstE_ok {act : Int} : ∀ {es : List Ev}, firstE act es = 0 → ∀ e ∈ es, chkE e act = 0
 | [], _, e, he => by simp at he
 | x :: es, h, e, he => by
   unfold firstE at h
   split at h
   · omega
   · rcases List.mem_cons.1 he with rfl | he
     · omega
     · exact firstE_ok h e he
theorem firstE_all {act : Int} : ∀ {es : List Ev}, (∀ e ∈ es, chkE e act = 0) → firstE act es = 0
 | [], _ => rfl
 | x :: es, h => by
   unfold firstE
   rw [if_neg (by have := h x (by simp); omega)]
   exact firstE_all (fun e he => h e (by simp [he]))
theorem firstE_at {act : Int} : ∀ {es : List Ev} {i : Nat}, i < es.length → (∀ e ∈ es.take i, chkE e act = 0) → chkE (es.getD i ev0) act ≠ 0 → firstE act es = chkE (es.getD i ev0) act
 | [], i, h, _, _ => by simp at h
 | x :: es, 0, _, _, h2 => by
   unfold firstE
   exact if_pos h2
 | x :: es, i + 1, h, h1, h2 => by
   unfold firstE
   rw [if_neg (by have := h1 x (by simp); omega)]
   exact firstE_at (es := es) (i := i) (by simpa using h) (fun e he => h1 e (by simp [he])) h2
theorem rpG_rv {act : Int} {es : List Ev} : RV (rpG act es).1 ∧ 0 ≤ (rpG act es).2 ∧ (rpG act es).2 ≤ es.length := by
 unfold rpG
 split
 · rename_i h
   have ha : 1 ≤ act ∧ act ≤ 3 := by
     unfold rpE at h
     split at h
     · simp at h
     · omega
   obtain ⟨h1, h2, h3⟩ := rpF_rq ha (es := es)
   exact ⟨h1.rv, h2, h3⟩
 · exact ⟨⟨.nil, by simp⟩, by simp, by simp⟩
def ag1 (x r : List Bank) (act : Int) (g : Nat) (a : Nat) : Bool := decide (act / 2 ^ a % 2 ≠ 1) || (onB r a && decide (valL x a g = valL r a g))
def agB (x r : List Bank) (act : Int) (g : Nat) : Bool := ag1 x r act g 0 && ag1 x r act g 1
def hasB (r : List Bank) (act : Int) : Bool := (decide (act / 2 ^ 0 % 2 ≠ 1) || onB r 0) && (decide (act / 2 ^ 1 % 2 ≠ 1) || onB r 1)
theorem agB_has {x r : List Bank} {act : Int} {g : Nat} (h : hasB r act = false) : agB x r act g = false := by
 unfold hasB at h
 unfold agB ag1
 cases h0 : onB r 0 <;> cases h1 : onB r 1 <;> simp_all
def rcN (r : List Bank) (act : Int) (g : Nat) : List Ev → Rg → Nat → Int
 | [], _, _ => -1
 | e :: es, x, n => if e.2.1 ≠ 5 ∧ e.1 = g then (if agB (extP x 0 g e.2.2.1).1 r act g then ((n + 1 : Nat) : Int) else rcN r act g es (extP x 0 g e.2.2.1) (n + 1)) else rcN r act g es x n
def rcV (r : List Bank) (act : Int) (g : Nat) (es : List Ev) : Int := if agB (newBk act) r act g then 0 else rcN r act g es (rp0 act) 0
def rcI (r : List Bank) (act : Int) (es : List Ev) (g : Int) : Int := if rpE act es ≠ 0 ∨ g < 0 ∨ 12 ≤ g then -1 else rcV r act g.toNat es
theorem rcN_le {r : List Bank} {act : Int} {g : Nat} : ∀ {es : List Ev} {x : Rg} {n : Nat}, -1 ≤ rcN r act g es x n ∧ rcN r act g es x n ≤ n + es.length
 | [], x, n => by unfold rcN; simp only [List.length_nil]; omega
 | e :: es, x, n => by
   unfold rcN
   split
   · split
     · simp; omega
     · have := rcN_le (r := r) (act := act) (g := g) (es := es) (x := extP x 0 g e.2.2.1) (n := n + 1)
       simp at this ⊢; omega
   · have := rcN_le (r := r) (act := act) (g := g) (es := es) (x := x) (n := n)
     simp at this ⊢; omega
theorem rcV_le {r : List Bank} {act : Int} {g : Nat} {es : List Ev} : -1 ≤ rcV r act g es ∧ rcV r act g es ≤ es.length := by
 unfold rcV
 split
 · omega
 · have := rcN_le (r := r) (act := act) (g := g) (es := es) (x := rp0 act) (n := 0)
   omega
def cntG (g : Nat) (es : List Ev) : Nat := (es.filter fun (e : Ev) => decide (e.2.1 ≠ 5) && decide (e.1 = (g : Int))).length
def fsN (most : Nat → Int) : List Ev → (Nat → Nat) → Nat → Option Nat
 | [], _, _ => none
 | e :: es, cs, i => if e.2.1 = 5 then fsN most es cs (i + 1) else if most e.1.toNat ≤ cs e.1.toNat then some i else fsN most es (fun g => if g = e.1.toNat then cs g + 1 else cs g) (i + 1)
def fsI (r : List Bank) (act : Int) (es : List Ev) : Int :=
 if rpE act es ≠ 0 then 0 else match fsN (fun g => rcV r act g es) es (fun _ => 0) 0 with
   | some i => i
   | none => if (List.range 12).all (fun g => decide (rcV r act g es = cntG g es)) then -1 else es.length
end Go.Eng
end
