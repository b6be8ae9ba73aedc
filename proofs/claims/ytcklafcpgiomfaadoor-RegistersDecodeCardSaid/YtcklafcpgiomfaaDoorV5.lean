/- My own text: an abstract machine, its walks over the functions reached, and their tie to the program. -/
import Derived.Test.YtcklafcpgiomfaaDoorV4
import Derived.Test.YtcklafcpgiomfaaDoorV3
import Derived.Conc.MuLone
import Derived.Lib.MakeNoZero
import Derived.Laws.Externs
set_option linter.unusedSimpArgs false
set_option linter.unusedVariables false
section
set_option maxRecDepth 20000
set_option maxHeartbeats 64000000
namespace Go.Eng
def dcRows (bk : List Bank) (s : Rd) : List Bank × Rd := match bk with
  | [b0, b1] => ([(rdRows s 20 (List.length b0)).1, (rdRows (rdRows s 20 (List.length b0)).2 32 (List.length b1)).1], (rdRows (rdRows s 20 (List.length b0)).2 32 (List.length b1)).2)
  | _ => ([], s)
def dcSet (s : Rd) : Int := (rdUint s 1).1
def dcU (s : Rd) : Int := (rdUint (rdUint s 1).2 8).1
def dcB (s : Rd) : List Bank × Rd := dcRows (newBk (dcSet s)) (rdUint (rdUint s 1).2 8).2
def dcR (b : List UInt8) : V :=
  let s : Rd := (b, 0, 0)
  if (rdUint s 1).2.2.2 = 0 ∧ 4 ≤ dcSet s then .tup [.t (regT [] 0), .t (.int .i64 1)]
  else if rdEnd (dcB s).2 ≠ 0 then .tup [.t (regT [] 0), .t (.int .i64 (rdEnd (dcB s).2))]
  else .tup [.t (regT (dcB s).1 (dcU s)), .t (.int .i64 0)]
theorem rows_set {s : Rd} {z i : Nat} {c : List (List UInt8)} (h : i < List.length c) : ((rdRows s z i).1 ++ List.drop i c).set i (rdRaw (rdRows s z i).2 z).1 = (rdRows s z (i + 1)).1 ++ List.drop (i + 1) c := by
  rw [List.set_append_right _ _ (by rw [rdRows_len]; exact Nat.le_refl _), rdRows_len, Nat.sub_self]
  have e : List.drop i c = c[i] :: List.drop (i + 1) c := List.drop_eq_getElem_cons h
  rw [e, List.set_cons_zero]
  simp [rdRows]
theorem dcR_go {b : List UInt8} {bk : List Bank} {s : Rd} {u : Int} (h : ¬ ((rdUint (b, 0, 0) 1).2.2.2 = 0 ∧ 4 ≤ dcSet (b, 0, 0))) (hB : dcB (b, 0, 0) = (bk, s)) (hU : dcU (b, 0, 0) = u) : dcR b = if rdEnd s ≠ 0 then .tup [.t (regT [] 0), .t (.int .i64 (rdEnd s))] else .tup [.t (regT bk u), .t (.int .i64 0)] := by
  unfold dcR
  simp only [hB, hU]
  rw [if_neg h]
theorem w_registers_Decode (tab : Tab) (gl : Gl) (n1 n2 n3 n4 n5 n6 n7 : Nat) (h1 : tab.look n1 = some ct_rnew.fs) (h2 : tab.look n2 = some ct_rint.fs) (h3 : tab.look n3 = some ct_rerr.fs) (h4 : tab.look n4 = some ct_new.fs) (h5 : tab.look n5 = some ct_size.fs) (h6 : tab.look n6 = some ct_rraw.fs) (h7 : tab.look n7 = some ct_rend.fs) (b : List UInt8) (hb : b.length < 1000000000) :
    (ac_registers_Decode n1 n2 n3 n4 n5 n6 n7).wp tab gl (zipF 0 [.t (.sl (b.map byteT))]) (zipF 0 []) (resW [(2, some (2, true)), (3, none)] 0 (fun r o => r = dcR b ∧ o = [])) := by
  have ok0 : rdOk (b, 0, 0) := ⟨Nat.zero_le _, hb⟩
  have hN := rnew_eq hb
  obtain ⟨⟨set, b1, a1, e1⟩, hU1⟩ : ∃ x, rdUint (b, 0, 0) 1 = x := ⟨_, rfl⟩
  have hI1 := rint_eq (k := 1) ⟨ok0, by omega, by omega⟩
  have ok1 : rdOk (b1, a1, e1) := by have := rdUint_ok (k := 1) ok0; rw [hU1] at this; exact this
  rw [hU1] at hI1
  have hE1 := rerr_eq ok1
  simp only [rdO, Int.natCast_zero, Int.natCast_one] at hN hI1 hE1
  by_cases hbad : e1 = 0 ∧ 4 ≤ set
  · have hr : dcR b = .tup [.t (regT [] 0), .t (.int .i64 1)] := by
      unfold dcR dcSet
      simp only [hU1]
      rw [if_pos hbad]
    rw [hr]
    obtain ⟨rfl, hset⟩ := hbad
    simp (disch := omega) only [go_sem, ↓reduceIte, Nat.reduceAdd, Nat.reduceEqDiff, Nat.reduceSub, Nat.reduceLeDiff, reduceCtorEq, ac_registers_Decode, h1, h2, h3, hN, hI1, hE1, hset, List.map_nil]
  · have hbad' : ¬ ((rdUint (b, 0, 0) 1).2.2.2 = 0 ∧ 4 ≤ dcSet (b, 0, 0)) := by unfold dcSet; simp only [hU1]; exact hbad
    have hgo : (e1 == 0) = false ∨ ((e1 == 0) = true ∧ set < 4) := by
      by_cases h : e1 = 0
      · exact .inr ⟨by simpa using h, by omega⟩
      · exact .inl (by simpa using h)
    obtain ⟨⟨u, b2, a2, e2⟩, hU2⟩ : ∃ x, rdUint (b1, a1, e1) 8 = x := ⟨_, rfl⟩
    have hI2 := rint_eq (k := 8) ⟨ok1, by omega, by omega⟩
    have ok2 : rdOk (b2, a2, e2) := by have := rdUint_ok (k := 8) ok1; rw [hU2] at this; exact this
    rw [hU2] at hI2
    have k8 : ((8 : Nat) : Int) = 8 := rfl
    simp only [rdO, k8] at hI2
    rcases new_casesX set with ⟨en, hn⟩ | ⟨c0, c1, en, g0, g1, hn⟩
    · have hB : dcB (b, 0, 0) = ([], (b2, a2, e2)) := by
        unfold dcB dcSet
        simp only [hU1, hU2, en]
        rfl
      have hU : dcU (b, 0, 0) = u := by unfold dcU; simp only [hU1, hU2]
      have hr := dcR_go (b := b) hbad' hB hU
      have hend := rend_eq ok2
      simp only [rdO] at hend
      rw [hr]
      by_cases hz : rdEnd (b2, a2, e2) = 0
      · rw [if_neg (by simp [hz])]
        rw [hz] at hend
        rcases hgo with hgo | ⟨hgo, hlt⟩
        · simp (disch := omega) only [go_sem, ↓reduceIte, Nat.reduceAdd, Nat.reduceEqDiff, Nat.reduceSub, Nat.reduceLeDiff, reduceCtorEq, ac_registers_Decode, h1, h2, h3, h4, hN, hI1, hE1, hgo, hn, hI2, List.map_nil]
          refine loop_fuel 1 ?_
          simp (disch := omega) only [go_sem, ↓reduceIte, Nat.reduceAdd, Nat.reduceEqDiff, Nat.reduceSub, Nat.reduceLeDiff, Int.reduceLT, loopN_succ, ac_registers_Decode_L0, h7, hend, List.map_nil]
        · simp (disch := omega) only [go_sem, ↓reduceIte, Nat.reduceAdd, Nat.reduceEqDiff, Nat.reduceSub, Nat.reduceLeDiff, reduceCtorEq, ac_registers_Decode, h1, h2, h3, h4, hN, hI1, hE1, hgo, hlt, hn, hI2, List.map_nil]
          refine loop_fuel 1 ?_
          simp (disch := omega) only [go_sem, ↓reduceIte, Nat.reduceAdd, Nat.reduceEqDiff, Nat.reduceSub, Nat.reduceLeDiff, Int.reduceLT, loopN_succ, ac_registers_Decode_L0, h7, hend, List.map_nil]
      · rw [if_pos hz]
        have hz2 : (rdEnd (b2, a2, e2) == 0) = false := by simpa using hz
        rcases hgo with hgo | ⟨hgo, hlt⟩
        · simp (disch := omega) only [go_sem, ↓reduceIte, Nat.reduceAdd, Nat.reduceEqDiff, Nat.reduceSub, Nat.reduceLeDiff, reduceCtorEq, ac_registers_Decode, h1, h2, h3, h4, hN, hI1, hE1, hgo, hn, hI2, List.map_nil]
          refine loop_fuel 1 ?_
          simp (disch := omega) only [go_sem, ↓reduceIte, Nat.reduceAdd, Nat.reduceEqDiff, Nat.reduceSub, Nat.reduceLeDiff, Int.reduceLT, loopN_succ, ac_registers_Decode_L0, h7, hend, hz2, List.map_nil]
        · simp (disch := omega) only [go_sem, ↓reduceIte, Nat.reduceAdd, Nat.reduceEqDiff, Nat.reduceSub, Nat.reduceLeDiff, reduceCtorEq, ac_registers_Decode, h1, h2, h3, h4, hN, hI1, hE1, hgo, hlt, hn, hI2, List.map_nil]
          refine loop_fuel 1 ?_
          simp (disch := omega) only [go_sem, ↓reduceIte, Nat.reduceAdd, Nat.reduceEqDiff, Nat.reduceSub, Nat.reduceLeDiff, Int.reduceLT, loopN_succ, ac_registers_Decode_L0, h7, hend, hz2, List.map_nil]
    · have q0 : List.length c0 ≤ 16 := by rcases g0 with h | h <;> omega
      have q1 : List.length c1 ≤ 16 := by rcases g1 with h | h <;> omega
      obtain ⟨⟨B0, S1⟩, hS1⟩ : ∃ x, rdRows (b2, a2, e2) 20 (List.length c0) = x := ⟨_, rfl⟩
      have okS1 : rdOk S1 := by have := rdRows_ok (z := 20) ok2 (List.length c0); rw [hS1] at this; exact this
      have lB0 : List.length B0 = List.length c0 := by have := rdRows_len (s := (b2, a2, e2)) (z := 20) (List.length c0); rw [hS1] at this; exact this
      obtain ⟨⟨B1, S2⟩, hS2⟩ : ∃ x, rdRows S1 32 (List.length c1) = x := ⟨_, rfl⟩
      have okS2 : rdOk S2 := by have := rdRows_ok (z := 32) okS1 (List.length c1); rw [hS2] at this; exact this
      have lB1 : List.length B1 = List.length c1 := by have := rdRows_len (s := S1) (z := 32) (List.length c1); rw [hS2] at this; exact this
      have hB : dcB (b, 0, 0) = ([B0, B1], S2) := by
        unfold dcB dcSet
        simp only [hU1, hU2, en, dcRows, hS1, hS2]
      have hU : dcU (b, 0, 0) = u := by unfold dcU; simp only [hU1, hU2]
      have hr := dcR_go (b := b) hbad' hB hU
      have hend := rend_eq okS2
      rw [hr]
      rcases hgo with hgo | ⟨hgo, hlt⟩
      all_goals first | simp (disch := omega) only [go_sem, ↓reduceIte, Nat.reduceAdd, Nat.reduceEqDiff, Nat.reduceSub, Nat.reduceLeDiff, reduceCtorEq, ac_registers_Decode, h1, h2, h3, h4, hN, hI1, hE1, hgo, hlt, hn, hI2, List.map_nil] | simp (disch := omega) only [go_sem, ↓reduceIte, Nat.reduceAdd, Nat.reduceEqDiff, Nat.reduceSub, Nat.reduceLeDiff, reduceCtorEq, ac_registers_Decode, h1, h2, h3, h4, hN, hI1, hE1, hgo, hn, hI2, List.map_nil]
      all_goals refine loop_upto 2 (fun k => match k with | 0 => [(2, .ref 4096 0 0), (4, .ref 8208 0 0), (6, .ref 24608 0 0), (29, .t (.int .i64 2)), (30, .t (.int .i64 0))] | 1 => [(2, .ref 4096 0 0), (4, .ref 8208 0 0), (6, .ref 24608 0 0), (29, .t (.int .i64 2)), (30, .t (.int .i64 1))] | _ => [(2, .ref 4096 0 0), (4, .ref 8208 0 0), (6, .ref 24608 0 0), (29, .t (.int .i64 2)), (30, .t (.int .i64 2))]) (fun k => match k with | 0 => [(24608, .live 2 [.agg [.sl 24592 0 2, .t (.int .i64 u)]] true true), (24592, .live 1 [.sl 24593 0 (List.length c0), .sl 24594 0 (List.length c1)] true false), (24593, .live 1 ((c0.map bsT).map V.t) true false), (24594, .live 1 ((c1.map bsT).map V.t) true false), (8208, rdO (b2, a2, e2)), (4096, .live 2 [.agg [.nil, .t (.int .i64 0)]] true true)] | 1 => [(24608, .live 2 [.agg [.sl 24592 0 2, .t (.int .i64 u)]] true true), (24592, .live 1 [.sl 24593 0 (List.length c0), .sl 24594 0 (List.length c1)] true false), (24593, .live 1 ((B0.map bsT).map V.t) true false), (24594, .live 1 ((c1.map bsT).map V.t) true false), (8208, rdO S1), (4096, .live 2 [.agg [.nil, .t (.int .i64 0)]] true true)] | _ => [(24608, .live 2 [.agg [.sl 24592 0 2, .t (.int .i64 u)]] true true), (24592, .live 1 [.sl 24593 0 (List.length c0), .sl 24594 0 (List.length c1)] true false), (24593, .live 1 ((B0.map bsT).map V.t) true false), (24594, .live 1 ((B1.map bsT).map V.t) true false), (8208, rdO S2), (4096, .live 2 [.agg [.nil, .t (.int .i64 0)]] true true)]) ?_ (fun k hk => ?_)
      all_goals first
        | (refine Weak.rd id ?_ ?_ rfl
           all_goals simp (disch := omega) only [go_sem, ↓reduceIte, Nat.reduceAdd, Nat.reduceEqDiff, Nat.reduceBEq, id, rdO])
        | skip
      all_goals rcases (show k = 0 ∨ k = 1 ∨ k = 2 by omega) with rfl | rfl | rfl
      · simp (disch := omega) only [go_sem, ↓reduceIte, Nat.reduceAdd, Nat.reduceEqDiff, Nat.reduceLeDiff, Int.reduceLT, Int.reduceLE, ac_registers_Decode_L0, List.map_nil, lB0]
        refine loop_upto (List.length c0) (fun i => [(2, .ref 4096 0 0), (4, .ref 8208 0 0), (6, .ref 24608 0 0), (7, .t (.int .i64 0)), (29, .t (.int .i64 2)), (30, .t (.int .i64 0)), (38, .t (.int .i64 (List.length c0))), (39, .t (.int .i64 (i : Nat)))]) (fun i => [(24608, .live 2 [.agg [.sl 24592 0 2, .t (.int .i64 u)]] true true), (24592, .live 1 [.sl 24593 0 (List.length c0), .sl 24594 0 (List.length c1)] true false), (24593, .live 1 ((((rdRows (b2, a2, e2) 20 i).1 ++ List.drop i c0).map bsT).map V.t) true false), (24594, .live 1 ((c1.map bsT).map V.t) true false), (8208, rdO (rdRows (b2, a2, e2) 20 i).2), (4096, .live 2 [.agg [.nil, .t (.int .i64 0)]] true true)]) ?_ (fun i hi => ?_)
        · refine Weak.rd id ?_ ?_ rfl
          all_goals simp (disch := omega) only [go_sem, ↓reduceIte, Nat.reduceAdd, Nat.reduceEqDiff, Nat.reduceBEq, id, rdO, rdRows, List.drop_zero, List.nil_append]
        · have oki := rdRows_ok (z := 20) ok2 i
          have hln := rdRows_len (s := (b2, a2, e2)) (z := 20) i
          by_cases hlt2 : i < List.length c0
          · have hraw := rraw_eq (k := 20) ⟨oki, by omega⟩
            have hset := rows_set (s := (b2, a2, e2)) (z := 20) hlt2
            have hstep : (rdRows (b2, a2, e2) 20 (i + 1)).2 = (rdRaw (rdRows (b2, a2, e2) 20 i).2 20).2 := rfl
            have kz : ((20 : Nat) : Int) = 20 := rfl
            have hl1 := rdRows_len (s := (b2, a2, e2)) (z := 20) (i + 1)
            simp only [rdO, kz] at hraw
            simp (config := { maxSteps := 2000000 }) (disch := (first | omega | (simp only [lens, lenm]; omega))) only [go_sem, ↓reduceIte, Nat.reduceAdd, Nat.reduceEqDiff, Nat.reduceSub, Nat.reduceLeDiff, Int.reduceLT, Int.reduceLE, ac_registers_Decode_L1, rdO, h5, size_eq0, h6, hraw, hset, hln, hl1, lB0]
            refine ⟨rfl, hlt2, Weak.rd id ?_ ?_ rfl⟩
            all_goals simp (disch := omega) only [go_sem, ↓reduceIte, Nat.reduceAdd, Nat.reduceEqDiff, Nat.reduceBEq, id, rdO, hstep]
          · have e : i = List.length c0 := by omega
            subst e
            simp (disch := omega) only [go_sem, ↓reduceIte, Nat.reduceAdd, Nat.reduceEqDiff, Nat.reduceLT, Int.reduceAdd, ac_registers_Decode_L1, rdO, hS1, List.drop_length, List.append_nil]
            refine Weak.rd id ?_ ?_ rfl
            all_goals simp (disch := omega) only [go_sem, ↓reduceIte, Nat.reduceAdd, Nat.reduceEqDiff, Nat.reduceBEq, id, rdO, hS1, List.drop_length, List.append_nil, lB0]
      · simp (disch := omega) only [go_sem, ↓reduceIte, Nat.reduceAdd, Nat.reduceEqDiff, Nat.reduceLeDiff, Int.reduceLT, Int.reduceLE, ac_registers_Decode_L0, List.map_nil, lB0]
        refine loop_upto (List.length c1) (fun i => [(2, .ref 4096 0 0), (4, .ref 8208 0 0), (6, .ref 24608 0 0), (7, .t (.int .i64 1)), (29, .t (.int .i64 2)), (30, .t (.int .i64 1)), (38, .t (.int .i64 (List.length c1))), (39, .t (.int .i64 (i : Nat)))]) (fun i => [(24608, .live 2 [.agg [.sl 24592 0 2, .t (.int .i64 u)]] true true), (24592, .live 1 [.sl 24593 0 (List.length c0), .sl 24594 0 (List.length c1)] true false), (24593, .live 1 ((B0.map bsT).map V.t) true false), (24594, .live 1 ((((rdRows S1 32 i).1 ++ List.drop i c1).map bsT).map V.t) true false), (8208, rdO (rdRows S1 32 i).2), (4096, .live 2 [.agg [.nil, .t (.int .i64 0)]] true true)]) ?_ (fun i hi => ?_)
        · refine Weak.rd id ?_ ?_ rfl
          all_goals simp (disch := omega) only [go_sem, ↓reduceIte, Nat.reduceAdd, Nat.reduceEqDiff, Nat.reduceBEq, id, rdO, rdRows, List.drop_zero, List.nil_append]
        · have oki := rdRows_ok (z := 32) okS1 i
          have hln := rdRows_len (s := S1) (z := 32) i
          by_cases hlt2 : i < List.length c1
          · have hraw := rraw_eq (k := 32) ⟨oki, by omega⟩
            have hset := rows_set (s := S1) (z := 32) hlt2
            have hstep : (rdRows S1 32 (i + 1)).2 = (rdRaw (rdRows S1 32 i).2 32).2 := rfl
            have kz : ((32 : Nat) : Int) = 32 := rfl
            have hl1 := rdRows_len (s := S1) (z := 32) (i + 1)
            simp only [rdO, kz] at hraw
            simp (config := { maxSteps := 2000000 }) (disch := (first | omega | (simp only [lens, lenm]; omega))) only [go_sem, ↓reduceIte, Nat.reduceAdd, Nat.reduceEqDiff, Nat.reduceSub, Nat.reduceLeDiff, Int.reduceLT, Int.reduceLE, ac_registers_Decode_L1, rdO, h5, size_eq1, h6, hraw, hset, hln, hl1, lB0]
            refine ⟨rfl, hlt2, Weak.rd id ?_ ?_ rfl⟩
            all_goals simp (disch := omega) only [go_sem, ↓reduceIte, Nat.reduceAdd, Nat.reduceEqDiff, Nat.reduceBEq, id, rdO, hstep]
          · have e : i = List.length c1 := by omega
            subst e
            simp (disch := omega) only [go_sem, ↓reduceIte, Nat.reduceAdd, Nat.reduceEqDiff, Nat.reduceLT, Int.reduceAdd, ac_registers_Decode_L1, rdO, hS2, List.drop_length, List.append_nil]
            refine Weak.rd id ?_ ?_ rfl
            all_goals simp (disch := omega) only [go_sem, ↓reduceIte, Nat.reduceAdd, Nat.reduceEqDiff, Nat.reduceBEq, id, rdO, hS2, List.drop_length, List.append_nil, lB0, lB1]
      · simp only [rdO] at hend
        have tB0 : List.take (List.length c0) B0 = B0 := List.take_of_length_le (by omega)
        have tB1 : List.take (List.length c1) B1 = B1 := List.take_of_length_le (by omega)
        by_cases hz : rdEnd S2 = 0
        · rw [if_neg (by simp [hz])]
          rw [hz] at hend
          simp (disch := omega) only [go_sem, ↓reduceIte, Nat.reduceAdd, Nat.reduceEqDiff, Nat.reduceSub, Nat.reduceLeDiff, Int.reduceLT, ac_registers_Decode_L0, rdO, h7, hend, List.map_nil, List.map_cons, lB0, lB1, tB0, tB1]
        · rw [if_pos hz]
          have hz2 : (rdEnd S2 == 0) = false := by simpa using hz
          simp (disch := omega) only [go_sem, ↓reduceIte, Nat.reduceAdd, Nat.reduceEqDiff, Nat.reduceSub, Nat.reduceLeDiff, Int.reduceLT, ac_registers_Decode_L0, rdO, h7, hend, hz2, List.map_nil, lB0, lB1, tB0, tB1]
      · simp (disch := omega) only [go_sem, ↓reduceIte, Nat.reduceAdd, Nat.reduceEqDiff, Nat.reduceLeDiff, Int.reduceLT, Int.reduceLE, ac_registers_Decode_L0, List.map_nil, lB0]
        refine loop_upto (List.length c0) (fun i => [(2, .ref 4096 0 0), (4, .ref 8208 0 0), (6, .ref 24608 0 0), (7, .t (.int .i64 0)), (29, .t (.int .i64 2)), (30, .t (.int .i64 0)), (38, .t (.int .i64 (List.length c0))), (39, .t (.int .i64 (i : Nat)))]) (fun i => [(24608, .live 2 [.agg [.sl 24592 0 2, .t (.int .i64 u)]] true true), (24592, .live 1 [.sl 24593 0 (List.length c0), .sl 24594 0 (List.length c1)] true false), (24593, .live 1 ((((rdRows (b2, a2, e2) 20 i).1 ++ List.drop i c0).map bsT).map V.t) true false), (24594, .live 1 ((c1.map bsT).map V.t) true false), (8208, rdO (rdRows (b2, a2, e2) 20 i).2), (4096, .live 2 [.agg [.nil, .t (.int .i64 0)]] true true)]) ?_ (fun i hi => ?_)
        · refine Weak.rd id ?_ ?_ rfl
          all_goals simp (disch := omega) only [go_sem, ↓reduceIte, Nat.reduceAdd, Nat.reduceEqDiff, Nat.reduceBEq, id, rdO, rdRows, List.drop_zero, List.nil_append]
        · have oki := rdRows_ok (z := 20) ok2 i
          have hln := rdRows_len (s := (b2, a2, e2)) (z := 20) i
          by_cases hlt2 : i < List.length c0
          · have hraw := rraw_eq (k := 20) ⟨oki, by omega⟩
            have hset := rows_set (s := (b2, a2, e2)) (z := 20) hlt2
            have hstep : (rdRows (b2, a2, e2) 20 (i + 1)).2 = (rdRaw (rdRows (b2, a2, e2) 20 i).2 20).2 := rfl
            have kz : ((20 : Nat) : Int) = 20 := rfl
            have hl1 := rdRows_len (s := (b2, a2, e2)) (z := 20) (i + 1)
            simp only [rdO, kz] at hraw
            simp (config := { maxSteps := 2000000 }) (disch := (first | omega | (simp only [lens, lenm]; omega))) only [go_sem, ↓reduceIte, Nat.reduceAdd, Nat.reduceEqDiff, Nat.reduceSub, Nat.reduceLeDiff, Int.reduceLT, Int.reduceLE, ac_registers_Decode_L1, rdO, h5, size_eq0, h6, hraw, hset, hln, hl1, lB0]
            refine ⟨rfl, hlt2, Weak.rd id ?_ ?_ rfl⟩
            all_goals simp (disch := omega) only [go_sem, ↓reduceIte, Nat.reduceAdd, Nat.reduceEqDiff, Nat.reduceBEq, id, rdO, hstep]
          · have e : i = List.length c0 := by omega
            subst e
            simp (disch := omega) only [go_sem, ↓reduceIte, Nat.reduceAdd, Nat.reduceEqDiff, Nat.reduceLT, Int.reduceAdd, ac_registers_Decode_L1, rdO, hS1, List.drop_length, List.append_nil]
            refine Weak.rd id ?_ ?_ rfl
            all_goals simp (disch := omega) only [go_sem, ↓reduceIte, Nat.reduceAdd, Nat.reduceEqDiff, Nat.reduceBEq, id, rdO, hS1, List.drop_length, List.append_nil, lB0]
      · simp (disch := omega) only [go_sem, ↓reduceIte, Nat.reduceAdd, Nat.reduceEqDiff, Nat.reduceLeDiff, Int.reduceLT, Int.reduceLE, ac_registers_Decode_L0, List.map_nil, lB0]
        refine loop_upto (List.length c1) (fun i => [(2, .ref 4096 0 0), (4, .ref 8208 0 0), (6, .ref 24608 0 0), (7, .t (.int .i64 1)), (29, .t (.int .i64 2)), (30, .t (.int .i64 1)), (38, .t (.int .i64 (List.length c1))), (39, .t (.int .i64 (i : Nat)))]) (fun i => [(24608, .live 2 [.agg [.sl 24592 0 2, .t (.int .i64 u)]] true true), (24592, .live 1 [.sl 24593 0 (List.length c0), .sl 24594 0 (List.length c1)] true false), (24593, .live 1 ((B0.map bsT).map V.t) true false), (24594, .live 1 ((((rdRows S1 32 i).1 ++ List.drop i c1).map bsT).map V.t) true false), (8208, rdO (rdRows S1 32 i).2), (4096, .live 2 [.agg [.nil, .t (.int .i64 0)]] true true)]) ?_ (fun i hi => ?_)
        · refine Weak.rd id ?_ ?_ rfl
          all_goals simp (disch := omega) only [go_sem, ↓reduceIte, Nat.reduceAdd, Nat.reduceEqDiff, Nat.reduceBEq, id, rdO, rdRows, List.drop_zero, List.nil_append]
        · have oki := rdRows_ok (z := 32) okS1 i
          have hln := rdRows_len (s := S1) (z := 32) i
          by_cases hlt2 : i < List.length c1
          · have hraw := rraw_eq (k := 32) ⟨oki, by omega⟩
            have hset := rows_set (s := S1) (z := 32) hlt2
            have hstep : (rdRows S1 32 (i + 1)).2 = (rdRaw (rdRows S1 32 i).2 32).2 := rfl
            have kz : ((32 : Nat) : Int) = 32 := rfl
            have hl1 := rdRows_len (s := S1) (z := 32) (i + 1)
            simp only [rdO, kz] at hraw
            simp (config := { maxSteps := 2000000 }) (disch := (first | omega | (simp only [lens, lenm]; omega))) only [go_sem, ↓reduceIte, Nat.reduceAdd, Nat.reduceEqDiff, Nat.reduceSub, Nat.reduceLeDiff, Int.reduceLT, Int.reduceLE, ac_registers_Decode_L1, rdO, h5, size_eq1, h6, hraw, hset, hln, hl1, lB0]
            refine ⟨rfl, hlt2, Weak.rd id ?_ ?_ rfl⟩
            all_goals simp (disch := omega) only [go_sem, ↓reduceIte, Nat.reduceAdd, Nat.reduceEqDiff, Nat.reduceBEq, id, rdO, hstep]
          · have e : i = List.length c1 := by omega
            subst e
            simp (disch := omega) only [go_sem, ↓reduceIte, Nat.reduceAdd, Nat.reduceEqDiff, Nat.reduceLT, Int.reduceAdd, ac_registers_Decode_L1, rdO, hS2, List.drop_length, List.append_nil]
            refine Weak.rd id ?_ ?_ rfl
            all_goals simp (disch := omega) only [go_sem, ↓reduceIte, Nat.reduceAdd, Nat.reduceEqDiff, Nat.reduceBEq, id, rdO, hS2, List.drop_length, List.append_nil, lB0, lB1]
      · simp only [rdO] at hend
        have tB0 : List.take (List.length c0) B0 = B0 := List.take_of_length_le (by omega)
        have tB1 : List.take (List.length c1) B1 = B1 := List.take_of_length_le (by omega)
        by_cases hz : rdEnd S2 = 0
        · rw [if_neg (by simp [hz])]
          rw [hz] at hend
          simp (disch := omega) only [go_sem, ↓reduceIte, Nat.reduceAdd, Nat.reduceEqDiff, Nat.reduceSub, Nat.reduceLeDiff, Int.reduceLT, ac_registers_Decode_L0, rdO, h7, hend, List.map_nil, List.map_cons, lB0, lB1, tB0, tB1]
        · rw [if_pos hz]
          have hz2 : (rdEnd S2 == 0) = false := by simpa using hz
          simp (disch := omega) only [go_sem, ↓reduceIte, Nat.reduceAdd, Nat.reduceEqDiff, Nat.reduceSub, Nat.reduceLeDiff, Int.reduceLT, ac_registers_Decode_L0, rdO, h7, hend, hz2, List.map_nil, lB0, lB1, tB0, tB1]
end Go.Eng
end
section
set_option maxRecDepth 20000
set_option maxHeartbeats 64000000
namespace Go.Eng
def rgBad (s : Rd) : Prop := (rdUint s 1).2.2.2 = 0 ∧ 4 ≤ dcSet s
instance {s : Rd} : Decidable (rgBad s) := inferInstanceAs (Decidable (_ ∧ _))
def rgR (s : Rd) : V :=
  if rgBad s then .tup [.t (regT [] 0), .t (.int .i64 1)]
  else if (dcB s).2.2.2 ≠ 0 then .tup [.t (regT [] 0), .t (.int .i64 (dcB s).2.2.2)]
  else .tup [.t (regT (dcB s).1 (dcU s)), .t (.int .i64 0)]
def rgS (s : Rd) : Rd := if rgBad s then (rdUint s 1).2 else (dcB s).2
theorem rgR_go {s : Rd} {bk : List Bank} {t : Rd} {u : Int} (h : ¬ rgBad s) (hB : dcB s = (bk, t)) (hU : dcU s = u) : rgR s = (if t.2.2 ≠ 0 then .tup [.t (regT [] 0), .t (.int .i64 t.2.2)] else .tup [.t (regT bk u), .t (.int .i64 0)]) ∧ rgS s = t := by
  unfold rgR rgS
  simp only [hB, hU]
  rw [if_neg h, if_neg h]
  exact ⟨rfl, rfl⟩
theorem w_ref8_Read (tab : Tab) (gl : Gl) (n2 n4 n5 n6 : Nat) (h2 : tab.look n2 = some ct_rint.fs) (h4 : tab.look n4 = some ct_new.fs) (h5 : tab.look n5 = some ct_size.fs) (h6 : tab.look n6 = some ct_rraw.fs) (s : Rd) (ok0 : rdOk s) :
    (ac_ref8_Read n2 n4 n5 n6).wp tab gl (zipF 0 [.ref 0 0 0]) (zipF 0 [rdOb s]) (resW [(2, some (2, true)), (3, none)] 1 (fun r o => r = rgR s ∧ o = [rdOb (rgS s)])) := by
  obtain ⟨⟨set, b1, a1, e1⟩, hU1⟩ : ∃ x, rdUint s 1 = x := ⟨_, rfl⟩
  have hI1 := rint_eq (k := 1) ⟨ok0, by omega, by omega⟩
  have ok1 : rdOk (b1, a1, e1) := by have := rdUint_ok (k := 1) ok0; rw [hU1] at this; exact this
  rw [hU1] at hI1
  obtain ⟨b, a, e⟩ := s
  simp only [rdO, Int.natCast_zero, Int.natCast_one] at hI1
  by_cases hbad : e1 = 0 ∧ 4 ≤ set
  · have hb : rgBad (b, a, e) := by unfold rgBad dcSet; simp only [hU1]; exact hbad
    have hr : rgR (b, a, e) = .tup [.t (regT [] 0), .t (.int .i64 1)] := if_pos hb
    have hs : rgS (b, a, e) = (b1, a1, e1) := by unfold rgS; rw [if_pos hb, hU1]
    rw [hr, hs]
    obtain ⟨rfl, hset⟩ := hbad
    simp (disch := omega) only [go_sem, ↓reduceIte, Nat.reduceAdd, Nat.reduceEqDiff, Nat.reduceSub, Nat.reduceLeDiff, reduceCtorEq, ac_ref8_Read, h2, hI1, hset, rdOb_eq, List.map_nil]
  · have hbad' : ¬ rgBad (b, a, e) := by unfold rgBad dcSet; simp only [hU1]; exact hbad
    have hgo : (e1 == 0) = false ∨ ((e1 == 0) = true ∧ set < 4) := by
      by_cases h : e1 = 0
      · exact .inr ⟨by simpa using h, by omega⟩
      · exact .inl (by simpa using h)
    obtain ⟨⟨u, b2, a2, e2⟩, hU2⟩ : ∃ x, rdUint (b1, a1, e1) 8 = x := ⟨_, rfl⟩
    have hI2 := rint_eq (k := 8) ⟨ok1, by omega, by omega⟩
    have ok2 : rdOk (b2, a2, e2) := by have := rdUint_ok (k := 8) ok1; rw [hU2] at this; exact this
    rw [hU2] at hI2
    have k8 : ((8 : Nat) : Int) = 8 := rfl
    simp only [rdO, k8] at hI2
    have hU : dcU (b, a, e) = u := by unfold dcU; simp only [hU1, hU2]
    rcases new_casesX set with ⟨en, hn⟩ | ⟨c0, c1, en, g0, g1, hn⟩
    · have hB : dcB (b, a, e) = ([], (b2, a2, e2)) := by
        unfold dcB dcSet
        simp only [hU1, hU2, en]
        rfl
      obtain ⟨hr, hs⟩ := rgR_go hbad' hB hU
      rw [hr, hs]
      by_cases hz : e2 = 0
      · subst hz
        rw [if_neg (by simp)]
        rcases hgo with hgo | ⟨hgo, hlt⟩
        all_goals first | simp (disch := omega) only [go_sem, ↓reduceIte, Nat.reduceAdd, Nat.reduceEqDiff, Nat.reduceSub, Nat.reduceLeDiff, reduceCtorEq, ac_ref8_Read, h2, h4, hI1, hgo, hlt, hn, hI2, rdOb_eq, List.map_nil] | simp (disch := omega) only [go_sem, ↓reduceIte, Nat.reduceAdd, Nat.reduceEqDiff, Nat.reduceSub, Nat.reduceLeDiff, reduceCtorEq, ac_ref8_Read, h2, h4, hI1, hgo, hn, hI2, rdOb_eq, List.map_nil]
        all_goals refine loop_fuel 1 ?_
        all_goals simp (disch := omega) only [go_sem, ↓reduceIte, Nat.reduceAdd, Nat.reduceEqDiff, Nat.reduceLeDiff, Int.reduceLT, reduceCtorEq, loopN_succ, ac_ref8_Read_L0, List.map_nil]
      · have hz2 : (e2 == 0) = false := by simpa using hz
        rw [if_pos hz]
        rcases hgo with hgo | ⟨hgo, hlt⟩
        all_goals first | simp (disch := omega) only [go_sem, ↓reduceIte, Nat.reduceAdd, Nat.reduceEqDiff, Nat.reduceSub, Nat.reduceLeDiff, reduceCtorEq, ac_ref8_Read, h2, h4, hI1, hgo, hlt, hn, hI2, rdOb_eq, List.map_nil] | simp (disch := omega) only [go_sem, ↓reduceIte, Nat.reduceAdd, Nat.reduceEqDiff, Nat.reduceSub, Nat.reduceLeDiff, reduceCtorEq, ac_ref8_Read, h2, h4, hI1, hgo, hn, hI2, rdOb_eq, List.map_nil]
        all_goals refine loop_fuel 1 ?_
        all_goals simp (disch := omega) only [go_sem, ↓reduceIte, Nat.reduceAdd, Nat.reduceEqDiff, Nat.reduceLeDiff, Int.reduceLT, reduceCtorEq, loopN_succ, ac_ref8_Read_L0, hz2, List.map_nil]
        all_goals try rfl
    · have q0 : List.length c0 ≤ 16 := by rcases g0 with h | h <;> omega
      have q1 : List.length c1 ≤ 16 := by rcases g1 with h | h <;> omega
      obtain ⟨⟨B0, S1⟩, hS1⟩ : ∃ x, rdRows (b2, a2, e2) 20 (List.length c0) = x := ⟨_, rfl⟩
      have okS1 : rdOk S1 := by have := rdRows_ok (z := 20) ok2 (List.length c0); rw [hS1] at this; exact this
      have lB0 : List.length B0 = List.length c0 := by have := rdRows_len (s := (b2, a2, e2)) (z := 20) (List.length c0); rw [hS1] at this; exact this
      obtain ⟨⟨B1, S2⟩, hS2⟩ : ∃ x, rdRows S1 32 (List.length c1) = x := ⟨_, rfl⟩
      have okS2 : rdOk S2 := by have := rdRows_ok (z := 32) okS1 (List.length c1); rw [hS2] at this; exact this
      have lB1 : List.length B1 = List.length c1 := by have := rdRows_len (s := S1) (z := 32) (List.length c1); rw [hS2] at this; exact this
      have hB : dcB (b, a, e) = ([B0, B1], S2) := by
        unfold dcB dcSet
        simp only [hU1, hU2, en, dcRows, hS1, hS2]
      obtain ⟨hr, hs⟩ := rgR_go hbad' hB hU
      rw [hr, hs]
      rcases hgo with hgo | ⟨hgo, hlt⟩
      all_goals first | simp (disch := omega) only [go_sem, ↓reduceIte, Nat.reduceAdd, Nat.reduceEqDiff, Nat.reduceSub, Nat.reduceLeDiff, reduceCtorEq, ac_ref8_Read, h2, h4, hI1, hgo, hlt, hn, hI2, rdOb_eq, List.map_nil] | simp (disch := omega) only [go_sem, ↓reduceIte, Nat.reduceAdd, Nat.reduceEqDiff, Nat.reduceSub, Nat.reduceLeDiff, reduceCtorEq, ac_ref8_Read, h2, h4, hI1, hgo, hn, hI2, rdOb_eq, List.map_nil]
      all_goals refine loop_upto 2 (fun k => match k with | 0 => [(0, .ref 0 0 0), (2, .ref 4096 0 0), (5, .ref 20512 0 0), (6, .t (.int .i64 0))] | 1 => [(0, .ref 0 0 0), (2, .ref 4096 0 0), (5, .ref 20512 0 0), (6, .t (.int .i64 1))] | _ => [(0, .ref 0 0 0), (2, .ref 4096 0 0), (5, .ref 20512 0 0), (6, .t (.int .i64 2))]) (fun k => match k with | 0 => [(20512, .live 2 [.agg [.sl 20496 0 2, .t (.int .i64 u)]] true true), (20496, .live 1 [.sl 20497 0 (List.length c0), .sl 20498 0 (List.length c1)] true false), (20497, .live 1 ((c0.map bsT).map V.t) true false), (20498, .live 1 ((c1.map bsT).map V.t) true false), (0, rdO (b2, a2, e2)), (4096, .live 2 [.agg [.nil, .t (.int .i64 0)]] true true)] | 1 => [(20512, .live 2 [.agg [.sl 20496 0 2, .t (.int .i64 u)]] true true), (20496, .live 1 [.sl 20497 0 (List.length c0), .sl 20498 0 (List.length c1)] true false), (20497, .live 1 ((B0.map bsT).map V.t) true false), (20498, .live 1 ((c1.map bsT).map V.t) true false), (0, rdO S1), (4096, .live 2 [.agg [.nil, .t (.int .i64 0)]] true true)] | _ => [(20512, .live 2 [.agg [.sl 20496 0 2, .t (.int .i64 u)]] true true), (20496, .live 1 [.sl 20497 0 (List.length c0), .sl 20498 0 (List.length c1)] true false), (20497, .live 1 ((B0.map bsT).map V.t) true false), (20498, .live 1 ((B1.map bsT).map V.t) true false), (0, rdO S2), (4096, .live 2 [.agg [.nil, .t (.int .i64 0)]] true true)]) ?_ (fun k hk => ?_)
      all_goals first
        | (refine Weak.rd id ?_ ?_ rfl
           all_goals simp (disch := omega) only [go_sem, ↓reduceIte, Nat.reduceAdd, Nat.reduceEqDiff, Nat.reduceBEq, reduceCtorEq, id, rdO])
        | skip
      all_goals rcases (show k = 0 ∨ k = 1 ∨ k = 2 by omega) with rfl | rfl | rfl
      · simp (disch := omega) only [go_sem, ↓reduceIte, Nat.reduceAdd, Nat.reduceEqDiff, Nat.reduceLeDiff, Int.reduceLT, reduceCtorEq, ac_ref8_Read_L0, List.map_nil, lB0]
        refine loop_upto (List.length c0) (fun i => [(0, .ref 0 0 0), (2, .ref 4096 0 0), (5, .ref 20512 0 0), (6, .t (.int .i64 0)), (7, .t (.int .i64 (i : Nat)))]) (fun i => [(20512, .live 2 [.agg [.sl 20496 0 2, .t (.int .i64 u)]] true true), (20496, .live 1 [.sl 20497 0 (List.length c0), .sl 20498 0 (List.length c1)] true false), (20497, .live 1 ((((rdRows (b2, a2, e2) 20 i).1 ++ List.drop i c0).map bsT).map V.t) true false), (20498, .live 1 ((c1.map bsT).map V.t) true false), (0, rdO (rdRows (b2, a2, e2) 20 i).2), (4096, .live 2 [.agg [.nil, .t (.int .i64 0)]] true true)]) ?_ (fun i hi => ?_)
        · refine Weak.rd id ?_ ?_ rfl
          all_goals simp (disch := omega) only [go_sem, ↓reduceIte, Nat.reduceAdd, Nat.reduceEqDiff, Nat.reduceBEq, reduceCtorEq, id, rdO, rdRows, List.drop_zero, List.nil_append]
        · have oki := rdRows_ok (z := 20) ok2 i
          have hln := rdRows_len (s := (b2, a2, e2)) (z := 20) i
          by_cases hlt2 : i < List.length c0
          · have hraw := rraw_eq (k := 20) ⟨oki, by omega⟩
            have hset := rows_set (s := (b2, a2, e2)) (z := 20) hlt2
            have hstep : (rdRows (b2, a2, e2) 20 (i + 1)).2 = (rdRaw (rdRows (b2, a2, e2) 20 i).2 20).2 := rfl
            have kz : ((20 : Nat) : Int) = 20 := rfl
            have hl1 := rdRows_len (s := (b2, a2, e2)) (z := 20) (i + 1)
            simp only [rdO, kz] at hraw
            simp (config := { maxSteps := 2000000 }) (disch := (first | omega | (simp only [lens, lenm]; omega))) only [go_sem, ↓reduceIte, Nat.reduceAdd, Nat.reduceEqDiff, Nat.reduceSub, Nat.reduceLeDiff, Int.reduceLT, Int.reduceLE, reduceCtorEq, ac_ref8_Read_L1, rdO, h5, size_eq0, h6, hraw, hset, hln, hl1, lB0]
            refine ⟨rfl, hlt2, Weak.rd id ?_ ?_ rfl⟩
            all_goals simp (disch := omega) only [go_sem, ↓reduceIte, Nat.reduceAdd, Nat.reduceEqDiff, Nat.reduceBEq, reduceCtorEq, id, rdO, hstep]
          · have e : i = List.length c0 := by omega
            subst e
            simp (disch := omega) only [go_sem, ↓reduceIte, Nat.reduceAdd, Nat.reduceEqDiff, Nat.reduceLT, Nat.reduceLeDiff, Int.reduceLT, Int.reduceLE, Int.reduceAdd, reduceCtorEq, ac_ref8_Read_L1, rdO, hS1, List.drop_length, List.append_nil, lB0, lB1]
            refine Weak.rd id ?_ ?_ rfl
            all_goals simp (disch := omega) only [go_sem, ↓reduceIte, Nat.reduceAdd, Nat.reduceEqDiff, Nat.reduceBEq, reduceCtorEq, id, rdO, hS1, List.drop_length, List.append_nil, lB0, lB1]
      · simp (disch := omega) only [go_sem, ↓reduceIte, Nat.reduceAdd, Nat.reduceEqDiff, Nat.reduceLeDiff, Int.reduceLT, reduceCtorEq, ac_ref8_Read_L0, List.map_nil, lB0]
        refine loop_upto (List.length c1) (fun i => [(0, .ref 0 0 0), (2, .ref 4096 0 0), (5, .ref 20512 0 0), (6, .t (.int .i64 1)), (7, .t (.int .i64 (i : Nat)))]) (fun i => [(20512, .live 2 [.agg [.sl 20496 0 2, .t (.int .i64 u)]] true true), (20496, .live 1 [.sl 20497 0 (List.length c0), .sl 20498 0 (List.length c1)] true false), (20497, .live 1 ((B0.map bsT).map V.t) true false), (20498, .live 1 ((((rdRows S1 32 i).1 ++ List.drop i c1).map bsT).map V.t) true false), (0, rdO (rdRows S1 32 i).2), (4096, .live 2 [.agg [.nil, .t (.int .i64 0)]] true true)]) ?_ (fun i hi => ?_)
        · refine Weak.rd id ?_ ?_ rfl
          all_goals simp (disch := omega) only [go_sem, ↓reduceIte, Nat.reduceAdd, Nat.reduceEqDiff, Nat.reduceBEq, reduceCtorEq, id, rdO, rdRows, List.drop_zero, List.nil_append]
        · have oki := rdRows_ok (z := 32) okS1 i
          have hln := rdRows_len (s := S1) (z := 32) i
          by_cases hlt2 : i < List.length c1
          · have hraw := rraw_eq (k := 32) ⟨oki, by omega⟩
            have hset := rows_set (s := S1) (z := 32) hlt2
            have hstep : (rdRows S1 32 (i + 1)).2 = (rdRaw (rdRows S1 32 i).2 32).2 := rfl
            have kz : ((32 : Nat) : Int) = 32 := rfl
            have hl1 := rdRows_len (s := S1) (z := 32) (i + 1)
            simp only [rdO, kz] at hraw
            simp (config := { maxSteps := 2000000 }) (disch := (first | omega | (simp only [lens, lenm]; omega))) only [go_sem, ↓reduceIte, Nat.reduceAdd, Nat.reduceEqDiff, Nat.reduceSub, Nat.reduceLeDiff, Int.reduceLT, Int.reduceLE, reduceCtorEq, ac_ref8_Read_L1, rdO, h5, size_eq1, h6, hraw, hset, hln, hl1, lB0]
            refine ⟨rfl, hlt2, Weak.rd id ?_ ?_ rfl⟩
            all_goals simp (disch := omega) only [go_sem, ↓reduceIte, Nat.reduceAdd, Nat.reduceEqDiff, Nat.reduceBEq, reduceCtorEq, id, rdO, hstep]
          · have e : i = List.length c1 := by omega
            subst e
            simp (disch := omega) only [go_sem, ↓reduceIte, Nat.reduceAdd, Nat.reduceEqDiff, Nat.reduceLT, Nat.reduceLeDiff, Int.reduceLT, Int.reduceLE, Int.reduceAdd, reduceCtorEq, ac_ref8_Read_L1, rdO, hS2, List.drop_length, List.append_nil, lB0, lB1]
            refine Weak.rd id ?_ ?_ rfl
            all_goals simp (disch := omega) only [go_sem, ↓reduceIte, Nat.reduceAdd, Nat.reduceEqDiff, Nat.reduceBEq, reduceCtorEq, id, rdO, hS2, List.drop_length, List.append_nil, lB0, lB1]
      · obtain ⟨b3, a3, e3⟩ := S2
        have tB0 : List.take (List.length c0) B0 = B0 := List.take_of_length_le (by omega)
        have tB1 : List.take (List.length c1) B1 = B1 := List.take_of_length_le (by omega)
        by_cases hz : e3 = 0
        · subst hz
          rw [if_neg (by simp)]
          simp (disch := omega) only [go_sem, ↓reduceIte, Nat.reduceAdd, Nat.reduceEqDiff, Nat.reduceLeDiff, Nat.reduceBEq, Int.reduceLT, reduceCtorEq, ac_ref8_Read_L0, rdO, rdOb_eq, List.map_nil, List.map_cons, lB0, lB1, tB0, tB1]
        · rw [if_pos hz]
          have hz2 : (e3 == 0) = false := by simpa using hz
          simp (disch := omega) only [go_sem, ↓reduceIte, Nat.reduceAdd, Nat.reduceEqDiff, Nat.reduceLeDiff, Int.reduceLT, reduceCtorEq, ac_ref8_Read_L0, rdO, rdOb_eq, hz2, List.map_nil, lB0, lB1, tB0, tB1]
          all_goals try rfl
      · simp (disch := omega) only [go_sem, ↓reduceIte, Nat.reduceAdd, Nat.reduceEqDiff, Nat.reduceLeDiff, Int.reduceLT, reduceCtorEq, ac_ref8_Read_L0, List.map_nil, lB0]
        refine loop_upto (List.length c0) (fun i => [(0, .ref 0 0 0), (2, .ref 4096 0 0), (5, .ref 20512 0 0), (6, .t (.int .i64 0)), (7, .t (.int .i64 (i : Nat)))]) (fun i => [(20512, .live 2 [.agg [.sl 20496 0 2, .t (.int .i64 u)]] true true), (20496, .live 1 [.sl 20497 0 (List.length c0), .sl 20498 0 (List.length c1)] true false), (20497, .live 1 ((((rdRows (b2, a2, e2) 20 i).1 ++ List.drop i c0).map bsT).map V.t) true false), (20498, .live 1 ((c1.map bsT).map V.t) true false), (0, rdO (rdRows (b2, a2, e2) 20 i).2), (4096, .live 2 [.agg [.nil, .t (.int .i64 0)]] true true)]) ?_ (fun i hi => ?_)
        · refine Weak.rd id ?_ ?_ rfl
          all_goals simp (disch := omega) only [go_sem, ↓reduceIte, Nat.reduceAdd, Nat.reduceEqDiff, Nat.reduceBEq, reduceCtorEq, id, rdO, rdRows, List.drop_zero, List.nil_append]
        · have oki := rdRows_ok (z := 20) ok2 i
          have hln := rdRows_len (s := (b2, a2, e2)) (z := 20) i
          by_cases hlt2 : i < List.length c0
          · have hraw := rraw_eq (k := 20) ⟨oki, by omega⟩
            have hset := rows_set (s := (b2, a2, e2)) (z := 20) hlt2
            have hstep : (rdRows (b2, a2, e2) 20 (i + 1)).2 = (rdRaw (rdRows (b2, a2, e2) 20 i).2 20).2 := rfl
            have kz : ((20 : Nat) : Int) = 20 := rfl
            have hl1 := rdRows_len (s := (b2, a2, e2)) (z := 20) (i + 1)
            simp only [rdO, kz] at hraw
            simp (config := { maxSteps := 2000000 }) (disch := (first | omega | (simp only [lens, lenm]; omega))) only [go_sem, ↓reduceIte, Nat.reduceAdd, Nat.reduceEqDiff, Nat.reduceSub, Nat.reduceLeDiff, Int.reduceLT, Int.reduceLE, reduceCtorEq, ac_ref8_Read_L1, rdO, h5, size_eq0, h6, hraw, hset, hln, hl1, lB0]
            refine ⟨rfl, hlt2, Weak.rd id ?_ ?_ rfl⟩
            all_goals simp (disch := omega) only [go_sem, ↓reduceIte, Nat.reduceAdd, Nat.reduceEqDiff, Nat.reduceBEq, reduceCtorEq, id, rdO, hstep]
          · have e : i = List.length c0 := by omega
            subst e
            simp (disch := omega) only [go_sem, ↓reduceIte, Nat.reduceAdd, Nat.reduceEqDiff, Nat.reduceLT, Nat.reduceLeDiff, Int.reduceLT, Int.reduceLE, Int.reduceAdd, reduceCtorEq, ac_ref8_Read_L1, rdO, hS1, List.drop_length, List.append_nil, lB0, lB1]
            refine Weak.rd id ?_ ?_ rfl
            all_goals simp (disch := omega) only [go_sem, ↓reduceIte, Nat.reduceAdd, Nat.reduceEqDiff, Nat.reduceBEq, reduceCtorEq, id, rdO, hS1, List.drop_length, List.append_nil, lB0, lB1]
      · simp (disch := omega) only [go_sem, ↓reduceIte, Nat.reduceAdd, Nat.reduceEqDiff, Nat.reduceLeDiff, Int.reduceLT, reduceCtorEq, ac_ref8_Read_L0, List.map_nil, lB0]
        refine loop_upto (List.length c1) (fun i => [(0, .ref 0 0 0), (2, .ref 4096 0 0), (5, .ref 20512 0 0), (6, .t (.int .i64 1)), (7, .t (.int .i64 (i : Nat)))]) (fun i => [(20512, .live 2 [.agg [.sl 20496 0 2, .t (.int .i64 u)]] true true), (20496, .live 1 [.sl 20497 0 (List.length c0), .sl 20498 0 (List.length c1)] true false), (20497, .live 1 ((B0.map bsT).map V.t) true false), (20498, .live 1 ((((rdRows S1 32 i).1 ++ List.drop i c1).map bsT).map V.t) true false), (0, rdO (rdRows S1 32 i).2), (4096, .live 2 [.agg [.nil, .t (.int .i64 0)]] true true)]) ?_ (fun i hi => ?_)
        · refine Weak.rd id ?_ ?_ rfl
          all_goals simp (disch := omega) only [go_sem, ↓reduceIte, Nat.reduceAdd, Nat.reduceEqDiff, Nat.reduceBEq, reduceCtorEq, id, rdO, rdRows, List.drop_zero, List.nil_append]
        · have oki := rdRows_ok (z := 32) okS1 i
          have hln := rdRows_len (s := S1) (z := 32) i
          by_cases hlt2 : i < List.length c1
          · have hraw := rraw_eq (k := 32) ⟨oki, by omega⟩
            have hset := rows_set (s := S1) (z := 32) hlt2
            have hstep : (rdRows S1 32 (i + 1)).2 = (rdRaw (rdRows S1 32 i).2 32).2 := rfl
            have kz : ((32 : Nat) : Int) = 32 := rfl
            have hl1 := rdRows_len (s := S1) (z := 32) (i + 1)
            simp only [rdO, kz] at hraw
            simp (config := { maxSteps := 2000000 }) (disch := (first | omega | (simp only [lens, lenm]; omega))) only [go_sem, ↓reduceIte, Nat.reduceAdd, Nat.reduceEqDiff, Nat.reduceSub, Nat.reduceLeDiff, Int.reduceLT, Int.reduceLE, reduceCtorEq, ac_ref8_Read_L1, rdO, h5, size_eq1, h6, hraw, hset, hln, hl1, lB0]
            refine ⟨rfl, hlt2, Weak.rd id ?_ ?_ rfl⟩
            all_goals simp (disch := omega) only [go_sem, ↓reduceIte, Nat.reduceAdd, Nat.reduceEqDiff, Nat.reduceBEq, reduceCtorEq, id, rdO, hstep]
          · have e : i = List.length c1 := by omega
            subst e
            simp (disch := omega) only [go_sem, ↓reduceIte, Nat.reduceAdd, Nat.reduceEqDiff, Nat.reduceLT, Nat.reduceLeDiff, Int.reduceLT, Int.reduceLE, Int.reduceAdd, reduceCtorEq, ac_ref8_Read_L1, rdO, hS2, List.drop_length, List.append_nil, lB0, lB1]
            refine Weak.rd id ?_ ?_ rfl
            all_goals simp (disch := omega) only [go_sem, ↓reduceIte, Nat.reduceAdd, Nat.reduceEqDiff, Nat.reduceBEq, reduceCtorEq, id, rdO, hS2, List.drop_length, List.append_nil, lB0, lB1]
      · obtain ⟨b3, a3, e3⟩ := S2
        have tB0 : List.take (List.length c0) B0 = B0 := List.take_of_length_le (by omega)
        have tB1 : List.take (List.length c1) B1 = B1 := List.take_of_length_le (by omega)
        by_cases hz : e3 = 0
        · subst hz
          rw [if_neg (by simp)]
          simp (disch := omega) only [go_sem, ↓reduceIte, Nat.reduceAdd, Nat.reduceEqDiff, Nat.reduceLeDiff, Nat.reduceBEq, Int.reduceLT, reduceCtorEq, ac_ref8_Read_L0, rdO, rdOb_eq, List.map_nil, List.map_cons, lB0, lB1, tB0, tB1]
        · rw [if_pos hz]
          have hz2 : (e3 == 0) = false := by simpa using hz
          simp (disch := omega) only [go_sem, ↓reduceIte, Nat.reduceAdd, Nat.reduceEqDiff, Nat.reduceLeDiff, Int.reduceLT, reduceCtorEq, ac_ref8_Read_L0, rdO, rdOb_eq, hz2, List.map_nil, lB0, lB1, tB0, tB1]
          all_goals try rfl
end Go.Eng
end
section
set_option maxRecDepth 20000
set_option maxHeartbeats 64000000
namespace Go.Eng
def ct_read : Ct where
  α := Rd
  as _ := [.ref 0 0 0]
  ins x := [rdOb x]
  pre x := rdOk x
  r x := rgR x
  outs x := [rdOb (rgS x)]
  inj := by
    intro s t _ h2
    simp only [List.cons.injEq, and_true] at h2
    cases rdOb_inj h2
    exact ⟨rfl, rfl⟩
theorem read_eq {s : Rd} (h : rdOk s) : ct_read.fs [.ref 0 0 0] [rdO s] = some (rgR s, [rdO (rgS s)]) := ct_read.eq s h
theorem dcRows_ok {bk : List Bank} {s : Rd} (h : rdOk s) : rdOk (dcRows bk s).2 := by
  unfold dcRows
  split
  · exact rdRows_ok (rdRows_ok h _) _
  · exact h
theorem dcB_ok {s : Rd} (h : rdOk s) : rdOk (dcB s).2 := dcRows_ok (rdUint_ok (rdUint_ok h))
theorem w_ref8_Decode (tab : Tab) (gl : Gl) (n1 n2 n3 : Nat) (h1 : tab.look n1 = some ct_rnew.fs) (h2 : tab.look n2 = some ct_read.fs) (h3 : tab.look n3 = some ct_rend.fs) (b : List UInt8) (hb : b.length < 1000000000) :
    (ac_ref8_Decode n1 n2 n3).wp tab gl (zipF 0 [.t (.sl (b.map byteT))]) (zipF 0 []) (resW [(2, some (2, true)), (3, none)] 0 (fun r o => r = dcR b ∧ o = [])) := by
  have ok0 : rdOk (b, 0, 0) := ⟨Nat.zero_le _, hb⟩
  have hN := rnew_eq hb
  have hR := read_eq ok0
  have okB := dcB_ok ok0
  by_cases hbad : rgBad (b, 0, 0)
  · have hr : dcR b = .tup [.t (regT [] 0), .t (.int .i64 1)] := if_pos hbad
    have hg : rgR (b, 0, 0) = .tup [.t (regT [] 0), .t (.int .i64 1)] := if_pos hbad
    rw [hg] at hR
    rw [hr]
    simp only [rdO, Int.natCast_zero, regT_def, List.map_nil] at hN hR
    simp (disch := omega) only [go_sem, ↓reduceIte, Nat.reduceAdd, Nat.reduceEqDiff, Nat.reduceSub, Nat.reduceLeDiff, reduceCtorEq, ac_ref8_Decode, h1, h2, h3, hN, hR, List.map_nil]
  · obtain ⟨hr, hs⟩ := rgR_go (s := (b, 0, 0)) (bk := (dcB (b, 0, 0)).1) (t := (dcB (b, 0, 0)).2) (u := dcU (b, 0, 0)) hbad rfl rfl
    have hd := dcR_go (b := b) (bk := (dcB (b, 0, 0)).1) (s := (dcB (b, 0, 0)).2) (u := dcU (b, 0, 0)) hbad rfl rfl
    rw [hr, hs] at hR
    rw [hd]
    generalize (dcB (b, 0, 0)).1 = bk at *
    generalize (dcB (b, 0, 0)).2 = t at *
    generalize dcU (b, 0, 0) = u at *
    have hend := rend_eq okB
    obtain ⟨b3, a3, e3⟩ := t
    by_cases hz : e3 = 0
    · subst hz
      rw [if_neg (by simp)] at hR
      simp only [rdO, Int.natCast_zero, regT_def] at hN hR hend
      by_cases hz3 : rdEnd (b3, a3, 0) = 0
      · rw [if_neg (by simp [hz3])]
        rw [hz3] at hend
        simp (disch := omega) only [go_sem, ↓reduceIte, Nat.reduceAdd, Nat.reduceEqDiff, Nat.reduceSub, Nat.reduceLeDiff, reduceCtorEq, ac_ref8_Decode, h1, h2, h3, hN, hR, hend, List.map_nil]
      · rw [if_pos hz3]
        have hz4 : (rdEnd (b3, a3, 0) == 0) = false := by simpa using hz3
        simp (disch := omega) only [go_sem, ↓reduceIte, Nat.reduceAdd, Nat.reduceEqDiff, Nat.reduceSub, Nat.reduceLeDiff, reduceCtorEq, ac_ref8_Decode, h1, h2, h3, hN, hR, hend, hz4, List.map_nil]
    · have he : rdEnd (b3, a3, e3) = e3 := by unfold rdEnd; rw [if_neg (by simp [hz])]
      have hz2 : (e3 == 0) = false := by simpa using hz
      rw [he, if_pos hz]
      rw [if_pos hz] at hR
      simp only [rdO, Int.natCast_zero, regT_def, List.map_nil] at hN hR
      simp (disch := omega) only [go_sem, ↓reduceIte, Nat.reduceAdd, Nat.reduceEqDiff, Nat.reduceSub, Nat.reduceLeDiff, reduceCtorEq, ac_ref8_Decode, h1, h2, h3, hN, hR, hz2, List.map_nil]
end Go.Eng
end
section
set_option maxRecDepth 20000
set_option maxHeartbeats 64000000
namespace Go.Eng
theorem rstBk_two {b0 b1 : Bank} {i : Nat} : rstBk [b0, b1] i = [rst1 0 b0 i, rst1 1 b1 i] := rfl
end Go.Eng
end
section
set_option maxRecDepth 20000
set_option maxHeartbeats 64000000
namespace Go.Eng
def bkLens (bk : List Bank) (a : Nat) : Nat := (bk.getD a []).length
theorem bkLens_ext {bk : List Bank} (hk : RK bk) (i : Nat) (ds : List (List UInt8)) : bkLens (extBk bk i ds) = bkLens bk := by
  funext a
  rcases hk.cases with rfl | ⟨b0, b1, rfl, h0, h1⟩
  · rw [extBk_nil]
  · rw [extBk_two]
    match a with
    | 0 => exact ext1_length
    | 1 => exact ext1_length
    | a + 2 => rfl
theorem bkLens_rst {bk : List Bank} (hk : RK bk) (i : Nat) : bkLens (rstBk bk i) = bkLens bk := by
  funext a
  rcases hk.cases with rfl | ⟨b0, b1, rfl, h0, h1⟩
  · rfl
  · rw [rstBk_two]
    match a with
    | 0 => exact rst1_length
    | 1 => exact rst1_length
    | a + 2 => rfl
theorem bkLens_res {bk : List Bank} (hk : RK bk) : bkLens (resBk bk) = bkLens bk := by
  funext a
  rcases hk.cases with rfl | ⟨b0, b1, rfl, h0, h1⟩
  · rfl
  · match a with
    | 0 => exact stN_length
    | 1 => exact stN_length
    | a + 2 => rfl
end Go.Eng
end
section
set_option maxRecDepth 20000
set_option maxHeartbeats 64000000
namespace Go.Eng
theorem drN_ind {s : Int} {cs : List UInt8} (P : List Bank → Prop) (h0 : P (newBk s)) (he : ∀ bk i ds, RV bk → P bk → P (extBk bk i ds)) (hr : ∀ bk i, RV bk → P bk → P (rstBk bk i)) (hs : ∀ bk, RV bk → P bk → P (resBk bk)) : ∀ n, P (drN s cs n).1
  | 0 => h0
  | n + 1 => by
    have ih := drN_ind (s := s) (cs := cs) P h0 he hr hs n
    have hv := (drN_rs (s := s) (cs := cs) n).1
    show P (drS s n (cs.getD n 0).toNat (drN s cs n)).1
    generalize drN s cs n = x at hv ih ⊢
    have hE : ∀ l i ds, P (extP x l i ds).1 := by
      intro l i ds
      unfold extP
      split
      · exact he _ _ _ hv ih
      · exact ih
    unfold drS
    split
    · unfold evP
      split
      · exact ih
      · exact hE _ _ _
    · split
      · exact hE _ _ _
      · split
        · unfold rstP
          split
          · exact hr _ _ hv ih
          · exact ih
        · exact hs _ hv ih
def RZ (bk : List Bank) : Prop := ∀ a, a < 2 → ∀ x ∈ bk.getD a [], x.length = szA a
theorem set_z {b : Bank} {i z : Nat} {y : List UInt8} (h : ∀ x ∈ b, x.length = z) (hy : y.length = z) : ∀ x ∈ b.set i y, x.length = z := by
  intro x hx
  rcases List.mem_or_eq_of_mem_set hx with h1 | rfl
  · exact h x h1
  · exact hy
theorem stN_z {y : List UInt8} {b : Bank} {z : Nat} (hy : y.length = z) (h : ∀ x ∈ b, x.length = z) : ∀ k, ∀ x ∈ stN y b k, x.length = z
  | 0 => h
  | k + 1 => set_z (stN_z hy h k) hy
theorem RZ.two {b0 b1 : Bank} (h0 : ∀ x ∈ b0, x.length = 20) (h1 : ∀ x ∈ b1, x.length = 32) : RZ [b0, b1] := by
  intro a ha
  match a, ha with
  | 0, _ => exact h0
  | 1, _ => exact h1
theorem RZ.nil : RZ [] := by
  intro a ha x hx
  simp at hx
theorem RZ.ext {bk : List Bank} {i : Nat} {ds : List (List UInt8)} (hv : RV bk) (h : RZ bk) : RZ (extBk bk i ds) := by
  rcases hv.1.cases with rfl | ⟨b0, b1, rfl, g0, g1⟩
  · exact RZ.nil
  · rw [extBk_two]
    refine RZ.two ?_ ?_
    · unfold ext1; split
      · exact set_z (h 0 (by omega)) (sumA_length (a := 0))
      · exact h 0 (by omega)
    · unfold ext1; split
      · exact set_z (h 1 (by omega)) (sumA_length (a := 1))
      · exact h 1 (by omega)
theorem RZ.rst {bk : List Bank} {i : Nat} (hv : RV bk) (h : RZ bk) : RZ (rstBk bk i) := by
  rcases hv.1.cases with rfl | ⟨b0, b1, rfl, g0, g1⟩
  · exact RZ.nil
  · rw [rstBk_two]
    refine RZ.two ?_ ?_
    · unfold rst1; split
      · exact set_z (h 0 (by omega)) List.length_replicate
      · exact h 0 (by omega)
    · unfold rst1; split
      · exact set_z (h 1 (by omega)) List.length_replicate
      · exact h 1 (by omega)
theorem RZ.res {bk : List Bank} (hv : RV bk) (h : RZ bk) : RZ (resBk bk) := by
  rcases hv.1.cases with rfl | ⟨b0, b1, rfl, g0, g1⟩
  · exact RZ.nil
  · exact RZ.two (stN_z List.length_replicate (h 0 (by omega)) 4) (stN_z List.length_replicate (h 1 (by omega)) 4)
theorem newB_z {a : Nat} : ∀ x ∈ newB a, x.length = szA a := by
  intro x hx
  unfold newB at hx
  obtain ⟨i, _, rfl⟩ := List.mem_map.1 hx
  exact List.length_replicate
theorem RZ.new {s : Int} : RZ (newBk s) := by
  unfold newBk
  split
  · exact RZ.nil
  · refine RZ.two ?_ ?_
    · split
      · exact newB_z (a := 0)
      · intro x hx; simp at hx
    · split
      · exact newB_z (a := 1)
      · intro x hx; simp at hx
theorem ext_len {bk : List Bank} {i : Nat} {ds : List (List UInt8)} (h : RK bk) : (extBk bk i ds).length = bk.length := by
  rcases h.cases with rfl | ⟨b0, b1, rfl, _, _⟩ <;> rfl
theorem rst_len {bk : List Bank} {i : Nat} (h : RK bk) : (rstBk bk i).length = bk.length := by
  rcases h.cases with rfl | ⟨b0, b1, rfl, _, _⟩ <;> rfl
theorem res_len {bk : List Bank} (h : RK bk) : (resBk bk).length = bk.length := by
  rcases h.cases with rfl | ⟨b0, b1, rfl, _, _⟩ <;> rfl
def Shp (s : Int) (bk : List Bank) : Prop := bk.length = (newBk s).length ∧ bkLens bk = bkLens (newBk s) ∧ RZ bk
theorem dr_shp {s : Int} {cs : List UInt8} : Shp s (dr s cs).1 := by
  refine drN_ind (Shp s) ⟨rfl, rfl, RZ.new⟩ ?_ ?_ ?_ _
  · intro bk i ds hv h
    exact ⟨(ext_len hv.1).trans h.1, (bkLens_ext hv.1 _ _).trans h.2.1, h.2.2.ext hv⟩
  · intro bk i hv h
    exact ⟨(rst_len hv.1).trans h.1, (bkLens_rst hv.1 _).trans h.2.1, h.2.2.rst hv⟩
  · intro bk hv h
    exact ⟨(res_len hv.1).trans h.1, (bkLens_res hv.1).trans h.2.1, h.2.2.res hv⟩
theorem shp_cases {s : Int} {bk : List Bank} (hv : RV bk) (h : Shp s bk) : (bk = [] ∧ newBk (actI bk) = []) ∨ ∃ b0 b1 c0 c1 : Bank, bk = [b0, b1] ∧ newBk (actI bk) = [c0, c1] ∧ List.length c0 = List.length b0 ∧ List.length c1 = List.length b1 := by
  obtain ⟨hl, hb, _⟩ := h
  rcases hv.1.cases with rfl | ⟨b0, b1, rfl, g0, g1⟩
  · exact .inl ⟨rfl, rfl⟩
  · refine .inr ?_
    have hs : ¬ s % 4 = 0 := by
      intro e
      unfold newBk at hl
      rw [if_pos e] at hl
      simp at hl
    rw [newBk_of hs] at hb
    have e0 : List.length b0 = List.length (if s % 2 = 1 then newB 0 else []) := congrFun hb 0
    have e1 : List.length b1 = List.length (if s / 2 % 2 = 1 then newB 1 else []) := congrFun hb 1
    have n0 := newB_length (a := 0)
    have n1 := newB_length (a := 1)
    by_cases q0 : s % 2 = 1 <;> by_cases q1 : s / 2 % 2 = 1
    · rw [if_pos q0, n0] at e0
      rw [if_pos q1, n1] at e1
      have ea : actI [b0, b1] = 3 := by show actM b0 b1 = 3; unfold actM; rw [if_pos e0, if_pos e1]; rfl
      exact ⟨b0, b1, newB 0, newB 1, rfl, by rw [ea]; rfl, by rw [n0, e0], by rw [n1, e1]⟩
    · rw [if_pos q0, n0] at e0
      rw [if_neg q1] at e1
      have ea : actI [b0, b1] = 1 := by show actM b0 b1 = 1; unfold actM; rw [if_pos e0, if_neg (by rw [e1]; decide)]; rfl
      exact ⟨b0, b1, newB 0, [], rfl, by rw [ea]; rfl, by rw [n0, e0], by rw [e1]⟩
    · rw [if_neg q0] at e0
      rw [if_pos q1, n1] at e1
      have ea : actI [b0, b1] = 2 := by show actM b0 b1 = 2; unfold actM; rw [if_neg (by rw [e0]; decide), if_pos e1]; rfl
      exact ⟨b0, b1, [], newB 1, rfl, by rw [ea]; rfl, by rw [e0], by rw [n1, e1]⟩
    · exfalso; omega
theorem take_mid {α : Type} {b p q t : List α} {k : Nat} (hb : b = p ++ q ++ t) (hq : q.length = k) : List.take k (List.drop p.length b) = q := by
  subst hb; subst hq
  rw [List.append_assoc, List.drop_left, List.take_left]
theorem rdUint_of {b p q t : List UInt8} {k : Nat} (hb : b = p ++ q ++ t) (hq : q.length = k) (hv : beV q < 9223372036854775808) : rdUint (b, p.length, 0) k = (((beV q : Nat) : Int), (b, p.length + k, 0)) := by
  have h1 := take_mid hb hq
  have h2 : b.length = p.length + k + t.length := by rw [hb]; simp only [List.length_append, hq]
  unfold rdUint
  simp only [h1]
  rw [if_neg (by simp), if_neg (by omega), if_neg (by omega)]
theorem rdRaw_of {b p q t : List UInt8} {k : Nat} (hb : b = p ++ q ++ t) (hq : q.length = k) : rdRaw (b, p.length, 0) k = (q, (b, p.length + k, 0)) := by
  have h1 := take_mid hb hq
  have h2 : b.length = p.length + k + t.length := by rw [hb]; simp only [List.length_append, hq]
  unfold rdRaw
  simp only [h1]
  rw [if_neg (by simp), if_neg (by omega)]
theorem flatten_at {b : List (List UInt8)} {i : Nat} (h : i < b.length) : b.flatten = (b.take i).flatten ++ b.getD i [] ++ (b.drop (i + 1)).flatten := by
  conv => lhs; rw [← List.take_append_drop (i + 1) b, take_s (d := []) h]
  simp
theorem rdRows_of {b p t : List UInt8} {rows : List (List UInt8)} {z : Nat} (hb : b = p ++ rows.flatten ++ t) (hz : ∀ x ∈ rows, x.length = z) : ∀ i, i ≤ rows.length → rdRows (b, p.length, 0) z i = (rows.take i, (b, (p ++ (rows.take i).flatten).length, 0))
  | 0, _ => by simp [rdRows]
  | i + 1, h => by
    have ih := rdRows_of hb hz i (by omega)
    have hg : (rows.getD i []).length = z := by
      have e : rows.getD i [] = rows[i] := by simp [List.getD, show i < rows.length by omega]
      rw [e]; exact hz _ (List.getElem_mem _)
    have hb2 : b = (p ++ (rows.take i).flatten) ++ rows.getD i [] ++ ((rows.drop (i + 1)).flatten ++ t) := by
      rw [hb, flatten_at (i := i) (by omega)]
      simp only [List.append_assoc]
    have hr := rdRaw_of hb2 hg
    simp only [rdRows, ih, hr]
    rw [take_s (d := []) (by omega)]
    simp only [List.flatten_append, List.flatten_cons, List.flatten_nil, List.append_nil, List.length_append, hg, Nat.add_assoc]
theorem beV_app {l : List UInt8} {x : UInt8} : beV (l ++ [x]) = 256 * beV l + x.toNat := by simp [beV]
theorem beV_beI {size : Nat} {n : Int} : ∀ k, k ≤ size → beV (beI size n k) = m64 n / 2 ^ (8 * (size - k)) % 256 ^ k
  | 0, _ => by simp [beI, beV, Nat.mod_one]
  | k + 1, h => by
    have ih := beV_beI (size := size) (n := n) k (by omega)
    rw [beI_succ, beV_app, ih]
    have e1 : 8 * (size - k) = 8 * (size - 1 - k) + 8 := by omega
    have e2 : size - (k + 1) = size - 1 - k := by omega
    rw [e1, e2, Nat.pow_add, ← Nat.div_div_eq_div_mul]
    generalize m64 n / 2 ^ (8 * (size - 1 - k)) = q
    have e3 : (UInt8.ofNat q).toNat = q % 256 := by rw [UInt8.toNat_ofNat']
    have e4 : q / 2 ^ 8 = q / 256 := rfl
    have e5 : 256 ^ (k + 1) = 256 * 256 ^ k := by rw [Nat.pow_succ, Nat.mul_comm]
    rw [e3, e4, e5, Nat.mod_mul, Nat.add_comm]
theorem beV_all {size : Nat} {n : Int} : beV (beI size n size) = m64 n % 256 ^ size := by
  rw [beV_beI size (Nat.le_refl _)]; simp
theorem m64_of {n : Int} (h : 0 ≤ n ∧ n < 18446744073709551616) : ((m64 n : Nat) : Int) = n := by unfold m64; omega
theorem dcR_enc {s u : Int} {bk : List Bank} (hv : RV bk) (hs : Shp s bk) (hu : 0 ≤ u ∧ u < 9223372036854775808) : dcR (encL bk u) = .tup [.t (regT bk u), .t (.int .i64 0)] := by
  have hact := actI_lt hv.1
  obtain ⟨m, hm⟩ := Int.eq_ofNat_of_zero_le hact.1
  have hm4 : m < 4 := by omega
  have hE : encL bk u = [UInt8.ofNat m] ++ beI 8 u 8 ++ bk.flatten.flatten := by unfold encL encH; rw [hm]; rfl
  have v1 : beV [UInt8.ofNat m] = m := by
    rcases (show m = 0 ∨ m = 1 ∨ m = 2 ∨ m = 3 by omega) with rfl | rfl | rfl | rfl <;> rfl
  have v8 : ((beV (beI 8 u 8) : Nat) : Int) = u := by
    rw [beV_all]
    have := m64_of (n := u) (by omega)
    have e : (256 : Nat) ^ 8 = 18446744073709551616 := by decide
    rw [e]; omega
  have h1 : rdUint (encL bk u, 0, 0) 1 = (((m : Nat) : Int), (encL bk u, 1, 0)) := by
    have := rdUint_of (b := encL bk u) (p := []) (q := [UInt8.ofNat m]) (t := beI 8 u 8 ++ bk.flatten.flatten) (k := 1) (by rw [hE]; simp) rfl (by rw [v1]; omega)
    rw [v1] at this
    exact this
  have h2 : rdUint (encL bk u, 1, 0) 8 = (u, (encL bk u, 9, 0)) := by
    have := rdUint_of (b := encL bk u) (p := [UInt8.ofNat m]) (q := beI 8 u 8) (t := bk.flatten.flatten) (k := 8) hE beI_length (by omega)
    rw [v8] at this
    exact this
  have hset : dcSet (encL bk u, 0, 0) = actI bk := by unfold dcSet; rw [h1, hm]
  have hU : dcU (encL bk u, 0, 0) = u := by unfold dcU; rw [h1]; simp only; rw [h2]
  have hbad : ¬ ((rdUint (encL bk u, 0, 0) 1).2.2.2 = 0 ∧ 4 ≤ dcSet (encL bk u, 0, 0)) := by rw [hset]; omega
  have hend : ∀ b : List UInt8, rdEnd (b, b.length, 0) = 0 := fun b => by unfold rdEnd; rw [if_neg (by simp)]
  rcases shp_cases hv hs with ⟨rfl, hn⟩ | ⟨b0, b1, c0, c1, rfl, hn, l0, l1⟩
  · have hB : dcB (encL [] u, 0, 0) = ([], (encL [] u, (encL [] u).length, 0)) := by
      unfold dcB
      rw [hset, hn, h1]
      simp only
      rw [h2]
      have e : (encL [] u).length = 9 := by unfold encL; simp [encH_len]
      rw [e]; rfl
    rw [dcR_go hbad hB hU, hend, if_neg (by simp)]
  · have hz := hs.2.2
    have z0 : ∀ x ∈ b0, x.length = 20 := hz 0 (by omega)
    have z1 : ∀ x ∈ b1, x.length = 32 := hz 1 (by omega)
    have hE2 : encL [b0, b1] u = encH [b0, b1] u ++ b0.flatten ++ b1.flatten := by unfold encL; simp
    have r0 := rdRows_of (b := encL [b0, b1] u) (p := encH [b0, b1] u) (t := b1.flatten) hE2 z0 (List.length b0) (Nat.le_refl _)
    rw [List.take_length, encH_len] at r0
    have r1 := rdRows_of (b := encL [b0, b1] u) (p := encH [b0, b1] u ++ b0.flatten) (t := []) (by rw [hE2]; simp) z1 (List.length b1) (Nat.le_refl _)
    rw [List.take_length] at r1
    have hB : dcB (encL [b0, b1] u, 0, 0) = ([b0, b1], (encL [b0, b1] u, (encL [b0, b1] u).length, 0)) := by
      unfold dcB
      rw [hset, hn, h1]
      simp only
      rw [h2]
      have hLen : (encL [b0, b1] u).length = (encH [b0, b1] u ++ List.flatten b0 ++ List.flatten b1).length := by rw [← hE2]
      simp only [dcRows, l0, l1, r0, r1, hLen]
    rw [dcR_go hbad hB hU, hend, if_neg (by simp)]
end Go.Eng
end
section
set_option maxRecDepth 20000
set_option maxHeartbeats 64000000
namespace Go.Eng
def ct_encR : Ct where
  α := List Bank × Int
  as x := [.t (regT x.1 x.2)]
  ins _ := []
  pre x := RV x.1
  r x := .sl 0 0 (encL x.1 x.2).length
  outs x := [.live 1 (((encL x.1 x.2).map byteT).map V.t) true false]
  inj := by
    rintro ⟨a, u⟩ ⟨b, v⟩ h _
    simp only [List.cons.injEq, V.t.injEq, and_true] at h
    obtain ⟨rfl, rfl⟩ := regT_inj h
    exact ⟨rfl, rfl⟩
theorem encR_eq {bk : List Bank} {u : Int} (h : RV bk) : ct_encR.fs [.t (.agg [.sl (bk.map bankT), .int .i64 u])] [] = some (.sl 0 0 (encL bk u).length, [.live 1 (((encL bk u).map byteT).map V.t) true false]) := ct_encR.eq (bk, u) h
def ct_decR : Ct where
  α := List UInt8
  as x := [.t (.sl (x.map byteT))]
  ins _ := []
  pre x := x.length < 1000000000
  r x := dcR x
  outs _ := []
  inj := by
    intro a b h _
    simp only [List.cons.injEq, V.t.injEq, T.sl.injEq, and_true, mapB_inj] at h
    subst h; exact ⟨rfl, rfl⟩
theorem rdRows_le {s : Rd} {z : Nat} : ∀ n, ∀ x ∈ (rdRows s z n).1, x.length ≤ z
  | 0 => by intro x hx; simp [rdRows] at hx
  | n + 1 => by
    intro x hx
    simp only [rdRows, List.mem_append, List.mem_singleton] at hx
    rcases hx with hx | rfl
    · exact rdRows_le n x hx
    · exact rdRaw_le
theorem dcR_shape {b : List UInt8} : ∃ bk u e, dcR b = .tup [.t (.agg [.sl (bk.map bankT), .int .i64 u]), .t (.int .i64 e)] ∧ RV bk := by
  have hnil : RV [] := ⟨.nil, by simp⟩
  unfold dcR
  simp only
  split
  · exact ⟨[], 0, 1, rfl, hnil⟩
  · split
    · exact ⟨[], 0, _, rfl, hnil⟩
    · refine ⟨_, _, 0, rfl, ?_⟩
      unfold dcB dcRows
      split
      · rename_i b0 b1 h
        have hn := newBk_rv (s := dcSet (b, 0, 0))
        rw [h] at hn
        rcases hn.cases with h | ⟨c0, c1, h, g0, g1, _, _⟩
        · simp at h
        · obtain ⟨rfl, rfl⟩ : b0 = c0 ∧ b1 = c1 := by simpa using h
          refine RV.of2 (bkOk_len g0 (rdRows_len _)) (bkOk_len g1 (rdRows_len _)) ?_ ?_
          · intro x hx; have := rdRows_le _ x hx; omega
          · intro x hx; have := rdRows_le _ x hx; omega
      · exact hnil
theorem decR_eq {b : List UInt8} (h : b.length < 1000000000) : ∃ bk u e, RM bk ∧ ct_decR.fs [.t (.sl (b.map byteT))] [] = some (.tup [.t (.agg [.sl (bk.map bankT), .int .i64 u]), .t (.int .i64 e)], []) := by
  obtain ⟨bk, u, e, h1, h2⟩ := dcR_shape (b := b)
  exact ⟨bk, u, e, h2.rm, by rw [← h1]; exact ct_decR.eq b h⟩
theorem encL_len {bk : List Bank} {u : Int} (hv : RV bk) : (encL bk u).length < 100000 := by
  unfold encL
  rcases hv.cases with rfl | ⟨b0, b1, rfl, g0, g1, m0, m1⟩
  · simp [encH_len]
  · have q0 : List.length b0 ≤ 16 := by rcases g0 with h | h <;> omega
    have q1 : List.length b1 ≤ 16 := by rcases g1 with h | h <;> omega
    have f0 : b0.flatten.length ≤ 1024 := by have := flat_le m0 16; rw [List.take_of_length_le q0] at this; omega
    have f1 : b1.flatten.length ≤ 1024 := by have := flat_le m1 16; rw [List.take_of_length_le q1] at this; omega
    have e : [b0, b1].flatten.flatten = b0.flatten ++ b1.flatten := by simp
    rw [e, List.length_append, List.length_append, encH_len]
    omega
theorem w_RegistersCodec (tab : Tab) (gl : Gl) (n1 n2 n3 n4 n5 n6 n7 n8 n9 : Nat) (h1 : tab.look n1 = some ct_awake.fs) (h2 : tab.look n2 = some ct_drR.fs) (h3 : tab.look n3 = some ct_encR.fs) (h4 : tab.look n4 = some ct_decR.fs) (h5 : tab.look n5 = some ct_encR.fs) (h6 : tab.look n6 = some ct_same.fs) (h7 : tab.look n7 = some ct_eqR.fs) (h8 : tab.look n8 = some ct_rsm.fs) (h9 : tab.look n9 = some ct_rsm.fs) (s : Int) (cs : List UInt8) (hcs : cs.length ≤ 9223372036854775807) :
    (ac_law8_RegistersCodec n1 n2 n3 n4 n5 n6 n7 n8 n9).wp tab gl (zipF 0 [.t (.int .i64 s), .t (.sl (cs.map byteT))]) (zipF 0 []) (resW [(4, none)] 0 (fun r o => r = .t (.bool true) ∧ o = [])) := by
  have hS := dr_shp (s := s) (cs := cs)
  obtain ⟨hv, hu0, hu1⟩ := dr_rs (s := s) (cs := cs)
  have hd : ct_drR.fs [.t (.int .i64 s), .t (.sl (cs.map byteT))] [] = some (.t (.agg [.sl ((dr s cs).1.map bankT), .int .i64 (dr s cs).2]), []) := ct_drR.eq (s, cs) hcs
  generalize (dr s cs).1 = bk at *
  generalize (dr s cs).2 = u at *
  have hE := encR_eq (u := u) hv
  have hL := encL_len (u := u) hv
  have hsame := same_refl (a := encL bk u) (by omega)
  have hD : ct_decR.fs [.t (.sl ((encL bk u).map byteT))] [] = some (.tup [.t (.agg [.sl (bk.map bankT), .int .i64 u]), .t (.int .i64 0)], []) := by
    have := ct_decR.eq (encL bk u) (by show (encL bk u).length < 1000000000; omega)
    have e : ct_decR.r (encL bk u) = .tup [.t (regT bk u), .t (.int .i64 0)] := dcR_enc hv hS ⟨hu0, by omega⟩
    rw [e] at this
    exact this
  have hq := eqR_eq (u := u) hv.rm
  have hr : ct_rsm.fs [.t (.agg [.sl (bk.map bankT), .int .i64 u])] [] = some (.t (.agg [.sl ((resBk bk).map bankT), .int .i64 u]), []) := rsm_eq hv.rm
  have hq2 := eqR_eq (u := u) hv.res.rm
  have ht : List.take (encL bk u).length (encL bk u) = encL bk u := List.take_length
  generalize encL bk u = b at *
  simp (disch := omega) only [go_sem, ↓reduceIte, Nat.reduceAdd, Nat.reduceEqDiff, Nat.reduceLeDiff, reduceCtorEq, ac_law8_RegistersCodec, h1, h2, h3, h4, h5, h6, h7, h8, h9, awake_eq, hd, hE, hsame, hD, hq, hr, hq2, ht]
  rfl
end Go.Eng
end
section
set_option maxRecDepth 20000
set_option maxHeartbeats 64000000
namespace Go.Eng
theorem wc_wire_take (tab : Tab) (gl : Gl) (x : ct_take.α) (hx : ct_take.pre x) : ac_wire_Reader_take.wp tab gl (zipF 0 (ct_take.as x)) (zipF 0 (ct_take.ins x)) (resW [(6, none), (7, none)] (ct_take.ins x).length (fun r o => r = ct_take.r x ∧ o = ct_take.outs x)) := by
  obtain ⟨⟨b, a, e⟩, p, n⟩ := x
  obtain ⟨h1, h2, h3⟩ := hx
  simp only [rdOk] at h1 h2 h3
  by_cases h : p + n ≤ b.length
  · have hr : ct_take.r ((b, a, e), p, n) = .tup [.t (.sl (((b.drop p).take n).map byteT)), .t (.int .i64 0)] := if_pos h
    rw [hr]
    exact w_wire_take tab gl (b, a, e) h1 p n h
  · have hr : ct_take.r ((b, a, e), p, n) = .tup [.t (.sl []), .t (.int .i64 2)] := if_neg h
    rw [hr]
    show ac_wire_Reader_take.wp tab gl (zipF 0 [.ref 0 0 0, .t (.int .i64 p), .t (.int .i64 n)]) (zipF 0 [rdOb (b, a, e)]) (resW [(6, none), (7, none)] 1 (fun r o => r = .tup [.t (.sl []), .t (.int .i64 2)] ∧ o = [rdOb (b, a, e)]))
    simp (disch := omega) only [go_sem, ↓reduceIte, Nat.reduceAdd, Nat.reduceEqDiff, Nat.reduceLeDiff, reduceCtorEq, ac_wire_Reader_take, rdOb, rdT]
theorem wc_ref3_need (tab : Tab) (gl : Gl) (x : ct_need.α) (hx : ct_need.pre x) : ac_ref3_Reader_need.wp tab gl (zipF 0 (ct_need.as x)) (zipF 0 (ct_need.ins x)) (resW [(4, none)] (ct_need.ins x).length (fun r o => r = ct_need.r x ∧ o = ct_need.outs x)) :=
  w_ref3_need_no tab gl x.1.1 x.1.2.1 x.1.2.2 x.2 hx.1 hx.2
end Go.Eng
end
section
set_option maxRecDepth 20000
set_option maxHeartbeats 64000000
namespace Go.Eng
theorem w_RegistersDecode (tab : Tab) (gl : Gl) (n1 n2 n3 n4 n5 n6 : Nat) (h1 : tab.look n1 = some ct_awake.fs) (h2 : tab.look n2 = some ct_drR.fs) (h3 : tab.look n3 = some ct_encR.fs) (h4 : tab.look n4 = some ct_decR.fs) (h5 : tab.look n5 = some ct_decR.fs) (h6 : tab.look n6 = some ct_eqR.fs) (s : Int) (cs : List UInt8) (hcs : cs.length ≤ 9223372036854775807) (at_ : Int) (x : UInt8) (n : Int) (raw : List UInt8) :
    (ac_law8_RegistersDecode n1 n2 n3 n4 n5 n6).wp tab gl (zipF 0 [.t (.int .i64 s), .t (.sl (cs.map byteT)), .t (.int .i64 at_), .t (byteT x), .t (.int .i64 n), .t (.sl (raw.map byteT))]) (zipF 0 []) (resW [(12, none)] 0 (fun r o => r = .t (.bool true) ∧ o = [])) := by
  obtain ⟨bk, u, hv, hu0, hu1, hd⟩ := drR_eq (s := s) hcs
  have hE := encR_eq (u := u) hv
  have hL := encL_len (u := u) hv
  generalize encL bk u = b at *
  by_cases hr : 100 < raw.length
  · simp (disch := omega) only [go_sem, ↓reduceIte, Nat.reduceAdd, Nat.reduceEqDiff, Nat.reduceLeDiff, reduceCtorEq, ac_law8_RegistersDecode, h1, awake_eq, hr]
  · obtain ⟨bk1, u1, e1, m1, D1⟩ := decR_eq (b := raw) (by omega)
    have q1 := eqR_eq (u := u1) m1
    have fin : ∀ c : List UInt8, c.length ≤ b.length → ∀ L, c.length = L → List.take (L + raw.length) (c ++ raw) = c ++ raw ∧ ∃ bk2 u2 e2, RM bk2 ∧ ct_decR.fs [.t (.sl ((c ++ raw).map byteT))] [] = some (.tup [.t (.agg [.sl (bk2.map bankT), .int .i64 u2]), .t (.int .i64 e2)], []) := fun c hc L hL => ⟨List.take_of_length_le (by rw [List.length_append]; omega), decR_eq (by rw [List.length_append]; omega)⟩
    by_cases ha : 0 ≤ at_ ∧ at_ < b.length
    · obtain ⟨K, rfl⟩ := Int.eq_ofNat_of_zero_le ha.1
      have hK : K < b.length := by omega
      by_cases hn : 0 ≤ n ∧ n < b.length
      · obtain ⟨M, rfl⟩ := Int.eq_ofNat_of_zero_le hn.1
        have hM : M < b.length := by omega
        obtain ⟨ht, bk2, u2, e2, m2, D2⟩ := fin ((b.set K (b.getD K 0 ^^^ x)).take M) (by simp; omega) M (by simp; omega)
        have q2 := eqR_eq (u := u2) m2
        simp (config := { maxSteps := 2000000 }) (disch := (first | omega | (simp only [lens, lenm]; omega))) only [go_sem, ↓reduceIte, Nat.reduceAdd, Nat.reduceEqDiff, Nat.reduceLeDiff, Int.reduceLE, reduceCtorEq, ac_law8_RegistersDecode, h1, h2, h3, h4, h5, h6, awake_eq, hr, hd, hE, D1, q1, D2, q2, ht]
      · obtain ⟨ht, bk2, u2, e2, m2, D2⟩ := fin (b.set K (b.getD K 0 ^^^ x)) (by simp) b.length (by simp)
        have hs0 : List.take b.length (b.set K (b.getD K 0 ^^^ x)) = b.set K (b.getD K 0 ^^^ x) := List.take_of_length_le (by simp)
        have q2 := eqR_eq (u := u2) m2
        by_cases hn0 : 0 ≤ n
        · simp (config := { maxSteps := 2000000 }) (disch := (first | omega | (simp only [lens, lenm]; omega))) only [go_sem, ↓reduceIte, Nat.reduceAdd, Nat.reduceEqDiff, Nat.reduceLeDiff, reduceCtorEq, ac_law8_RegistersDecode, h1, h2, h3, h4, h5, h6, awake_eq, hr, hd, hE, D1, q1, D2, q2, ht, hn0, hs0]
        · simp (config := { maxSteps := 2000000 }) (disch := (first | omega | (simp only [lens, lenm]; omega))) only [go_sem, ↓reduceIte, Nat.reduceAdd, Nat.reduceEqDiff, Nat.reduceLeDiff, reduceCtorEq, ac_law8_RegistersDecode, h1, h2, h3, h4, h5, h6, awake_eq, hr, hd, hE, D1, q1, D2, q2, ht, hn0, hs0]
    · by_cases hn : 0 ≤ n ∧ n < b.length
      · obtain ⟨M, rfl⟩ := Int.eq_ofNat_of_zero_le hn.1
        have hM : M < b.length := by omega
        obtain ⟨ht, bk2, u2, e2, m2, D2⟩ := fin (b.take M) (by simp; omega) M (by simp; omega)
        have q2 := eqR_eq (u := u2) m2
        by_cases ha0 : 0 ≤ at_
        · simp (config := { maxSteps := 2000000 }) (disch := (first | omega | (simp only [lens, lenm]; omega))) only [go_sem, ↓reduceIte, Nat.reduceAdd, Nat.reduceEqDiff, Nat.reduceLeDiff, Int.reduceLE, reduceCtorEq, ac_law8_RegistersDecode, h1, h2, h3, h4, h5, h6, awake_eq, hr, hd, hE, D1, q1, D2, q2, ht, ha0]
        · simp (config := { maxSteps := 2000000 }) (disch := (first | omega | (simp only [lens, lenm]; omega))) only [go_sem, ↓reduceIte, Nat.reduceAdd, Nat.reduceEqDiff, Nat.reduceLeDiff, Int.reduceLE, reduceCtorEq, ac_law8_RegistersDecode, h1, h2, h3, h4, h5, h6, awake_eq, hr, hd, hE, D1, q1, D2, q2, ht, ha0]
      · obtain ⟨ht, bk2, u2, e2, m2, D2⟩ := fin b (by omega) b.length rfl
        have q2 := eqR_eq (u := u2) m2
        by_cases hn0 : 0 ≤ n <;> by_cases ha0 : 0 ≤ at_
        all_goals simp (config := { maxSteps := 2000000 }) (disch := (first | omega | (simp only [lens, lenm]; omega))) only [go_sem, ↓reduceIte, Nat.reduceAdd, Nat.reduceEqDiff, Nat.reduceLeDiff, reduceCtorEq, ac_law8_RegistersDecode, h1, h2, h3, h4, h5, h6, awake_eq, hr, hd, hE, D1, q1, D2, q2, ht, hn0, ha0, List.take_length]
end Go.Eng
end
section
set_option maxRecDepth 20000
namespace Go.Eng
open Go.MuLone
theorem tieW {P : Program} {G : Gl} {tab : Tab} {f : FuncId} {fn : Func} {c : Code} {ac : AC} {hints : List (Nat × List Nat)} {rs : List (Nat × Option (Nat × Bool))} (hf : P.funcs[f]? = some fn) (hname : (fn.name == "runtime.NumGoroutine") = false) (hb : fn.body = some c) (hann : ann P fn.ntmps hints c = some ac) (hmx : P.follows .mixedOrders = true)
    (ht : TabOk P G tab) (hrs : resOf P fn.results.toList = some rs) (ct : Ct) (hn : ∀ x, (ct.as x).length ≤ fn.ntmps) (hi : ∀ x, (ct.ins x).length ≤ 100)
    (h : ∀ x, ct.pre x → ac.wp tab G (zipF 0 (ct.as x)) (zipF 0 (ct.ins x)) (resW rs (ct.ins x).length (fun r' o' => r' = ct.r x ∧ o' = ct.outs x))) : FOk P G f ct.fs :=
  ct.ok (fun args w => run_callFunc_enter hf hname hb args w) (fun x hx => spec_of hf hb hann hmx ht hrs (hn x) (hi x) (h x hx))
theorem tieF {P : Program} {G : Gl} {tab : Tab} {f : FuncId} {fn : Func} {c : Code} {ac : AC} {hints : List (Nat × List Nat)} {rs : List (Nat × Option (Nat × Bool))} (fz : List Nat) (hf : P.funcs[f]? = some fn) (hname : (fn.name == "runtime.NumGoroutine") = false) (hb : fn.body = some c) (hann : ann P fn.ntmps hints c = some ac) (hmx : P.follows .mixedOrders = true)
    (ht : TabOk P G tab) (hrs : resOf P fn.results.toList = some rs) (ct : Ct) (hn : ∀ x, (ct.as x).length ≤ fn.ntmps) (hi : ∀ x, (ct.ins x).length ≤ 100)
    (h : ∀ x, ct.pre x → ac.wp tab G (zipF 0 (ct.as x)) (zipF 0 (ct.ins x)) (resF fz rs (ct.ins x).length (fun r' o' => r' = ct.r x ∧ o' = ct.outs x))) : FOk P G f ct.fs :=
  ct.ok (fun args w => run_callFunc_enter hf hname hb args w) (fun x hx => spec_live fz hf hb hann hmx ht hrs (hn x) (hi x) (h x hx))
theorem tieL {P : Program} {G : Gl} {tab : Tab} {f : FuncId} {fn : Func} {c : Code} {ac : AC} {hints : List (Nat × List Nat)} {rs : List (Nat × Option (Nat × Bool))} (hf : P.funcs[f]? = some fn) (hb : fn.body = some c) (hann : ann P fn.ntmps hints c = some ac) (hmx : P.follows .mixedOrders = true)
    (ht : TabOk P G tab) (hrs : resOf P fn.results.toList = some rs) {as : List V} (hn : as.length ≤ fn.ntmps)
    (h : ac.wp tab G (zipF 0 as) (zipF 0 []) (resW rs 0 (fun r o => r = .t (.bool true) ∧ o = []))) : Spec P G f as [] (.t (.bool true)) [] :=
  spec_of hf hb hann hmx ht hrs hn (Nat.zero_le _) h
end Go.Eng
end
section
set_option maxRecDepth 20000
namespace Go.Eng
theorem ok_mnz {P : Program} {G : Nat → Option (List T)} {f : FuncId} {fn : Func} {ps : Array TypeId} {t e : TypeId} (hf : P.funcs[f]? = some fn) (hname : (fn.name == "runtime.NumGoroutine") = false) (hb : fn.body.isNone = true) (hn : Extern.findNext fn = none)
    (he : Extern.find fn = some (Extern.BytealgMakeNoZero.makeNoZero ps #[t])) (ht : P.underlying t = some (.slice e)) : FOk P G f ct_mnz.fs := by
  intro as ins r outs hs
  have key : ∃ n : Nat, (n = 20 ∨ n = 32) ∧ as = [.t (.int .i64 n)] ∧ ins = [] ∧ r = .sl 0 0 n ∧ outs = [.live 1 [] true false] := by
    unfold Ct.fs at hs
    split at hs
    · rename_i hx
      cases hs
      have h1 := hx.choose_spec
      generalize hx.choose = y at h1 ⊢
      obtain ⟨⟨rfl, rfl⟩, h3⟩ := h1
      have h4 : (show Int from y) = 20 ∨ (show Int from y) = 32 := h3
      rcases h4 with h4 | h4
      · refine ⟨20, .inl rfl, ?_⟩
        have h5 : y = (20 : Int) := h4
        subst h5
        exact ⟨rfl, rfl, rfl, rfl⟩
      · refine ⟨32, .inr rfl, ?_⟩
        have h5 : y = (32 : Int) := h4
        subst h5
        exact ⟨rfl, rfl, rfl, rfl⟩
    · cases hs
  obtain ⟨n, hn2, rfl, rfl, rfl, rfl⟩ := key
  intro w β F vals env fits hargs
  have hvals : vals = #[.int .i64 n] := by
    obtain ⟨l⟩ := vals
    cases hargs with
    | cons h1 h2 =>
      cases h2
      cases h1 with
      | t h => cases h; rfl
  subst hvals
  obtain ⟨cs, hrun, hle, hmx⟩ := Lib.run_makeNoZero (P := P) w ps t e ht n (by omega)
  refine .inr ⟨.slice (some ⟨w.heap.size, 0, none⟩) n cs.size, w.drew.drew.alloc (.cells cs e), ?_, .slice (some ⟨w.heap.size, 0, none⟩) n cs.size, fun k => if k = 0 then some ⟨some w.heap.size, 1, cs.size⟩ else none, F, rfl, ?_⟩
  · rw [run_callFunc_extern hf hname hb hn he, hrun]; rfl
  · have hsz : (w.drew.drew.alloc (.cells cs e)).heap.size = w.heap.size + 1 := by
      show (w.heap.push _).size = _
      exact Array.size_push _
    have hnew : (w.drew.drew.alloc (.cells cs e)).heap[w.heap.size]? = some (.cells cs e) := by
      show (w.heap.push _)[w.heap.size]? = _
      simp
    have hold : ∀ b, b < w.heap.size → (w.drew.drew.alloc (.cells cs e)).heap[b]? = w.heap[b]? := by
      intro b hb
      show (w.heap.push _)[b]? = _
      rw [Array.getElem?_push, if_neg (by omega)]
    have hFb : ¬ F w.heap.size := fun h => absurd (env.Fw _ h) (by omega)
    have mx : n ≤ maxLen := by have : (32 : Nat) ≤ maxLen := by decide
                               omega
    refine ⟨⟨fun k o hk => ?_, fun k hk => ?_, fun i j bi bj b h1 h2 h3 h4 => ?_, fun k bi b h1 h2 => ?_⟩, ?_, fun k hk => ?_, fun k bi b _ h1 h2 => ?_, fun b _ => Iff.rfl, fun b hb => ?_, rfl, rfl, rfl, ?_, fun b hb _ => hold b hb⟩
    · cases k with
      | succ k => simp at hk
      | zero =>
        simp only [List.getElem?_cons_zero, Option.some.injEq] at hk
        subst hk
        refine ⟨_, if_pos rfl, ⟨rfl, by simp, cs, e, (0, 0), hnew, by omega, by simp, by simp, hmx mx, fun i x h => by simp at h, ?_⟩, 1, [], false, rfl⟩
        simpa using hFb
    · have : k ≠ 0 := by simp at hk; omega
      exact if_neg this
    · split at h1 <;> split at h2 <;> simp_all
    · split at h1
      · cases h1
        cases h2
        exact ⟨by rw [hsz]; omega, hFb⟩
      · cases h1
    · exact .sl 0 0 n cs.size w.heap.size 1 cs.size _ (if_pos rfl) hle (by omega) (fun _ => by simp) rfl
    · simp at hk
    · split at h1
      · cases h1
        cases h2
        exact Nat.le_refl _
      · cases h1
    · have := env.Fw b hb
      rw [hsz]; omega
    · rw [hsz]; omega
end Go.Eng
end
