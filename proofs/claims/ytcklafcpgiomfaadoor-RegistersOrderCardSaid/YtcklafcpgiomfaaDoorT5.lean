/- My own text: an abstract machine, its walks over the functions reached, and their tie to the program. -/
import Derived.Test.YtcklafcpgiomfaaDoorT4
import Derived.Test.YtcklafcpgiomfaaDoorT2
import Derived.Conc.MuLone
import Derived.Lib.MakeNoZero
import Derived.Laws.Externs
set_option linter.unusedSimpArgs false
set_option linter.unusedVariables false
section
set_option maxRecDepth 20000
set_option maxHeartbeats 64000000
namespace Go.Eng
def RV (bk : List Bank) : Prop := RK bk ∧ ∀ b ∈ bk, ∀ x ∈ b, x.length ≤ 64
theorem RV.rm {bk : List Bank} (h : RV bk) : RM bk := by
  refine ⟨h.1, fun b hb => ⟨?_, fun x hx => Nat.lt_of_le_of_lt (h.2 b hb x hx) (by omega)⟩⟩
  have : bkOk b := by
    obtain ⟨hk, _⟩ := h
    cases hk with
    | nil => simp at hb
    | two b0 b1 h0 h1 =>
      simp only [List.mem_cons, List.not_mem_nil, or_false] at hb
      rcases hb with rfl | rfl
      · exact h0
      · exact h1
  rcases this with h | h <;> omega
theorem getD_le {b : Bank} {m n : Nat} (h : ∀ x ∈ b, x.length ≤ m) : (b.getD n []).length ≤ m := by
  by_cases hi : n < List.length b
  · have : b.getD n [] = b[n] := by simp [List.getD, hi]
    rw [this]; exact h _ (List.getElem_mem hi)
  · simp [List.getD, List.getElem?_eq_none (Nat.le_of_not_lt hi)]
abbrev ExtIn := List Bank × Int × Int × Int × List (List UInt8)
def extPre (x : ExtIn) : Prop := RV x.1 ∧ (0 ≤ x.2.1 ∧ x.2.1 < 1000000000) ∧ x.2.2.2.2.length < 1000000000 ∧ ∀ d ∈ x.2.2.2.2, d.length < 9223372036854775808
def ct_ext : Ct where
  α := ExtIn
  as x := [.t (regT x.1 x.2.1), .t (.int .i64 x.2.2.1), .t (.int .i64 x.2.2.2.1), .t (.sl (x.2.2.2.2.map bsT))]
  ins _ := []
  pre := extPre
  r x := extR x.1 x.2.1 x.2.2.1 x.2.2.2.1 x.2.2.2.2
  outs _ := []
  inj := by
    rintro ⟨a, u, l, i, ds⟩ ⟨b, v, l', i', ds'⟩ h _
    simp only [List.cons.injEq, V.t.injEq, T.int.injEq, T.sl.injEq, true_and, and_true, mapBs_inj] at h
    obtain ⟨h1, rfl, rfl, rfl⟩ := h
    obtain ⟨rfl, rfl⟩ := regT_inj h1
    exact ⟨rfl, rfl⟩
theorem extR_bad {bk : List Bank} {u loc i : Int} {ds : List (List UInt8)} (hb : (loc < 0 ∨ 4 < loc ∨ i < 0 ∨ 16 ≤ i ∨ ds.length ≠ 2) ∨ loc < leastI i false) :
    extR bk u loc i ds = .tup [.t (regT [] 0), .t (.int .i64 (if loc < 0 ∨ 4 < loc ∨ i < 0 ∨ 16 ≤ i ∨ ds.length ≠ 2 then 1 else 13))] := by
  have he : extE (bk.getD 0 []).length (bk.getD 1 []).length loc i ds.length (ds.getD 0 []).length (ds.getD 1 []).length = if loc < 0 ∨ 4 < loc ∨ i < 0 ∨ 16 ≤ i ∨ ds.length ≠ 2 then 1 else 13 := by
    unfold extE
    by_cases h : loc < 0 ∨ 4 < loc ∨ i < 0 ∨ 16 ≤ i ∨ ds.length ≠ 2
    · rw [if_pos h, if_pos h]
    · have h2 : loc < leastI i false := by rcases hb with h' | h'; exact absurd h' h; exact h'
      rw [if_neg h, if_neg h, if_pos h2]
  unfold extR
  rw [he]
  split
  · split at * <;> simp_all
  · rfl
theorem w_registers_Extend (tab : Tab) (gl : Gl) (n1 n2 n3 n4 n5 n6 : Nat) (h1 : tab.look n1 = some ct_index.fs) (h2 : tab.look n2 = some ct_least.fs) (h3 : tab.look n3 = some ct_on.fs) (h4 : tab.look n4 = some ct_size.fs) (h5 : tab.look n5 = some ct_twin.fs) (h6 : tab.look n6 = some ct_sumA.fs) (x : ct_ext.α) (hx : ct_ext.pre x) :
    (ac_registers_Extend n1 n2 n3 n4 n5 n6).wp tab gl (zipF 0 (ct_ext.as x)) (zipF 0 (ct_ext.ins x)) (resW [(8, some (2, true)), (9, none)] (ct_ext.ins x).length (fun r o => r = ct_ext.r x ∧ o = ct_ext.outs x)) := by
  obtain ⟨bk, u, loc, i, ds⟩ := x
  obtain ⟨hv, hu, hd, hd2⟩ := hx
  simp only [ct_ext] at *
  by_cases hb : (loc < 0 ∨ 4 < loc ∨ i < 0 ∨ 16 ≤ i ∨ ds.length ≠ 2) ∨ loc < leastI i false
  · rw [extR_bad hb]
    exact w_registers_Extend_bad tab gl n1 n2 n3 n4 n5 n6 h1 h2 bk u loc i ds hd hb
  · obtain ⟨n, rfl⟩ := Int.eq_ofNat_of_zero_le (show 0 ≤ i by omega)
    match ds, hd2, hb with
    | [d0, d1], hd2, hb =>
      have m0 := hd2 d0 (by simp)
      have m1 := hd2 d1 (by simp)
      have e1 : ¬(loc < 0 ∨ 4 < loc ∨ 16 ≤ n) := by omega
      have e2 : ¬ loc < leastI n false := by omega
      have hm := hv.rm
      obtain ⟨hk, hl⟩ := hv
      cases hk with
      | nil => exact w_registers_Extend0 tab gl n1 n2 n3 n4 n5 n6 h1 h2 h3 h5 u loc n d0 d1 hu ⟨m0, m1⟩ e1 e2
      | two b0 b1 g0 g1 => exact w_registers_Extend2 tab gl n1 n2 n3 n4 n5 n6 h1 h2 h3 h4 h5 h6 b0 b1 u loc n d0 d1 hu hm (getD_le (hl b0 (by simp))) (getD_le (hl b1 (by simp))) ⟨m0, m1⟩ e1 e2
    | [], _, hb => simp at hb
    | [_], _, hb => simp at hb
    | _ :: _ :: _ :: _, _, hb => simp at hb
theorem w_ref8_Extend (tab : Tab) (gl : Gl) (n1 n2 n3 n4 n5 n6 : Nat) (h2 : tab.look n1 = some ct_rleast.fs) (h3 : tab.look n2 = some ct_actv.fs) (h4 : tab.look n3 = some ct_size.fs) (h5 : tab.look n4 = some ct_twin.fs) (h7 : tab.look n5 = some ct_copy.fs) (h6 : tab.look n6 = some ct_sumA.fs) (x : ct_ext.α) (hx : ct_ext.pre x) :
    (ac_ref8_Extend n1 n2 n3 n4 n5 n6).wp tab gl (zipF 0 (ct_ext.as x)) (zipF 0 (ct_ext.ins x)) (resW [(8, some (2, true)), (9, none)] (ct_ext.ins x).length (fun r o => r = ct_ext.r x ∧ o = ct_ext.outs x)) := by
  obtain ⟨bk, u, loc, i, ds⟩ := x
  obtain ⟨hv, hu, hd, hd2⟩ := hx
  simp only [ct_ext] at *
  by_cases hb : (loc < 0 ∨ 4 < loc ∨ i < 0 ∨ 16 ≤ i ∨ ds.length ≠ 2) ∨ loc < leastI i false
  · rw [extR_bad hb]
    exact w_ref8_Extend_bad tab gl n1 n2 n3 n4 n5 n6 h2 bk u loc i ds hd hb
  · obtain ⟨n, rfl⟩ := Int.eq_ofNat_of_zero_le (show 0 ≤ i by omega)
    match ds, hd2, hb with
    | [d0, d1], hd2, hb =>
      have m0 := hd2 d0 (by simp)
      have m1 := hd2 d1 (by simp)
      have e1 : ¬(loc < 0 ∨ 4 < loc ∨ 16 ≤ n) := by omega
      have e2 : ¬ loc < leastI n false := by omega
      have hm := hv.rm
      obtain ⟨hk, hl⟩ := hv
      cases hk with
      | nil => exact w_ref8_Extend0 tab gl n1 n2 n3 n4 n5 n6 h2 h3 h5 u loc n d0 d1 hu ⟨m0, m1⟩ e1 e2
      | two b0 b1 g0 g1 => exact w_ref8_Extend2 tab gl n1 n2 n3 n4 n5 n6 h2 h3 h4 h5 h7 h6 b0 b1 u loc n d0 d1 hu hm (getD_le (hl b0 (by simp))) (getD_le (hl b1 (by simp))) ⟨m0, m1⟩ e1 e2
    | [], _, hb => simp at hb
    | [_], _, hb => simp at hb
    | _ :: _ :: _ :: _, _, hb => simp at hb
end Go.Eng
end
section
set_option maxRecDepth 20000
set_option maxHeartbeats 64000000
namespace Go.Eng
def digB (bk : List Bank) (data : List UInt8) : List (List UInt8) := [if onB bk 0 then sum1 data else [], if onB bk 1 then sum256 data else []]
def evR (bk : List Bank) (u loc i : Int) (data : List UInt8) : V := if 128 < data.length then .tup [.t (regT [] 0), .t (.int .i64 4)] else extR bk u loc i (digB bk data)
theorem extR_shape {bk : List Bank} {u loc i : Int} {ds : List (List UInt8)} : ∃ (bk' : List Bank) (u' e : Int), extR bk u loc i ds = .tup [.t (.agg [.sl (bk'.map bankT), .int .i64 u']), .t (.int .i64 e)] := by
  unfold extR
  split
  · exact ⟨_, _, _, rfl⟩
  · exact ⟨[], 0, _, rfl⟩
theorem ext_eq {bk : List Bank} {u loc i : Int} {ds : List (List UInt8)} (h : extPre (bk, u, loc, i, ds)) : ct_ext.fs [.t (.agg [.sl (bk.map bankT), .int .i64 u]), .t (.int .i64 loc), .t (.int .i64 i), .t (.sl (ds.map bsT))] [] = some (extR bk u loc i ds, []) := ct_ext.eq (bk, u, loc, i, ds) h
theorem digB_pre {bk : List Bank} {data : List UInt8} : (digB bk data).length < 1000000000 ∧ ∀ d ∈ digB bk data, d.length < 9223372036854775808 := by
  refine ⟨by simp [digB], ?_⟩
  intro d hd
  simp only [digB, List.mem_cons, List.not_mem_nil, or_false] at hd
  rcases hd with rfl | rfl
  · split
    · rw [sum1_length]; omega
    · simp
  · split
    · rw [sum256_length]; omega
    · simp
theorem w_ref8_Digests (tab : Tab) (gl : Gl) (n1 n2 : Nat) (h1 : tab.look n1 = some ct_actv.fs) (h2 : tab.look n2 = some ct_sumA.fs) (bk : List Bank) (u : Int) (data : List UInt8) (hk : RK bk) (hd : data.length < 1000000000) :
    (ac_ref8_Digests n1 n2).wp tab gl (zipF 0 [.t (regT bk u), .t (.sl (data.map byteT))]) (zipF 0 []) (resW [(4, none)] 0 (fun r o => r = .t (.sl ((digB bk data).map bsT)) ∧ o = [])) := by
  have c0 := actv_eq (u := u) (a := 0) hk (by omega)
  have c1 := actv_eq (u := u) (a := 1) hk (by omega)
  rw [show ((0 : Nat) : Int) = 0 from rfl] at c0
  rw [show ((1 : Nat) : Int) = 1 from rfl] at c1
  simp (config := { maxSteps := 2000000 }) (disch := (first | omega | (simp only [lens, lenm]; omega))) only [go_sem, ↓reduceIte, Nat.reduceAdd, Nat.reduceEqDiff, Nat.reduceSub, Nat.reduceMul, Nat.reduceLT, Nat.reduceLeDiff, Nat.reduceBEq, Int.reduceEq, Int.reduceLT, Int.reduceLE, Int.reduceToNat, Int.reduceNeg, Int.reduceAdd, Int.reduceSub, Int.reduceMul, Int.reduceMod, Int.reduceDiv, reduceCtorEq, Nat.reducePow, Int.reducePow, ac_ref8_Digests]
  cases o0 : onB bk 0 <;> cases o1 : onB bk 1 <;> rw [o0] at c0 <;> rw [o1] at c1
  · have hdig : digB bk data = [[], []] := by rw [digB, o0, o1]; rfl
    rw [hdig]
    refine loop_upto 2 (fun k => match k with | 0 => [(1, .t (.sl (data.map byteT))), (2, .ref 4096 0 0), (5, .sl 8192 0 2), (6, .t (.int .i64 0))] | 1 => [(1, .t (.sl (data.map byteT))), (2, .ref 4096 0 0), (5, .sl 8192 0 2), (6, .t (.int .i64 1))] | _ => [(1, .t (.sl (data.map byteT))), (2, .ref 4096 0 0), (5, .sl 8192 0 2), (6, .t (.int .i64 2))]) (fun k => match k with | 0 => [(8192, .live 1 [.t (bsT []), .t (bsT [])] true false), (4096, .live 2 [.t (regT bk u)] true true)] | 1 => [(8192, .live 1 [.t (bsT ([])), .t (bsT [])] true false), (4096, .live 2 [.t (regT bk u)] true true)] | _ => [(8192, .live 1 [.t (bsT ([])), .t (bsT ([]))] true false), (4096, .live 2 [.t (regT bk u)] true true)]) ?_ (fun k hk2 => ?_)
    · refine Weak.rd id ?_ ?_ rfl
      all_goals simp (config := { maxSteps := 2000000 }) (disch := (first | omega | (simp only [lens, lenm]; omega))) only [go_sem, ↓reduceIte, Nat.reduceAdd, Nat.reduceEqDiff, Nat.reduceSub, Nat.reduceMul, Nat.reduceLT, Nat.reduceLeDiff, Nat.reduceBEq, Int.reduceEq, Int.reduceLT, Int.reduceLE, Int.reduceToNat, Int.reduceNeg, Int.reduceAdd, Int.reduceSub, Int.reduceMul, Int.reduceMod, Int.reduceDiv, reduceCtorEq, Nat.reducePow, Int.reducePow, id, List.map_nil]
    · rcases (show k = 0 ∨ k = 1 ∨ k = 2 by omega) with rfl | rfl | rfl
      · simp (config := { maxSteps := 2000000 }) (disch := (first | omega | (simp only [lens, lenm]; omega))) only [go_sem, ↓reduceIte, Nat.reduceAdd, Nat.reduceEqDiff, Nat.reduceSub, Nat.reduceMul, Nat.reduceLT, Nat.reduceLeDiff, Nat.reduceBEq, Int.reduceEq, Int.reduceLT, Int.reduceLE, Int.reduceToNat, Int.reduceNeg, Int.reduceAdd, Int.reduceSub, Int.reduceMul, Int.reduceMod, Int.reduceDiv, reduceCtorEq, Nat.reducePow, Int.reducePow, ac_ref8_Digests_L0, h1, h2, c0, c1, sumA_eq0, sumA_eq1, List.map_nil]
        refine Weak.rd id ?_ ?_ rfl
        all_goals simp (config := { maxSteps := 2000000 }) (disch := (first | omega | (simp only [lens, lenm]; omega))) only [go_sem, ↓reduceIte, Nat.reduceAdd, Nat.reduceEqDiff, Nat.reduceSub, Nat.reduceMul, Nat.reduceLT, Nat.reduceLeDiff, Nat.reduceBEq, Int.reduceEq, Int.reduceLT, Int.reduceLE, Int.reduceToNat, Int.reduceNeg, Int.reduceAdd, Int.reduceSub, Int.reduceMul, Int.reduceMod, Int.reduceDiv, reduceCtorEq, Nat.reducePow, Int.reducePow, id, List.map_nil]
      · simp (config := { maxSteps := 2000000 }) (disch := (first | omega | (simp only [lens, lenm]; omega))) only [go_sem, ↓reduceIte, Nat.reduceAdd, Nat.reduceEqDiff, Nat.reduceSub, Nat.reduceMul, Nat.reduceLT, Nat.reduceLeDiff, Nat.reduceBEq, Int.reduceEq, Int.reduceLT, Int.reduceLE, Int.reduceToNat, Int.reduceNeg, Int.reduceAdd, Int.reduceSub, Int.reduceMul, Int.reduceMod, Int.reduceDiv, reduceCtorEq, Nat.reducePow, Int.reducePow, ac_ref8_Digests_L0, h1, h2, c0, c1, sumA_eq0, sumA_eq1, List.map_nil]
        refine Weak.rd id ?_ ?_ rfl
        all_goals simp (config := { maxSteps := 2000000 }) (disch := (first | omega | (simp only [lens, lenm]; omega))) only [go_sem, ↓reduceIte, Nat.reduceAdd, Nat.reduceEqDiff, Nat.reduceSub, Nat.reduceMul, Nat.reduceLT, Nat.reduceLeDiff, Nat.reduceBEq, Int.reduceEq, Int.reduceLT, Int.reduceLE, Int.reduceToNat, Int.reduceNeg, Int.reduceAdd, Int.reduceSub, Int.reduceMul, Int.reduceMod, Int.reduceDiv, reduceCtorEq, Nat.reducePow, Int.reducePow, id, List.map_nil]
      · simp (config := { maxSteps := 2000000 }) (disch := (first | omega | (simp only [lens, lenm]; omega))) only [go_sem, ↓reduceIte, Nat.reduceAdd, Nat.reduceEqDiff, Nat.reduceSub, Nat.reduceMul, Nat.reduceLT, Nat.reduceLeDiff, Nat.reduceBEq, Int.reduceEq, Int.reduceLT, Int.reduceLE, Int.reduceToNat, Int.reduceNeg, Int.reduceAdd, Int.reduceSub, Int.reduceMul, Int.reduceMod, Int.reduceDiv, reduceCtorEq, Nat.reducePow, Int.reducePow, ac_ref8_Digests_L0, h1, h2, c0, c1, sumA_eq0, sumA_eq1, List.map_nil, List.map_cons, List.map_nil]
  · have hdig : digB bk data = [[], sum256 data] := by rw [digB, o0, o1]; rfl
    rw [hdig]
    refine loop_upto 2 (fun k => match k with | 0 => [(1, .t (.sl (data.map byteT))), (2, .ref 4096 0 0), (5, .sl 8192 0 2), (6, .t (.int .i64 0))] | 1 => [(1, .t (.sl (data.map byteT))), (2, .ref 4096 0 0), (5, .sl 8192 0 2), (6, .t (.int .i64 1))] | _ => [(1, .t (.sl (data.map byteT))), (2, .ref 4096 0 0), (5, .sl 8192 0 2), (6, .t (.int .i64 2))]) (fun k => match k with | 0 => [(8192, .live 1 [.t (bsT []), .t (bsT [])] true false), (4096, .live 2 [.t (regT bk u)] true true)] | 1 => [(8192, .live 1 [.t (bsT ([])), .t (bsT [])] true false), (4096, .live 2 [.t (regT bk u)] true true)] | _ => [(8192, .live 1 [.t (bsT ([])), .t (bsT (sum256 data))] true false), (4096, .live 2 [.t (regT bk u)] true true)]) ?_ (fun k hk2 => ?_)
    · refine Weak.rd id ?_ ?_ rfl
      all_goals simp (config := { maxSteps := 2000000 }) (disch := (first | omega | (simp only [lens, lenm]; omega))) only [go_sem, ↓reduceIte, Nat.reduceAdd, Nat.reduceEqDiff, Nat.reduceSub, Nat.reduceMul, Nat.reduceLT, Nat.reduceLeDiff, Nat.reduceBEq, Int.reduceEq, Int.reduceLT, Int.reduceLE, Int.reduceToNat, Int.reduceNeg, Int.reduceAdd, Int.reduceSub, Int.reduceMul, Int.reduceMod, Int.reduceDiv, reduceCtorEq, Nat.reducePow, Int.reducePow, id, List.map_nil]
    · rcases (show k = 0 ∨ k = 1 ∨ k = 2 by omega) with rfl | rfl | rfl
      · simp (config := { maxSteps := 2000000 }) (disch := (first | omega | (simp only [lens, lenm]; omega))) only [go_sem, ↓reduceIte, Nat.reduceAdd, Nat.reduceEqDiff, Nat.reduceSub, Nat.reduceMul, Nat.reduceLT, Nat.reduceLeDiff, Nat.reduceBEq, Int.reduceEq, Int.reduceLT, Int.reduceLE, Int.reduceToNat, Int.reduceNeg, Int.reduceAdd, Int.reduceSub, Int.reduceMul, Int.reduceMod, Int.reduceDiv, reduceCtorEq, Nat.reducePow, Int.reducePow, ac_ref8_Digests_L0, h1, h2, c0, c1, sumA_eq0, sumA_eq1, List.map_nil]
        refine Weak.rd id ?_ ?_ rfl
        all_goals simp (config := { maxSteps := 2000000 }) (disch := (first | omega | (simp only [lens, lenm]; omega))) only [go_sem, ↓reduceIte, Nat.reduceAdd, Nat.reduceEqDiff, Nat.reduceSub, Nat.reduceMul, Nat.reduceLT, Nat.reduceLeDiff, Nat.reduceBEq, Int.reduceEq, Int.reduceLT, Int.reduceLE, Int.reduceToNat, Int.reduceNeg, Int.reduceAdd, Int.reduceSub, Int.reduceMul, Int.reduceMod, Int.reduceDiv, reduceCtorEq, Nat.reducePow, Int.reducePow, id, List.map_nil]
      · simp (config := { maxSteps := 2000000 }) (disch := (first | omega | (simp only [lens, lenm]; omega))) only [go_sem, ↓reduceIte, Nat.reduceAdd, Nat.reduceEqDiff, Nat.reduceSub, Nat.reduceMul, Nat.reduceLT, Nat.reduceLeDiff, Nat.reduceBEq, Int.reduceEq, Int.reduceLT, Int.reduceLE, Int.reduceToNat, Int.reduceNeg, Int.reduceAdd, Int.reduceSub, Int.reduceMul, Int.reduceMod, Int.reduceDiv, reduceCtorEq, Nat.reducePow, Int.reducePow, ac_ref8_Digests_L0, h1, h2, c0, c1, sumA_eq0, sumA_eq1, List.map_nil]
        refine Weak.cv (hv := []) [28736] id ?_ rfl
        simp (config := { maxSteps := 2000000 }) (disch := (first | omega | (simp only [lens, lenm]; omega))) only [go_sem, ↓reduceIte, Nat.reduceAdd, Nat.reduceEqDiff, Nat.reduceSub, Nat.reduceMul, Nat.reduceLT, Nat.reduceLeDiff, Nat.reduceBEq, Int.reduceEq, Int.reduceLT, Int.reduceLE, Int.reduceToNat, Int.reduceNeg, Int.reduceAdd, Int.reduceSub, Int.reduceMul, Int.reduceMod, Int.reduceDiv, reduceCtorEq, Nat.reducePow, Int.reducePow, id, take_sum1, take_sum256, List.map_nil, sum1_length, sum256_length]
        all_goals rfl
      · simp (config := { maxSteps := 2000000 }) (disch := (first | omega | (simp only [lens, lenm]; omega))) only [go_sem, ↓reduceIte, Nat.reduceAdd, Nat.reduceEqDiff, Nat.reduceSub, Nat.reduceMul, Nat.reduceLT, Nat.reduceLeDiff, Nat.reduceBEq, Int.reduceEq, Int.reduceLT, Int.reduceLE, Int.reduceToNat, Int.reduceNeg, Int.reduceAdd, Int.reduceSub, Int.reduceMul, Int.reduceMod, Int.reduceDiv, reduceCtorEq, Nat.reducePow, Int.reducePow, ac_ref8_Digests_L0, h1, h2, c0, c1, sumA_eq0, sumA_eq1, List.map_nil, List.map_cons, List.map_nil]
  · have hdig : digB bk data = [sum1 data, []] := by rw [digB, o0, o1]; rfl
    rw [hdig]
    refine loop_upto 2 (fun k => match k with | 0 => [(1, .t (.sl (data.map byteT))), (2, .ref 4096 0 0), (5, .sl 8192 0 2), (6, .t (.int .i64 0))] | 1 => [(1, .t (.sl (data.map byteT))), (2, .ref 4096 0 0), (5, .sl 8192 0 2), (6, .t (.int .i64 1))] | _ => [(1, .t (.sl (data.map byteT))), (2, .ref 4096 0 0), (5, .sl 8192 0 2), (6, .t (.int .i64 2))]) (fun k => match k with | 0 => [(8192, .live 1 [.t (bsT []), .t (bsT [])] true false), (4096, .live 2 [.t (regT bk u)] true true)] | 1 => [(8192, .live 1 [.t (bsT (sum1 data)), .t (bsT [])] true false), (4096, .live 2 [.t (regT bk u)] true true)] | _ => [(8192, .live 1 [.t (bsT (sum1 data)), .t (bsT ([]))] true false), (4096, .live 2 [.t (regT bk u)] true true)]) ?_ (fun k hk2 => ?_)
    · refine Weak.rd id ?_ ?_ rfl
      all_goals simp (config := { maxSteps := 2000000 }) (disch := (first | omega | (simp only [lens, lenm]; omega))) only [go_sem, ↓reduceIte, Nat.reduceAdd, Nat.reduceEqDiff, Nat.reduceSub, Nat.reduceMul, Nat.reduceLT, Nat.reduceLeDiff, Nat.reduceBEq, Int.reduceEq, Int.reduceLT, Int.reduceLE, Int.reduceToNat, Int.reduceNeg, Int.reduceAdd, Int.reduceSub, Int.reduceMul, Int.reduceMod, Int.reduceDiv, reduceCtorEq, Nat.reducePow, Int.reducePow, id, List.map_nil]
    · rcases (show k = 0 ∨ k = 1 ∨ k = 2 by omega) with rfl | rfl | rfl
      · simp (config := { maxSteps := 2000000 }) (disch := (first | omega | (simp only [lens, lenm]; omega))) only [go_sem, ↓reduceIte, Nat.reduceAdd, Nat.reduceEqDiff, Nat.reduceSub, Nat.reduceMul, Nat.reduceLT, Nat.reduceLeDiff, Nat.reduceBEq, Int.reduceEq, Int.reduceLT, Int.reduceLE, Int.reduceToNat, Int.reduceNeg, Int.reduceAdd, Int.reduceSub, Int.reduceMul, Int.reduceMod, Int.reduceDiv, reduceCtorEq, Nat.reducePow, Int.reducePow, ac_ref8_Digests_L0, h1, h2, c0, c1, sumA_eq0, sumA_eq1, List.map_nil]
        refine Weak.cv (hv := []) [28736] id ?_ rfl
        simp (config := { maxSteps := 2000000 }) (disch := (first | omega | (simp only [lens, lenm]; omega))) only [go_sem, ↓reduceIte, Nat.reduceAdd, Nat.reduceEqDiff, Nat.reduceSub, Nat.reduceMul, Nat.reduceLT, Nat.reduceLeDiff, Nat.reduceBEq, Int.reduceEq, Int.reduceLT, Int.reduceLE, Int.reduceToNat, Int.reduceNeg, Int.reduceAdd, Int.reduceSub, Int.reduceMul, Int.reduceMod, Int.reduceDiv, reduceCtorEq, Nat.reducePow, Int.reducePow, id, take_sum1, take_sum256, List.map_nil, sum1_length, sum256_length]
        all_goals rfl
      · simp (config := { maxSteps := 2000000 }) (disch := (first | omega | (simp only [lens, lenm]; omega))) only [go_sem, ↓reduceIte, Nat.reduceAdd, Nat.reduceEqDiff, Nat.reduceSub, Nat.reduceMul, Nat.reduceLT, Nat.reduceLeDiff, Nat.reduceBEq, Int.reduceEq, Int.reduceLT, Int.reduceLE, Int.reduceToNat, Int.reduceNeg, Int.reduceAdd, Int.reduceSub, Int.reduceMul, Int.reduceMod, Int.reduceDiv, reduceCtorEq, Nat.reducePow, Int.reducePow, ac_ref8_Digests_L0, h1, h2, c0, c1, sumA_eq0, sumA_eq1, List.map_nil]
        refine Weak.rd id ?_ ?_ rfl
        all_goals simp (config := { maxSteps := 2000000 }) (disch := (first | omega | (simp only [lens, lenm]; omega))) only [go_sem, ↓reduceIte, Nat.reduceAdd, Nat.reduceEqDiff, Nat.reduceSub, Nat.reduceMul, Nat.reduceLT, Nat.reduceLeDiff, Nat.reduceBEq, Int.reduceEq, Int.reduceLT, Int.reduceLE, Int.reduceToNat, Int.reduceNeg, Int.reduceAdd, Int.reduceSub, Int.reduceMul, Int.reduceMod, Int.reduceDiv, reduceCtorEq, Nat.reducePow, Int.reducePow, id, List.map_nil]
      · simp (config := { maxSteps := 2000000 }) (disch := (first | omega | (simp only [lens, lenm]; omega))) only [go_sem, ↓reduceIte, Nat.reduceAdd, Nat.reduceEqDiff, Nat.reduceSub, Nat.reduceMul, Nat.reduceLT, Nat.reduceLeDiff, Nat.reduceBEq, Int.reduceEq, Int.reduceLT, Int.reduceLE, Int.reduceToNat, Int.reduceNeg, Int.reduceAdd, Int.reduceSub, Int.reduceMul, Int.reduceMod, Int.reduceDiv, reduceCtorEq, Nat.reducePow, Int.reducePow, ac_ref8_Digests_L0, h1, h2, c0, c1, sumA_eq0, sumA_eq1, List.map_nil, List.map_cons, List.map_nil]
  · have hdig : digB bk data = [sum1 data, sum256 data] := by rw [digB, o0, o1]; rfl
    rw [hdig]
    refine loop_upto 2 (fun k => match k with | 0 => [(1, .t (.sl (data.map byteT))), (2, .ref 4096 0 0), (5, .sl 8192 0 2), (6, .t (.int .i64 0))] | 1 => [(1, .t (.sl (data.map byteT))), (2, .ref 4096 0 0), (5, .sl 8192 0 2), (6, .t (.int .i64 1))] | _ => [(1, .t (.sl (data.map byteT))), (2, .ref 4096 0 0), (5, .sl 8192 0 2), (6, .t (.int .i64 2))]) (fun k => match k with | 0 => [(8192, .live 1 [.t (bsT []), .t (bsT [])] true false), (4096, .live 2 [.t (regT bk u)] true true)] | 1 => [(8192, .live 1 [.t (bsT (sum1 data)), .t (bsT [])] true false), (4096, .live 2 [.t (regT bk u)] true true)] | _ => [(8192, .live 1 [.t (bsT (sum1 data)), .t (bsT (sum256 data))] true false), (4096, .live 2 [.t (regT bk u)] true true)]) ?_ (fun k hk2 => ?_)
    · refine Weak.rd id ?_ ?_ rfl
      all_goals simp (config := { maxSteps := 2000000 }) (disch := (first | omega | (simp only [lens, lenm]; omega))) only [go_sem, ↓reduceIte, Nat.reduceAdd, Nat.reduceEqDiff, Nat.reduceSub, Nat.reduceMul, Nat.reduceLT, Nat.reduceLeDiff, Nat.reduceBEq, Int.reduceEq, Int.reduceLT, Int.reduceLE, Int.reduceToNat, Int.reduceNeg, Int.reduceAdd, Int.reduceSub, Int.reduceMul, Int.reduceMod, Int.reduceDiv, reduceCtorEq, Nat.reducePow, Int.reducePow, id, List.map_nil]
    · rcases (show k = 0 ∨ k = 1 ∨ k = 2 by omega) with rfl | rfl | rfl
      · simp (config := { maxSteps := 2000000 }) (disch := (first | omega | (simp only [lens, lenm]; omega))) only [go_sem, ↓reduceIte, Nat.reduceAdd, Nat.reduceEqDiff, Nat.reduceSub, Nat.reduceMul, Nat.reduceLT, Nat.reduceLeDiff, Nat.reduceBEq, Int.reduceEq, Int.reduceLT, Int.reduceLE, Int.reduceToNat, Int.reduceNeg, Int.reduceAdd, Int.reduceSub, Int.reduceMul, Int.reduceMod, Int.reduceDiv, reduceCtorEq, Nat.reducePow, Int.reducePow, ac_ref8_Digests_L0, h1, h2, c0, c1, sumA_eq0, sumA_eq1, List.map_nil]
        refine Weak.cv (hv := []) [28736] id ?_ rfl
        simp (config := { maxSteps := 2000000 }) (disch := (first | omega | (simp only [lens, lenm]; omega))) only [go_sem, ↓reduceIte, Nat.reduceAdd, Nat.reduceEqDiff, Nat.reduceSub, Nat.reduceMul, Nat.reduceLT, Nat.reduceLeDiff, Nat.reduceBEq, Int.reduceEq, Int.reduceLT, Int.reduceLE, Int.reduceToNat, Int.reduceNeg, Int.reduceAdd, Int.reduceSub, Int.reduceMul, Int.reduceMod, Int.reduceDiv, reduceCtorEq, Nat.reducePow, Int.reducePow, id, take_sum1, take_sum256, List.map_nil, sum1_length, sum256_length]
        all_goals rfl
      · simp (config := { maxSteps := 2000000 }) (disch := (first | omega | (simp only [lens, lenm]; omega))) only [go_sem, ↓reduceIte, Nat.reduceAdd, Nat.reduceEqDiff, Nat.reduceSub, Nat.reduceMul, Nat.reduceLT, Nat.reduceLeDiff, Nat.reduceBEq, Int.reduceEq, Int.reduceLT, Int.reduceLE, Int.reduceToNat, Int.reduceNeg, Int.reduceAdd, Int.reduceSub, Int.reduceMul, Int.reduceMod, Int.reduceDiv, reduceCtorEq, Nat.reducePow, Int.reducePow, ac_ref8_Digests_L0, h1, h2, c0, c1, sumA_eq0, sumA_eq1, List.map_nil]
        refine Weak.cv (hv := []) [28736] id ?_ rfl
        simp (config := { maxSteps := 2000000 }) (disch := (first | omega | (simp only [lens, lenm]; omega))) only [go_sem, ↓reduceIte, Nat.reduceAdd, Nat.reduceEqDiff, Nat.reduceSub, Nat.reduceMul, Nat.reduceLT, Nat.reduceLeDiff, Nat.reduceBEq, Int.reduceEq, Int.reduceLT, Int.reduceLE, Int.reduceToNat, Int.reduceNeg, Int.reduceAdd, Int.reduceSub, Int.reduceMul, Int.reduceMod, Int.reduceDiv, reduceCtorEq, Nat.reducePow, Int.reducePow, id, take_sum1, take_sum256, List.map_nil, sum1_length, sum256_length]
        all_goals rfl
      · simp (config := { maxSteps := 2000000 }) (disch := (first | omega | (simp only [lens, lenm]; omega))) only [go_sem, ↓reduceIte, Nat.reduceAdd, Nat.reduceEqDiff, Nat.reduceSub, Nat.reduceMul, Nat.reduceLT, Nat.reduceLeDiff, Nat.reduceBEq, Int.reduceEq, Int.reduceLT, Int.reduceLE, Int.reduceToNat, Int.reduceNeg, Int.reduceAdd, Int.reduceSub, Int.reduceMul, Int.reduceMod, Int.reduceDiv, reduceCtorEq, Nat.reducePow, Int.reducePow, ac_ref8_Digests_L0, h1, h2, c0, c1, sumA_eq0, sumA_eq1, List.map_nil, List.map_cons, List.map_nil]
def ct_dig : Ct where
  α := List Bank × Int × List UInt8
  as x := [.t (regT x.1 x.2.1), .t (.sl (x.2.2.map byteT))]
  ins _ := []
  pre x := RK x.1 ∧ x.2.2.length < 1000000000
  r x := .t (.sl ((digB x.1 x.2.2).map bsT))
  outs _ := []
  inj := by
    rintro ⟨a, u, d⟩ ⟨b, v, d'⟩ h _
    simp only [List.cons.injEq, V.t.injEq, T.sl.injEq, and_true, mapB_inj] at h
    obtain ⟨h1, rfl⟩ := h
    obtain ⟨rfl, rfl⟩ := regT_inj h1
    exact ⟨rfl, rfl⟩
theorem w_registers_Event (tab : Tab) (gl : Gl) (n1 n2 n3 : Nat) (h1 : tab.look n1 = some ct_on.fs) (h2 : tab.look n2 = some ct_sumA.fs) (h3 : tab.look n3 = some ct_ext.fs) (bk : List Bank) (u loc i : Int) (data : List UInt8) (hk : RV bk) (hu : 0 ≤ u ∧ u < 1000000000) (hd : data.length < 1000000000) :
    (ac_registers_Event n1 n2 n3).wp tab gl (zipF 0 [.t (regT bk u), .t (.int .i64 loc), .t (.int .i64 i), .t (.sl (data.map byteT))]) (zipF 0 []) (resW [(8, some (2, true)), (9, none)] 0 (fun r o => r = evR bk u loc i data ∧ o = [])) := by
  have c0 := on_eq (u := u) (a := 0) hk.1 (by omega)
  have c1 := on_eq (u := u) (a := 1) hk.1 (by omega)
  rw [show ((0 : Nat) : Int) = 0 from rfl] at c0
  rw [show ((1 : Nat) : Int) = 1 from rfl] at c1
  by_cases hl : 128 < data.length
  · simp (config := { maxSteps := 2000000 }) (disch := (first | omega | (simp only [lens, lenm]; omega))) only [go_sem, ↓reduceIte, Nat.reduceAdd, Nat.reduceEqDiff, Nat.reduceSub, Nat.reduceMul, Nat.reduceLT, Nat.reduceLeDiff, Nat.reduceBEq, Int.reduceEq, Int.reduceLT, Int.reduceLE, Int.reduceToNat, Int.reduceNeg, Int.reduceAdd, Int.reduceSub, Int.reduceMul, Int.reduceMod, Int.reduceDiv, reduceCtorEq, Nat.reducePow, Int.reducePow, ac_registers_Event, evR, hl, List.map_nil]
  rw [evR, if_neg hl]
  have hx := ext_eq (bk := bk) (u := u) (loc := loc) (i := i) (ds := digB bk data) ⟨hk, hu, digB_pre.1, digB_pre.2⟩
  obtain ⟨bk', u', e, he⟩ := extR_shape (bk := bk) (u := u) (loc := loc) (i := i) (ds := digB bk data)
  rw [he] at hx
  rw [he]
  simp (config := { maxSteps := 2000000 }) (disch := (first | omega | (simp only [lens, lenm]; omega))) only [go_sem, ↓reduceIte, Nat.reduceAdd, Nat.reduceEqDiff, Nat.reduceSub, Nat.reduceMul, Nat.reduceLT, Nat.reduceLeDiff, Nat.reduceBEq, Int.reduceEq, Int.reduceLT, Int.reduceLE, Int.reduceToNat, Int.reduceNeg, Int.reduceAdd, Int.reduceSub, Int.reduceMul, Int.reduceMod, Int.reduceDiv, reduceCtorEq, Nat.reducePow, Int.reducePow, ac_registers_Event]
  cases o0 : onB bk 0 <;> cases o1 : onB bk 1 <;> rw [o0] at c0 <;> rw [o1] at c1
  · have hdig : digB bk data = [[], []] := by rw [digB, o0, o1]; rfl
    have hx' := hx
    rw [hdig] at hx'
    simp only [List.map_cons, List.map_nil, bsT_def] at hx'
    refine loop_upto 2 (fun k => match k with | 0 => [(1, .t (.int .i64 loc)), (2, .t (.int .i64 i)), (3, .t (.sl (data.map byteT))), (4, .ref 4096 0 0), (8, .ref 4112 0 0), (10, .sl 16384 0 2), (18, .t (.int .i64 2)), (19, .t (.int .i64 0))] | 1 => [(1, .t (.int .i64 loc)), (2, .t (.int .i64 i)), (3, .t (.sl (data.map byteT))), (4, .ref 4096 0 0), (8, .ref 4112 0 0), (10, .sl 16384 0 2), (18, .t (.int .i64 2)), (19, .t (.int .i64 1))] | _ => [(1, .t (.int .i64 loc)), (2, .t (.int .i64 i)), (3, .t (.sl (data.map byteT))), (4, .ref 4096 0 0), (8, .ref 4112 0 0), (10, .sl 16384 0 2), (18, .t (.int .i64 2)), (19, .t (.int .i64 2))]) (fun k => match k with | 0 => [(16384, .live 1 [.t (bsT []), .t (bsT [])] true false), (4112, .live 2 [.agg [.nil, .t (.int .i64 0)]] true true), (4096, .live 2 [.t (regT bk u)] true true)] | 1 => [(16384, .live 1 [.t (bsT ([])), .t (bsT [])] true false), (4112, .live 2 [.agg [.nil, .t (.int .i64 0)]] true true), (4096, .live 2 [.t (regT bk u)] true true)] | _ => [(16384, .live 1 [.t (bsT ([])), .t (bsT ([]))] true false), (4112, .live 2 [.agg [.nil, .t (.int .i64 0)]] true true), (4096, .live 2 [.t (regT bk u)] true true)]) ?_ (fun k hk2 => ?_)
    · refine Weak.rd id ?_ ?_ rfl
      all_goals simp (config := { maxSteps := 2000000 }) (disch := (first | omega | (simp only [lens, lenm]; omega))) only [go_sem, ↓reduceIte, Nat.reduceAdd, Nat.reduceEqDiff, Nat.reduceSub, Nat.reduceMul, Nat.reduceLT, Nat.reduceLeDiff, Nat.reduceBEq, Int.reduceEq, Int.reduceLT, Int.reduceLE, Int.reduceToNat, Int.reduceNeg, Int.reduceAdd, Int.reduceSub, Int.reduceMul, Int.reduceMod, Int.reduceDiv, reduceCtorEq, Nat.reducePow, Int.reducePow, id, List.map_nil]
    · rcases (show k = 0 ∨ k = 1 ∨ k = 2 by omega) with rfl | rfl | rfl
      · simp (config := { maxSteps := 2000000 }) (disch := (first | omega | (simp only [lens, lenm]; omega))) only [go_sem, ↓reduceIte, Nat.reduceAdd, Nat.reduceEqDiff, Nat.reduceSub, Nat.reduceMul, Nat.reduceLT, Nat.reduceLeDiff, Nat.reduceBEq, Int.reduceEq, Int.reduceLT, Int.reduceLE, Int.reduceToNat, Int.reduceNeg, Int.reduceAdd, Int.reduceSub, Int.reduceMul, Int.reduceMod, Int.reduceDiv, reduceCtorEq, Nat.reducePow, Int.reducePow, ac_registers_Event_L0, h1, h2, c0, c1, sumA_eq0, sumA_eq1, List.map_nil]
        refine Weak.rd id ?_ ?_ rfl
        all_goals simp (config := { maxSteps := 2000000 }) (disch := (first | omega | (simp only [lens, lenm]; omega))) only [go_sem, ↓reduceIte, Nat.reduceAdd, Nat.reduceEqDiff, Nat.reduceSub, Nat.reduceMul, Nat.reduceLT, Nat.reduceLeDiff, Nat.reduceBEq, Int.reduceEq, Int.reduceLT, Int.reduceLE, Int.reduceToNat, Int.reduceNeg, Int.reduceAdd, Int.reduceSub, Int.reduceMul, Int.reduceMod, Int.reduceDiv, reduceCtorEq, Nat.reducePow, Int.reducePow, id, List.map_nil]
      · simp (config := { maxSteps := 2000000 }) (disch := (first | omega | (simp only [lens, lenm]; omega))) only [go_sem, ↓reduceIte, Nat.reduceAdd, Nat.reduceEqDiff, Nat.reduceSub, Nat.reduceMul, Nat.reduceLT, Nat.reduceLeDiff, Nat.reduceBEq, Int.reduceEq, Int.reduceLT, Int.reduceLE, Int.reduceToNat, Int.reduceNeg, Int.reduceAdd, Int.reduceSub, Int.reduceMul, Int.reduceMod, Int.reduceDiv, reduceCtorEq, Nat.reducePow, Int.reducePow, ac_registers_Event_L0, h1, h2, c0, c1, sumA_eq0, sumA_eq1, List.map_nil]
        refine Weak.rd id ?_ ?_ rfl
        all_goals simp (config := { maxSteps := 2000000 }) (disch := (first | omega | (simp only [lens, lenm]; omega))) only [go_sem, ↓reduceIte, Nat.reduceAdd, Nat.reduceEqDiff, Nat.reduceSub, Nat.reduceMul, Nat.reduceLT, Nat.reduceLeDiff, Nat.reduceBEq, Int.reduceEq, Int.reduceLT, Int.reduceLE, Int.reduceToNat, Int.reduceNeg, Int.reduceAdd, Int.reduceSub, Int.reduceMul, Int.reduceMod, Int.reduceDiv, reduceCtorEq, Nat.reducePow, Int.reducePow, id, List.map_nil]
      · simp (config := { maxSteps := 2000000 }) (disch := (first | omega | (simp only [lens, lenm]; omega))) only [go_sem, ↓reduceIte, Nat.reduceAdd, Nat.reduceEqDiff, Nat.reduceSub, Nat.reduceMul, Nat.reduceLT, Nat.reduceLeDiff, Nat.reduceBEq, Int.reduceEq, Int.reduceLT, Int.reduceLE, Int.reduceToNat, Int.reduceNeg, Int.reduceAdd, Int.reduceSub, Int.reduceMul, Int.reduceMod, Int.reduceDiv, reduceCtorEq, Nat.reducePow, Int.reducePow, ac_registers_Event_L0, h1, h2, c0, c1, sumA_eq0, sumA_eq1, List.map_nil, List.map_cons, h3, hx']
  · have hdig : digB bk data = [[], sum256 data] := by rw [digB, o0, o1]; rfl
    have hx' := hx
    rw [hdig] at hx'
    simp only [List.map_cons, List.map_nil, bsT_def] at hx'
    refine loop_upto 2 (fun k => match k with | 0 => [(1, .t (.int .i64 loc)), (2, .t (.int .i64 i)), (3, .t (.sl (data.map byteT))), (4, .ref 4096 0 0), (8, .ref 4112 0 0), (10, .sl 16384 0 2), (18, .t (.int .i64 2)), (19, .t (.int .i64 0))] | 1 => [(1, .t (.int .i64 loc)), (2, .t (.int .i64 i)), (3, .t (.sl (data.map byteT))), (4, .ref 4096 0 0), (8, .ref 4112 0 0), (10, .sl 16384 0 2), (18, .t (.int .i64 2)), (19, .t (.int .i64 1))] | _ => [(1, .t (.int .i64 loc)), (2, .t (.int .i64 i)), (3, .t (.sl (data.map byteT))), (4, .ref 4096 0 0), (8, .ref 4112 0 0), (10, .sl 16384 0 2), (18, .t (.int .i64 2)), (19, .t (.int .i64 2))]) (fun k => match k with | 0 => [(16384, .live 1 [.t (bsT []), .t (bsT [])] true false), (4112, .live 2 [.agg [.nil, .t (.int .i64 0)]] true true), (4096, .live 2 [.t (regT bk u)] true true)] | 1 => [(16384, .live 1 [.t (bsT ([])), .t (bsT [])] true false), (4112, .live 2 [.agg [.nil, .t (.int .i64 0)]] true true), (4096, .live 2 [.t (regT bk u)] true true)] | _ => [(16384, .live 1 [.t (bsT ([])), .t (bsT (sum256 data))] true false), (4112, .live 2 [.agg [.nil, .t (.int .i64 0)]] true true), (4096, .live 2 [.t (regT bk u)] true true)]) ?_ (fun k hk2 => ?_)
    · refine Weak.rd id ?_ ?_ rfl
      all_goals simp (config := { maxSteps := 2000000 }) (disch := (first | omega | (simp only [lens, lenm]; omega))) only [go_sem, ↓reduceIte, Nat.reduceAdd, Nat.reduceEqDiff, Nat.reduceSub, Nat.reduceMul, Nat.reduceLT, Nat.reduceLeDiff, Nat.reduceBEq, Int.reduceEq, Int.reduceLT, Int.reduceLE, Int.reduceToNat, Int.reduceNeg, Int.reduceAdd, Int.reduceSub, Int.reduceMul, Int.reduceMod, Int.reduceDiv, reduceCtorEq, Nat.reducePow, Int.reducePow, id, List.map_nil]
    · rcases (show k = 0 ∨ k = 1 ∨ k = 2 by omega) with rfl | rfl | rfl
      · simp (config := { maxSteps := 2000000 }) (disch := (first | omega | (simp only [lens, lenm]; omega))) only [go_sem, ↓reduceIte, Nat.reduceAdd, Nat.reduceEqDiff, Nat.reduceSub, Nat.reduceMul, Nat.reduceLT, Nat.reduceLeDiff, Nat.reduceBEq, Int.reduceEq, Int.reduceLT, Int.reduceLE, Int.reduceToNat, Int.reduceNeg, Int.reduceAdd, Int.reduceSub, Int.reduceMul, Int.reduceMod, Int.reduceDiv, reduceCtorEq, Nat.reducePow, Int.reducePow, ac_registers_Event_L0, h1, h2, c0, c1, sumA_eq0, sumA_eq1, List.map_nil]
        refine Weak.rd id ?_ ?_ rfl
        all_goals simp (config := { maxSteps := 2000000 }) (disch := (first | omega | (simp only [lens, lenm]; omega))) only [go_sem, ↓reduceIte, Nat.reduceAdd, Nat.reduceEqDiff, Nat.reduceSub, Nat.reduceMul, Nat.reduceLT, Nat.reduceLeDiff, Nat.reduceBEq, Int.reduceEq, Int.reduceLT, Int.reduceLE, Int.reduceToNat, Int.reduceNeg, Int.reduceAdd, Int.reduceSub, Int.reduceMul, Int.reduceMod, Int.reduceDiv, reduceCtorEq, Nat.reducePow, Int.reducePow, id, List.map_nil]
      · simp (config := { maxSteps := 2000000 }) (disch := (first | omega | (simp only [lens, lenm]; omega))) only [go_sem, ↓reduceIte, Nat.reduceAdd, Nat.reduceEqDiff, Nat.reduceSub, Nat.reduceMul, Nat.reduceLT, Nat.reduceLeDiff, Nat.reduceBEq, Int.reduceEq, Int.reduceLT, Int.reduceLE, Int.reduceToNat, Int.reduceNeg, Int.reduceAdd, Int.reduceSub, Int.reduceMul, Int.reduceMod, Int.reduceDiv, reduceCtorEq, Nat.reducePow, Int.reducePow, ac_registers_Event_L0, h1, h2, c0, c1, sumA_eq0, sumA_eq1, List.map_nil]
        refine Weak.cv (hv := []) [36928] id ?_ rfl
        simp (config := { maxSteps := 2000000 }) (disch := (first | omega | (simp only [lens, lenm]; omega))) only [go_sem, ↓reduceIte, Nat.reduceAdd, Nat.reduceEqDiff, Nat.reduceSub, Nat.reduceMul, Nat.reduceLT, Nat.reduceLeDiff, Nat.reduceBEq, Int.reduceEq, Int.reduceLT, Int.reduceLE, Int.reduceToNat, Int.reduceNeg, Int.reduceAdd, Int.reduceSub, Int.reduceMul, Int.reduceMod, Int.reduceDiv, reduceCtorEq, Nat.reducePow, Int.reducePow, id, take_sum1, take_sum256, List.map_nil, sum1_length, sum256_length]
        all_goals rfl
      · simp (config := { maxSteps := 2000000 }) (disch := (first | omega | (simp only [lens, lenm]; omega))) only [go_sem, ↓reduceIte, Nat.reduceAdd, Nat.reduceEqDiff, Nat.reduceSub, Nat.reduceMul, Nat.reduceLT, Nat.reduceLeDiff, Nat.reduceBEq, Int.reduceEq, Int.reduceLT, Int.reduceLE, Int.reduceToNat, Int.reduceNeg, Int.reduceAdd, Int.reduceSub, Int.reduceMul, Int.reduceMod, Int.reduceDiv, reduceCtorEq, Nat.reducePow, Int.reducePow, ac_registers_Event_L0, h1, h2, c0, c1, sumA_eq0, sumA_eq1, List.map_nil, List.map_cons, h3, hx']
  · have hdig : digB bk data = [sum1 data, []] := by rw [digB, o0, o1]; rfl
    have hx' := hx
    rw [hdig] at hx'
    simp only [List.map_cons, List.map_nil, bsT_def] at hx'
    refine loop_upto 2 (fun k => match k with | 0 => [(1, .t (.int .i64 loc)), (2, .t (.int .i64 i)), (3, .t (.sl (data.map byteT))), (4, .ref 4096 0 0), (8, .ref 4112 0 0), (10, .sl 16384 0 2), (18, .t (.int .i64 2)), (19, .t (.int .i64 0))] | 1 => [(1, .t (.int .i64 loc)), (2, .t (.int .i64 i)), (3, .t (.sl (data.map byteT))), (4, .ref 4096 0 0), (8, .ref 4112 0 0), (10, .sl 16384 0 2), (18, .t (.int .i64 2)), (19, .t (.int .i64 1))] | _ => [(1, .t (.int .i64 loc)), (2, .t (.int .i64 i)), (3, .t (.sl (data.map byteT))), (4, .ref 4096 0 0), (8, .ref 4112 0 0), (10, .sl 16384 0 2), (18, .t (.int .i64 2)), (19, .t (.int .i64 2))]) (fun k => match k with | 0 => [(16384, .live 1 [.t (bsT []), .t (bsT [])] true false), (4112, .live 2 [.agg [.nil, .t (.int .i64 0)]] true true), (4096, .live 2 [.t (regT bk u)] true true)] | 1 => [(16384, .live 1 [.t (bsT (sum1 data)), .t (bsT [])] true false), (4112, .live 2 [.agg [.nil, .t (.int .i64 0)]] true true), (4096, .live 2 [.t (regT bk u)] true true)] | _ => [(16384, .live 1 [.t (bsT (sum1 data)), .t (bsT ([]))] true false), (4112, .live 2 [.agg [.nil, .t (.int .i64 0)]] true true), (4096, .live 2 [.t (regT bk u)] true true)]) ?_ (fun k hk2 => ?_)
    · refine Weak.rd id ?_ ?_ rfl
      all_goals simp (config := { maxSteps := 2000000 }) (disch := (first | omega | (simp only [lens, lenm]; omega))) only [go_sem, ↓reduceIte, Nat.reduceAdd, Nat.reduceEqDiff, Nat.reduceSub, Nat.reduceMul, Nat.reduceLT, Nat.reduceLeDiff, Nat.reduceBEq, Int.reduceEq, Int.reduceLT, Int.reduceLE, Int.reduceToNat, Int.reduceNeg, Int.reduceAdd, Int.reduceSub, Int.reduceMul, Int.reduceMod, Int.reduceDiv, reduceCtorEq, Nat.reducePow, Int.reducePow, id, List.map_nil]
    · rcases (show k = 0 ∨ k = 1 ∨ k = 2 by omega) with rfl | rfl | rfl
      · simp (config := { maxSteps := 2000000 }) (disch := (first | omega | (simp only [lens, lenm]; omega))) only [go_sem, ↓reduceIte, Nat.reduceAdd, Nat.reduceEqDiff, Nat.reduceSub, Nat.reduceMul, Nat.reduceLT, Nat.reduceLeDiff, Nat.reduceBEq, Int.reduceEq, Int.reduceLT, Int.reduceLE, Int.reduceToNat, Int.reduceNeg, Int.reduceAdd, Int.reduceSub, Int.reduceMul, Int.reduceMod, Int.reduceDiv, reduceCtorEq, Nat.reducePow, Int.reducePow, ac_registers_Event_L0, h1, h2, c0, c1, sumA_eq0, sumA_eq1, List.map_nil]
        refine Weak.cv (hv := []) [36928] id ?_ rfl
        simp (config := { maxSteps := 2000000 }) (disch := (first | omega | (simp only [lens, lenm]; omega))) only [go_sem, ↓reduceIte, Nat.reduceAdd, Nat.reduceEqDiff, Nat.reduceSub, Nat.reduceMul, Nat.reduceLT, Nat.reduceLeDiff, Nat.reduceBEq, Int.reduceEq, Int.reduceLT, Int.reduceLE, Int.reduceToNat, Int.reduceNeg, Int.reduceAdd, Int.reduceSub, Int.reduceMul, Int.reduceMod, Int.reduceDiv, reduceCtorEq, Nat.reducePow, Int.reducePow, id, take_sum1, take_sum256, List.map_nil, sum1_length, sum256_length]
        all_goals rfl
      · simp (config := { maxSteps := 2000000 }) (disch := (first | omega | (simp only [lens, lenm]; omega))) only [go_sem, ↓reduceIte, Nat.reduceAdd, Nat.reduceEqDiff, Nat.reduceSub, Nat.reduceMul, Nat.reduceLT, Nat.reduceLeDiff, Nat.reduceBEq, Int.reduceEq, Int.reduceLT, Int.reduceLE, Int.reduceToNat, Int.reduceNeg, Int.reduceAdd, Int.reduceSub, Int.reduceMul, Int.reduceMod, Int.reduceDiv, reduceCtorEq, Nat.reducePow, Int.reducePow, ac_registers_Event_L0, h1, h2, c0, c1, sumA_eq0, sumA_eq1, List.map_nil]
        refine Weak.rd id ?_ ?_ rfl
        all_goals simp (config := { maxSteps := 2000000 }) (disch := (first | omega | (simp only [lens, lenm]; omega))) only [go_sem, ↓reduceIte, Nat.reduceAdd, Nat.reduceEqDiff, Nat.reduceSub, Nat.reduceMul, Nat.reduceLT, Nat.reduceLeDiff, Nat.reduceBEq, Int.reduceEq, Int.reduceLT, Int.reduceLE, Int.reduceToNat, Int.reduceNeg, Int.reduceAdd, Int.reduceSub, Int.reduceMul, Int.reduceMod, Int.reduceDiv, reduceCtorEq, Nat.reducePow, Int.reducePow, id, List.map_nil]
      · simp (config := { maxSteps := 2000000 }) (disch := (first | omega | (simp only [lens, lenm]; omega))) only [go_sem, ↓reduceIte, Nat.reduceAdd, Nat.reduceEqDiff, Nat.reduceSub, Nat.reduceMul, Nat.reduceLT, Nat.reduceLeDiff, Nat.reduceBEq, Int.reduceEq, Int.reduceLT, Int.reduceLE, Int.reduceToNat, Int.reduceNeg, Int.reduceAdd, Int.reduceSub, Int.reduceMul, Int.reduceMod, Int.reduceDiv, reduceCtorEq, Nat.reducePow, Int.reducePow, ac_registers_Event_L0, h1, h2, c0, c1, sumA_eq0, sumA_eq1, List.map_nil, List.map_cons, h3, hx']
  · have hdig : digB bk data = [sum1 data, sum256 data] := by rw [digB, o0, o1]; rfl
    have hx' := hx
    rw [hdig] at hx'
    simp only [List.map_cons, List.map_nil, bsT_def] at hx'
    refine loop_upto 2 (fun k => match k with | 0 => [(1, .t (.int .i64 loc)), (2, .t (.int .i64 i)), (3, .t (.sl (data.map byteT))), (4, .ref 4096 0 0), (8, .ref 4112 0 0), (10, .sl 16384 0 2), (18, .t (.int .i64 2)), (19, .t (.int .i64 0))] | 1 => [(1, .t (.int .i64 loc)), (2, .t (.int .i64 i)), (3, .t (.sl (data.map byteT))), (4, .ref 4096 0 0), (8, .ref 4112 0 0), (10, .sl 16384 0 2), (18, .t (.int .i64 2)), (19, .t (.int .i64 1))] | _ => [(1, .t (.int .i64 loc)), (2, .t (.int .i64 i)), (3, .t (.sl (data.map byteT))), (4, .ref 4096 0 0), (8, .ref 4112 0 0), (10, .sl 16384 0 2), (18, .t (.int .i64 2)), (19, .t (.int .i64 2))]) (fun k => match k with | 0 => [(16384, .live 1 [.t (bsT []), .t (bsT [])] true false), (4112, .live 2 [.agg [.nil, .t (.int .i64 0)]] true true), (4096, .live 2 [.t (regT bk u)] true true)] | 1 => [(16384, .live 1 [.t (bsT (sum1 data)), .t (bsT [])] true false), (4112, .live 2 [.agg [.nil, .t (.int .i64 0)]] true true), (4096, .live 2 [.t (regT bk u)] true true)] | _ => [(16384, .live 1 [.t (bsT (sum1 data)), .t (bsT (sum256 data))] true false), (4112, .live 2 [.agg [.nil, .t (.int .i64 0)]] true true), (4096, .live 2 [.t (regT bk u)] true true)]) ?_ (fun k hk2 => ?_)
    · refine Weak.rd id ?_ ?_ rfl
      all_goals simp (config := { maxSteps := 2000000 }) (disch := (first | omega | (simp only [lens, lenm]; omega))) only [go_sem, ↓reduceIte, Nat.reduceAdd, Nat.reduceEqDiff, Nat.reduceSub, Nat.reduceMul, Nat.reduceLT, Nat.reduceLeDiff, Nat.reduceBEq, Int.reduceEq, Int.reduceLT, Int.reduceLE, Int.reduceToNat, Int.reduceNeg, Int.reduceAdd, Int.reduceSub, Int.reduceMul, Int.reduceMod, Int.reduceDiv, reduceCtorEq, Nat.reducePow, Int.reducePow, id, List.map_nil]
    · rcases (show k = 0 ∨ k = 1 ∨ k = 2 by omega) with rfl | rfl | rfl
      · simp (config := { maxSteps := 2000000 }) (disch := (first | omega | (simp only [lens, lenm]; omega))) only [go_sem, ↓reduceIte, Nat.reduceAdd, Nat.reduceEqDiff, Nat.reduceSub, Nat.reduceMul, Nat.reduceLT, Nat.reduceLeDiff, Nat.reduceBEq, Int.reduceEq, Int.reduceLT, Int.reduceLE, Int.reduceToNat, Int.reduceNeg, Int.reduceAdd, Int.reduceSub, Int.reduceMul, Int.reduceMod, Int.reduceDiv, reduceCtorEq, Nat.reducePow, Int.reducePow, ac_registers_Event_L0, h1, h2, c0, c1, sumA_eq0, sumA_eq1, List.map_nil]
        refine Weak.cv (hv := []) [36928] id ?_ rfl
        simp (config := { maxSteps := 2000000 }) (disch := (first | omega | (simp only [lens, lenm]; omega))) only [go_sem, ↓reduceIte, Nat.reduceAdd, Nat.reduceEqDiff, Nat.reduceSub, Nat.reduceMul, Nat.reduceLT, Nat.reduceLeDiff, Nat.reduceBEq, Int.reduceEq, Int.reduceLT, Int.reduceLE, Int.reduceToNat, Int.reduceNeg, Int.reduceAdd, Int.reduceSub, Int.reduceMul, Int.reduceMod, Int.reduceDiv, reduceCtorEq, Nat.reducePow, Int.reducePow, id, take_sum1, take_sum256, List.map_nil, sum1_length, sum256_length]
        all_goals rfl
      · simp (config := { maxSteps := 2000000 }) (disch := (first | omega | (simp only [lens, lenm]; omega))) only [go_sem, ↓reduceIte, Nat.reduceAdd, Nat.reduceEqDiff, Nat.reduceSub, Nat.reduceMul, Nat.reduceLT, Nat.reduceLeDiff, Nat.reduceBEq, Int.reduceEq, Int.reduceLT, Int.reduceLE, Int.reduceToNat, Int.reduceNeg, Int.reduceAdd, Int.reduceSub, Int.reduceMul, Int.reduceMod, Int.reduceDiv, reduceCtorEq, Nat.reducePow, Int.reducePow, ac_registers_Event_L0, h1, h2, c0, c1, sumA_eq0, sumA_eq1, List.map_nil]
        refine Weak.cv (hv := []) [36928] id ?_ rfl
        simp (config := { maxSteps := 2000000 }) (disch := (first | omega | (simp only [lens, lenm]; omega))) only [go_sem, ↓reduceIte, Nat.reduceAdd, Nat.reduceEqDiff, Nat.reduceSub, Nat.reduceMul, Nat.reduceLT, Nat.reduceLeDiff, Nat.reduceBEq, Int.reduceEq, Int.reduceLT, Int.reduceLE, Int.reduceToNat, Int.reduceNeg, Int.reduceAdd, Int.reduceSub, Int.reduceMul, Int.reduceMod, Int.reduceDiv, reduceCtorEq, Nat.reducePow, Int.reducePow, id, take_sum1, take_sum256, List.map_nil, sum1_length, sum256_length]
        all_goals rfl
      · simp (config := { maxSteps := 2000000 }) (disch := (first | omega | (simp only [lens, lenm]; omega))) only [go_sem, ↓reduceIte, Nat.reduceAdd, Nat.reduceEqDiff, Nat.reduceSub, Nat.reduceMul, Nat.reduceLT, Nat.reduceLeDiff, Nat.reduceBEq, Int.reduceEq, Int.reduceLT, Int.reduceLE, Int.reduceToNat, Int.reduceNeg, Int.reduceAdd, Int.reduceSub, Int.reduceMul, Int.reduceMod, Int.reduceDiv, reduceCtorEq, Nat.reducePow, Int.reducePow, ac_registers_Event_L0, h1, h2, c0, c1, sumA_eq0, sumA_eq1, List.map_nil, List.map_cons, h3, hx']
theorem w_ref8_Event (tab : Tab) (gl : Gl) (n1 n2 : Nat) (h1 : tab.look n1 = some ct_dig.fs) (h2 : tab.look n2 = some ct_ext.fs) (bk : List Bank) (u loc i : Int) (data : List UInt8) (hk : RV bk) (hu : 0 ≤ u ∧ u < 1000000000) (hd : data.length < 1000000000) :
    (ac_ref8_Event n1 n2).wp tab gl (zipF 0 [.t (regT bk u), .t (.int .i64 loc), .t (.int .i64 i), .t (.sl (data.map byteT))]) (zipF 0 []) (resW [(8, some (2, true)), (9, none)] 0 (fun r o => r = evR bk u loc i data ∧ o = [])) := by
  by_cases hl : 128 < data.length
  · simp (config := { maxSteps := 2000000 }) (disch := (first | omega | (simp only [lens, lenm]; omega))) only [go_sem, ↓reduceIte, Nat.reduceAdd, Nat.reduceEqDiff, Nat.reduceSub, Nat.reduceMul, Nat.reduceLT, Nat.reduceLeDiff, Nat.reduceBEq, Int.reduceEq, Int.reduceLT, Int.reduceLE, Int.reduceToNat, Int.reduceNeg, Int.reduceAdd, Int.reduceSub, Int.reduceMul, Int.reduceMod, Int.reduceDiv, reduceCtorEq, Nat.reducePow, Int.reducePow, ac_ref8_Event, evR, hl, List.map_nil]
  rw [evR, if_neg hl]
  have hx := ext_eq (bk := bk) (u := u) (loc := loc) (i := i) (ds := digB bk data) ⟨hk, hu, digB_pre.1, digB_pre.2⟩
  obtain ⟨bk', u', e, he⟩ := extR_shape (bk := bk) (u := u) (loc := loc) (i := i) (ds := digB bk data)
  rw [he] at hx
  rw [he]
  have hdg : ct_dig.fs [.t (.agg [.sl (bk.map bankT), .int .i64 u]), .t (.sl (data.map byteT))] [] = some (.t (.sl ((digB bk data).map bsT)), []) := ct_dig.eq (bk, u, data) ⟨hk.1, hd⟩
  simp (config := { maxSteps := 2000000 }) (disch := (first | omega | (simp only [lens, lenm]; omega))) only [go_sem, ↓reduceIte, Nat.reduceAdd, Nat.reduceEqDiff, Nat.reduceSub, Nat.reduceMul, Nat.reduceLT, Nat.reduceLeDiff, Nat.reduceBEq, Int.reduceEq, Int.reduceLT, Int.reduceLE, Int.reduceToNat, Int.reduceNeg, Int.reduceAdd, Int.reduceSub, Int.reduceMul, Int.reduceMod, Int.reduceDiv, reduceCtorEq, Nat.reducePow, Int.reducePow, ac_ref8_Event, h1, h2, hdg, hx]
  all_goals rfl
end Go.Eng
end
section
set_option maxRecDepth 20000
set_option maxHeartbeats 64000000
namespace Go.Eng
theorem RM.bank {bk : List Bank} (h : RM bk) (a : Nat) : modL (bk.getD a []) := by
  by_cases ha : a < bk.length
  · have e : bk.getD a [] = bk[a] := by simp [List.getD, ha]
    rw [e]; exact h.2 _ (List.getElem_mem ha)
  · have e : bk.getD a [] = [] := by simp [List.getD, List.getElem?_eq_none (Nat.le_of_not_lt ha)]
    rw [e]; exact ⟨by simp, by simp⟩
end Go.Eng
end
section
namespace Go.Eng
def ac_law8_awake (n_registers_New n_registers_Event n_registers_Value : Nat) : AC :=
 (.seq
 (.reg 4096 none [
 ⟨some 0, (.op .mov), [.cst (.t (.bool false))], none⟩])
 (.seq
 (.reg 8192 none [
 ⟨some 6, (.call n_registers_New true), [.cst (.t (.int .i64 2))], none⟩,
 ⟨some 7, (.op (.bslice 1 1 (.t (byteT 0)) [0])), [.cst (.t (byteT 1))], none⟩,
 ⟨some 8, (.call n_registers_Event true), [.tmp 6, .cst (.t (.int .i64 0)), .cst (.t (.int .i64 3)), .tmp 7], none⟩,
 ⟨some 5, (.op .mov), [.tmp 8], none⟩,
 ⟨some 9, (.op (.extract 0)), [.tmp 5], none⟩,
 ⟨some 10, (.op (.extract 1)), [.tmp 5], none⟩,
 ⟨some 1, (.op (.new 2 [(.agg [.nil, (.t (.int .i64 0))])])), [], none⟩,
 ⟨none, (.op (.store 2)), [.tmp 1, .tmp 9], none⟩,
 ⟨some 2, (.op .mov), [.tmp 10], none⟩])
 (.seq
 (.reg 12288 none [
 ⟨some 12, (.op (.load 2 true)), [.tmp 1], none⟩,
 ⟨some 13, (.call n_registers_Value true), [.tmp 12, .cst (.t (.int .i64 1)), .cst (.t (.int .i64 3))], none⟩,
 ⟨some 11, (.op .mov), [.tmp 13], none⟩,
 ⟨some 14, (.op (.extract 0)), [.tmp 11], none⟩,
 ⟨some 15, (.op (.extract 1)), [.tmp 11], none⟩,
 ⟨some 3, (.op .mov), [.tmp 14], none⟩,
 ⟨some 4, (.op .mov), [.tmp 15], none⟩])
 (.seq
 (.reg 16384 none [
 ⟨some 16, (.op .mov), [.tmp 2], none⟩,
 ⟨some 17, (.op (.bin .eql)), [.tmp 16, .cst (.t (.int .i64 0))], none⟩,
 ⟨some 18, (.op .mov), [.tmp 17], none⟩,
 ⟨some 19, (.op .mov), [.tmp 4], some (18, true)⟩,
 ⟨some 20, (.op (.bin .eql)), [.tmp 19, .cst (.t (.int .i64 0))], some (18, true)⟩,
 ⟨some 21, (.op .pick), [.tmp 18, .tmp 20, .cst (.t (.bool false))], none⟩,
 ⟨some 22, (.op .mov), [.tmp 21], none⟩,
 ⟨some 23, (.op .mov), [.tmp 3], some (22, true)⟩,
 ⟨some 24, (.op .len), [.tmp 23], some (22, true)⟩,
 ⟨some 25, (.op (.bin .eql)), [.tmp 24, .cst (.t (.int .i64 32))], some (22, true)⟩,
 ⟨some 26, (.op .pick), [.tmp 22, .tmp 25, .cst (.t (.bool false))], none⟩,
 ⟨some 27, (.op .mov), [.tmp 26], none⟩,
 ⟨some 28, (.op .mov), [.tmp 3], some (27, true)⟩,
 ⟨some 29, (.op (.iaddr 1)), [.tmp 28, .cst (.t (.int .i64 0))], some (27, true)⟩,
 ⟨some 30, (.op (.load 1 false)), [.tmp 29], some (27, true)⟩,
 ⟨some 31, (.op (.bin .neq)), [.tmp 30, .cst (.t (byteT 0))], some (27, true)⟩,
 ⟨some 32, (.op .pick), [.tmp 27, .tmp 31, .cst (.t (.bool false))], none⟩,
 ⟨some 33, (.op .mov), [.tmp 32], none⟩,
 ⟨some 34, (.op (.faddr 1)), [.tmp 1], some (33, true)⟩,
 ⟨some 35, (.op (.load 1 false)), [.tmp 34], some (33, true)⟩,
 ⟨some 36, (.op (.bin .eql)), [.tmp 35, .cst (.t (.int .i64 1))], some (33, true)⟩,
 ⟨some 37, (.op .pick), [.tmp 33, .tmp 36, .cst (.t (.bool false))], none⟩,
 ⟨some 0, (.op .mov), [.tmp 37], none⟩])
 .ret))))
def hints_law8_awake : List (Nat × List Nat) := [(1, [0, 2]), (2, [1])]
def ac_law8_RegistersOrder (n_law8_awake n_draw_Registers n_registers_Event n_registers_Value n_ref1_Same n_ref1_Sum256 n_ref8_Value n_ref1_Collide : Nat) : AC :=
 (.seq
 (.reg 4096 none [
 ⟨some 8, (.op .mov), [.cst (.t (.bool false))], none⟩])
 (.seq
 (.seq
 (.reg 8192 none [
 ⟨some 28, (.call n_law8_awake false), [], none⟩,
 ⟨some 29, (.op (.un .not)), [.tmp 28], none⟩])
 (.cond (.tmp 29)
 (.seq
 (.reg 12288 none [
 ⟨some 8, (.op .mov), [.cst (.t (.bool false))], none⟩])
 .ret)
 .skip))
 (.seq
 (.seq
 (.reg 16384 none [
 ⟨some 30, (.op .mov), [.tmp 2], none⟩,
 ⟨some 31, (.op .len), [.tmp 30], none⟩,
 ⟨some 32, (.op (.bin .gtr)), [.tmp 31, .cst (.t (.int .i64 60))], none⟩,
 ⟨some 33, (.op .mov), [.tmp 32], none⟩,
 ⟨some 34, (.op .mov), [.tmp 3], some (33, false)⟩,
 ⟨some 35, (.op .len), [.tmp 34], some (33, false)⟩,
 ⟨some 36, (.op (.bin .gtr)), [.tmp 35, .cst (.t (.int .i64 60))], some (33, false)⟩,
 ⟨some 37, (.op .pick), [.tmp 33, .cst (.t (.bool true)), .tmp 36], none⟩])
 (.cond (.tmp 37)
 (.seq
 (.reg 20480 none [
 ⟨some 8, (.op .mov), [.cst (.t (.bool true))], none⟩])
 .ret)
 .skip))
 (.seq
 (.reg 24576 none [
 ⟨some 38, (.op .mov), [.tmp 0], none⟩,
 ⟨some 39, (.call n_draw_Registers true), [.cst (.t (.int .i64 2)), .tmp 38], none⟩,
 ⟨some 9, (.op (.new 2 [(.agg [.nil, (.t (.int .i64 0))])])), [], none⟩,
 ⟨none, (.op (.store 2)), [.tmp 9, .tmp 39], none⟩])
 (.seq
 (.reg 28672 none [
 ⟨some 41, (.op (.load 2 true)), [.tmp 9], none⟩,
 ⟨some 42, (.op .mov), [.tmp 1], none⟩,
 ⟨some 43, (.op (.bin .and)), [.tmp 42, .cst (.t (.int .i64 15))], none⟩,
 ⟨some 44, (.op .mov), [.tmp 2], none⟩,
 ⟨some 45, (.call n_registers_Event true), [.tmp 41, .cst (.t (.int .i64 4)), .tmp 43, .tmp 44], none⟩,
 ⟨some 40, (.op .mov), [.tmp 45], none⟩,
 ⟨some 46, (.op (.extract 0)), [.tmp 40], none⟩,
 ⟨some 47, (.op (.extract 1)), [.tmp 40], none⟩,
 ⟨some 10, (.op (.new 2 [(.agg [.nil, (.t (.int .i64 0))])])), [], none⟩,
 ⟨none, (.op (.store 2)), [.tmp 10, .tmp 46], none⟩,
 ⟨some 11, (.op .mov), [.tmp 47], none⟩])
 (.seq
 (.reg 32768 none [
 ⟨some 49, (.op (.load 2 true)), [.tmp 9], none⟩,
 ⟨some 50, (.op .mov), [.tmp 1], none⟩,
 ⟨some 51, (.op (.bin .and)), [.tmp 50, .cst (.t (.int .i64 15))], none⟩,
 ⟨some 52, (.op .mov), [.tmp 3], none⟩,
 ⟨some 53, (.call n_registers_Event true), [.tmp 49, .cst (.t (.int .i64 4)), .tmp 51, .tmp 52], none⟩,
 ⟨some 48, (.op .mov), [.tmp 53], none⟩,
 ⟨some 54, (.op (.extract 0)), [.tmp 48], none⟩,
 ⟨some 55, (.op (.extract 1)), [.tmp 48], none⟩,
 ⟨some 12, (.op (.new 2 [(.agg [.nil, (.t (.int .i64 0))])])), [], none⟩,
 ⟨none, (.op (.store 2)), [.tmp 12, .tmp 54], none⟩,
 ⟨some 13, (.op .mov), [.tmp 55], none⟩])
 (.seq
 (.reg 36864 none [
 ⟨some 57, (.op (.load 2 true)), [.tmp 10], none⟩,
 ⟨some 58, (.op .mov), [.tmp 1], none⟩,
 ⟨some 59, (.op (.bin .and)), [.tmp 58, .cst (.t (.int .i64 15))], none⟩,
 ⟨some 60, (.op .mov), [.tmp 3], none⟩,
 ⟨some 61, (.call n_registers_Event true), [.tmp 57, .cst (.t (.int .i64 4)), .tmp 59, .tmp 60], none⟩,
 ⟨some 56, (.op .mov), [.tmp 61], none⟩,
 ⟨some 62, (.op (.extract 0)), [.tmp 56], none⟩,
 ⟨some 63, (.op (.extract 1)), [.tmp 56], none⟩,
 ⟨some 14, (.op (.new 2 [(.agg [.nil, (.t (.int .i64 0))])])), [], none⟩,
 ⟨none, (.op (.store 2)), [.tmp 14, .tmp 62], none⟩,
 ⟨some 15, (.op .mov), [.tmp 63], none⟩])
 (.seq
 (.reg 40960 none [
 ⟨some 65, (.op (.load 2 true)), [.tmp 12], none⟩,
 ⟨some 66, (.op .mov), [.tmp 1], none⟩,
 ⟨some 67, (.op (.bin .and)), [.tmp 66, .cst (.t (.int .i64 15))], none⟩,
 ⟨some 68, (.op .mov), [.tmp 2], none⟩,
 ⟨some 69, (.call n_registers_Event true), [.tmp 65, .cst (.t (.int .i64 4)), .tmp 67, .tmp 68], none⟩,
 ⟨some 64, (.op .mov), [.tmp 69], none⟩,
 ⟨some 70, (.op (.extract 0)), [.tmp 64], none⟩,
 ⟨some 71, (.op (.extract 1)), [.tmp 64], none⟩,
 ⟨some 16, (.op (.new 2 [(.agg [.nil, (.t (.int .i64 0))])])), [], none⟩,
 ⟨none, (.op (.store 2)), [.tmp 16, .tmp 70], none⟩,
 ⟨some 17, (.op .mov), [.tmp 71], none⟩])
 (.seq
 (.seq
 (.reg 45056 none [
 ⟨some 72, (.op .mov), [.tmp 11], none⟩,
 ⟨some 73, (.op (.bin .neq)), [.tmp 72, .cst (.t (.int .i64 0))], none⟩,
 ⟨some 74, (.op .mov), [.tmp 73], none⟩,
 ⟨some 75, (.op .mov), [.tmp 13], some (74, false)⟩,
 ⟨some 76, (.op (.bin .neq)), [.tmp 75, .cst (.t (.int .i64 0))], some (74, false)⟩,
 ⟨some 77, (.op .pick), [.tmp 74, .cst (.t (.bool true)), .tmp 76], none⟩,
 ⟨some 78, (.op .mov), [.tmp 77], none⟩,
 ⟨some 79, (.op .mov), [.tmp 15], some (78, false)⟩,
 ⟨some 80, (.op (.bin .neq)), [.tmp 79, .cst (.t (.int .i64 0))], some (78, false)⟩,
 ⟨some 81, (.op .pick), [.tmp 78, .cst (.t (.bool true)), .tmp 80], none⟩,
 ⟨some 82, (.op .mov), [.tmp 81], none⟩,
 ⟨some 83, (.op .mov), [.tmp 17], some (82, false)⟩,
 ⟨some 84, (.op (.bin .neq)), [.tmp 83, .cst (.t (.int .i64 0))], some (82, false)⟩,
 ⟨some 85, (.op .pick), [.tmp 82, .cst (.t (.bool true)), .tmp 84], none⟩])
 (.cond (.tmp 85)
 (.seq
 (.reg 49152 none [
 ⟨some 8, (.op .mov), [.cst (.t (.bool false))], none⟩])
 .ret)
 .skip))
 (.seq
 (.reg 53248 none [
 ⟨some 87, (.op (.load 2 true)), [.tmp 14], none⟩,
 ⟨some 88, (.op .mov), [.tmp 1], none⟩,
 ⟨some 89, (.op (.bin .and)), [.tmp 88, .cst (.t (.int .i64 15))], none⟩,
 ⟨some 90, (.call n_registers_Value true), [.tmp 87, .cst (.t (.int .i64 1)), .tmp 89], none⟩,
 ⟨some 86, (.op .mov), [.tmp 90], none⟩,
 ⟨some 91, (.op (.extract 0)), [.tmp 86], none⟩,
 ⟨some 92, (.op (.extract 1)), [.tmp 86], none⟩,
 ⟨some 18, (.op .mov), [.tmp 91], none⟩,
 ⟨some 19, (.op .mov), [.tmp 92], none⟩])
 (.seq
 (.reg 57344 none [
 ⟨some 94, (.op (.load 2 true)), [.tmp 16], none⟩,
 ⟨some 95, (.op .mov), [.tmp 1], none⟩,
 ⟨some 96, (.op (.bin .and)), [.tmp 95, .cst (.t (.int .i64 15))], none⟩,
 ⟨some 97, (.call n_registers_Value true), [.tmp 94, .cst (.t (.int .i64 1)), .tmp 96], none⟩,
 ⟨some 93, (.op .mov), [.tmp 97], none⟩,
 ⟨some 98, (.op (.extract 0)), [.tmp 93], none⟩,
 ⟨some 99, (.op (.extract 1)), [.tmp 93], none⟩,
 ⟨some 20, (.op .mov), [.tmp 98], none⟩,
 ⟨some 21, (.op .mov), [.tmp 99], none⟩])
 (.seq
 (.seq
 (.reg 61440 none [
 ⟨some 100, (.op .mov), [.tmp 19], none⟩,
 ⟨some 101, (.op (.bin .neq)), [.tmp 100, .cst (.t (.int .i64 0))], none⟩,
 ⟨some 102, (.op .mov), [.tmp 101], none⟩,
 ⟨some 103, (.op .mov), [.tmp 21], some (102, false)⟩,
 ⟨some 104, (.op (.bin .neq)), [.tmp 103, .cst (.t (.int .i64 0))], some (102, false)⟩,
 ⟨some 105, (.op .pick), [.tmp 102, .cst (.t (.bool true)), .tmp 104], none⟩,
 ⟨some 106, (.op .mov), [.tmp 105], none⟩,
 ⟨some 107, (.op .mov), [.tmp 18], some (106, false)⟩,
 ⟨some 108, (.op .len), [.tmp 107], some (106, false)⟩,
 ⟨some 109, (.op (.bin .neq)), [.tmp 108, .cst (.t (.int .i64 32))], some (106, false)⟩,
 ⟨some 110, (.op .pick), [.tmp 106, .cst (.t (.bool true)), .tmp 109], none⟩])
 (.cond (.tmp 110)
 (.seq
 (.reg 65536 none [
 ⟨some 8, (.op .mov), [.cst (.t (.bool false))], none⟩])
 .ret)
 .skip))
 (.seq
 (.seq
 (.reg 69632 none [
 ⟨some 111, (.op .mov), [.tmp 2], none⟩,
 ⟨some 112, (.op .mov), [.tmp 3], none⟩,
 ⟨some 113, (.call n_ref1_Same false), [.tmp 111, .tmp 112], none⟩])
 (.cond (.tmp 113)
 (.seq
 (.reg 73728 none [
 ⟨some 114, (.op .mov), [.tmp 18], none⟩,
 ⟨some 115, (.op .mov), [.tmp 20], none⟩,
 ⟨some 116, (.call n_ref1_Same false), [.tmp 114, .tmp 115], none⟩,
 ⟨some 8, (.op .mov), [.tmp 116], none⟩])
 .ret)
 .skip))
 (.seq
 (.reg 77824 none [
 ⟨some 117, (.op .mov), [.tmp 2], none⟩,
 ⟨some 118, (.call n_ref1_Sum256 false), [.tmp 117], none⟩,
 ⟨some 119, (.op .mov), [.tmp 3], none⟩,
 ⟨some 120, (.call n_ref1_Sum256 false), [.tmp 119], none⟩,
 ⟨some 22, (.op .mov), [.tmp 118], none⟩,
 ⟨some 23, (.op .mov), [.tmp 120], none⟩])
 (.seq
 (.reg 81920 none [
 ⟨some 122, (.op (.load 2 true)), [.tmp 10], none⟩,
 ⟨some 123, (.op .mov), [.tmp 1], none⟩,
 ⟨some 124, (.op (.bin .and)), [.tmp 123, .cst (.t (.int .i64 15))], none⟩,
 ⟨some 125, (.call n_ref8_Value false), [.tmp 122, .cst (.t (.int .i64 1)), .tmp 124], none⟩,
 ⟨some 121, (.op .mov), [.tmp 125], none⟩,
 ⟨some 126, (.op (.extract 0)), [.tmp 121], none⟩,
 ⟨some 127, (.op (.extract 1)), [.tmp 121], none⟩,
 ⟨some 24, (.op .mov), [.tmp 126], none⟩,
 ⟨some 25, (.op .mov), [.tmp 127], none⟩])
 (.seq
 (.reg 86016 none [
 ⟨some 129, (.op (.load 2 true)), [.tmp 12], none⟩,
 ⟨some 130, (.op .mov), [.tmp 1], none⟩,
 ⟨some 131, (.op (.bin .and)), [.tmp 130, .cst (.t (.int .i64 15))], none⟩,
 ⟨some 132, (.call n_ref8_Value false), [.tmp 129, .cst (.t (.int .i64 1)), .tmp 131], none⟩,
 ⟨some 128, (.op .mov), [.tmp 132], none⟩,
 ⟨some 133, (.op (.extract 0)), [.tmp 128], none⟩,
 ⟨some 134, (.op (.extract 1)), [.tmp 128], none⟩,
 ⟨some 26, (.op .mov), [.tmp 133], none⟩,
 ⟨some 27, (.op .mov), [.tmp 134], none⟩])
 (.seq
 (.reg 90112 none [
 ⟨some 135, (.op .mov), [.tmp 18], none⟩,
 ⟨some 136, (.op .mov), [.tmp 20], none⟩,
 ⟨some 137, (.call n_ref1_Same false), [.tmp 135, .tmp 136], none⟩,
 ⟨some 138, (.op (.un .not)), [.tmp 137], none⟩,
 ⟨some 139, (.op .mov), [.tmp 138], none⟩,
 ⟨some 140, (.op .mov), [.tmp 2], some (139, false)⟩,
 ⟨some 141, (.op .mov), [.tmp 3], some (139, false)⟩,
 ⟨some 142, (.call n_ref1_Collide false), [.tmp 140, .tmp 141, .cst (.t (.int .i64 32))], some (139, false)⟩,
 ⟨some 143, (.op .pick), [.tmp 139, .cst (.t (.bool true)), .tmp 142], none⟩,
 ⟨some 144, (.op .mov), [.tmp 143], none⟩,
 ⟨some 145, (.op .mov), [.tmp 24], some (144, false)⟩,
 ⟨some 146, (.op .mov), [.tmp 23], some (144, false)⟩,
 ⟨some 147, (.op (.append 1 1)), [.tmp 145, .tmp 146], some (144, false)⟩,
 ⟨some 148, (.op .mov), [.tmp 26], some (144, false)⟩,
 ⟨some 149, (.op .mov), [.tmp 22], some (144, false)⟩,
 ⟨some 150, (.op (.append 1 1)), [.tmp 148, .tmp 149], some (144, false)⟩,
 ⟨some 151, (.call n_ref1_Collide false), [.tmp 147, .tmp 150, .cst (.t (.int .i64 32))], some (144, false)⟩,
 ⟨some 152, (.op .pick), [.tmp 144, .cst (.t (.bool true)), .tmp 151], none⟩,
 ⟨some 8, (.op .mov), [.tmp 152], none⟩])
 .ret)))))))))))))))))
def hints_law8_RegistersOrder : List (Nat × List Nat) := [(5, [1]), (6, [4]), (7, [4]), (8, [4]), (9, [4]), (12, [3]), (13, [3])]
def ac_law8_RegistersOthers_L1 (n_registers_Value n_ref8_Value n_ref1_Same : Nat) : AC :=
 (.seq
 (.seq
 (.reg 73728 none [
 ⟨some 62, (.op .mov), [.tmp 16], none⟩,
 ⟨some 63, (.op (.bin .lss)), [.tmp 62, .cst (.t (.int .i64 16))], none⟩])
 (.cond (.tmp 63)
 .skip
 (.exit 2)))
 (.seq
 (.block 3
 (.seq
 (.reg 81920 none [
 ⟨some 67, (.op (.load 2 true)), [.tmp 13], none⟩,
 ⟨some 68, (.op .mov), [.tmp 15], none⟩,
 ⟨some 69, (.op .mov), [.tmp 16], none⟩,
 ⟨some 70, (.call n_registers_Value true), [.tmp 67, .tmp 68, .tmp 69], none⟩,
 ⟨some 66, (.op .mov), [.tmp 70], none⟩,
 ⟨some 71, (.op (.extract 0)), [.tmp 66], none⟩,
 ⟨some 72, (.op (.extract 1)), [.tmp 66], none⟩,
 ⟨some 17, (.op .mov), [.tmp 71], none⟩,
 ⟨some 18, (.op .mov), [.tmp 72], none⟩])
 (.seq
 (.reg 86016 none [
 ⟨some 74, (.op (.load 2 true)), [.tmp 11], none⟩,
 ⟨some 75, (.op .mov), [.tmp 15], none⟩,
 ⟨some 76, (.op .mov), [.tmp 16], none⟩,
 ⟨some 77, (.call n_ref8_Value false), [.tmp 74, .tmp 75, .tmp 76], none⟩,
 ⟨some 73, (.op .mov), [.tmp 77], none⟩,
 ⟨some 78, (.op (.extract 0)), [.tmp 73], none⟩,
 ⟨some 79, (.op (.extract 1)), [.tmp 73], none⟩,
 ⟨some 19, (.op .mov), [.tmp 78], none⟩,
 ⟨some 20, (.op .mov), [.tmp 79], none⟩])
 (.seq
 (.reg 90112 none [
 ⟨some 80, (.op .mov), [.tmp 18], none⟩,
 ⟨some 81, (.op .mov), [.tmp 20], none⟩,
 ⟨some 82, (.op (.bin .neq)), [.tmp 80, .tmp 81], none⟩,
 ⟨some 83, (.op .mov), [.tmp 82], none⟩,
 ⟨some 84, (.op .mov), [.tmp 16], some (83, false)⟩,
 ⟨some 85, (.op .mov), [.tmp 12], some (83, false)⟩,
 ⟨some 86, (.op (.bin .neq)), [.tmp 84, .tmp 85], some (83, false)⟩,
 ⟨some 87, (.op .mov), [.tmp 86], some (83, false)⟩,
 ⟨some 88, (.op .mov), [.tmp 17], some (87, true)⟩,
 ⟨some 89, (.op .mov), [.tmp 19], some (87, true)⟩,
 ⟨some 90, (.call n_ref1_Same false), [.tmp 88, .tmp 89], some (87, true)⟩,
 ⟨some 91, (.op (.un .not)), [.tmp 90], some (87, true)⟩,
 ⟨some 92, (.op .pick), [.tmp 87, .tmp 91, .cst (.t (.bool false))], some (83, false)⟩,
 ⟨some 93, (.op .pick), [.tmp 83, .cst (.t (.bool true)), .tmp 92], none⟩,
 ⟨some 94, (.op .mov), [.tmp 93], none⟩,
 ⟨some 95, (.op .mov), [.tmp 16], some (94, false)⟩,
 ⟨some 96, (.op .mov), [.tmp 12], some (94, false)⟩,
 ⟨some 97, (.op (.bin .eql)), [.tmp 95, .tmp 96], some (94, false)⟩,
 ⟨some 98, (.op .mov), [.tmp 97], some (94, false)⟩,
 ⟨some 99, (.op .mov), [.tmp 18], some (98, true)⟩,
 ⟨some 100, (.op (.bin .eql)), [.tmp 99, .cst (.t (.int .i64 0))], some (98, true)⟩,
 ⟨some 101, (.op .pick), [.tmp 98, .tmp 100, .cst (.t (.bool false))], some (94, false)⟩,
 ⟨some 102, (.op .mov), [.tmp 101], some (94, false)⟩,
 ⟨some 103, (.op .mov), [.tmp 17], some (102, true)⟩,
 ⟨some 104, (.op .len), [.tmp 103], some (102, true)⟩,
 ⟨some 105, (.op .mov), [.tmp 15], some (102, true)⟩,
 ⟨some 106, (.op (.bin .mul)), [.cst (.t (.int .i64 12)), .tmp 105], some (102, true)⟩,
 ⟨some 107, (.op (.bin .add)), [.cst (.t (.int .i64 20)), .tmp 106], some (102, true)⟩,
 ⟨some 108, (.op (.bin .neq)), [.tmp 104, .tmp 107], some (102, true)⟩,
 ⟨some 109, (.op .pick), [.tmp 102, .tmp 108, .cst (.t (.bool false))], some (94, false)⟩,
 ⟨some 110, (.op .pick), [.tmp 94, .cst (.t (.bool true)), .tmp 109], none⟩])
 (.cond (.tmp 110)
 (.seq
 (.reg 94208 none [
 ⟨some 10, (.op .mov), [.cst (.t (.bool false))], none⟩])
 .ret)
 .skip)))))
 (.reg 77824 none [
 ⟨some 64, (.op .mov), [.tmp 16], none⟩,
 ⟨some 65, (.op (.bin .add)), [.tmp 64, .cst (.t (.int .i64 1))], none⟩,
 ⟨some 16, (.op .mov), [.tmp 65], none⟩])))
def ac_law8_RegistersOthers_L0 (n_registers_Value n_ref8_Value n_ref1_Same : Nat) : AC :=
 (.seq
 (.seq
 (.reg 61440 none [
 ⟨some 58, (.op .mov), [.tmp 15], none⟩,
 ⟨some 59, (.op (.bin .lss)), [.tmp 58, .cst (.t (.int .i64 2))], none⟩])
 (.cond (.tmp 59)
 .skip
 (.exit 0)))
 (.seq
 (.block 1
 (.seq
 (.reg 69632 none [
 ⟨some 16, (.op .mov), [.cst (.t (.int .i64 0))], none⟩])
 (.block 2
 (.loop (ac_law8_RegistersOthers_L1 n_registers_Value n_ref8_Value n_ref1_Same)))))
 (.reg 65536 none [
 ⟨some 60, (.op .mov), [.tmp 15], none⟩,
 ⟨some 61, (.op (.bin .add)), [.tmp 60, .cst (.t (.int .i64 1))], none⟩,
 ⟨some 15, (.op .mov), [.tmp 61], none⟩])))
def ac_law8_RegistersOthers (n_law8_awake n_draw_Registers n_registers_Event n_registers_Reset n_registers_Value n_ref8_Value n_ref1_Same : Nat) : AC :=
 (.seq
 (.reg 4096 none [
 ⟨some 10, (.op .mov), [.cst (.t (.bool false))], none⟩])
 (.seq
 (.seq
 (.reg 8192 none [
 ⟨some 21, (.call n_law8_awake false), [], none⟩,
 ⟨some 22, (.op (.un .not)), [.tmp 21], none⟩])
 (.cond (.tmp 22)
 (.seq
 (.reg 12288 none [
 ⟨some 10, (.op .mov), [.cst (.t (.bool false))], none⟩])
 .ret)
 .skip))
 (.seq
 (.seq
 (.reg 16384 none [
 ⟨some 23, (.op .mov), [.tmp 3], none⟩,
 ⟨some 24, (.op .len), [.tmp 23], none⟩,
 ⟨some 25, (.op (.bin .gtr)), [.tmp 24, .cst (.t (.int .i64 100))], none⟩])
 (.cond (.tmp 25)
 (.seq
 (.reg 20480 none [
 ⟨some 10, (.op .mov), [.cst (.t (.bool true))], none⟩])
 .ret)
 .skip))
 (.seq
 (.reg 24576 none [
 ⟨some 26, (.op .mov), [.tmp 0], none⟩,
 ⟨some 27, (.op .mov), [.tmp 1], none⟩,
 ⟨some 28, (.call n_draw_Registers true), [.tmp 26, .tmp 27], none⟩,
 ⟨some 11, (.op (.new 2 [(.agg [.nil, (.t (.int .i64 0))])])), [], none⟩,
 ⟨none, (.op (.store 2)), [.tmp 11, .tmp 28], none⟩])
 (.seq
 (.reg 28672 none [
 ⟨some 29, (.op .mov), [.tmp 2], none⟩,
 ⟨some 30, (.op (.bin .and)), [.tmp 29, .cst (.t (.int .i64 15))], none⟩,
 ⟨some 12, (.op .mov), [.tmp 30], none⟩])
 (.seq
 (.reg 32768 none [
 ⟨some 32, (.op (.load 2 true)), [.tmp 11], none⟩,
 ⟨some 33, (.op .mov), [.tmp 12], none⟩,
 ⟨some 34, (.op .mov), [.tmp 3], none⟩,
 ⟨some 35, (.call n_registers_Event true), [.tmp 32, .cst (.t (.int .i64 4)), .tmp 33, .tmp 34], none⟩,
 ⟨some 31, (.op .mov), [.tmp 35], none⟩,
 ⟨some 36, (.op (.extract 0)), [.tmp 31], none⟩,
 ⟨some 37, (.op (.extract 1)), [.tmp 31], none⟩,
 ⟨some 13, (.op (.new 2 [(.agg [.nil, (.t (.int .i64 0))])])), [], none⟩,
 ⟨none, (.op (.store 2)), [.tmp 13, .tmp 36], none⟩,
 ⟨some 14, (.op .mov), [.tmp 37], none⟩])
 (.seq
 (.seq
 (.reg 36864 none [
 ⟨some 38, (.op .mov), [.tmp 4], none⟩])
 (.cond (.tmp 38)
 (.seq
 (.reg 40960 none [
 ⟨some 39, (.op .mov), [.tmp 2], none⟩,
 ⟨some 40, (.op (.bin .and)), [.tmp 39, .cst (.t (.int .i64 3))], none⟩,
 ⟨some 41, (.op (.bin .add)), [.cst (.t (.int .i64 12)), .tmp 40], none⟩,
 ⟨some 12, (.op .mov), [.tmp 41], none⟩])
 (.reg 45056 none [
 ⟨some 43, (.op (.load 2 true)), [.tmp 11], none⟩,
 ⟨some 44, (.op .mov), [.tmp 12], none⟩,
 ⟨some 45, (.call n_registers_Reset true), [.tmp 43, .cst (.t (.int .i64 4)), .tmp 44], none⟩,
 ⟨some 42, (.op .mov), [.tmp 45], none⟩,
 ⟨some 46, (.op (.extract 0)), [.tmp 42], none⟩,
 ⟨some 47, (.op (.extract 1)), [.tmp 42], none⟩,
 ⟨none, (.op (.store 2)), [.tmp 13, .tmp 46], none⟩,
 ⟨some 14, (.op .mov), [.tmp 47], none⟩]))
 .skip))
 (.seq
 (.seq
 (.reg 49152 none [
 ⟨some 48, (.op .mov), [.tmp 14], none⟩,
 ⟨some 49, (.op (.bin .neq)), [.tmp 48, .cst (.t (.int .i64 0))], none⟩,
 ⟨some 50, (.op .mov), [.tmp 49], none⟩,
 ⟨some 51, (.op (.faddr 1)), [.tmp 13], some (50, false)⟩,
 ⟨some 52, (.op (.load 1 false)), [.tmp 51], some (50, false)⟩,
 ⟨some 53, (.op (.faddr 1)), [.tmp 11], some (50, false)⟩,
 ⟨some 54, (.op (.load 1 false)), [.tmp 53], some (50, false)⟩,
 ⟨some 55, (.op (.bin .add)), [.tmp 54, .cst (.t (.int .i64 1))], some (50, false)⟩,
 ⟨some 56, (.op (.bin .neq)), [.tmp 52, .tmp 55], some (50, false)⟩,
 ⟨some 57, (.op .pick), [.tmp 50, .cst (.t (.bool true)), .tmp 56], none⟩])
 (.cond (.tmp 57)
 (.seq
 (.reg 53248 none [
 ⟨some 10, (.op .mov), [.cst (.t (.bool false))], none⟩])
 .ret)
 .skip))
 (.seq
 (.seq
 (.reg 57344 none [
 ⟨some 15, (.op .mov), [.cst (.t (.int .i64 0))], none⟩])
 (.block 0
 (.loop (ac_law8_RegistersOthers_L0 n_registers_Value n_ref8_Value n_ref1_Same))))
 (.seq
 (.reg 98304 none [
 ⟨some 10, (.op .mov), [.cst (.t (.bool true))], none⟩])
 .ret))))))))))
def hints_law8_RegistersOthers : List (Nat × List Nat) := [(5, [2]), (7, [3]), (10, [2]), (19, [3])]
end Go.Eng
end
section
set_option maxRecDepth 20000
set_option maxHeartbeats 64000000
namespace Go.Eng
def ct_new : Ct where
  α := Int
  as s := [.t (.int .i64 s)]
  ins _ := []
  pre _ := True
  r s := twR (newBk s) 0
  outs s := twO (newBk s)
  inj := by
    rintro a b h _
    simp only [List.cons.injEq, V.t.injEq, T.int.injEq, true_and, and_true] at h
    subst h
    exact ⟨rfl, rfl⟩
def ct_ev : Ct where
  α := List Bank × Int × Int × Int × List UInt8
  as x := [.t (regT x.1 x.2.1), .t (.int .i64 x.2.2.1), .t (.int .i64 x.2.2.2.1), .t (.sl (x.2.2.2.2.map byteT))]
  ins _ := []
  pre x := RV x.1 ∧ (0 ≤ x.2.1 ∧ x.2.1 < 1000000000) ∧ x.2.2.2.2.length < 1000000000
  r x := evR x.1 x.2.1 x.2.2.1 x.2.2.2.1 x.2.2.2.2
  outs _ := []
  inj := by
    rintro ⟨a, u, l, i, d⟩ ⟨b, v, l', i', d'⟩ h _
    simp only [List.cons.injEq, V.t.injEq, T.int.injEq, T.sl.injEq, true_and, and_true, mapB_inj] at h
    obtain ⟨h1, rfl, rfl, rfl⟩ := h
    obtain ⟨rfl, rfl⟩ := regT_inj h1
    exact ⟨rfl, rfl⟩
def ct_val : Ct where
  α := List Bank × Int × Int × Int
  as x := [.t (regT x.1 x.2.1), .t (.int .i64 x.2.2.1), .t (.int .i64 x.2.2.2)]
  ins _ := []
  pre x := RM x.1
  r x := valR x.1 x.2.2.1 x.2.2.2
  outs x := valO x.1 x.2.2.1 x.2.2.2
  inj := by
    rintro ⟨a, u, l, i⟩ ⟨b, v, l', i'⟩ h _
    simp only [List.cons.injEq, V.t.injEq, T.int.injEq, true_and, and_true] at h
    obtain ⟨h1, rfl, rfl⟩ := h
    obtain ⟨rfl, rfl⟩ := regT_inj h1
    exact ⟨rfl, rfl⟩
theorem newB_ok {a : Nat} (ha : a < 2) : bkOk (newB a) := .inr newB_length
theorem newB_le {a : Nat} (ha : a < 2) : ∀ x ∈ newB a, x.length ≤ 64 := by
  intro x hx
  simp only [newB, List.mem_map, List.mem_range] at hx
  obtain ⟨i, _, rfl⟩ := hx
  simp only [List.length_replicate]
  have : a = 0 ∨ a = 1 := by omega
  rcases this with rfl | rfl <;> decide
theorem newBk_rv {s : Int} : RV (newBk s) := by
  unfold newBk
  split
  · exact ⟨.nil, by simp⟩
  · refine ⟨.two _ _ ?_ ?_, ?_⟩
    · split
      · exact newB_ok (by omega)
      · exact .inl rfl
    · split
      · exact newB_ok (by omega)
      · exact .inl rfl
    · intro b hb
      simp only [List.mem_cons, List.not_mem_nil, or_false] at hb
      rcases hb with rfl | rfl
      · split
        · exact newB_le (by omega)
        · simp
      · split
        · exact newB_le (by omega)
        · simp
def awX : List UInt8 := sum256 (List.replicate 32 0 ++ sum256 [1])
theorem awX_ne : awX.getD 0 0 ≠ 0 := by decide +kernel
theorem aw_new : ct_new.fs [.t (.int .i64 2)] [] = some (.agg [.sl 0 0 2, .t (.int .i64 0)], [.live 1 [.sl 1 0 0, .sl 2 0 16] true false, .live 1 [] true false, .live 1 (((newB 1).map bsT).map V.t) true false]) := by
  refine (ct_new.eq (2 : Int) trivial).trans ?_
  rfl
theorem aw_ev : ct_ev.fs [.t (.agg [.sl [.sl [], .sl ((newB 1).map bsT)], .int .i64 0]), .t (.int .i64 0), .t (.int .i64 3), .t (.sl [byteT 1])] [] = some (.tup [.t (.agg [.sl [.sl [], .sl (((newB 1).set 3 awX).map bsT)], .int .i64 1]), .t (.int .i64 0)], []) := by
  refine (ct_ev.eq (newBk 2, 0, 0, 3, [1]) ⟨newBk_rv (s := 2), ⟨by decide, by decide⟩, by decide⟩).trans ?_
  have h : evR (newBk 2) 0 0 3 [1] = .tup [.t (regT [[], (newB 1).set 3 awX] 1), .t (.int .i64 0)] := by
    have e1 : newBk 2 = [[], newB 1] := rfl
    have e2 : digB [[], newB 1] [1] = [[], sum256 [1]] := by simp [digB, onB, newB_length]
    rw [evR, if_neg (by decide), e1, e2]
    have e3 : extE (([[], newB 1] : List Bank).getD 0 []).length (([[], newB 1] : List Bank).getD 1 []).length 0 3 ([[], sum256 [1]] : List (List UInt8)).length (([[], sum256 [1]] : List (List UInt8)).getD 0 []).length (([[], sum256 [1]] : List (List UInt8)).getD 1 []).length = 0 := by
      simp [extE, newB_length, sum256_length, leastI]
    rw [extR, if_pos e3]
    have e4 : extBk [[], newB 1] (3 : Int).toNat [[], sum256 [1]] = [[], (newB 1).set 3 awX] := by
      have e5 : (newB 1).getD 3 [] = List.replicate 32 0 := rfl
      have e6 : (3 : Int).toNat = 3 := rfl
      simp only [extBk, ext1, newB_length, if_pos, List.getD_cons_zero, List.getD_cons_succ, e6, sumA1, e5]
      rfl
    rw [e4]; rfl
  show some (evR (newBk 2) 0 0 3 [1], ([] : List Ob)) = _
  rw [h]; rfl
theorem aw_val : ct_val.fs [.t (.agg [.sl [.sl [], .sl (((newB 1).set 3 awX).map bsT)], .int .i64 1]), .t (.int .i64 1), .t (.int .i64 3)] [] = some (.tup [.sl 0 0 32, .t (.int .i64 0)], [.live 1 ((awX.map byteT).map V.t) true false]) := by
  have hl : (newB 1).set 3 awX = (newB 1).set 3 awX := rfl
  have hlen : List.length ((newB 1).set 3 awX) = 16 := by rw [List.length_set, newB_length]
  refine (ct_val.eq ([[], (newB 1).set 3 awX], 1, 1, 3) ?_).trans ?_
  · refine RV.rm ⟨.two _ _ (.inl rfl) (.inr hlen), ?_⟩
    intro b hb
    simp only [List.mem_cons, List.not_mem_nil, or_false] at hb
    rcases hb with rfl | rfl
    · simp
    · intro x hx
      rcases List.mem_or_eq_of_mem_set hx with h | rfl
      · exact newB_le (by omega) x h
      · show (sum256 _).length ≤ 64
        rw [sum256_length]; omega
  · have ho : onB [[], (newB 1).set 3 awX] 1 = true := by simp [onB, newB_length]
    have hv : valL [[], (newB 1).set 3 awX] 1 3 = awX := by simp [valL, newB_length]
    have hb : ¬ badR 1 3 := by decide
    have h1 : (1 : Int).toNat = 1 := rfl
    have h3 : (3 : Int).toNat = 3 := rfl
    show some (valR [[], (newB 1).set 3 awX] 1 3, valO [[], (newB 1).set 3 awX] 1 3) = _
    rw [valR, valO, if_neg hb, if_neg hb, h1, h3, ho, hv, if_pos rfl, if_pos rfl]
    have : awX.length = 32 := sum256_length
    rw [this]
theorem w_awake (tab : Tab) (gl : Gl) (n1 n2 n3 : Nat) (h1 : tab.look n1 = some ct_new.fs) (h2 : tab.look n2 = some ct_ev.fs) (h3 : tab.look n3 = some ct_val.fs) :
    (ac_law8_awake n1 n2 n3).wp tab gl (zipF 0 []) (zipF 0 []) (resW [(0, none)] 0 (fun r o => r = .t (.bool true) ∧ o = [])) := by
  have hn := awX_ne
  have hl : awX.length = 32 := sum256_length
  have hl2 := @newB_length 1
  have hl3 : List.length ((newB 1).set 3 awX) = 16 := by rw [List.length_set, newB_length]
  have ht : List.take 16 (newB 1) = newB 1 := newB_all
  have ht2 : List.take 16 ((newB 1).set 3 awX) = (newB 1).set 3 awX := List.take_of_length_le (by omega)
  have ht3 : List.take 32 awX = awX := List.take_of_length_le (by omega)
  simp (config := { maxSteps := 2000000 }) (disch := (first | omega | (simp only [lens, lenm]; omega))) only [go_sem, ↓reduceIte, Nat.reduceAdd, Nat.reduceEqDiff, Nat.reduceSub, Nat.reduceMul, Nat.reduceLT, Nat.reduceLeDiff, Nat.reduceBEq, Int.reduceEq, Int.reduceLT, Int.reduceLE, Int.reduceToNat, Int.reduceNeg, Int.reduceAdd, Int.reduceSub, Int.reduceMul, Int.reduceMod, Int.reduceDiv, reduceCtorEq, Nat.reducePow, Int.reducePow, ac_law8_awake, h1, h2, h3, aw_new, aw_ev, aw_val, ht, ht2, ht3]
end Go.Eng
end
section
set_option maxRecDepth 20000
set_option maxHeartbeats 64000000
namespace Go.Eng
def ct_awake : Ct where
  α := Unit
  as _ := []
  ins _ := []
  pre _ := True
  r _ := .t (.bool true)
  outs _ := []
  inj := by rintro a b h _; exact ⟨rfl, rfl⟩
theorem awake_eq : ct_awake.fs [] [] = some (.t (.bool true), []) := ct_awake.eq () trivial
end Go.Eng
end
section
set_option maxRecDepth 20000
namespace Go.Eng
theorem wc_digest_compress1 (tab : Tab) (gl : Gl) (n1 n2 : Nat) (h1 : tab.look n1 = some ct_word.fs) (h2 : tab.look n2 = some ct_rotl.fs) (x : (ct_comp 5 comp1).α) (hx : (ct_comp 5 comp1).pre x) :
    (ac_digest_compress1 n1 n2).wp tab gl (zipF 0 ((ct_comp 5 comp1).as x)) (zipF 0 ((ct_comp 5 comp1).ins x)) (resW [] ((ct_comp 5 comp1).ins x).length (fun r o => r = (ct_comp 5 comp1).r x ∧ o = (ct_comp 5 comp1).outs x)) := by
  obtain ⟨hs, bs⟩ := x
  obtain ⟨hb, hh⟩ := hx
  match hs, hh with
  | [x0, x1, x2, x3, x4], _ => exact w_digest_compress1 tab gl n1 n2 h1 h2 bs x0 x1 x2 x3 x4 hb
theorem wc_registers_active (tab : Tab) (gl : Gl) (x : ct_active.α) (hx : ct_active.pre x) :
    ac_registers_active.wp tab gl (zipF 0 (ct_active.as x)) (zipF 0 (ct_active.ins x)) (resW [(2, none)] (ct_active.ins x).length (fun r o => r = ct_active.r x ∧ o = ct_active.outs x)) := by
  obtain ⟨bk, u⟩ := x
  have hx' : RK bk := hx
  clear hx
  cases hx' with
  | nil => exact w_registers_active0 tab gl u
  | two b0 b1 h0 h1 => exact w_registers_active2 tab gl b0 b1 (by rcases h0 with h | h <;> omega) (by rcases h1 with h | h <;> omega) u
theorem wc_registers_twin (tab : Tab) (gl : Gl) (x : ct_twin.α) (hx : ct_twin.pre x) :
    ac_registers_twin.wp tab gl (zipF 0 (ct_twin.as x)) (zipF 0 (ct_twin.ins x)) (resF [] [(2, some (2, true))] (ct_twin.ins x).length (fun r o => r = ct_twin.r x ∧ o = ct_twin.outs x)) := by
  obtain ⟨bk, u⟩ := x
  obtain ⟨hk, hm⟩ := hx
  have hk' : RK bk := hk
  clear hk
  cases hk' with
  | nil => exact w_registers_twin0 tab gl u
  | two b0 b1 h0 h1 => exact w_registers_twin2 tab gl b0 b1 u (hm b0 (.head _)) (hm b1 (.tail _ (.head _)))
theorem wc_registers_New (tab : Tab) (gl : Gl) (n1 n2 : Nat) (h1 : tab.look n1 = some ct_size.fs) (h2 : tab.look n2 = some ct_fill.fs) (x : ct_new.α) :
    (ac_registers_New n1 n2).wp tab gl (zipF 0 (ct_new.as x)) (zipF 0 (ct_new.ins x)) (resF [] [(2, some (2, true))] (ct_new.ins x).length (fun r o => r = ct_new.r x ∧ o = ct_new.outs x)) := by
  have x' : Int := x
  by_cases h : (show Int from x) % 4 = 0
  · have := w_registers_New0 tab gl n1 n2 x h
    show (ac_registers_New n1 n2).wp tab gl (zipF 0 [.t (.int .i64 x)]) (zipF 0 []) (resF [] [(2, some (2, true))] 0 (fun r o => r = twR (newBk x) 0 ∧ o = twO (newBk x)))
    have e : newBk x = [] := if_pos h
    rw [e]; exact this
  · exact w_registers_New tab gl n1 n2 h1 h2 x h
theorem wc_ref8_New (tab : Tab) (gl : Gl) (n1 : Nat) (h1 : tab.look n1 = some ct_init.fs) (x : ct_new.α) :
    (ac_ref8_New n1).wp tab gl (zipF 0 (ct_new.as x)) (zipF 0 (ct_new.ins x)) (resF [] [(2, some (2, true))] (ct_new.ins x).length (fun r o => r = ct_new.r x ∧ o = ct_new.outs x)) := by
  by_cases h : (show Int from x) % 4 = 0
  · have := w_ref8_New0 tab gl n1 x h
    show (ac_ref8_New n1).wp tab gl (zipF 0 [.t (.int .i64 x)]) (zipF 0 []) (resF [] [(2, some (2, true))] 0 (fun r o => r = twR (newBk x) 0 ∧ o = twO (newBk x)))
    have e : newBk x = [] := if_pos h
    rw [e]; exact this
  · exact w_ref8_New tab gl n1 h1 x h
theorem wc_ref8_fill (tab : Tab) (gl : Gl) (x : ct_fill.α) (hx : ct_fill.pre x) :
    ac_ref8_fill.wp tab gl (zipF 0 (ct_fill.as x)) (zipF 0 (ct_fill.ins x)) (resF [] [(4, none)] (ct_fill.ins x).length (fun r o => r = ct_fill.r x ∧ o = ct_fill.outs x)) := by
  obtain ⟨n, x⟩ := x
  have hx' : n = 20 ∨ n = 32 := hx
  exact w_ref8_fill tab gl x n (by omega)
theorem wc_ref8_Active (tab : Tab) (gl : Gl) (x : ct_actv.α) (hx : ct_actv.pre x) :
    ac_ref8_Active.wp tab gl (zipF 0 (ct_actv.as x)) (zipF 0 (ct_actv.ins x)) (resW [(4, none)] (ct_actv.ins x).length (fun r o => r = ct_actv.r x ∧ o = ct_actv.outs x)) := by
  obtain ⟨bk, u, a⟩ := x
  obtain ⟨hk, ha⟩ := hx
  have hk' : RK bk := hk
  have ha' : a < 1000000000 := ha
  refine w_ref8_Active tab gl bk u a ha' ?_ ?_
  · cases hk' <;> simp
  · intro b hb
    clear hk
    cases hk' with
    | nil => simp at hb
    | two b0 b1 h0 h1 =>
      simp only [List.mem_cons, List.not_mem_nil, or_false] at hb
      rcases hb with rfl | rfl
      · rcases h0 with h | h <;> omega
      · rcases h1 with h | h <;> omega
end Go.Eng
end
section
set_option maxRecDepth 20000
set_option maxHeartbeats 16000000
namespace Go.Eng
def stN (x : List UInt8) (b : Bank) : Nat → Bank
  | 0 => b
  | k + 1 => (stN x b k).set (12 + k) x
theorem stN_length {x : List UInt8} {b : Bank} {k : Nat} : List.length (stN x b k) = List.length b := by
  induction k with
  | zero => rfl
  | succ k ih => simp only [stN, List.length_set, ih]
def resBk (bk : List Bank) : List Bank := match bk with
  | [b0, b1] => [stN (List.replicate 20 255) b0 4, stN (List.replicate 32 255) b1 4]
  | bk => bk
theorem newV_c {k : Nat} : newV (12 + k) = 255 := if_pos (by omega)
theorem w_ref8_Resume0 (tab : Tab) (gl : Gl) (n1 n2 : Nat) (h1 : tab.look n1 = some ct_twin.fs) (u : Int) : (ac_ref8_Resume n1 n2).wp tab gl (zipF 0 [.t (regT [] u)]) (zipF 0 []) (resW [(2, some (2, true))] 0 (fun r o => r = .t (regT [] u) ∧ o = [])) := by
  simp (config := { maxSteps := 2000000 }) (disch := (first | omega | (simp only [lens, lenm]; omega))) only [go_sem, ↓reduceIte, Nat.reduceAdd, Nat.reduceEqDiff, Nat.reduceSub, Nat.reduceMul, Nat.reduceLT, Nat.reduceLeDiff, Nat.reduceBEq, Int.reduceEq, Int.reduceLT, Int.reduceLE, Int.reduceToNat, Int.reduceNeg, Int.reduceAdd, Int.reduceSub, Int.reduceMul, Int.reduceMod, Int.reduceDiv, reduceCtorEq, Nat.reducePow, Int.reducePow, ac_ref8_Resume, h1, twin_eq0, List.map_nil]
  refine loop_fuel 1 ?_
  simp (config := { maxSteps := 2000000 }) (disch := (first | omega | (simp only [lens, lenm]; omega))) only [go_sem, ↓reduceIte, Nat.reduceAdd, Nat.reduceEqDiff, Nat.reduceSub, Nat.reduceMul, Nat.reduceLT, Nat.reduceLeDiff, Nat.reduceBEq, Int.reduceEq, Int.reduceLT, Int.reduceLE, Int.reduceToNat, Int.reduceNeg, Int.reduceAdd, Int.reduceSub, Int.reduceMul, Int.reduceMod, Int.reduceDiv, reduceCtorEq, Nat.reducePow, Int.reducePow, loopN_succ, ac_ref8_Resume_L0]
theorem w_ref8_Resume2 (tab : Tab) (gl : Gl) (n1 n2 : Nat) (h1 : tab.look n1 = some ct_twin.fs) (h2 : tab.look n2 = some ct_init.fs) (b0 b1 : Bank) (u : Int) (hk : RM [b0, b1]) : (ac_ref8_Resume n1 n2).wp tab gl (zipF 0 [.t (regT [b0, b1] u)]) (zipF 0 []) (resW [(2, some (2, true))] 0 (fun r o => r = .t (regT (resBk [b0, b1]) u) ∧ o = [])) := by
  simp (config := { maxSteps := 2000000 }) (disch := (first | omega | (simp only [lens, lenm]; omega))) only [go_sem, ↓reduceIte, Nat.reduceAdd, Nat.reduceEqDiff, Nat.reduceSub, Nat.reduceMul, Nat.reduceLT, Nat.reduceLeDiff, Nat.reduceBEq, Int.reduceEq, Int.reduceLT, Int.reduceLE, Int.reduceToNat, Int.reduceNeg, Int.reduceAdd, Int.reduceSub, Int.reduceMul, Int.reduceMod, Int.reduceDiv, reduceCtorEq, Nat.reducePow, Int.reducePow, ac_ref8_Resume, h1, twin_eq2 hk, List.map_nil, List.map_cons]
  refine loop_fuel 3 ?_
  simp (config := { maxSteps := 2000000 }) (disch := (first | omega | (simp only [lens, lenm]; omega))) only [go_sem, ↓reduceIte, Nat.reduceAdd, Nat.reduceEqDiff, Nat.reduceSub, Nat.reduceMul, Nat.reduceLT, Nat.reduceLeDiff, Nat.reduceBEq, Int.reduceEq, Int.reduceLT, Int.reduceLE, Int.reduceToNat, Int.reduceNeg, Int.reduceAdd, Int.reduceSub, Int.reduceMul, Int.reduceMod, Int.reduceDiv, reduceCtorEq, Nat.reducePow, Int.reducePow, loopN_succ, ac_ref8_Resume_L0]
  obtain ⟨hrk, _⟩ := hk
  cases hrk with
  | two _ _ h0 h1 =>
  have q0 : bkOk b0 := h0
  rcases q0 with z0 | z0
  · obtain rfl : b0 = [] := List.eq_nil_of_length_eq_zero z0
    have y0 : stN (List.replicate 20 255) [] 4 = [] := rfl
    refine loop_fuel 1 ?_
    simp (config := { maxSteps := 2000000 }) (disch := (first | omega | (simp only [lens, lenm]; omega))) only [go_sem, ↓reduceIte, Nat.reduceAdd, Nat.reduceEqDiff, Nat.reduceSub, Nat.reduceMul, Nat.reduceLT, Nat.reduceLeDiff, Nat.reduceBEq, Int.reduceEq, Int.reduceLT, Int.reduceLE, Int.reduceToNat, Int.reduceNeg, Int.reduceAdd, Int.reduceSub, Int.reduceMul, Int.reduceMod, Int.reduceDiv, reduceCtorEq, Nat.reducePow, Int.reducePow, loopN_succ, ac_ref8_Resume_L0, ac_ref8_Resume_L1, List.length_nil, List.map_nil]
    have q1 : bkOk b1 := h1
    rcases q1 with z1 | z1
    · obtain rfl : b1 = [] := List.eq_nil_of_length_eq_zero z1
      have y1 : stN (List.replicate 32 255) [] 4 = [] := rfl
      refine loop_fuel 1 ?_
      simp (config := { maxSteps := 2000000 }) (disch := (first | omega | (simp only [lens, lenm]; omega))) only [go_sem, ↓reduceIte, Nat.reduceAdd, Nat.reduceEqDiff, Nat.reduceSub, Nat.reduceMul, Nat.reduceLT, Nat.reduceLeDiff, Nat.reduceBEq, Int.reduceEq, Int.reduceLT, Int.reduceLE, Int.reduceToNat, Int.reduceNeg, Int.reduceAdd, Int.reduceSub, Int.reduceMul, Int.reduceMod, Int.reduceDiv, reduceCtorEq, Nat.reducePow, Int.reducePow, loopN_succ, ac_ref8_Resume_L0, ac_ref8_Resume_L1, List.length_nil, List.map_nil, z0, z1]
      all_goals rfl
    · refine loop_upto 4 (fun k => [(2, .ref 4112 0 0), (3, .ref 8224 0 0), (4, .t (.int .i64 1)), (5, .t (.int .i64 ((12 + k : Nat) : Int)))]) (fun k => [(8224, .live 2 [.agg [.sl 8208 0 2, .t (.int .i64 u)]] true true), (8210, .live 1 (((stN (List.replicate 32 255) b1 k).map bsT).map V.t) true false), (8209, .live 1 (((([] : Bank)).map bsT).map V.t) true false), (8208, .live 1 [.sl 8209 0 0, .sl 8210 0 16] true false), (4112, .live 2 [.agg [.nil, .t (.int .i64 0)]] true true)]) ?_ (fun k hk4 => ?_)
      · refine Weak.rd id ?_ ?_ rfl
        all_goals simp (config := { maxSteps := 2000000 }) (disch := (first | omega | (simp only [lens, lenm]; omega))) only [go_sem, ↓reduceIte, Nat.reduceAdd, Nat.reduceEqDiff, Nat.reduceSub, Nat.reduceMul, Nat.reduceLT, Nat.reduceLeDiff, Nat.reduceBEq, Int.reduceEq, Int.reduceLT, Int.reduceLE, Int.reduceToNat, Int.reduceNeg, Int.reduceAdd, Int.reduceSub, Int.reduceMul, Int.reduceMod, Int.reduceDiv, reduceCtorEq, Nat.reducePow, Int.reducePow, id, stN, z0, z1]
      · have s1 : List.length (stN (List.replicate 32 255) b1 k) = 16 := by rw [stN_length, z1]
        by_cases hlt : k < 4
        · simp (config := { maxSteps := 2000000 }) (disch := (first | omega | (simp only [lens, lenm]; omega))) only [go_sem, ↓reduceIte, Nat.reduceAdd, Nat.reduceEqDiff, Nat.reduceSub, Nat.reduceMul, Nat.reduceLT, Nat.reduceLeDiff, Nat.reduceBEq, Int.reduceEq, Int.reduceLT, Int.reduceLE, Int.reduceToNat, Int.reduceNeg, Int.reduceAdd, Int.reduceSub, Int.reduceMul, Int.reduceMod, Int.reduceDiv, reduceCtorEq, Nat.reducePow, Int.reducePow, ac_ref8_Resume_L1, z1, s1, h2, init_eq0, init_eq1]
          repeat refine And.intro rfl ?_
          refine ⟨hlt, Weak.cv (hv := []) [36992] id ?_ rfl⟩
          simp (config := { maxSteps := 2000000 }) (disch := (first | omega | (simp only [lens, lenm]; omega))) only [go_sem, ↓reduceIte, Nat.reduceAdd, Nat.reduceEqDiff, Nat.reduceSub, Nat.reduceMul, Nat.reduceLT, Nat.reduceLeDiff, Nat.reduceBEq, Int.reduceEq, Int.reduceLT, Int.reduceLE, Int.reduceToNat, Int.reduceNeg, Int.reduceAdd, Int.reduceSub, Int.reduceMul, Int.reduceMod, Int.reduceDiv, reduceCtorEq, Nat.reducePow, Int.reducePow, id, stN, z1, s1, List.take_replicate, Nat.min_self, newV_c]
          refine ⟨?_, rfl⟩
          omega
        · have e : k = 4 := by omega
          subst e
          have t1 : List.take 16 (stN (List.replicate 32 255) b1 4) = stN (List.replicate 32 255) b1 4 := List.take_of_length_le (by omega)
          simp (config := { maxSteps := 2000000 }) (disch := (first | omega | (simp only [lens, lenm]; omega))) only [go_sem, ↓reduceIte, Nat.reduceAdd, Nat.reduceEqDiff, Nat.reduceSub, Nat.reduceMul, Nat.reduceLT, Nat.reduceLeDiff, Nat.reduceBEq, Int.reduceEq, Int.reduceLT, Int.reduceLE, Int.reduceToNat, Int.reduceNeg, Int.reduceAdd, Int.reduceSub, Int.reduceMul, Int.reduceMod, Int.reduceDiv, reduceCtorEq, Nat.reducePow, Int.reducePow, ac_ref8_Resume_L0, ac_ref8_Resume_L1, z1, s1, loopN_succ, t1]
          all_goals rfl
  · refine loop_upto 4 (fun k => [(2, .ref 4112 0 0), (3, .ref 8224 0 0), (4, .t (.int .i64 0)), (5, .t (.int .i64 ((12 + k : Nat) : Int)))]) (fun k => [(8224, .live 2 [.agg [.sl 8208 0 2, .t (.int .i64 u)]] true true), (8210, .live 1 (((b1).map bsT).map V.t) true false), (8209, .live 1 (((stN (List.replicate 20 255) b0 k).map bsT).map V.t) true false), (8208, .live 1 [.sl 8209 0 16, .sl 8210 0 b1.length] true false), (4112, .live 2 [.agg [.nil, .t (.int .i64 0)]] true true)]) ?_ (fun k hk4 => ?_)
    · refine Weak.rd id ?_ ?_ rfl
      all_goals simp (config := { maxSteps := 2000000 }) (disch := (first | omega | (simp only [lens, lenm]; omega))) only [go_sem, ↓reduceIte, Nat.reduceAdd, Nat.reduceEqDiff, Nat.reduceSub, Nat.reduceMul, Nat.reduceLT, Nat.reduceLeDiff, Nat.reduceBEq, Int.reduceEq, Int.reduceLT, Int.reduceLE, Int.reduceToNat, Int.reduceNeg, Int.reduceAdd, Int.reduceSub, Int.reduceMul, Int.reduceMod, Int.reduceDiv, reduceCtorEq, Nat.reducePow, Int.reducePow, id, stN, z0]
    · have s0 : List.length (stN (List.replicate 20 255) b0 k) = 16 := by rw [stN_length, z0]
      by_cases hlt : k < 4
      · simp (config := { maxSteps := 2000000 }) (disch := (first | omega | (simp only [lens, lenm]; omega))) only [go_sem, ↓reduceIte, Nat.reduceAdd, Nat.reduceEqDiff, Nat.reduceSub, Nat.reduceMul, Nat.reduceLT, Nat.reduceLeDiff, Nat.reduceBEq, Int.reduceEq, Int.reduceLT, Int.reduceLE, Int.reduceToNat, Int.reduceNeg, Int.reduceAdd, Int.reduceSub, Int.reduceMul, Int.reduceMod, Int.reduceDiv, reduceCtorEq, Nat.reducePow, Int.reducePow, ac_ref8_Resume_L1, z0, s0, h2, init_eq0, init_eq1]
        repeat refine And.intro rfl ?_
        refine ⟨hlt, Weak.cv (hv := []) [36992] id ?_ rfl⟩
        simp (config := { maxSteps := 2000000 }) (disch := (first | omega | (simp only [lens, lenm]; omega))) only [go_sem, ↓reduceIte, Nat.reduceAdd, Nat.reduceEqDiff, Nat.reduceSub, Nat.reduceMul, Nat.reduceLT, Nat.reduceLeDiff, Nat.reduceBEq, Int.reduceEq, Int.reduceLT, Int.reduceLE, Int.reduceToNat, Int.reduceNeg, Int.reduceAdd, Int.reduceSub, Int.reduceMul, Int.reduceMod, Int.reduceDiv, reduceCtorEq, Nat.reducePow, Int.reducePow, id, stN, z0, s0, List.take_replicate, Nat.min_self, newV_c]
        refine ⟨?_, rfl⟩
        omega
      · have e : k = 4 := by omega
        subst e
        have t0 : List.take 16 (stN (List.replicate 20 255) b0 4) = stN (List.replicate 20 255) b0 4 := List.take_of_length_le (by omega)
        simp (config := { maxSteps := 2000000 }) (disch := (first | omega | (simp only [lens, lenm]; omega))) only [go_sem, ↓reduceIte, Nat.reduceAdd, Nat.reduceEqDiff, Nat.reduceSub, Nat.reduceMul, Nat.reduceLT, Nat.reduceLeDiff, Nat.reduceBEq, Int.reduceEq, Int.reduceLT, Int.reduceLE, Int.reduceToNat, Int.reduceNeg, Int.reduceAdd, Int.reduceSub, Int.reduceMul, Int.reduceMod, Int.reduceDiv, reduceCtorEq, Nat.reducePow, Int.reducePow, ac_ref8_Resume_L0, ac_ref8_Resume_L1, z0, s0, loopN_succ, t0]
        have q1 : bkOk b1 := h1
        rcases q1 with z1 | z1
        · obtain rfl : b1 = [] := List.eq_nil_of_length_eq_zero z1
          have y1 : stN (List.replicate 32 255) [] 4 = [] := rfl
          refine loop_fuel 1 ?_
          simp (config := { maxSteps := 2000000 }) (disch := (first | omega | (simp only [lens, lenm]; omega))) only [go_sem, ↓reduceIte, Nat.reduceAdd, Nat.reduceEqDiff, Nat.reduceSub, Nat.reduceMul, Nat.reduceLT, Nat.reduceLeDiff, Nat.reduceBEq, Int.reduceEq, Int.reduceLT, Int.reduceLE, Int.reduceToNat, Int.reduceNeg, Int.reduceAdd, Int.reduceSub, Int.reduceMul, Int.reduceMod, Int.reduceDiv, reduceCtorEq, Nat.reducePow, Int.reducePow, loopN_succ, ac_ref8_Resume_L0, ac_ref8_Resume_L1, List.length_nil, List.map_nil, z0, z1, t0]
          all_goals rfl
        · refine loop_upto 4 (fun k => [(2, .ref 4112 0 0), (3, .ref 8224 0 0), (4, .t (.int .i64 1)), (5, .t (.int .i64 ((12 + k : Nat) : Int)))]) (fun k => [(8224, .live 2 [.agg [.sl 8208 0 2, .t (.int .i64 u)]] true true), (8210, .live 1 (((stN (List.replicate 32 255) b1 k).map bsT).map V.t) true false), (8209, .live 1 (((stN (List.replicate 20 255) b0 4).map bsT).map V.t) true false), (8208, .live 1 [.sl 8209 0 16, .sl 8210 0 16] true false), (4112, .live 2 [.agg [.nil, .t (.int .i64 0)]] true true)]) ?_ (fun k hk4 => ?_)
          · refine Weak.rd id ?_ ?_ rfl
            all_goals simp (config := { maxSteps := 2000000 }) (disch := (first | omega | (simp only [lens, lenm]; omega))) only [go_sem, ↓reduceIte, Nat.reduceAdd, Nat.reduceEqDiff, Nat.reduceSub, Nat.reduceMul, Nat.reduceLT, Nat.reduceLeDiff, Nat.reduceBEq, Int.reduceEq, Int.reduceLT, Int.reduceLE, Int.reduceToNat, Int.reduceNeg, Int.reduceAdd, Int.reduceSub, Int.reduceMul, Int.reduceMod, Int.reduceDiv, reduceCtorEq, Nat.reducePow, Int.reducePow, id, stN, z0, z1]
          · have s1 : List.length (stN (List.replicate 32 255) b1 k) = 16 := by rw [stN_length, z1]
            by_cases hlt : k < 4
            · simp (config := { maxSteps := 2000000 }) (disch := (first | omega | (simp only [lens, lenm]; omega))) only [go_sem, ↓reduceIte, Nat.reduceAdd, Nat.reduceEqDiff, Nat.reduceSub, Nat.reduceMul, Nat.reduceLT, Nat.reduceLeDiff, Nat.reduceBEq, Int.reduceEq, Int.reduceLT, Int.reduceLE, Int.reduceToNat, Int.reduceNeg, Int.reduceAdd, Int.reduceSub, Int.reduceMul, Int.reduceMod, Int.reduceDiv, reduceCtorEq, Nat.reducePow, Int.reducePow, ac_ref8_Resume_L1, z1, s1, h2, init_eq0, init_eq1]
              repeat refine And.intro rfl ?_
              refine ⟨hlt, Weak.cv (hv := []) [36992] id ?_ rfl⟩
              simp (config := { maxSteps := 2000000 }) (disch := (first | omega | (simp only [lens, lenm]; omega))) only [go_sem, ↓reduceIte, Nat.reduceAdd, Nat.reduceEqDiff, Nat.reduceSub, Nat.reduceMul, Nat.reduceLT, Nat.reduceLeDiff, Nat.reduceBEq, Int.reduceEq, Int.reduceLT, Int.reduceLE, Int.reduceToNat, Int.reduceNeg, Int.reduceAdd, Int.reduceSub, Int.reduceMul, Int.reduceMod, Int.reduceDiv, reduceCtorEq, Nat.reducePow, Int.reducePow, id, stN, z1, s1, List.take_replicate, Nat.min_self, newV_c]
              refine ⟨?_, rfl⟩
              omega
            · have e : k = 4 := by omega
              subst e
              have t1 : List.take 16 (stN (List.replicate 32 255) b1 4) = stN (List.replicate 32 255) b1 4 := List.take_of_length_le (by omega)
              simp (config := { maxSteps := 2000000 }) (disch := (first | omega | (simp only [lens, lenm]; omega))) only [go_sem, ↓reduceIte, Nat.reduceAdd, Nat.reduceEqDiff, Nat.reduceSub, Nat.reduceMul, Nat.reduceLT, Nat.reduceLeDiff, Nat.reduceBEq, Int.reduceEq, Int.reduceLT, Int.reduceLE, Int.reduceToNat, Int.reduceNeg, Int.reduceAdd, Int.reduceSub, Int.reduceMul, Int.reduceMod, Int.reduceDiv, reduceCtorEq, Nat.reducePow, Int.reducePow, ac_ref8_Resume_L0, ac_ref8_Resume_L1, z1, s1, loopN_succ, t0, t1]
              all_goals rfl
end Go.Eng
end
section
set_option maxRecDepth 20000
set_option maxHeartbeats 16000000
namespace Go.Eng
def ct_rst : Ct where
  α := List Bank × Int × Int × Int
  as x := [.t (regT x.1 x.2.1), .t (.int .i64 x.2.2.1), .t (.int .i64 x.2.2.2)]
  ins _ := []
  pre x := RM x.1 ∧ 0 ≤ x.2.1 ∧ x.2.1 < 1000000000
  r x := rstR x.1 x.2.1 x.2.2.1 x.2.2.2
  outs _ := []
  inj := by
    rintro ⟨a, u, l, i⟩ ⟨b, v, l', i'⟩ h _
    simp only [List.cons.injEq, V.t.injEq, T.int.injEq, true_and, and_true] at h
    obtain ⟨h1, rfl, rfl⟩ := h
    obtain ⟨rfl, rfl⟩ := regT_inj h1
    exact ⟨rfl, rfl⟩
def ct_rsm : Ct where
  α := List Bank × Int
  as x := [.t (regT x.1 x.2)]
  ins _ := []
  pre x := RM x.1
  r x := .t (regT (resBk x.1) x.2)
  outs _ := []
  inj := by
    rintro ⟨a, u⟩ ⟨b, v⟩ h _
    simp only [List.cons.injEq, V.t.injEq, and_true] at h
    obtain ⟨rfl, rfl⟩ := regT_inj h
    exact ⟨rfl, rfl⟩
theorem wc_registers_Reset (tab : Tab) (gl : Gl) (n1 n2 n3 n4 n5 n6 : Nat) (h1 : tab.look n1 = some ct_index.fs) (h2 : tab.look n2 = some ct_least.fs) (h3 : tab.look n3 = some ct_twin.fs) (h4 : tab.look n4 = some ct_on.fs) (h5 : tab.look n5 = some ct_size.fs) (h6 : tab.look n6 = some ct_fill.fs) (x : ct_rst.α) (hx : ct_rst.pre x) :
    (ac_registers_Reset n1 n2 n3 n4 n5 n6).wp tab gl (zipF 0 (ct_rst.as x)) (zipF 0 (ct_rst.ins x)) (resW [(6, some (2, true)), (7, none)] (ct_rst.ins x).length (fun r o => r = ct_rst.r x ∧ o = ct_rst.outs x)) := by
  obtain ⟨bk, u, l, i⟩ := x
  obtain ⟨hk, hu⟩ := hx
  show (ac_registers_Reset n1 n2 n3 n4 n5 n6).wp tab gl (zipF 0 [.t (regT bk u), .t (.int .i64 l), .t (.int .i64 i)]) (zipF 0 []) (resW [(6, some (2, true)), (7, none)] 0 (fun r o => r = rstR bk u l i ∧ o = []))
  by_cases he : rstE l i = 0
  · rw [rstR, if_pos he]
    have hk' : RM bk := hk
    have hk2 := hk'.1
    cases hk2 with
    | nil => exact w_registers_Reset0 tab gl n1 n2 n3 n4 n5 n6 h1 h2 h3 u l i hu he
    | two b0 b1 _ _ => exact w_registers_Reset2 tab gl n1 n2 n3 n4 n5 n6 h1 h2 h3 h4 h5 h6 b0 b1 u l i hu hk he
  · rw [rstR, if_neg he]
    exact w_registers_Reset_err tab gl n1 n2 n3 n4 n5 n6 h1 h2 bk u l i he
theorem wc_ref8_Reset (tab : Tab) (gl : Gl) (n1 n2 n3 n4 n5 : Nat) (h1 : tab.look n1 = some ct_rleast.fs) (h3 : tab.look n2 = some ct_twin.fs) (h4 : tab.look n3 = some ct_actv.fs) (h5 : tab.look n4 = some ct_size.fs) (h6 : tab.look n5 = some ct_fill.fs) (x : ct_rst.α) (hx : ct_rst.pre x) :
    (ac_ref8_Reset n1 n2 n3 n4 n5).wp tab gl (zipF 0 (ct_rst.as x)) (zipF 0 (ct_rst.ins x)) (resW [(6, some (2, true)), (7, none)] (ct_rst.ins x).length (fun r o => r = ct_rst.r x ∧ o = ct_rst.outs x)) := by
  obtain ⟨bk, u, l, i⟩ := x
  obtain ⟨hk, hu⟩ := hx
  show (ac_ref8_Reset n1 n2 n3 n4 n5).wp tab gl (zipF 0 [.t (regT bk u), .t (.int .i64 l), .t (.int .i64 i)]) (zipF 0 []) (resW [(6, some (2, true)), (7, none)] 0 (fun r o => r = rstR bk u l i ∧ o = []))
  by_cases he : rstE l i = 0
  · rw [rstR, if_pos he]
    have hk' : RM bk := hk
    have hk2 := hk'.1
    cases hk2 with
    | nil => exact w_ref8_Reset0 tab gl n1 n2 n3 n4 n5 h1 h3 h4 u l i hu he
    | two b0 b1 _ _ => exact w_ref8_Reset2 tab gl n1 n2 n3 n4 n5 h1 h3 h4 h5 h6 b0 b1 u l i hu hk he
  · rw [rstR, if_neg he]
    exact w_ref8_Reset_err tab gl n1 n2 n3 n4 n5 h1 bk u l i he
theorem wc_ref8_Copy (tab : Tab) (gl : Gl) (n1 : Nat) (h1 : tab.look n1 = some ct_copy.fs) (x : ct_twin.α) (hx : ct_twin.pre x) :
    (ac_ref8_Copy n1).wp tab gl (zipF 0 (ct_twin.as x)) (zipF 0 (ct_twin.ins x)) (resF [] [(2, some (2, true))] (ct_twin.ins x).length (fun r o => r = ct_twin.r x ∧ o = ct_twin.outs x)) := by
  obtain ⟨bk, u⟩ := x
  obtain ⟨hk, hm⟩ := hx
  have hk' : RK bk := hk
  clear hk
  cases hk' with
  | nil => exact w_ref8_Copy0 tab gl n1 u
  | two b0 b1 h0 h1' => exact w_ref8_Copy2 tab gl n1 h1 b0 b1 u (hm b0 (.head _)) (hm b1 (.tail _ (.head _)))
theorem wc_ref8_Resume (tab : Tab) (gl : Gl) (n1 n2 : Nat) (h1 : tab.look n1 = some ct_twin.fs) (h2 : tab.look n2 = some ct_init.fs) (x : ct_rsm.α) (hx : ct_rsm.pre x) :
    (ac_ref8_Resume n1 n2).wp tab gl (zipF 0 (ct_rsm.as x)) (zipF 0 (ct_rsm.ins x)) (resW [(2, some (2, true))] (ct_rsm.ins x).length (fun r o => r = ct_rsm.r x ∧ o = ct_rsm.outs x)) := by
  obtain ⟨bk, u⟩ := x
  have hk : RM bk := hx
  have hk2 := hk.1
  clear hx
  cases hk2 with
  | nil => exact w_ref8_Resume0 tab gl n1 n2 h1 u
  | two b0 b1 _ _ => exact w_ref8_Resume2 tab gl n1 n2 h1 h2 b0 b1 u hk
theorem RV.of2 {b0 b1 : Bank} (h0 : bkOk b0) (h1 : bkOk b1) (m0 : ∀ x ∈ b0, x.length ≤ 64) (m1 : ∀ x ∈ b1, x.length ≤ 64) : RV [b0, b1] := by
  refine ⟨.two _ _ h0 h1, fun b hb => ?_⟩
  simp only [List.mem_cons, List.not_mem_nil, or_false] at hb
  rcases hb with rfl | rfl
  · exact m0
  · exact m1
theorem bkOk_len {b c : Bank} (h : bkOk b) (hl : List.length c = List.length b) : bkOk c := by
  rcases h with h | h
  · exact .inl (by rw [hl, h])
  · exact .inr (by rw [hl, h])
theorem set_le {b : Bank} {i : Nat} {y : List UInt8} (h : ∀ x ∈ b, x.length ≤ 64) (hy : y.length ≤ 64) : ∀ x ∈ b.set i y, x.length ≤ 64 := by
  intro x hx
  rcases List.mem_or_eq_of_mem_set hx with h1 | rfl
  · exact h x h1
  · exact hy
theorem RV.cases {bk : List Bank} (h : RV bk) : bk = [] ∨ ∃ b0 b1, bk = [b0, b1] ∧ bkOk b0 ∧ bkOk b1 ∧ (∀ x ∈ b0, x.length ≤ 64) ∧ (∀ x ∈ b1, x.length ≤ 64) := by
  obtain ⟨hk, hm⟩ := h
  cases hk with
  | nil => exact .inl rfl
  | two b0 b1 h0 h1 => exact .inr ⟨b0, b1, rfl, h0, h1, hm b0 (.head _), hm b1 (.tail _ (.head _))⟩
theorem ext1_le {a : Nat} (ha : a < 2) {b : Bank} {i : Nat} {d : List UInt8} (h : ∀ x ∈ b, x.length ≤ 64) : ∀ x ∈ ext1 a b i d, x.length ≤ 64 := by
  unfold ext1
  split
  · refine set_le h ?_
    have : a = 0 ∨ a = 1 := by omega
    rcases this with rfl | rfl
    · rw [sumA0, sum1_length]; omega
    · rw [sumA1, sum256_length]; omega
  · exact h
theorem rst1_le {a : Nat} (ha : a < 2) {b : Bank} {i : Nat} (h : ∀ x ∈ b, x.length ≤ 64) : ∀ x ∈ rst1 a b i, x.length ≤ 64 := by
  unfold rst1
  split
  · refine set_le h ?_
    rw [List.length_replicate]
    have : a = 0 ∨ a = 1 := by omega
    rcases this with rfl | rfl <;> decide
  · exact h
theorem stN_le {y : List UInt8} {b : Bank} (hy : y.length ≤ 64) (h : ∀ x ∈ b, x.length ≤ 64) : ∀ k, ∀ x ∈ stN y b k, x.length ≤ 64
  | 0 => h
  | k + 1 => set_le (stN_le hy h k) hy
theorem RV.ext {bk : List Bank} (h : RV bk) (i : Nat) (ds : List (List UInt8)) : RV (extBk bk i ds) := by
  rcases h.cases with rfl | ⟨b0, b1, rfl, h0, h1, m0, m1⟩
  · exact h
  · exact .of2 (bkOk_len h0 ext1_length) (bkOk_len h1 ext1_length) (ext1_le (by omega) m0) (ext1_le (by omega) m1)
theorem RV.rst {bk : List Bank} (h : RV bk) (i : Nat) : RV (rstBk bk i) := by
  rcases h.cases with rfl | ⟨b0, b1, rfl, h0, h1, m0, m1⟩
  · exact h
  · exact .of2 (bkOk_len h0 rst1_length) (bkOk_len h1 rst1_length) (rst1_le (by omega) m0) (rst1_le (by omega) m1)
theorem RV.res {bk : List Bank} (h : RV bk) : RV (resBk bk) := by
  rcases h.cases with rfl | ⟨b0, b1, rfl, h0, h1, m0, m1⟩
  · exact h
  · exact .of2 (bkOk_len h0 stN_length) (bkOk_len h1 stN_length) (stN_le (by rw [List.length_replicate]; omega) m0 4) (stN_le (by rw [List.length_replicate]; omega) m1 4)
end Go.Eng
end
section
set_option maxRecDepth 20000
set_option maxHeartbeats 64000000
namespace Go.Eng
theorem setRange_map {α γ : Type} {f : α → γ} {l xs : List α} {i : Nat} : setRange (l.map f) i (xs.map f) = (setRange l i xs).map f := by
  simp [setRange]
def dgx (a : Nat) (b : List UInt8) : List UInt8 := List.take (szA a) b ++ List.replicate (szA a - min (szA a) b.length) 0
def dg1 (a : Nat) (b : List UInt8) : List UInt8 := (dgx a b).set (szA a - 1) ((dgx a b).getD (szA a - 1) 0 ^^^ UInt8.ofNat a)
theorem dgx_length {a : Nat} {b : List UInt8} : (dgx a b).length = szA a := by
  simp [dgx, Nat.min_def]
  split <;> omega
theorem dg1_length {a : Nat} {b : List UInt8} : (dg1 a b).length = szA a := by rw [dg1, List.length_set, dgx_length]
theorem dgx0 {b : List UInt8} : List.take 20 b ++ List.replicate (20 - min 20 b.length) 0 = dgx 0 b := rfl
theorem dgx1 {b : List UInt8} : List.take 32 b ++ List.replicate (32 - min 32 b.length) 0 = dgx 1 b := rfl
theorem dgx0_length {b : List UInt8} : (dgx 0 b).length = 20 := dgx_length
theorem dgx1_length {b : List UInt8} : (dgx 1 b).length = 32 := dgx_length
theorem dg10 {b : List UInt8} : (dgx 0 b).set 19 ((dgx 0 b).getD 19 0 ^^^ 0) = dg1 0 b := rfl
theorem dg11 {b : List UInt8} : (dgx 1 b).set 31 ((dgx 1 b).getD 31 0 ^^^ 1) = dg1 1 b := rfl
theorem dg1_len0 {b : List UInt8} : (dg1 0 b).length = 20 := dg1_length
theorem dg1_len1 {b : List UInt8} : (dg1 1 b).length = 32 := dg1_length
theorem dg1_take0 {b : List UInt8} : List.take 20 (dg1 0 b) = dg1 0 b := List.take_of_length_le (by rw [dg1_length]; decide)
theorem dg1_take1 {b : List UInt8} : List.take 32 (dg1 1 b) = dg1 1 b := List.take_of_length_le (by rw [dg1_length]; decide)
def dgb (s : Int) (a : Nat) (b : List UInt8) : List UInt8 := if s / (2 ^ a : Nat) % 2 = 1 then dg1 a b else []
theorem w_draw_Digests (tab : Tab) (gl : Gl) (s : Int) (b : List UInt8) : ac_draw_Digests.wp tab gl (zipF 0 [.t (.int .i64 s), .t (.sl (b.map byteT))]) (zipF 0 []) (resF [] [(4, none)] 0 (fun r o => r = .sl 0 0 2 ∧ o = [.live 1 [.t (bsT (dgb s 0 b)), .t (bsT (dgb s 1 b))] true false])) := by
  have hf1 : s.fdiv 1 = s := Int.fdiv_one s
  have hf2 : s.fdiv 2 = s / 2 := Int.fdiv_eq_ediv_of_nonneg s (by omega)
  have hc0 : s % 2 = 0 ∨ s % 2 = 1 := by omega
  have hc1 : s / 2 % 2 = 0 ∨ s / 2 % 2 = 1 := by omega
  have hz20 : List.replicate 20 (V.t (byteT 0)) = ((List.replicate 20 (0 : UInt8)).map byteT).map V.t := by simp
  have hz32 : List.replicate 32 (V.t (byteT 0)) = ((List.replicate 32 (0 : UInt8)).map byteT).map V.t := by simp
  have ht20 : ∀ m : Nat, List.take m ((b.map byteT).map V.t) = ((b.take m).map byteT).map V.t := fun m => by simp
  have l0 : (dgx 0 b).length = 20 := dgx_length
  have l1 : (dgx 1 b).length = 32 := dgx_length
  have hw0 : T.int .u8 (IntKind.u8.wrap 0) = byteT 0 := rfl
  have hw1 : T.int .u8 (IntKind.u8.wrap 1) = byteT 1 := rfl
  rcases hc0 with c0 | c0 <;> rcases hc1 with c1 | c1
  · have e0 : dgb s 0 b = [] := by unfold dgb; rw [if_neg (by simp [c0])]
    have e1 : dgb s 1 b = [] := by unfold dgb; rw [if_neg (by simp [c1])]
    rw [e0, e1]
    simp (config := { maxSteps := 2000000 }) (disch := (first | omega | (simp only [lens, lenm]; omega))) only [go_sem, ↓reduceIte, Nat.reduceAdd, Nat.reduceEqDiff, Nat.reduceSub, Nat.reduceMul, Nat.reduceLT, Nat.reduceLeDiff, Nat.reduceBEq, Int.reduceEq, Int.reduceLT, Int.reduceLE, Int.reduceToNat, Int.reduceNeg, Int.reduceAdd, Int.reduceSub, Int.reduceMul, Int.reduceMod, Int.reduceDiv, reduceCtorEq, Nat.reducePow, Int.reducePow, ac_draw_Digests]
    refine loop_upto 2 (fun k => match k with | 0 => [(0, .t (.int .i64 s)), (1, .t (.sl (b.map byteT))), (5, .sl 8192 0 2), (6, .t (.int .i64 0))] | 1 => [(0, .t (.int .i64 s)), (1, .t (.sl (b.map byteT))), (5, .sl 8192 0 2), (6, .t (.int .i64 1))] | _ => [(0, .t (.int .i64 s)), (1, .t (.sl (b.map byteT))), (5, .sl 8192 0 2), (6, .t (.int .i64 2))]) (fun k => match k with | 0 => [(8192, .live 1 [.t (bsT []), .t (bsT [])] true false)] | 1 => [(8192, .live 1 [.t (bsT []), .t (bsT [])] true false)] | _ => [(8192, .live 1 [.t (bsT []), .t (bsT [])] true false)]) ?_ (fun k hk2 => ?_)
    · refine Weak.rd id ?_ ?_ rfl
      all_goals simp (config := { maxSteps := 2000000 }) (disch := (first | omega | (simp only [lens, lenm]; omega))) only [go_sem, ↓reduceIte, Nat.reduceAdd, Nat.reduceEqDiff, Nat.reduceSub, Nat.reduceMul, Nat.reduceLT, Nat.reduceLeDiff, Nat.reduceBEq, Int.reduceEq, Int.reduceLT, Int.reduceLE, Int.reduceToNat, Int.reduceNeg, Int.reduceAdd, Int.reduceSub, Int.reduceMul, Int.reduceMod, Int.reduceDiv, reduceCtorEq, Nat.reducePow, Int.reducePow, id, List.map_nil]
    · rcases (show k = 0 ∨ k = 1 ∨ k = 2 by omega) with rfl | rfl | rfl
      · simp (config := { maxSteps := 2000000 }) (disch := (first | omega | (simp only [lens, lenm]; omega))) only [go_sem, ↓reduceIte, Nat.reduceAdd, Nat.reduceEqDiff, Nat.reduceSub, Nat.reduceMul, Nat.reduceLT, Nat.reduceLeDiff, Nat.reduceBEq, Int.reduceEq, Int.reduceLT, Int.reduceLE, Int.reduceToNat, Int.reduceNeg, Int.reduceAdd, Int.reduceSub, Int.reduceMul, Int.reduceMod, Int.reduceDiv, reduceCtorEq, Nat.reducePow, Int.reducePow, ac_draw_Digests_L0, c0, c1, hf1, hf2, hz20, hz32, ht20, setRange_map, dgx0, dgx1, dgx0_length, dgx1_length, hw0, hw1, dg10, dg11, List.map_nil]
        refine Weak.rd id ?_ ?_ rfl
        all_goals simp (config := { maxSteps := 2000000 }) (disch := (first | omega | (simp only [lens, lenm]; omega))) only [go_sem, ↓reduceIte, Nat.reduceAdd, Nat.reduceEqDiff, Nat.reduceSub, Nat.reduceMul, Nat.reduceLT, Nat.reduceLeDiff, Nat.reduceBEq, Int.reduceEq, Int.reduceLT, Int.reduceLE, Int.reduceToNat, Int.reduceNeg, Int.reduceAdd, Int.reduceSub, Int.reduceMul, Int.reduceMod, Int.reduceDiv, reduceCtorEq, Nat.reducePow, Int.reducePow, id, List.map_nil]
      · simp (config := { maxSteps := 2000000 }) (disch := (first | omega | (simp only [lens, lenm]; omega))) only [go_sem, ↓reduceIte, Nat.reduceAdd, Nat.reduceEqDiff, Nat.reduceSub, Nat.reduceMul, Nat.reduceLT, Nat.reduceLeDiff, Nat.reduceBEq, Int.reduceEq, Int.reduceLT, Int.reduceLE, Int.reduceToNat, Int.reduceNeg, Int.reduceAdd, Int.reduceSub, Int.reduceMul, Int.reduceMod, Int.reduceDiv, reduceCtorEq, Nat.reducePow, Int.reducePow, ac_draw_Digests_L0, c0, c1, hf1, hf2, hz20, hz32, ht20, setRange_map, dgx0, dgx1, dgx0_length, dgx1_length, hw0, hw1, dg10, dg11, List.map_nil]
        refine Weak.rd id ?_ ?_ rfl
        all_goals simp (config := { maxSteps := 2000000 }) (disch := (first | omega | (simp only [lens, lenm]; omega))) only [go_sem, ↓reduceIte, Nat.reduceAdd, Nat.reduceEqDiff, Nat.reduceSub, Nat.reduceMul, Nat.reduceLT, Nat.reduceLeDiff, Nat.reduceBEq, Int.reduceEq, Int.reduceLT, Int.reduceLE, Int.reduceToNat, Int.reduceNeg, Int.reduceAdd, Int.reduceSub, Int.reduceMul, Int.reduceMod, Int.reduceDiv, reduceCtorEq, Nat.reducePow, Int.reducePow, id, List.map_nil]
      · simp (config := { maxSteps := 2000000 }) (disch := (first | omega | (simp only [lens, lenm]; omega))) only [go_sem, ↓reduceIte, Nat.reduceAdd, Nat.reduceEqDiff, Nat.reduceSub, Nat.reduceMul, Nat.reduceLT, Nat.reduceLeDiff, Nat.reduceBEq, Int.reduceEq, Int.reduceLT, Int.reduceLE, Int.reduceToNat, Int.reduceNeg, Int.reduceAdd, Int.reduceSub, Int.reduceMul, Int.reduceMod, Int.reduceDiv, reduceCtorEq, Nat.reducePow, Int.reducePow, ac_draw_Digests_L0, c0, c1, hf1, hf2, List.map_nil]
  · have e0 : dgb s 0 b = [] := by unfold dgb; rw [if_neg (by simp [c0])]
    have e1 : dgb s 1 b = (dg1 1 b) := by unfold dgb; rw [if_pos (by simp [c1])]
    rw [e0, e1]
    simp (config := { maxSteps := 2000000 }) (disch := (first | omega | (simp only [lens, lenm]; omega))) only [go_sem, ↓reduceIte, Nat.reduceAdd, Nat.reduceEqDiff, Nat.reduceSub, Nat.reduceMul, Nat.reduceLT, Nat.reduceLeDiff, Nat.reduceBEq, Int.reduceEq, Int.reduceLT, Int.reduceLE, Int.reduceToNat, Int.reduceNeg, Int.reduceAdd, Int.reduceSub, Int.reduceMul, Int.reduceMod, Int.reduceDiv, reduceCtorEq, Nat.reducePow, Int.reducePow, ac_draw_Digests]
    refine loop_upto 2 (fun k => match k with | 0 => [(0, .t (.int .i64 s)), (1, .t (.sl (b.map byteT))), (5, .sl 8192 0 2), (6, .t (.int .i64 0))] | 1 => [(0, .t (.int .i64 s)), (1, .t (.sl (b.map byteT))), (5, .sl 8192 0 2), (6, .t (.int .i64 1))] | _ => [(0, .t (.int .i64 s)), (1, .t (.sl (b.map byteT))), (5, .sl 8192 0 2), (6, .t (.int .i64 2))]) (fun k => match k with | 0 => [(8192, .live 1 [.t (bsT []), .t (bsT [])] true false)] | 1 => [(8192, .live 1 [.t (bsT []), .t (bsT [])] true false)] | _ => [(8192, .live 1 [.t (bsT []), .t (bsT (dg1 1 b))] true false)]) ?_ (fun k hk2 => ?_)
    · refine Weak.rd id ?_ ?_ rfl
      all_goals simp (config := { maxSteps := 2000000 }) (disch := (first | omega | (simp only [lens, lenm]; omega))) only [go_sem, ↓reduceIte, Nat.reduceAdd, Nat.reduceEqDiff, Nat.reduceSub, Nat.reduceMul, Nat.reduceLT, Nat.reduceLeDiff, Nat.reduceBEq, Int.reduceEq, Int.reduceLT, Int.reduceLE, Int.reduceToNat, Int.reduceNeg, Int.reduceAdd, Int.reduceSub, Int.reduceMul, Int.reduceMod, Int.reduceDiv, reduceCtorEq, Nat.reducePow, Int.reducePow, id, List.map_nil]
    · rcases (show k = 0 ∨ k = 1 ∨ k = 2 by omega) with rfl | rfl | rfl
      · simp (config := { maxSteps := 2000000 }) (disch := (first | omega | (simp only [lens, lenm]; omega))) only [go_sem, ↓reduceIte, Nat.reduceAdd, Nat.reduceEqDiff, Nat.reduceSub, Nat.reduceMul, Nat.reduceLT, Nat.reduceLeDiff, Nat.reduceBEq, Int.reduceEq, Int.reduceLT, Int.reduceLE, Int.reduceToNat, Int.reduceNeg, Int.reduceAdd, Int.reduceSub, Int.reduceMul, Int.reduceMod, Int.reduceDiv, reduceCtorEq, Nat.reducePow, Int.reducePow, ac_draw_Digests_L0, c0, c1, hf1, hf2, hz20, hz32, ht20, setRange_map, dgx0, dgx1, dgx0_length, dgx1_length, hw0, hw1, dg10, dg11, List.map_nil]
        refine Weak.rd id ?_ ?_ rfl
        all_goals simp (config := { maxSteps := 2000000 }) (disch := (first | omega | (simp only [lens, lenm]; omega))) only [go_sem, ↓reduceIte, Nat.reduceAdd, Nat.reduceEqDiff, Nat.reduceSub, Nat.reduceMul, Nat.reduceLT, Nat.reduceLeDiff, Nat.reduceBEq, Int.reduceEq, Int.reduceLT, Int.reduceLE, Int.reduceToNat, Int.reduceNeg, Int.reduceAdd, Int.reduceSub, Int.reduceMul, Int.reduceMod, Int.reduceDiv, reduceCtorEq, Nat.reducePow, Int.reducePow, id, List.map_nil]
      · simp (config := { maxSteps := 2000000 }) (disch := (first | omega | (simp only [lens, lenm]; omega))) only [go_sem, ↓reduceIte, Nat.reduceAdd, Nat.reduceEqDiff, Nat.reduceSub, Nat.reduceMul, Nat.reduceLT, Nat.reduceLeDiff, Nat.reduceBEq, Int.reduceEq, Int.reduceLT, Int.reduceLE, Int.reduceToNat, Int.reduceNeg, Int.reduceAdd, Int.reduceSub, Int.reduceMul, Int.reduceMod, Int.reduceDiv, reduceCtorEq, Nat.reducePow, Int.reducePow, ac_draw_Digests_L0, c0, c1, hf1, hf2, hz20, hz32, ht20, setRange_map, dgx0, dgx1, dgx0_length, dgx1_length, hw0, hw1, dg10, dg11, List.map_nil]
        refine Weak.cv (hv := []) [28720] id ?_ rfl
        simp (config := { maxSteps := 2000000 }) (disch := (first | omega | (simp only [lens, lenm]; omega))) only [go_sem, ↓reduceIte, Nat.reduceAdd, Nat.reduceEqDiff, Nat.reduceSub, Nat.reduceMul, Nat.reduceLT, Nat.reduceLeDiff, Nat.reduceBEq, Int.reduceEq, Int.reduceLT, Int.reduceLE, Int.reduceToNat, Int.reduceNeg, Int.reduceAdd, Int.reduceSub, Int.reduceMul, Int.reduceMod, Int.reduceDiv, reduceCtorEq, Nat.reducePow, Int.reducePow, id, dg1_len0, dg1_len1, dg1_take0, dg1_take1, List.map_nil]
        all_goals rfl
      · simp (config := { maxSteps := 2000000 }) (disch := (first | omega | (simp only [lens, lenm]; omega))) only [go_sem, ↓reduceIte, Nat.reduceAdd, Nat.reduceEqDiff, Nat.reduceSub, Nat.reduceMul, Nat.reduceLT, Nat.reduceLeDiff, Nat.reduceBEq, Int.reduceEq, Int.reduceLT, Int.reduceLE, Int.reduceToNat, Int.reduceNeg, Int.reduceAdd, Int.reduceSub, Int.reduceMul, Int.reduceMod, Int.reduceDiv, reduceCtorEq, Nat.reducePow, Int.reducePow, ac_draw_Digests_L0, c0, c1, hf1, hf2, List.map_nil]
  · have e0 : dgb s 0 b = (dg1 0 b) := by unfold dgb; rw [if_pos (by simp [c0])]
    have e1 : dgb s 1 b = [] := by unfold dgb; rw [if_neg (by simp [c1])]
    rw [e0, e1]
    simp (config := { maxSteps := 2000000 }) (disch := (first | omega | (simp only [lens, lenm]; omega))) only [go_sem, ↓reduceIte, Nat.reduceAdd, Nat.reduceEqDiff, Nat.reduceSub, Nat.reduceMul, Nat.reduceLT, Nat.reduceLeDiff, Nat.reduceBEq, Int.reduceEq, Int.reduceLT, Int.reduceLE, Int.reduceToNat, Int.reduceNeg, Int.reduceAdd, Int.reduceSub, Int.reduceMul, Int.reduceMod, Int.reduceDiv, reduceCtorEq, Nat.reducePow, Int.reducePow, ac_draw_Digests]
    refine loop_upto 2 (fun k => match k with | 0 => [(0, .t (.int .i64 s)), (1, .t (.sl (b.map byteT))), (5, .sl 8192 0 2), (6, .t (.int .i64 0))] | 1 => [(0, .t (.int .i64 s)), (1, .t (.sl (b.map byteT))), (5, .sl 8192 0 2), (6, .t (.int .i64 1))] | _ => [(0, .t (.int .i64 s)), (1, .t (.sl (b.map byteT))), (5, .sl 8192 0 2), (6, .t (.int .i64 2))]) (fun k => match k with | 0 => [(8192, .live 1 [.t (bsT []), .t (bsT [])] true false)] | 1 => [(8192, .live 1 [.t (bsT (dg1 0 b)), .t (bsT [])] true false)] | _ => [(8192, .live 1 [.t (bsT (dg1 0 b)), .t (bsT [])] true false)]) ?_ (fun k hk2 => ?_)
    · refine Weak.rd id ?_ ?_ rfl
      all_goals simp (config := { maxSteps := 2000000 }) (disch := (first | omega | (simp only [lens, lenm]; omega))) only [go_sem, ↓reduceIte, Nat.reduceAdd, Nat.reduceEqDiff, Nat.reduceSub, Nat.reduceMul, Nat.reduceLT, Nat.reduceLeDiff, Nat.reduceBEq, Int.reduceEq, Int.reduceLT, Int.reduceLE, Int.reduceToNat, Int.reduceNeg, Int.reduceAdd, Int.reduceSub, Int.reduceMul, Int.reduceMod, Int.reduceDiv, reduceCtorEq, Nat.reducePow, Int.reducePow, id, List.map_nil]
    · rcases (show k = 0 ∨ k = 1 ∨ k = 2 by omega) with rfl | rfl | rfl
      · simp (config := { maxSteps := 2000000 }) (disch := (first | omega | (simp only [lens, lenm]; omega))) only [go_sem, ↓reduceIte, Nat.reduceAdd, Nat.reduceEqDiff, Nat.reduceSub, Nat.reduceMul, Nat.reduceLT, Nat.reduceLeDiff, Nat.reduceBEq, Int.reduceEq, Int.reduceLT, Int.reduceLE, Int.reduceToNat, Int.reduceNeg, Int.reduceAdd, Int.reduceSub, Int.reduceMul, Int.reduceMod, Int.reduceDiv, reduceCtorEq, Nat.reducePow, Int.reducePow, ac_draw_Digests_L0, c0, c1, hf1, hf2, hz20, hz32, ht20, setRange_map, dgx0, dgx1, dgx0_length, dgx1_length, hw0, hw1, dg10, dg11, List.map_nil]
        refine Weak.cv (hv := []) [28720] id ?_ rfl
        simp (config := { maxSteps := 2000000 }) (disch := (first | omega | (simp only [lens, lenm]; omega))) only [go_sem, ↓reduceIte, Nat.reduceAdd, Nat.reduceEqDiff, Nat.reduceSub, Nat.reduceMul, Nat.reduceLT, Nat.reduceLeDiff, Nat.reduceBEq, Int.reduceEq, Int.reduceLT, Int.reduceLE, Int.reduceToNat, Int.reduceNeg, Int.reduceAdd, Int.reduceSub, Int.reduceMul, Int.reduceMod, Int.reduceDiv, reduceCtorEq, Nat.reducePow, Int.reducePow, id, dg1_len0, dg1_len1, dg1_take0, dg1_take1, List.map_nil]
        all_goals rfl
      · simp (config := { maxSteps := 2000000 }) (disch := (first | omega | (simp only [lens, lenm]; omega))) only [go_sem, ↓reduceIte, Nat.reduceAdd, Nat.reduceEqDiff, Nat.reduceSub, Nat.reduceMul, Nat.reduceLT, Nat.reduceLeDiff, Nat.reduceBEq, Int.reduceEq, Int.reduceLT, Int.reduceLE, Int.reduceToNat, Int.reduceNeg, Int.reduceAdd, Int.reduceSub, Int.reduceMul, Int.reduceMod, Int.reduceDiv, reduceCtorEq, Nat.reducePow, Int.reducePow, ac_draw_Digests_L0, c0, c1, hf1, hf2, hz20, hz32, ht20, setRange_map, dgx0, dgx1, dgx0_length, dgx1_length, hw0, hw1, dg10, dg11, List.map_nil]
        refine Weak.rd id ?_ ?_ rfl
        all_goals simp (config := { maxSteps := 2000000 }) (disch := (first | omega | (simp only [lens, lenm]; omega))) only [go_sem, ↓reduceIte, Nat.reduceAdd, Nat.reduceEqDiff, Nat.reduceSub, Nat.reduceMul, Nat.reduceLT, Nat.reduceLeDiff, Nat.reduceBEq, Int.reduceEq, Int.reduceLT, Int.reduceLE, Int.reduceToNat, Int.reduceNeg, Int.reduceAdd, Int.reduceSub, Int.reduceMul, Int.reduceMod, Int.reduceDiv, reduceCtorEq, Nat.reducePow, Int.reducePow, id, List.map_nil]
      · simp (config := { maxSteps := 2000000 }) (disch := (first | omega | (simp only [lens, lenm]; omega))) only [go_sem, ↓reduceIte, Nat.reduceAdd, Nat.reduceEqDiff, Nat.reduceSub, Nat.reduceMul, Nat.reduceLT, Nat.reduceLeDiff, Nat.reduceBEq, Int.reduceEq, Int.reduceLT, Int.reduceLE, Int.reduceToNat, Int.reduceNeg, Int.reduceAdd, Int.reduceSub, Int.reduceMul, Int.reduceMod, Int.reduceDiv, reduceCtorEq, Nat.reducePow, Int.reducePow, ac_draw_Digests_L0, c0, c1, hf1, hf2, List.map_nil]
  · have e0 : dgb s 0 b = (dg1 0 b) := by unfold dgb; rw [if_pos (by simp [c0])]
    have e1 : dgb s 1 b = (dg1 1 b) := by unfold dgb; rw [if_pos (by simp [c1])]
    rw [e0, e1]
    simp (config := { maxSteps := 2000000 }) (disch := (first | omega | (simp only [lens, lenm]; omega))) only [go_sem, ↓reduceIte, Nat.reduceAdd, Nat.reduceEqDiff, Nat.reduceSub, Nat.reduceMul, Nat.reduceLT, Nat.reduceLeDiff, Nat.reduceBEq, Int.reduceEq, Int.reduceLT, Int.reduceLE, Int.reduceToNat, Int.reduceNeg, Int.reduceAdd, Int.reduceSub, Int.reduceMul, Int.reduceMod, Int.reduceDiv, reduceCtorEq, Nat.reducePow, Int.reducePow, ac_draw_Digests]
    refine loop_upto 2 (fun k => match k with | 0 => [(0, .t (.int .i64 s)), (1, .t (.sl (b.map byteT))), (5, .sl 8192 0 2), (6, .t (.int .i64 0))] | 1 => [(0, .t (.int .i64 s)), (1, .t (.sl (b.map byteT))), (5, .sl 8192 0 2), (6, .t (.int .i64 1))] | _ => [(0, .t (.int .i64 s)), (1, .t (.sl (b.map byteT))), (5, .sl 8192 0 2), (6, .t (.int .i64 2))]) (fun k => match k with | 0 => [(8192, .live 1 [.t (bsT []), .t (bsT [])] true false)] | 1 => [(8192, .live 1 [.t (bsT (dg1 0 b)), .t (bsT [])] true false)] | _ => [(8192, .live 1 [.t (bsT (dg1 0 b)), .t (bsT (dg1 1 b))] true false)]) ?_ (fun k hk2 => ?_)
    · refine Weak.rd id ?_ ?_ rfl
      all_goals simp (config := { maxSteps := 2000000 }) (disch := (first | omega | (simp only [lens, lenm]; omega))) only [go_sem, ↓reduceIte, Nat.reduceAdd, Nat.reduceEqDiff, Nat.reduceSub, Nat.reduceMul, Nat.reduceLT, Nat.reduceLeDiff, Nat.reduceBEq, Int.reduceEq, Int.reduceLT, Int.reduceLE, Int.reduceToNat, Int.reduceNeg, Int.reduceAdd, Int.reduceSub, Int.reduceMul, Int.reduceMod, Int.reduceDiv, reduceCtorEq, Nat.reducePow, Int.reducePow, id, List.map_nil]
    · rcases (show k = 0 ∨ k = 1 ∨ k = 2 by omega) with rfl | rfl | rfl
      · simp (config := { maxSteps := 2000000 }) (disch := (first | omega | (simp only [lens, lenm]; omega))) only [go_sem, ↓reduceIte, Nat.reduceAdd, Nat.reduceEqDiff, Nat.reduceSub, Nat.reduceMul, Nat.reduceLT, Nat.reduceLeDiff, Nat.reduceBEq, Int.reduceEq, Int.reduceLT, Int.reduceLE, Int.reduceToNat, Int.reduceNeg, Int.reduceAdd, Int.reduceSub, Int.reduceMul, Int.reduceMod, Int.reduceDiv, reduceCtorEq, Nat.reducePow, Int.reducePow, ac_draw_Digests_L0, c0, c1, hf1, hf2, hz20, hz32, ht20, setRange_map, dgx0, dgx1, dgx0_length, dgx1_length, hw0, hw1, dg10, dg11, List.map_nil]
        refine Weak.cv (hv := []) [28720] id ?_ rfl
        simp (config := { maxSteps := 2000000 }) (disch := (first | omega | (simp only [lens, lenm]; omega))) only [go_sem, ↓reduceIte, Nat.reduceAdd, Nat.reduceEqDiff, Nat.reduceSub, Nat.reduceMul, Nat.reduceLT, Nat.reduceLeDiff, Nat.reduceBEq, Int.reduceEq, Int.reduceLT, Int.reduceLE, Int.reduceToNat, Int.reduceNeg, Int.reduceAdd, Int.reduceSub, Int.reduceMul, Int.reduceMod, Int.reduceDiv, reduceCtorEq, Nat.reducePow, Int.reducePow, id, dg1_len0, dg1_len1, dg1_take0, dg1_take1, List.map_nil]
        all_goals rfl
      · simp (config := { maxSteps := 2000000 }) (disch := (first | omega | (simp only [lens, lenm]; omega))) only [go_sem, ↓reduceIte, Nat.reduceAdd, Nat.reduceEqDiff, Nat.reduceSub, Nat.reduceMul, Nat.reduceLT, Nat.reduceLeDiff, Nat.reduceBEq, Int.reduceEq, Int.reduceLT, Int.reduceLE, Int.reduceToNat, Int.reduceNeg, Int.reduceAdd, Int.reduceSub, Int.reduceMul, Int.reduceMod, Int.reduceDiv, reduceCtorEq, Nat.reducePow, Int.reducePow, ac_draw_Digests_L0, c0, c1, hf1, hf2, hz20, hz32, ht20, setRange_map, dgx0, dgx1, dgx0_length, dgx1_length, hw0, hw1, dg10, dg11, List.map_nil]
        refine Weak.cv (hv := []) [28720] id ?_ rfl
        simp (config := { maxSteps := 2000000 }) (disch := (first | omega | (simp only [lens, lenm]; omega))) only [go_sem, ↓reduceIte, Nat.reduceAdd, Nat.reduceEqDiff, Nat.reduceSub, Nat.reduceMul, Nat.reduceLT, Nat.reduceLeDiff, Nat.reduceBEq, Int.reduceEq, Int.reduceLT, Int.reduceLE, Int.reduceToNat, Int.reduceNeg, Int.reduceAdd, Int.reduceSub, Int.reduceMul, Int.reduceMod, Int.reduceDiv, reduceCtorEq, Nat.reducePow, Int.reducePow, id, dg1_len0, dg1_len1, dg1_take0, dg1_take1, List.map_nil]
        all_goals rfl
      · simp (config := { maxSteps := 2000000 }) (disch := (first | omega | (simp only [lens, lenm]; omega))) only [go_sem, ↓reduceIte, Nat.reduceAdd, Nat.reduceEqDiff, Nat.reduceSub, Nat.reduceMul, Nat.reduceLT, Nat.reduceLeDiff, Nat.reduceBEq, Int.reduceEq, Int.reduceLT, Int.reduceLE, Int.reduceToNat, Int.reduceNeg, Int.reduceAdd, Int.reduceSub, Int.reduceMul, Int.reduceMod, Int.reduceDiv, reduceCtorEq, Nat.reducePow, Int.reducePow, ac_draw_Digests_L0, c0, c1, hf1, hf2, List.map_nil]
end Go.Eng
end
section
set_option maxRecDepth 20000
set_option maxHeartbeats 64000000
namespace Go.Eng
def ct_ddg : Ct where
  α := Int × List UInt8
  as x := [.t (.int .i64 x.1), .t (.sl (x.2.map byteT))]
  ins _ := []
  pre _ := True
  r _ := .sl 0 0 2
  outs x := [.live 1 [.t (bsT (dgb x.1 0 x.2)), .t (bsT (dgb x.1 1 x.2))] true false]
  inj := by
    rintro ⟨s, b⟩ ⟨t, c⟩ h _
    simp only [List.cons.injEq, V.t.injEq, T.int.injEq, T.sl.injEq, true_and, and_true, mapB_inj] at h
    obtain ⟨rfl, rfl⟩ := h
    exact ⟨rfl, rfl⟩
def dgB (s : Int) (b : List UInt8) : List (List UInt8) := [dgb s 0 b, dgb s 1 b]
theorem dgb_len {s : Int} {a : Nat} {b : List UInt8} (ha : a < 2) : (dgb s a b).length ≤ 32 := by
  unfold dgb
  split
  · rw [dg1_length]
    have : a = 0 ∨ a = 1 := by omega
    rcases this with rfl | rfl <;> decide
  · simp
theorem dgB_pre {s : Int} {b : List UInt8} : (dgB s b).length < 1000000000 ∧ ∀ d ∈ dgB s b, d.length < 9223372036854775808 := by
  refine ⟨by simp [dgB], ?_⟩
  intro d hd
  simp only [dgB, List.mem_cons, List.not_mem_nil, or_false] at hd
  have h0 := dgb_len (s := s) (a := 0) (b := b) (by omega)
  have h1 := dgb_len (s := s) (a := 1) (b := b) (by omega)
  rcases hd with rfl | rfl <;> omega
def extP (x : List Bank × Int) (l i : Int) (ds : List (List UInt8)) : List Bank × Int := if extEr x.1 l i ds = 0 then (extBk x.1 i.toNat ds, x.2 + 1) else x
def evP (x : List Bank × Int) (l i : Int) (d : List UInt8) : List Bank × Int := if 128 < d.length then x else extP x l i (digB x.1 d)
def rstP (x : List Bank × Int) (l i : Int) : List Bank × Int := if rstE l i = 0 then (rstBk x.1 i.toNat, x.2 + 1) else x
def Ans (x : List Bank × Int) (v : V) (y : List Bank × Int) : Prop := ∃ (bk : List Bank) (u e : Int), v = .tup [.t (.agg [.sl (bk.map bankT), .int .i64 u]), .t (.int .i64 e)] ∧ ((e = 0 ∧ y = (bk, u)) ∨ (e ≠ 0 ∧ y = x))
theorem extR_ans {x : List Bank × Int} {l i : Int} {ds : List (List UInt8)} : Ans x (extR x.1 x.2 l i ds) (extP x l i ds) := by
  unfold extR extP extEr
  split
  · exact ⟨_, _, _, rfl, .inl ⟨rfl, rfl⟩⟩
  · rename_i h
    exact ⟨[], 0, _, rfl, .inr ⟨h, rfl⟩⟩
theorem evR_ans {x : List Bank × Int} {l i : Int} {d : List UInt8} : Ans x (evR x.1 x.2 l i d) (evP x l i d) := by
  unfold evR evP
  split
  · exact ⟨[], 0, 4, rfl, .inr ⟨by decide, rfl⟩⟩
  · exact extR_ans
theorem rstR_ans {x : List Bank × Int} {l i : Int} : Ans x (rstR x.1 x.2 l i) (rstP x l i) := by
  unfold rstR rstP
  split
  · exact ⟨_, _, _, rfl, .inl ⟨rfl, rfl⟩⟩
  · rename_i h
    exact ⟨[], 0, _, rfl, .inr ⟨h, rfl⟩⟩
def RS (n : Nat) (x : List Bank × Int) : Prop := RV x.1 ∧ 0 ≤ x.2 ∧ x.2 ≤ n
theorem RS.up {n m : Nat} {x : List Bank × Int} (h : RS n x) (hm : n ≤ m) : RS m x := ⟨h.1, h.2.1, by have := h.2.2; omega⟩
theorem RS.ext {n : Nat} {x : List Bank × Int} (h : RS n x) (l i : Int) (ds : List (List UInt8)) : RS (n + 1) (extP x l i ds) := by
  unfold extP
  split
  · exact ⟨h.1.ext _ _, by have := h.2.1; simp only; omega, by have := h.2.2; simp only; omega⟩
  · exact h.up (by omega)
theorem RS.ev {n : Nat} {x : List Bank × Int} (h : RS n x) (l i : Int) (d : List UInt8) : RS (n + 1) (evP x l i d) := by
  unfold evP
  split
  · exact h.up (by omega)
  · exact h.ext _ _ _
theorem RS.rst {n : Nat} {x : List Bank × Int} (h : RS n x) (l i : Int) : RS (n + 1) (rstP x l i) := by
  unfold rstP
  split
  · exact ⟨h.1.rst _, by have := h.2.1; simp only; omega, by have := h.2.2; simp only; omega⟩
  · exact h.up (by omega)
theorem RS.rsm {n : Nat} {x : List Bank × Int} (h : RS n x) : RS (n + 1) (resBk x.1, x.2) := ⟨h.1.res, h.2.1, by have := h.2.2; simp only; omega⟩
def drS (s : Int) (i k : Nat) (x : List Bank × Int) : List Bank × Int :=
  if k % 8 < 3 then evP x 4 (k / 8 % 16 : Nat) [UInt8.ofNat k, UInt8.ofNat i]
  else if k % 8 < 6 then extP x 4 (k / 8 % 16 : Nat) (dgB s [UInt8.ofNat k, UInt8.ofNat i])
  else if k % 8 = 6 then rstP x 4 (12 + k / 8 % 4 : Nat)
  else (resBk x.1, x.2)
def drN (s : Int) (cs : List UInt8) : Nat → List Bank × Int
  | 0 => (newBk s, 0)
  | i + 1 => drS s i (cs.getD i 0).toNat (drN s cs i)
theorem RS.dr {s : Int} {i k n : Nat} {x : List Bank × Int} (h : RS n x) : RS (n + 1) (drS s i k x) := by
  unfold drS
  split
  · exact h.ev _ _ _
  · split
    · exact h.ext _ _ _
    · split
      · exact h.rst _ _
      · exact h.rsm
theorem drN_rs {s : Int} {cs : List UInt8} : ∀ n, RS n (drN s cs n)
  | 0 => ⟨newBk_rv, by simp [drN], by simp [drN]⟩
  | n + 1 => (drN_rs n).dr
def dr (s : Int) (cs : List UInt8) : List Bank × Int := drN s cs (min cs.length 12)
theorem dr_rs {s : Int} {cs : List UInt8} : RS 12 (dr s cs) := (drN_rs _).up (Nat.min_le_right _ _)
end Go.Eng
end
section
set_option maxRecDepth 20000
set_option maxHeartbeats 64000000
namespace Go.Eng
def ct_drR : Ct where
  α := Int × List UInt8
  as x := [.t (.int .i64 x.1), .t (.sl (x.2.map byteT))]
  ins _ := []
  pre x := x.2.length ≤ 9223372036854775807
  r x := .t (regT (dr x.1 x.2).1 (dr x.1 x.2).2)
  outs _ := []
  inj := by
    rintro ⟨s, b⟩ ⟨t, c⟩ h _
    simp only [List.cons.injEq, V.t.injEq, T.int.injEq, T.sl.injEq, true_and, and_true, mapB_inj] at h
    obtain ⟨rfl, rfl⟩ := h
    exact ⟨rfl, rfl⟩
theorem drR_eq {s : Int} {cs : List UInt8} (h : cs.length ≤ 9223372036854775807) : ∃ bk u, RV bk ∧ 0 ≤ u ∧ u ≤ 12 ∧ ct_drR.fs [.t (.int .i64 s), .t (.sl (cs.map byteT))] [] = some (.t (.agg [.sl (bk.map bankT), .int .i64 u]), []) :=
  ⟨_, _, (dr_rs (s := s) (cs := cs)).1, (dr_rs (s := s) (cs := cs)).2.1, (dr_rs (s := s) (cs := cs)).2.2, ct_drR.eq (s, cs) h⟩
theorem same_nil : ct_same.fs [.t (.sl []), .t (.sl [])] [] = some (.t (.bool true), []) := same_eq (a := []) (b := []) ⟨by decide, by decide⟩
theorem same_refl {a : List UInt8} (h : a.length < 1000000000) : ct_same.fs [.t (.sl (a.map byteT)), .t (.sl (a.map byteT))] [] = some (.t (.bool true), []) := by
  rw [same_eq ⟨h, h⟩, decide_eq_true rfl]
end Go.Eng
end
section
set_option maxRecDepth 20000
set_option maxHeartbeats 64000000
namespace Go.Eng
theorem Ans.rv {x : List Bank × Int} {v : V} {y : List Bank × Int} (h : Ans x v y) (hv : ∃ bk' u' e, v = .tup [.t (regT bk' u'), .t (.int .i64 e)] ∧ RV bk' ∧ (e = 0 → u' = x.2 + 1)) : ∃ bk' u' e, v = .tup [.t (.agg [.sl (bk'.map bankT), .int .i64 u']), .t (.int .i64 e)] ∧ RM bk' := by
  obtain ⟨bk', u', e, h1, h2, _⟩ := hv
  exact ⟨bk', u', e, h1, h2.rm⟩
end Go.Eng
end
section
set_option maxRecDepth 20000
set_option maxHeartbeats 64000000
namespace Go.Eng
def evB (bk : List Bank) (n : Nat) (data : List UInt8) : List Bank := extBk bk n (digB bk data)
theorem RK.cases {bk : List Bank} (h : RK bk) : bk = [] ∨ ∃ b0 b1, bk = [b0, b1] ∧ bkOk b0 ∧ bkOk b1 := by
  cases h with
  | nil => exact .inl rfl
  | two b0 b1 h0 h1 => exact .inr ⟨b0, b1, rfl, h0, h1⟩
theorem digB_len0 {bk : List Bank} {data : List UInt8} : ((digB bk data).getD 0 []).length = if (bk.getD 0 []).length = 16 then 20 else 0 := by
  show (if onB bk 0 then sum1 data else []).length = _
  unfold onB
  by_cases h : (bk.getD 0 []).length = 16
  · rw [if_pos h, decide_eq_true h, if_pos rfl, sum1_length]
  · rw [if_neg h, decide_eq_false h]; rfl
theorem digB_len1 {bk : List Bank} {data : List UInt8} : ((digB bk data).getD 1 []).length = if (bk.getD 1 []).length = 16 then 32 else 0 := by
  show (if onB bk 1 then sum256 data else []).length = _
  unfold onB
  by_cases h : (bk.getD 1 []).length = 16
  · rw [if_pos h, decide_eq_true h, if_pos rfl, sum256_length]
  · rw [if_neg h, decide_eq_false h]; rfl
theorem ev_ok {bk : List Bank} {u i : Int} {data : List UInt8} (hi : 0 ≤ i ∧ i < 16) (hd : data.length ≤ 128) : evR bk u 4 i data = .tup [.t (regT (evB bk i.toNat data) (u + 1)), .t (.int .i64 0)] := by
  have hl : leastI i false ≤ 3 := by unfold leastI; split <;> (try split) <;> (try split) <;> simp_all
  have he : extE (bk.getD 0 []).length (bk.getD 1 []).length 4 i (digB bk data).length ((digB bk data).getD 0 []).length ((digB bk data).getD 1 []).length = 0 := by
    rw [digB_len0, digB_len1]
    have h2 : (digB bk data).length = 2 := rfl
    rw [h2]
    unfold extE
    rw [if_neg (by omega), if_neg (by omega), if_neg (by rintro (⟨h1, h2⟩ | ⟨h1, h2⟩) <;> (rw [if_neg h1] at h2; omega)), if_neg (by rintro (⟨h1, h2⟩ | ⟨h1, h2⟩) <;> exact h2 (if_pos h1))]
  rw [evR, if_neg (by omega), extR, if_pos he]; rfl
theorem evB_getD_length {bk : List Bank} {n : Nat} {data : List UInt8} (hk : RK bk) (a : Nat) : ((evB bk n data).getD a []).length = (bk.getD a []).length := by
  rcases hk.cases with rfl | ⟨b0, b1, rfl, h0, h1⟩
  · rfl
  · match a with
    | 0 => exact ext1_length
    | 1 => exact ext1_length
    | a + 2 => rfl
theorem onB_ev {bk : List Bank} {n : Nat} {data : List UInt8} (hk : RK bk) (a : Nat) : onB (evB bk n data) a = onB bk a := by
  unfold onB; rw [evB_getD_length hk]
theorem getD_set {α : Type} {l : List α} {i j : Nat} {x d : α} (h : i ≠ j) : (l.set i x).getD j d = l.getD j d := by
  rw [List.getD_eq_getElem?_getD, List.getD_eq_getElem?_getD, List.getElem?_set_ne h]
theorem extBk_nil {i : Nat} {ds : List (List UInt8)} : extBk [] i ds = [] := rfl
theorem extBk_two {b0 b1 : Bank} {i : Nat} {ds : List (List UInt8)} : extBk [b0, b1] i ds = [ext1 0 b0 i (ds.getD 0 []), ext1 1 b1 i (ds.getD 1 [])] := rfl
theorem ev_eq4 {bk : List Bank} {u i : Int} {data : List UInt8} (hv : RV bk) (hu : 0 ≤ u ∧ u < 1000000000) (hi : 0 ≤ i ∧ i < 16) (hd : data.length ≤ 128) : ct_ev.fs [.t (.agg [.sl (bk.map bankT), .int .i64 u]), .t (.int .i64 4), .t (.int .i64 i), .t (.sl (data.map byteT))] [] = some (.tup [.t (.agg [.sl ((evB bk i.toNat data).map bankT), .int .i64 (u + 1)]), .t (.int .i64 0)], []) := by
  have hE := ct_ev.eq (bk, u, 4, i, data) ⟨hv, hu, by show data.length < 1000000000; omega⟩
  have hE2 : ct_ev.fs [.t (.agg [.sl (bk.map bankT), .int .i64 u]), .t (.int .i64 4), .t (.int .i64 i), .t (.sl (data.map byteT))] [] = some (evR bk u 4 i data, []) := hE
  rw [hE2, ev_ok hi hd]; rfl
theorem RV.ev {bk : List Bank} (h : RV bk) (n : Nat) (d : List UInt8) : RV (evB bk n d) := h.ext _ _
end Go.Eng
end
section
set_option maxRecDepth 20000
set_option maxHeartbeats 64000000
namespace Go.Eng
theorem val_on {bk : List Bank} {u : Int} (h : RM bk) {a n : Nat} (ha : a < 2) (hn : n < 16) (ho : onB bk a = true) : ct_val.fs [.t (.agg [.sl (bk.map bankT), .int .i64 u]), .t (.int .i64 a), .t (.int .i64 n)] [] = some (.tup [.sl 0 0 (valL bk a n).length, .t (.int .i64 0)], [.live 1 (((valL bk a n).map byteT).map V.t) true false]) := by
  have he := ct_val.eq (bk, u, (a : Int), (n : Int)) h
  have he2 : ct_val.fs [.t (.agg [.sl (bk.map bankT), .int .i64 u]), .t (.int .i64 a), .t (.int .i64 n)] [] = some (valR bk a n, valO bk a n) := he
  have hb : ¬ badR (a : Int) (n : Int) := by unfold badR; omega
  rw [he2, valR, valO, if_neg hb, if_neg hb, Int.toNat_natCast, Int.toNat_natCast, if_pos ho, if_pos ho]
theorem val_off {bk : List Bank} {u : Int} (h : RM bk) {a n : Nat} (ha : a < 2) (hn : n < 16) (ho : onB bk a = false) : ct_val.fs [.t (.agg [.sl (bk.map bankT), .int .i64 u]), .t (.int .i64 a), .t (.int .i64 n)] [] = some (.tup [.nil, .t (.int .i64 27)], []) := by
  have he := ct_val.eq (bk, u, (a : Int), (n : Int)) h
  have he2 : ct_val.fs [.t (.agg [.sl (bk.map bankT), .int .i64 u]), .t (.int .i64 a), .t (.int .i64 n)] [] = some (valR bk a n, valO bk a n) := he
  have hb : ¬ badR (a : Int) (n : Int) := by unfold badR; omega
  rw [he2, valR, valO, if_neg hb, if_neg hb, Int.toNat_natCast, ho]; rfl
structure But (bk bk' : List Bank) (K : Nat) : Prop where
  rm : RM bk'
  on : ∀ a, onB bk' a = onB bk a
  val : ∀ a n, n ≠ K → valL bk' a n = valL bk a n
  len : ∀ a, a < 2 → onB bk a = true → (valL bk' a K).length = 20 + 12 * a
theorem getD_set_eq {α : Type} {l : List α} {i : Nat} {x d : α} (h : i < l.length) : (l.set i x).getD i d = x := by
  rw [List.getD_eq_getElem?_getD, List.getElem?_set_self h]; rfl
theorem ext1_val {a : Nat} {b : Bank} {i n : Nat} {d : List UInt8} (h : n ≠ i) : (ext1 a b i d).getD n [] = b.getD n [] := by
  unfold ext1
  split
  · exact getD_set (Ne.symm h)
  · rfl
theorem rst1_val {a : Nat} {b : Bank} {i n : Nat} (h : n ≠ i) : (rst1 a b i).getD n [] = b.getD n [] := by
  unfold rst1
  split
  · exact getD_set (Ne.symm h)
  · rfl
theorem ev_but {bk : List Bank} (hv : RV bk) {K : Nat} (hK : K < 16) (d : List UInt8) : But bk (evB bk K d) K := by
  refine ⟨(hv.ev K d).rm, onB_ev hv.1, fun a n hn => ?_, fun a ha ho => ?_⟩
  · unfold valL evB
    rcases hv.1.cases with rfl | ⟨b0, b1, rfl, h0, h1⟩
    · rw [extBk_nil]
    · rw [extBk_two]
      match a with
      | 0 => exact ext1_val hn
      | 1 => exact ext1_val hn
      | a + 2 => rfl
  · unfold valL evB
    rcases hv.1.cases with rfl | ⟨b0, b1, rfl, h0, h1⟩
    · simp [onB] at ho
    · rw [extBk_two]
      have : a = 0 ∨ a = 1 := by omega
      rcases this with rfl | rfl
      · have hb : List.length b0 = 16 := by simpa [onB] using ho
        show ((ext1 0 b0 K _).getD K []).length = 20
        rw [ext1, if_pos hb, getD_set_eq (by omega), sumA_length]; rfl
      · have hb : List.length b1 = 16 := by simpa [onB] using ho
        show ((ext1 1 b1 K _).getD K []).length = 32
        rw [ext1, if_pos hb, getD_set_eq (by omega), sumA_length]; rfl
theorem rstBk_two {b0 b1 : Bank} {i : Nat} : rstBk [b0, b1] i = [rst1 0 b0 i, rst1 1 b1 i] := rfl
theorem rst_but {bk : List Bank} (hv : RV bk) {K : Nat} (hK : K < 16) : But bk (rstBk bk K) K := by
  refine ⟨(hv.rst K).rm, fun a => ?_, fun a n hn => ?_, fun a ha ho => ?_⟩
  · unfold onB
    rcases hv.1.cases with rfl | ⟨b0, b1, rfl, h0, h1⟩
    · rfl
    · rw [rstBk_two]
      match a with
      | 0 => simp only [List.getD_cons_zero, rst1_length]
      | 1 => simp only [List.getD_cons_succ, List.getD_cons_zero, rst1_length]
      | a + 2 => rfl
  · unfold valL
    rcases hv.1.cases with rfl | ⟨b0, b1, rfl, h0, h1⟩
    · rfl
    · rw [rstBk_two]
      match a with
      | 0 => exact rst1_val hn
      | 1 => exact rst1_val hn
      | a + 2 => rfl
  · unfold valL
    rcases hv.1.cases with rfl | ⟨b0, b1, rfl, h0, h1⟩
    · simp [onB] at ho
    · rw [rstBk_two]
      have : a = 0 ∨ a = 1 := by omega
      rcases this with rfl | rfl
      · have hb : List.length b0 = 16 := by simpa [onB] using ho
        show ((rst1 0 b0 K).getD K []).length = 20
        rw [rst1, if_pos hb, getD_set_eq (by omega), List.length_replicate]; rfl
      · have hb : List.length b1 = 16 := by simpa [onB] using ho
        show ((rst1 1 b1 K).getD K []).length = 32
        rw [rst1, if_pos hb, getD_set_eq (by omega), List.length_replicate]; rfl
theorem rst_eq4 {bk : List Bank} {u i : Int} (hv : RV bk) (hu : 0 ≤ u ∧ u < 1000000000) (hi : 12 ≤ i ∧ i < 16) : ct_rst.fs [.t (.agg [.sl (bk.map bankT), .int .i64 u]), .t (.int .i64 4), .t (.int .i64 i)] [] = some (.tup [.t (.agg [.sl ((rstBk bk i.toNat).map bankT), .int .i64 (u + 1)]), .t (.int .i64 0)], []) := by
  have hE := ct_rst.eq (bk, u, 4, i) ⟨hv.rm, hu⟩
  have hE2 : ct_rst.fs [.t (.agg [.sl (bk.map bankT), .int .i64 u]), .t (.int .i64 4), .t (.int .i64 i)] [] = some (rstR bk u 4 i, []) := hE
  have hl : leastI i true ≤ 4 := by
    unfold leastI
    rw [if_neg (by rintro ⟨_, h⟩; omega)]
    split
    · decide
    · split <;> decide
  have he : rstE 4 i = 0 := by unfold rstE; rw [if_neg (by omega), if_neg (by omega)]
  rw [hE2, rstR, if_pos he]; rfl
theorem w_RegistersOthers (tab : Tab) (gl : Gl) (n1 n2 n3 n4 n5 n6 n7 : Nat) (h1 : tab.look n1 = some ct_awake.fs) (h2 : tab.look n2 = some ct_drR.fs) (h3 : tab.look n3 = some ct_ev.fs) (h4 : tab.look n4 = some ct_rst.fs) (h5 : tab.look n5 = some ct_val.fs) (h6 : tab.look n6 = some ct_val.fs) (h7 : tab.look n7 = some ct_same.fs)
    (s : Int) (cs : List UInt8) (hcs : cs.length ≤ 9223372036854775807) (i : Int) (data : List UInt8) (hda : data.length ≤ 9223372036854775807) (reset : Bool) :
    (ac_law8_RegistersOthers n1 n2 n3 n4 n5 n6 n7).wp tab gl (zipF 0 [.t (.int .i64 s), .t (.sl (cs.map byteT)), .t (.int .i64 i), .t (.sl (data.map byteT)), .t (.bool reset)]) (zipF 0 []) (resW [(10, none)] 0 (fun r o => r = .t (.bool true) ∧ o = [])) := by
  by_cases hl : 100 < data.length
  · simp (config := { maxSteps := 2000000 }) (disch := (first | omega | (simp only [lens, lenm]; omega))) only [go_sem, ↓reduceIte, Nat.reduceAdd, Nat.reduceEqDiff, Nat.reduceSub, Nat.reduceMul, Nat.reduceLT, Nat.reduceLeDiff, Nat.reduceBEq, Int.reduceEq, Int.reduceLT, Int.reduceLE, Int.reduceToNat, Int.reduceNeg, Int.reduceAdd, Int.reduceSub, Int.reduceMul, Int.reduceMod, Int.reduceDiv, reduceCtorEq, Nat.reducePow, Int.reducePow, ac_law8_RegistersOthers, h1, awake_eq, hl]
  obtain ⟨bk, u, hv, hu0, hu1, hd⟩ := drR_eq (s := s) hcs
  have hm := hv.rm
  have body : ∀ (K : Nat) (bk' : List Bank) (fs : Fs) (hs : Hs), K < 16 → But bk bk' K → Weak fs hs [(11, .ref 24624 0 0), (12, .t (.int .i64 K)), (13, .ref 32880 0 0), (15, .t (.int .i64 0))] [(24624, .live 2 [.t (regT bk u)] true true), (32880, .live 2 [.t (regT bk' (u + 1))] true true)] →
      loopW tab gl (ac_law8_RegistersOthers_L0 n5 n6 n7) fs hs (blockK 0 (seqK tab gl ((AC.reg 98304 none [⟨some 10, (.op .mov), [.cst (.t (.bool true))], none⟩]).seq AC.ret) (resW [(10, none)] 0 (fun r o => r = .t (.bool true) ∧ o = [])))) := by
    intro K bk' fs hs hK hbut hw
    refine loopW_weak hw ?_
    refine loop_upto 2 (fun a => [(11, .ref 24624 0 0), (12, .t (.int .i64 K)), (13, .ref 32880 0 0), (15, .t (.int .i64 a))]) (fun a => [(24624, .live 2 [.t (regT bk u)] true true), (32880, .live 2 [.t (regT bk' (u + 1))] true true)]) ?_ (fun a ha => ?_)
    · refine Weak.rd id ?_ ?_ rfl
      all_goals simp (config := { maxSteps := 2000000 }) (disch := (first | omega | (simp only [lens, lenm]; omega))) only [go_sem, ↓reduceIte, Nat.reduceAdd, Nat.reduceEqDiff, Nat.reduceSub, Nat.reduceMul, Nat.reduceLT, Nat.reduceLeDiff, Nat.reduceBEq, Int.reduceEq, Int.reduceLT, Int.reduceLE, Int.reduceToNat, Int.reduceNeg, Int.reduceAdd, Int.reduceSub, Int.reduceMul, Int.reduceMod, Int.reduceDiv, reduceCtorEq, Nat.reducePow, Int.reducePow, id]
    · by_cases hlt : a < 2
      · simp (config := { maxSteps := 2000000 }) (disch := (first | omega | (simp only [lens, lenm]; omega))) only [go_sem, ↓reduceIte, Nat.reduceAdd, Nat.reduceEqDiff, Nat.reduceSub, Nat.reduceMul, Nat.reduceLT, Nat.reduceLeDiff, Nat.reduceBEq, Int.reduceEq, Int.reduceLT, Int.reduceLE, Int.reduceToNat, Int.reduceNeg, Int.reduceAdd, Int.reduceSub, Int.reduceMul, Int.reduceMod, Int.reduceDiv, reduceCtorEq, Nat.reducePow, Int.reducePow, ac_law8_RegistersOthers_L0]
        refine loop_upto 16 (fun n => [(11, .ref 24624 0 0), (12, .t (.int .i64 K)), (13, .ref 32880 0 0), (15, .t (.int .i64 a)), (16, .t (.int .i64 n))]) (fun n => [(24624, .live 2 [.t (regT bk u)] true true), (32880, .live 2 [.t (regT bk' (u + 1))] true true)]) ?_ (fun n hn => ?_)
        · refine Weak.rd id ?_ ?_ rfl
          all_goals simp (config := { maxSteps := 2000000 }) (disch := (first | omega | (simp only [lens, lenm]; omega))) only [go_sem, ↓reduceIte, Nat.reduceAdd, Nat.reduceEqDiff, Nat.reduceSub, Nat.reduceMul, Nat.reduceLT, Nat.reduceLeDiff, Nat.reduceBEq, Int.reduceEq, Int.reduceLT, Int.reduceLE, Int.reduceToNat, Int.reduceNeg, Int.reduceAdd, Int.reduceSub, Int.reduceMul, Int.reduceMod, Int.reduceDiv, reduceCtorEq, Nat.reducePow, Int.reducePow, id]
        · by_cases hlt2 : n < 16
          · by_cases ho : onB bk a = true
            · have e1 := val_on (u := u) hm hlt hlt2 ho
              have e2 := val_on (u := u + 1) hbut.rm hlt hlt2 (by rw [hbut.on]; exact ho)
              have l1 := hm.val a n
              have l2 := hbut.rm.val a n
              by_cases hnk : n = K
              · have l3 := hbut.len a hlt ho
                subst hnk
                have dn : ((n : Int) == (n : Int)) = true := by simp
                simp (config := { maxSteps := 2000000 }) (disch := (first | omega | (simp only [lens, lenm]; omega))) only [go_sem, ↓reduceIte, Nat.reduceAdd, Nat.reduceEqDiff, Nat.reduceSub, Nat.reduceMul, Nat.reduceLT, Nat.reduceLeDiff, Nat.reduceBEq, Int.reduceEq, Int.reduceLT, Int.reduceLE, Int.reduceToNat, Int.reduceNeg, Int.reduceAdd, Int.reduceSub, Int.reduceMul, Int.reduceMod, Int.reduceDiv, reduceCtorEq, Nat.reducePow, Int.reducePow, ac_law8_RegistersOthers_L1, h5, h6, h7, e1, e2, l3, dn]
                refine ⟨hlt2, Weak.rd id ?_ ?_ rfl⟩
                all_goals simp (config := { maxSteps := 2000000 }) (disch := (first | omega | (simp only [lens, lenm]; omega))) only [go_sem, ↓reduceIte, Nat.reduceAdd, Nat.reduceEqDiff, Nat.reduceSub, Nat.reduceMul, Nat.reduceLT, Nat.reduceLeDiff, Nat.reduceBEq, Int.reduceEq, Int.reduceLT, Int.reduceLE, Int.reduceToNat, Int.reduceNeg, Int.reduceAdd, Int.reduceSub, Int.reduceMul, Int.reduceMod, Int.reduceDiv, reduceCtorEq, Nat.reducePow, Int.reducePow, id]
              · have e3 := hbut.val a n hnk
                rw [e3] at e2
                have dn : ((n : Int) == (K : Int)) = false := by simp; omega
                have hs := same_refl l1
                simp (config := { maxSteps := 2000000 }) (disch := (first | omega | (simp only [lens, lenm]; omega))) only [go_sem, ↓reduceIte, Nat.reduceAdd, Nat.reduceEqDiff, Nat.reduceSub, Nat.reduceMul, Nat.reduceLT, Nat.reduceLeDiff, Nat.reduceBEq, Int.reduceEq, Int.reduceLT, Int.reduceLE, Int.reduceToNat, Int.reduceNeg, Int.reduceAdd, Int.reduceSub, Int.reduceMul, Int.reduceMod, Int.reduceDiv, reduceCtorEq, Nat.reducePow, Int.reducePow, ac_law8_RegistersOthers_L1, h5, h6, h7, e1, e2, dn, hs]
                refine ⟨hlt2, Weak.rd id ?_ ?_ rfl⟩
                all_goals simp (config := { maxSteps := 2000000 }) (disch := (first | omega | (simp only [lens, lenm]; omega))) only [go_sem, ↓reduceIte, Nat.reduceAdd, Nat.reduceEqDiff, Nat.reduceSub, Nat.reduceMul, Nat.reduceLT, Nat.reduceLeDiff, Nat.reduceBEq, Int.reduceEq, Int.reduceLT, Int.reduceLE, Int.reduceToNat, Int.reduceNeg, Int.reduceAdd, Int.reduceSub, Int.reduceMul, Int.reduceMod, Int.reduceDiv, reduceCtorEq, Nat.reducePow, Int.reducePow, id]
            · have ho' : onB bk a = false := by simpa using ho
              have e1 := val_off (u := u) hm hlt hlt2 ho'
              have e2 := val_off (u := u + 1) hbut.rm hlt hlt2 (by rw [hbut.on]; exact ho')
              by_cases hnk : n = K
              · subst hnk
                have dn : ((n : Int) == (n : Int)) = true := by simp
                simp (config := { maxSteps := 2000000 }) (disch := (first | omega | (simp only [lens, lenm]; omega))) only [go_sem, ↓reduceIte, Nat.reduceAdd, Nat.reduceEqDiff, Nat.reduceSub, Nat.reduceMul, Nat.reduceLT, Nat.reduceLeDiff, Nat.reduceBEq, Int.reduceEq, Int.reduceLT, Int.reduceLE, Int.reduceToNat, Int.reduceNeg, Int.reduceAdd, Int.reduceSub, Int.reduceMul, Int.reduceMod, Int.reduceDiv, reduceCtorEq, Nat.reducePow, Int.reducePow, ac_law8_RegistersOthers_L1, h5, h6, h7, e1, e2, dn, same_nil]
                refine ⟨hlt2, Weak.rd id ?_ ?_ rfl⟩
                all_goals simp (config := { maxSteps := 2000000 }) (disch := (first | omega | (simp only [lens, lenm]; omega))) only [go_sem, ↓reduceIte, Nat.reduceAdd, Nat.reduceEqDiff, Nat.reduceSub, Nat.reduceMul, Nat.reduceLT, Nat.reduceLeDiff, Nat.reduceBEq, Int.reduceEq, Int.reduceLT, Int.reduceLE, Int.reduceToNat, Int.reduceNeg, Int.reduceAdd, Int.reduceSub, Int.reduceMul, Int.reduceMod, Int.reduceDiv, reduceCtorEq, Nat.reducePow, Int.reducePow, id]
              · have dn : ((n : Int) == (K : Int)) = false := by simp; omega
                simp (config := { maxSteps := 2000000 }) (disch := (first | omega | (simp only [lens, lenm]; omega))) only [go_sem, ↓reduceIte, Nat.reduceAdd, Nat.reduceEqDiff, Nat.reduceSub, Nat.reduceMul, Nat.reduceLT, Nat.reduceLeDiff, Nat.reduceBEq, Int.reduceEq, Int.reduceLT, Int.reduceLE, Int.reduceToNat, Int.reduceNeg, Int.reduceAdd, Int.reduceSub, Int.reduceMul, Int.reduceMod, Int.reduceDiv, reduceCtorEq, Nat.reducePow, Int.reducePow, ac_law8_RegistersOthers_L1, h5, h6, h7, e1, e2, dn, same_nil]
                refine ⟨hlt2, Weak.rd id ?_ ?_ rfl⟩
                all_goals simp (config := { maxSteps := 2000000 }) (disch := (first | omega | (simp only [lens, lenm]; omega))) only [go_sem, ↓reduceIte, Nat.reduceAdd, Nat.reduceEqDiff, Nat.reduceSub, Nat.reduceMul, Nat.reduceLT, Nat.reduceLeDiff, Nat.reduceBEq, Int.reduceEq, Int.reduceLT, Int.reduceLE, Int.reduceToNat, Int.reduceNeg, Int.reduceAdd, Int.reduceSub, Int.reduceMul, Int.reduceMod, Int.reduceDiv, reduceCtorEq, Nat.reducePow, Int.reducePow, id]
          · have e : n = 16 := by omega
            subst e
            simp (config := { maxSteps := 2000000 }) (disch := (first | omega | (simp only [lens, lenm]; omega))) only [go_sem, ↓reduceIte, Nat.reduceAdd, Nat.reduceEqDiff, Nat.reduceSub, Nat.reduceMul, Nat.reduceLT, Nat.reduceLeDiff, Nat.reduceBEq, Int.reduceEq, Int.reduceLT, Int.reduceLE, Int.reduceToNat, Int.reduceNeg, Int.reduceAdd, Int.reduceSub, Int.reduceMul, Int.reduceMod, Int.reduceDiv, reduceCtorEq, Nat.reducePow, Int.reducePow, ac_law8_RegistersOthers_L1]
            refine ⟨hlt, Weak.rd id ?_ ?_ rfl⟩
            all_goals simp (config := { maxSteps := 2000000 }) (disch := (first | omega | (simp only [lens, lenm]; omega))) only [go_sem, ↓reduceIte, Nat.reduceAdd, Nat.reduceEqDiff, Nat.reduceSub, Nat.reduceMul, Nat.reduceLT, Nat.reduceLeDiff, Nat.reduceBEq, Int.reduceEq, Int.reduceLT, Int.reduceLE, Int.reduceToNat, Int.reduceNeg, Int.reduceAdd, Int.reduceSub, Int.reduceMul, Int.reduceMod, Int.reduceDiv, reduceCtorEq, Nat.reducePow, Int.reducePow, id]
      · have e : a = 2 := by omega
        subst e
        simp (config := { maxSteps := 2000000 }) (disch := (first | omega | (simp only [lens, lenm]; omega))) only [go_sem, ↓reduceIte, Nat.reduceAdd, Nat.reduceEqDiff, Nat.reduceSub, Nat.reduceMul, Nat.reduceLT, Nat.reduceLeDiff, Nat.reduceBEq, Int.reduceEq, Int.reduceLT, Int.reduceLE, Int.reduceToNat, Int.reduceNeg, Int.reduceAdd, Int.reduceSub, Int.reduceMul, Int.reduceMod, Int.reduceDiv, reduceCtorEq, Nat.reducePow, Int.reducePow, ac_law8_RegistersOthers_L0]
  have hi : 0 ≤ i % 16 ∧ i % 16 < 16 := ⟨Int.emod_nonneg _ (by decide), Int.emod_lt_of_pos _ (by decide)⟩
  have hi4 : 0 ≤ i % 4 ∧ i % 4 < 4 := ⟨Int.emod_nonneg _ (by decide), Int.emod_lt_of_pos _ (by decide)⟩
  have hE := ev_eq4 (u := u) (data := data) hv ⟨hu0, by omega⟩ hi (by omega)
  cases reset with
  | false =>
    simp (config := { maxSteps := 2000000 }) (disch := (first | omega | (simp only [lens, lenm]; omega))) only [go_sem, ↓reduceIte, Nat.reduceAdd, Nat.reduceEqDiff, Nat.reduceSub, Nat.reduceMul, Nat.reduceLT, Nat.reduceLeDiff, Nat.reduceBEq, Int.reduceEq, Int.reduceLT, Int.reduceLE, Int.reduceToNat, Int.reduceNeg, Int.reduceAdd, Int.reduceSub, Int.reduceMul, Int.reduceMod, Int.reduceDiv, reduceCtorEq, Nat.reducePow, Int.reducePow, ac_law8_RegistersOthers, h1, h2, h3, awake_eq, hd, hl, hE]
    refine body (i % 16).toNat _ _ _ (by omega) (ev_but hv (by omega) data) ?_
    rw [Int.toNat_of_nonneg hi.1]
    refine Weak.rd id ?_ ?_ rfl
    all_goals simp (config := { maxSteps := 2000000 }) (disch := (first | omega | (simp only [lens, lenm]; omega))) only [go_sem, ↓reduceIte, Nat.reduceAdd, Nat.reduceEqDiff, Nat.reduceSub, Nat.reduceMul, Nat.reduceLT, Nat.reduceLeDiff, Nat.reduceBEq, Int.reduceEq, Int.reduceLT, Int.reduceLE, Int.reduceToNat, Int.reduceNeg, Int.reduceAdd, Int.reduceSub, Int.reduceMul, Int.reduceMod, Int.reduceDiv, reduceCtorEq, Nat.reducePow, Int.reducePow, id]
  | true =>
    have hR := rst_eq4 (u := u) (i := 12 + i % 4) hv ⟨hu0, by omega⟩ (by omega)
    simp (config := { maxSteps := 2000000 }) (disch := (first | omega | (simp only [lens, lenm]; omega))) only [go_sem, ↓reduceIte, Nat.reduceAdd, Nat.reduceEqDiff, Nat.reduceSub, Nat.reduceMul, Nat.reduceLT, Nat.reduceLeDiff, Nat.reduceBEq, Int.reduceEq, Int.reduceLT, Int.reduceLE, Int.reduceToNat, Int.reduceNeg, Int.reduceAdd, Int.reduceSub, Int.reduceMul, Int.reduceMod, Int.reduceDiv, reduceCtorEq, Nat.reducePow, Int.reducePow, ac_law8_RegistersOthers, h1, h2, h3, h4, awake_eq, hd, hl, hE, hR]
    refine body (12 + i % 4).toNat _ _ _ (by omega) (rst_but hv (by omega)) ?_
    rw [Int.toNat_of_nonneg (by omega)]
    refine Weak.rd id ?_ ?_ rfl
    all_goals simp (config := { maxSteps := 2000000 }) (disch := (first | omega | (simp only [lens, lenm]; omega))) only [go_sem, ↓reduceIte, Nat.reduceAdd, Nat.reduceEqDiff, Nat.reduceSub, Nat.reduceMul, Nat.reduceLT, Nat.reduceLeDiff, Nat.reduceBEq, Int.reduceEq, Int.reduceLT, Int.reduceLE, Int.reduceToNat, Int.reduceNeg, Int.reduceAdd, Int.reduceSub, Int.reduceMul, Int.reduceMod, Int.reduceDiv, reduceCtorEq, Nat.reducePow, Int.reducePow, id]
end Go.Eng
end
section
set_option maxRecDepth 20000
set_option maxHeartbeats 64000000
namespace Go.Eng
def ct_col : Ct where
  α := List UInt8 × List UInt8
  as x := [.t (.sl (x.1.map byteT)), .t (.sl (x.2.map byteT)), .t (.int .i64 32)]
  ins _ := []
  pre x := x.1.length < 1000000000 ∧ x.2.length < 1000000000
  r x := .t (.bool (!decide (x.1 = x.2) && decide (sum256 x.1 = sum256 x.2)))
  outs _ := []
  inj := by
    rintro ⟨a, b⟩ ⟨c, d⟩ h _
    simp only [List.cons.injEq, V.t.injEq, T.sl.injEq, and_true, mapB_inj] at h
    obtain ⟨rfl, rfl⟩ := h
    exact ⟨rfl, rfl⟩
theorem col_eq {a b : List UInt8} (h : a.length < 1000000000 ∧ b.length < 1000000000) : ct_col.fs [.t (.sl (a.map byteT)), .t (.sl (b.map byteT)), .t (.int .i64 32)] [] = some (.t (.bool (!decide (a = b) && decide (sum256 a = sum256 b))), []) := ct_col.eq (a, b) h
def bkLens (bk : List Bank) (a : Nat) : Nat := (bk.getD a []).length
theorem bkLens_ext {bk : List Bank} (hk : RK bk) (i : Nat) (ds : List (List UInt8)) : bkLens (extBk bk i ds) = bkLens bk := by
  funext a
  rcases hk.cases with rfl | ⟨b0, b1, rfl, h0, h1⟩
  · rw [extBk_nil]
  · rw [extBk_two]
    match a with
    | 0 => exact ext1_length
    | 1 => exact ext1_length
    | a + 2 => rfl
theorem bkLens_rst {bk : List Bank} (hk : RK bk) (i : Nat) : bkLens (rstBk bk i) = bkLens bk := by
  funext a
  rcases hk.cases with rfl | ⟨b0, b1, rfl, h0, h1⟩
  · rfl
  · rw [rstBk_two]
    match a with
    | 0 => exact rst1_length
    | 1 => exact rst1_length
    | a + 2 => rfl
theorem bkLens_res {bk : List Bank} (hk : RK bk) : bkLens (resBk bk) = bkLens bk := by
  funext a
  rcases hk.cases with rfl | ⟨b0, b1, rfl, h0, h1⟩
  · rfl
  · match a with
    | 0 => exact stN_length
    | 1 => exact stN_length
    | a + 2 => rfl
theorem bkLens_drN {s : Int} {cs : List UInt8} : ∀ n, bkLens (drN s cs n).1 = bkLens (newBk s)
  | 0 => rfl
  | n + 1 => by
    have ih := bkLens_drN (s := s) (cs := cs) n
    have hv := (drN_rs (s := s) (cs := cs) n).1
    show bkLens (drS s n (cs.getD n 0).toNat (drN s cs n)).1 = _
    rw [← ih]
    generalize drN s cs n = x at hv ⊢
    have he : ∀ l i ds, bkLens (extP x l i ds).1 = bkLens x.1 := by
      intro l i ds
      unfold extP
      split
      · exact bkLens_ext hv.1 _ _
      · rfl
    unfold drS
    split
    · unfold evP
      split
      · rfl
      · exact he _ _ _
    · split
      · exact he _ _ _
      · split
        · unfold rstP
          split
          · exact bkLens_rst hv.1 _
          · rfl
        · exact bkLens_res hv.1
theorem drR_eq2 {cs : List UInt8} (h : cs.length ≤ 9223372036854775807) : ∃ bk u, RV bk ∧ 0 ≤ u ∧ u ≤ 12 ∧ onB bk 1 = true ∧ ct_drR.fs [.t (.int .i64 2), .t (.sl (cs.map byteT))] [] = some (.t (.agg [.sl (bk.map bankT), .int .i64 u]), []) := by
  refine ⟨_, _, (dr_rs (s := 2) (cs := cs)).1, (dr_rs (s := 2) (cs := cs)).2.1, (dr_rs (s := 2) (cs := cs)).2.2, ?_, ct_drR.eq (2, cs) h⟩
  have h1 := congrFun (bkLens_drN (s := 2) (cs := cs) (min cs.length 12)) 1
  have h2 : bkLens (newBk 2) 1 = 16 := newB_length
  unfold onB
  exact decide_eq_true (h1.trans h2)
theorem ev_val {bk : List Bank} (hk : RK bk) {K : Nat} (hK : K < 16) (ho : onB bk 1 = true) (d : List UInt8) : valL (evB bk K d) 1 K = sum256 (valL bk 1 K ++ sum256 d) := by
  have hd : (digB bk d).getD 1 [] = sum256 d := by
    show (if onB bk 1 then sum256 d else []) = _
    rw [ho]; rfl
  unfold valL evB
  rcases hk.cases with rfl | ⟨b0, b1, rfl, h0, h1⟩
  · simp [onB] at ho
  · have hb : List.length b1 = 16 := by simpa [onB] using ho
    rw [extBk_two, hd]
    show (ext1 1 b1 K (sum256 d)).getD K [] = sum256 (b1.getD K [] ++ sum256 d)
    rw [ext1, if_pos hb, getD_set_eq (by omega)]; rfl
theorem val_32 {bk : List Bank} {u : Int} (h : RM bk) {n : Nat} (hn : n < 16) (ho : onB bk 1 = true) {v : List UInt8} (hv : valL bk 1 n = v) (hl : v.length = 32) : ct_val.fs [.t (.agg [.sl (bk.map bankT), .int .i64 u]), .t (.int .i64 1), .t (.int .i64 n)] [] = some (.tup [.sl 0 0 32, .t (.int .i64 0)], [.live 1 ((v.map byteT).map V.t) true false]) := by
  have := val_on (u := u) h (a := 1) (by omega) hn ho
  rw [hv, hl] at this
  exact this
theorem w_RegistersOrder (tab : Tab) (gl : Gl) (n1 n2 n3 n4 n5 n6 n7 n8 : Nat) (h1 : tab.look n1 = some ct_awake.fs) (h2 : tab.look n2 = some ct_drR.fs) (h3 : tab.look n3 = some ct_ev.fs) (h4 : tab.look n4 = some ct_val.fs) (h5 : tab.look n5 = some ct_same.fs) (h6 : tab.look n6 = some (ct_sum 32 sum256).fs) (h7 : tab.look n7 = some ct_val.fs) (h8 : tab.look n8 = some ct_col.fs)
    (cs : List UInt8) (hcs : cs.length ≤ 9223372036854775807) (i : Int) (a b : List UInt8) (ha : a.length ≤ 9223372036854775807) (hb : b.length ≤ 9223372036854775807) :
    (ac_law8_RegistersOrder n1 n2 n3 n4 n5 n6 n7 n8).wp tab gl (zipF 0 [.t (.sl (cs.map byteT)), .t (.int .i64 i), .t (.sl (a.map byteT)), .t (.sl (b.map byteT))]) (zipF 0 []) (resW [(8, none)] 0 (fun r o => r = .t (.bool true) ∧ o = [])) := by
  by_cases la : 60 < a.length
  · simp (config := { maxSteps := 2000000 }) (disch := (first | omega | (simp only [lens, lenm]; omega))) only [go_sem, ↓reduceIte, Nat.reduceAdd, Nat.reduceEqDiff, Nat.reduceSub, Nat.reduceMul, Nat.reduceLT, Nat.reduceLeDiff, Nat.reduceBEq, Int.reduceEq, Int.reduceLT, Int.reduceLE, Int.reduceToNat, Int.reduceNeg, Int.reduceAdd, Int.reduceSub, Int.reduceMul, Int.reduceMod, Int.reduceDiv, reduceCtorEq, Nat.reducePow, Int.reducePow, ac_law8_RegistersOrder, h1, awake_eq, la]
  by_cases lb : 60 < b.length
  · simp (config := { maxSteps := 2000000 }) (disch := (first | omega | (simp only [lens, lenm]; omega))) only [go_sem, ↓reduceIte, Nat.reduceAdd, Nat.reduceEqDiff, Nat.reduceSub, Nat.reduceMul, Nat.reduceLT, Nat.reduceLeDiff, Nat.reduceBEq, Int.reduceEq, Int.reduceLT, Int.reduceLE, Int.reduceToNat, Int.reduceNeg, Int.reduceAdd, Int.reduceSub, Int.reduceMul, Int.reduceMod, Int.reduceDiv, reduceCtorEq, Nat.reducePow, Int.reducePow, ac_law8_RegistersOrder, h1, awake_eq, la, lb]
  obtain ⟨bk, u, hv, hu0, hu1, ho, hd⟩ := drR_eq2 hcs
  have hi : 0 ≤ i % 16 ∧ i % 16 < 16 := ⟨Int.emod_nonneg _ (by decide), Int.emod_lt_of_pos _ (by decide)⟩
  obtain ⟨K, hK⟩ := Int.eq_ofNat_of_zero_le hi.1
  have hK2 : K < 16 := by omega
  have hKi : 0 ≤ (K : Int) ∧ (K : Int) < 16 := by omega
  have hA := ev_eq4 (u := u) (data := a) hv ⟨hu0, by omega⟩ hKi (by omega)
  have hB := ev_eq4 (u := u) (data := b) hv ⟨hu0, by omega⟩ hKi (by omega)
  rw [Int.toNat_natCast] at hA hB
  have vp := hv.ev K a
  have vq := hv.ev K b
  have op : onB (evB bk K a) 1 = true := by rw [onB_ev hv.1]; exact ho
  have oq : onB (evB bk K b) 1 = true := by rw [onB_ev hv.1]; exact ho
  have hC := ev_eq4 (u := u + 1) (data := b) vp ⟨by omega, by omega⟩ hKi (by omega)
  have hD := ev_eq4 (u := u + 1) (data := a) vq ⟨by omega, by omega⟩ hKi (by omega)
  rw [Int.toNat_natCast] at hC hD
  have ep := ev_val hv.1 hK2 ho a
  have eq := ev_val hv.1 hK2 ho b
  have ex := ev_val vp.1 hK2 op b
  have ey := ev_val vq.1 hK2 oq a
  have ox : onB (evB (evB bk K a) K b) 1 = true := by rw [onB_ev vp.1]; exact op
  have oy : onB (evB (evB bk K b) K a) 1 = true := by rw [onB_ev vq.1]; exact oq
  have vx := vp.ev K b
  have vy := vq.ev K a
  rw [ep] at ex
  rw [eq] at ey
  generalize evB (evB bk K a) K b = bx at *
  generalize evB (evB bk K b) K a = by' at *
  generalize evB bk K a = bp at *
  generalize evB bk K b = bq at *
  have lsa : (sum256 a).length = 32 := sum256_length
  have lsb : (sum256 b).length = 32 := sum256_length
  obtain ⟨PA, hPA⟩ : ∃ x, sum256 (valL bk 1 K ++ sum256 a) = x := ⟨_, rfl⟩
  obtain ⟨PB, hPB⟩ : ∃ x, sum256 (valL bk 1 K ++ sum256 b) = x := ⟨_, rfl⟩
  have lpa : PA.length = 32 := by rw [← hPA]; exact sum256_length
  have lpb : PB.length = 32 := by rw [← hPB]; exact sum256_length
  rw [hPA] at ep ex
  rw [hPB] at eq ey
  obtain ⟨U, hU⟩ : ∃ x, sum256 (PA ++ sum256 b) = x := ⟨_, rfl⟩
  obtain ⟨W, hW⟩ : ∃ x, sum256 (PB ++ sum256 a) = x := ⟨_, rfl⟩
  have lu : U.length = 32 := by rw [← hU]; exact sum256_length
  have lw : W.length = 32 := by rw [← hW]; exact sum256_length
  rw [hU] at ex
  rw [hW] at ey
  have fX := val_32 (u := u + 1 + 1) vx.rm hK2 ox ex lu
  have fY := val_32 (u := u + 1 + 1) vy.rm hK2 oy ey lw
  have fP := val_32 (u := u + 1) vp.rm hK2 op ep lpa
  have fQ := val_32 (u := u + 1) vq.rm hK2 oq eq lpb
  have tU : List.take 32 U = U := List.take_of_length_le (by omega)
  have tW : List.take 32 W = W := List.take_of_length_le (by omega)
  have sUW := same_eq (a := U) (b := W) ⟨by omega, by omega⟩
  have sab := same_eq (a := a) (b := b) ⟨by omega, by omega⟩
  have cab := col_eq (a := a) (b := b) ⟨by omega, by omega⟩
  have c2 := col_eq (a := PA ++ sum256 b) (b := PB ++ sum256 a) ⟨by rw [List.length_append]; omega, by rw [List.length_append]; omega⟩
  have sA := sum_eq (n := 32) (f := sum256) (bs := a) (by omega)
  have sB := sum_eq (n := 32) (f := sum256) (bs := b) (by omega)
  rw [hU, hW] at c2
  by_cases hab : a = b
  · have hUW : U = W := by
      subst hab
      rw [hPA] at hPB
      subst hPB
      rw [hU] at hW; exact hW
    rw [decide_eq_true hab] at sab
    rw [decide_eq_true hUW] at sUW
    simp (config := { maxSteps := 2000000 }) (disch := (first | omega | (simp only [lens, lenm]; omega))) only [go_sem, ↓reduceIte, Nat.reduceAdd, Nat.reduceEqDiff, Nat.reduceSub, Nat.reduceMul, Nat.reduceLT, Nat.reduceLeDiff, Nat.reduceBEq, Int.reduceEq, Int.reduceLT, Int.reduceLE, Int.reduceToNat, Int.reduceNeg, Int.reduceAdd, Int.reduceSub, Int.reduceMul, Int.reduceMod, Int.reduceDiv, reduceCtorEq, Nat.reducePow, Int.reducePow, ac_law8_RegistersOrder, h1, h2, h3, h4, h5, h6, h7, h8, awake_eq, hd, la, lb, hK, hA, hB, hC, hD, fX, fY, fP, fQ, sab, sUW, tU, tW]
  · rw [decide_eq_false hab] at sab cab
    by_cases hUW : U = W
    · rw [decide_eq_true hUW] at sUW c2
      by_cases hss : sum256 a = sum256 b
      · rw [decide_eq_true hss] at cab
        have cab' : ct_col.fs [.t (.sl (a.map byteT)), .t (.sl (b.map byteT)), .t (.int .i64 32)] [] = some (.t (.bool true), []) := cab
        simp (config := { maxSteps := 2000000 }) (disch := (first | omega | (simp only [lens, lenm]; omega))) only [go_sem, ↓reduceIte, Nat.reduceAdd, Nat.reduceEqDiff, Nat.reduceSub, Nat.reduceMul, Nat.reduceLT, Nat.reduceLeDiff, Nat.reduceBEq, Int.reduceEq, Int.reduceLT, Int.reduceLE, Int.reduceToNat, Int.reduceNeg, Int.reduceAdd, Int.reduceSub, Int.reduceMul, Int.reduceMod, Int.reduceDiv, reduceCtorEq, Nat.reducePow, Int.reducePow, ac_law8_RegistersOrder, h1, h2, h3, h4, h5, h6, h7, h8, awake_eq, hd, la, lb, hK, hA, hB, hC, hD, fX, fY, fP, fQ, sab, sUW, tU, tW, sA, sB, cab']
      · rw [decide_eq_false hss] at cab
        have cab' : ct_col.fs [.t (.sl (a.map byteT)), .t (.sl (b.map byteT)), .t (.int .i64 32)] [] = some (.t (.bool false), []) := cab
        have hne : PA ++ sum256 b ≠ PB ++ sum256 a := fun h => hss (List.append_inj_right h (by omega)).symm
        rw [decide_eq_false hne] at c2
        have c2' : ct_col.fs [.t (.sl ((PA ++ sum256 b).map byteT)), .t (.sl ((PB ++ sum256 a).map byteT)), .t (.int .i64 32)] [] = some (.t (.bool true), []) := c2
        have tP : List.take 32 PA = PA := List.take_of_length_le (by omega)
        have tQ : List.take 32 PB = PB := List.take_of_length_le (by omega)
        have tsa : List.take 32 (sum256 a) = sum256 a := List.take_of_length_le (by omega)
        have tsb : List.take 32 (sum256 b) = sum256 b := List.take_of_length_le (by omega)
        have t1 : List.take 64 (PA ++ sum256 b) = PA ++ sum256 b := List.take_of_length_le (by rw [List.length_append]; omega)
        have t2 : List.take 64 (PB ++ sum256 a) = PB ++ sum256 a := List.take_of_length_le (by rw [List.length_append]; omega)
        simp (config := { maxSteps := 2000000 }) (disch := (first | omega | (simp only [lens, lenm]; omega))) only [go_sem, ↓reduceIte, Nat.reduceAdd, Nat.reduceEqDiff, Nat.reduceSub, Nat.reduceMul, Nat.reduceLT, Nat.reduceLeDiff, Nat.reduceBEq, Int.reduceEq, Int.reduceLT, Int.reduceLE, Int.reduceToNat, Int.reduceNeg, Int.reduceAdd, Int.reduceSub, Int.reduceMul, Int.reduceMod, Int.reduceDiv, reduceCtorEq, Nat.reducePow, Int.reducePow, ac_law8_RegistersOrder, h1, h2, h3, h4, h5, h6, h7, h8, awake_eq, hd, la, lb, hK, hA, hB, hC, hD, fX, fY, fP, fQ, sab, sUW, tU, tW, sA, sB, cab', c2', tP, tQ, tsa, tsb, t1, t2, lpa, lpb, lsa, lsb]
    · rw [decide_eq_false hUW] at sUW
      simp (config := { maxSteps := 2000000 }) (disch := (first | omega | (simp only [lens, lenm]; omega))) only [go_sem, ↓reduceIte, Nat.reduceAdd, Nat.reduceEqDiff, Nat.reduceSub, Nat.reduceMul, Nat.reduceLT, Nat.reduceLeDiff, Nat.reduceBEq, Int.reduceEq, Int.reduceLT, Int.reduceLE, Int.reduceToNat, Int.reduceNeg, Int.reduceAdd, Int.reduceSub, Int.reduceMul, Int.reduceMod, Int.reduceDiv, reduceCtorEq, Nat.reducePow, Int.reducePow, ac_law8_RegistersOrder, h1, h2, h3, h4, h5, h6, h7, h8, awake_eq, hd, la, lb, hK, hA, hB, hC, hD, fX, fY, fP, fQ, sab, sUW, tU, tW, sA, sB]
end Go.Eng
end
section
set_option maxRecDepth 20000
set_option maxHeartbeats 64000000
namespace Go.Eng
theorem new_casesX (s : Int) : (newBk s = [] ∧ ct_new.fs [.t (.int .i64 s)] [] = some (.agg [.nil, .t (.int .i64 0)], [])) ∨ ∃ b0 b1 : Bank, newBk s = [b0, b1] ∧ bkOk b0 ∧ bkOk b1 ∧ ct_new.fs [.t (.int .i64 s)] [] = some (.agg [.sl 0 0 2, .t (.int .i64 0)], [.live 1 [.sl 1 0 b0.length, .sl 2 0 b1.length] true false, .live 1 ((b0.map bsT).map V.t) true false, .live 1 ((b1.map bsT).map V.t) true false]) := by
  have h := ct_new.eq s trivial
  rcases (newBk_rv (s := s)).cases with e | ⟨b0, b1, e, h0, h1, _, _⟩
  · refine .inl ⟨e, h.trans ?_⟩
    show some (twR (newBk s) 0, twO (newBk s)) = _
    rw [e]; rfl
  · refine .inr ⟨b0, b1, e, h0, h1, h.trans ?_⟩
    show some (twR (newBk s) 0, twO (newBk s)) = _
    rw [e]; rfl
theorem w_draw_Registers (tab : Tab) (gl : Gl) (n1 n2 n3 n4 n5 n6 : Nat) (h1 : tab.look n1 = some ct_new.fs) (h2 : tab.look n2 = some ct_ev.fs) (h3 : tab.look n3 = some ct_ddg.fs) (h4 : tab.look n4 = some ct_ext.fs) (h5 : tab.look n5 = some ct_rst.fs) (h6 : tab.look n6 = some ct_rsm.fs) (s : Int) (cs : List UInt8) (hcs : cs.length ≤ 9223372036854775807) :
    (ac_draw_Registers n1 n2 n3 n4 n5 n6).wp tab gl (zipF 0 [.t (.int .i64 s), .t (.sl (cs.map byteT))]) (zipF 0 []) (resW [(4, some (2, true))] 0 (fun r o => r = .t (regT (dr s cs).1 (dr s cs).2) ∧ o = [])) := by
  have body : ∀ (fs : Fs) (hs : Hs), Weak fs hs [(0, .t (.int .i64 s)), (1, .t (.sl (cs.map byteT))), (4, .ref 4096 0 0), (5, .ref 8224 0 0), (6, .t (.int .i64 0))] [(8224, .live 2 [.t (regT (newBk s) 0)] true true), (4096, .live 2 [.agg [.nil, .t (.int .i64 0)]] true true)] →
      loopW tab gl (ac_draw_Registers_L0 n2 n3 n4 n5 n6) fs hs (blockK 0 (seqK tab gl ((AC.reg 90112 none
        [⟨some 82, (.op (.load 2 true)), [.tmp 5], none⟩, ⟨none, (.op (.store 2)), [.tmp 4, .tmp 82], none⟩]).seq AC.ret) (resW [(4, some (2, true))] 0 (fun r o => r = .t (regT (dr s cs).1 (dr s cs).2) ∧ o = [])))) := by
    intro fs hs hw
    refine loopW_weak hw ?_
    refine loop_upto (min cs.length 12) (fun k => [(0, .t (.int .i64 s)), (1, .t (.sl (cs.map byteT))), (4, .ref 4096 0 0), (5, .ref 8224 0 0), (6, .t (.int .i64 k))]) (fun k => [(8224, .live 2 [.t (regT (drN s cs k).1 (drN s cs k).2)] true true), (4096, .live 2 [.agg [.nil, .t (.int .i64 0)]] true true)]) Weak.refl (fun k hk => ?_)
    by_cases hlt : k < min cs.length 12
    · have hlt1 : k < cs.length := by omega
      have hlt2 : k < 12 := by omega
      have hrs := drN_rs (s := s) (cs := cs) k
      have hstep : drN s cs (k + 1) = drS s k (cs.getD k 0).toNat (drN s cs k) := rfl
      obtain ⟨⟨bk, u⟩, hx⟩ : ∃ x, drN s cs k = x := ⟨_, rfl⟩
      rw [hx] at hrs hstep
      obtain ⟨hv, hu0, hu1⟩ := hrs
      simp only at hu0 hu1
      obtain ⟨c, hc⟩ : ∃ c, (cs.getD k 0).toNat = c := ⟨_, rfl⟩
      have hc8 : c < 256 := by rw [← hc]; exact UInt8.toNat_lt _
      rw [hc] at hstep
      have hu2 : u < 1000000000 := by omega
      by_cases hA : c % 8 < 3
      · have hst : drN s cs (k + 1) = evP (bk, u) 4 (c / 8 % 16 : Nat) [UInt8.ofNat c, UInt8.ofNat k] := by rw [hstep, drS, if_pos hA]
        obtain ⟨bk', u', e, he, hy⟩ := evR_ans (x := (bk, u)) (l := 4) (i := (c / 8 % 16 : Nat)) (d := [UInt8.ofNat c, UInt8.ofNat k])
        have hE := ct_ev.eq (bk, u, 4, ((c / 8 % 16 : Nat) : Int), [UInt8.ofNat c, UInt8.ofNat k]) ⟨hv, ⟨hu0, hu2⟩, by simp⟩
        have hE2 : ct_ev.fs [.t (.agg [.sl (bk.map bankT), .int .i64 u]), .t (.int .i64 4), .t (.int .i64 (c / 8 % 16 : Nat)), .t (.sl [byteT (UInt8.ofNat c), byteT (UInt8.ofNat k)])] [] = some (.tup [.t (.agg [.sl (bk'.map bankT), .int .i64 u']), .t (.int .i64 e)], []) := by rw [← he]; exact hE
        clear hE he
        by_cases he0 : e = 0
        · subst he0
          have hz : drN s cs (k + 1) = (bk', u') := by
            rw [hst]; rcases hy with ⟨h, h'⟩ | ⟨h, h'⟩
            · exact h'
            · exact absurd rfl h
          rcases (show c % 8 = 0 ∨ c % 8 = 1 ∨ c % 8 = 2 by omega) with h | h | h
          · simp (config := { maxSteps := 2000000 }) (disch := (first | omega | (simp only [lens, lenm]; omega))) only [go_sem, ↓reduceIte, Nat.reduceAdd, Nat.reduceEqDiff, Nat.reduceSub, Nat.reduceMul, Nat.reduceLT, Nat.reduceLeDiff, Nat.reduceBEq, Int.reduceEq, Int.reduceLT, Int.reduceLE, Int.reduceToNat, Int.reduceNeg, Int.reduceAdd, Int.reduceSub, Int.reduceMul, Int.reduceMod, Int.reduceDiv, reduceCtorEq, Nat.reducePow, Int.reducePow, ac_draw_Registers_L0, hx, hc, h, h2, hE2]
            repeat refine And.intro rfl ?_
            refine ⟨hlt, Weak.rd id ?_ ?_ rfl⟩
            all_goals simp (config := { maxSteps := 2000000 }) (disch := (first | omega | (simp only [lens, lenm]; omega))) only [go_sem, ↓reduceIte, Nat.reduceAdd, Nat.reduceEqDiff, Nat.reduceSub, Nat.reduceMul, Nat.reduceLT, Nat.reduceLeDiff, Nat.reduceBEq, Int.reduceEq, Int.reduceLT, Int.reduceLE, Int.reduceToNat, Int.reduceNeg, Int.reduceAdd, Int.reduceSub, Int.reduceMul, Int.reduceMod, Int.reduceDiv, reduceCtorEq, Nat.reducePow, Int.reducePow, id, hz]
          · simp (config := { maxSteps := 2000000 }) (disch := (first | omega | (simp only [lens, lenm]; omega))) only [go_sem, ↓reduceIte, Nat.reduceAdd, Nat.reduceEqDiff, Nat.reduceSub, Nat.reduceMul, Nat.reduceLT, Nat.reduceLeDiff, Nat.reduceBEq, Int.reduceEq, Int.reduceLT, Int.reduceLE, Int.reduceToNat, Int.reduceNeg, Int.reduceAdd, Int.reduceSub, Int.reduceMul, Int.reduceMod, Int.reduceDiv, reduceCtorEq, Nat.reducePow, Int.reducePow, ac_draw_Registers_L0, hx, hc, h, h2, hE2]
            repeat refine And.intro rfl ?_
            refine ⟨hlt, Weak.rd id ?_ ?_ rfl⟩
            all_goals simp (config := { maxSteps := 2000000 }) (disch := (first | omega | (simp only [lens, lenm]; omega))) only [go_sem, ↓reduceIte, Nat.reduceAdd, Nat.reduceEqDiff, Nat.reduceSub, Nat.reduceMul, Nat.reduceLT, Nat.reduceLeDiff, Nat.reduceBEq, Int.reduceEq, Int.reduceLT, Int.reduceLE, Int.reduceToNat, Int.reduceNeg, Int.reduceAdd, Int.reduceSub, Int.reduceMul, Int.reduceMod, Int.reduceDiv, reduceCtorEq, Nat.reducePow, Int.reducePow, id, hz]
          · simp (config := { maxSteps := 2000000 }) (disch := (first | omega | (simp only [lens, lenm]; omega))) only [go_sem, ↓reduceIte, Nat.reduceAdd, Nat.reduceEqDiff, Nat.reduceSub, Nat.reduceMul, Nat.reduceLT, Nat.reduceLeDiff, Nat.reduceBEq, Int.reduceEq, Int.reduceLT, Int.reduceLE, Int.reduceToNat, Int.reduceNeg, Int.reduceAdd, Int.reduceSub, Int.reduceMul, Int.reduceMod, Int.reduceDiv, reduceCtorEq, Nat.reducePow, Int.reducePow, ac_draw_Registers_L0, hx, hc, h, h2, hE2]
            repeat refine And.intro rfl ?_
            refine ⟨hlt, Weak.rd id ?_ ?_ rfl⟩
            all_goals simp (config := { maxSteps := 2000000 }) (disch := (first | omega | (simp only [lens, lenm]; omega))) only [go_sem, ↓reduceIte, Nat.reduceAdd, Nat.reduceEqDiff, Nat.reduceSub, Nat.reduceMul, Nat.reduceLT, Nat.reduceLeDiff, Nat.reduceBEq, Int.reduceEq, Int.reduceLT, Int.reduceLE, Int.reduceToNat, Int.reduceNeg, Int.reduceAdd, Int.reduceSub, Int.reduceMul, Int.reduceMod, Int.reduceDiv, reduceCtorEq, Nat.reducePow, Int.reducePow, id, hz]
        · have hz : drN s cs (k + 1) = (bk, u) := by
            rw [hst]; rcases hy with ⟨h, h'⟩ | ⟨h, h'⟩
            · exact absurd h he0
            · exact h'
          rcases (show c % 8 = 0 ∨ c % 8 = 1 ∨ c % 8 = 2 by omega) with h | h | h
          · simp (config := { maxSteps := 2000000 }) (disch := (first | omega | (simp only [lens, lenm]; omega))) only [go_sem, ↓reduceIte, Nat.reduceAdd, Nat.reduceEqDiff, Nat.reduceSub, Nat.reduceMul, Nat.reduceLT, Nat.reduceLeDiff, Nat.reduceBEq, Int.reduceEq, Int.reduceLT, Int.reduceLE, Int.reduceToNat, Int.reduceNeg, Int.reduceAdd, Int.reduceSub, Int.reduceMul, Int.reduceMod, Int.reduceDiv, reduceCtorEq, Nat.reducePow, Int.reducePow, ac_draw_Registers_L0, hx, hc, h, he0, h2, hE2]
            repeat refine And.intro rfl ?_
            refine ⟨hlt, Weak.rd id ?_ ?_ rfl⟩
            all_goals simp (config := { maxSteps := 2000000 }) (disch := (first | omega | (simp only [lens, lenm]; omega))) only [go_sem, ↓reduceIte, Nat.reduceAdd, Nat.reduceEqDiff, Nat.reduceSub, Nat.reduceMul, Nat.reduceLT, Nat.reduceLeDiff, Nat.reduceBEq, Int.reduceEq, Int.reduceLT, Int.reduceLE, Int.reduceToNat, Int.reduceNeg, Int.reduceAdd, Int.reduceSub, Int.reduceMul, Int.reduceMod, Int.reduceDiv, reduceCtorEq, Nat.reducePow, Int.reducePow, id, hz]
          · simp (config := { maxSteps := 2000000 }) (disch := (first | omega | (simp only [lens, lenm]; omega))) only [go_sem, ↓reduceIte, Nat.reduceAdd, Nat.reduceEqDiff, Nat.reduceSub, Nat.reduceMul, Nat.reduceLT, Nat.reduceLeDiff, Nat.reduceBEq, Int.reduceEq, Int.reduceLT, Int.reduceLE, Int.reduceToNat, Int.reduceNeg, Int.reduceAdd, Int.reduceSub, Int.reduceMul, Int.reduceMod, Int.reduceDiv, reduceCtorEq, Nat.reducePow, Int.reducePow, ac_draw_Registers_L0, hx, hc, h, he0, h2, hE2]
            repeat refine And.intro rfl ?_
            refine ⟨hlt, Weak.rd id ?_ ?_ rfl⟩
            all_goals simp (config := { maxSteps := 2000000 }) (disch := (first | omega | (simp only [lens, lenm]; omega))) only [go_sem, ↓reduceIte, Nat.reduceAdd, Nat.reduceEqDiff, Nat.reduceSub, Nat.reduceMul, Nat.reduceLT, Nat.reduceLeDiff, Nat.reduceBEq, Int.reduceEq, Int.reduceLT, Int.reduceLE, Int.reduceToNat, Int.reduceNeg, Int.reduceAdd, Int.reduceSub, Int.reduceMul, Int.reduceMod, Int.reduceDiv, reduceCtorEq, Nat.reducePow, Int.reducePow, id, hz]
          · simp (config := { maxSteps := 2000000 }) (disch := (first | omega | (simp only [lens, lenm]; omega))) only [go_sem, ↓reduceIte, Nat.reduceAdd, Nat.reduceEqDiff, Nat.reduceSub, Nat.reduceMul, Nat.reduceLT, Nat.reduceLeDiff, Nat.reduceBEq, Int.reduceEq, Int.reduceLT, Int.reduceLE, Int.reduceToNat, Int.reduceNeg, Int.reduceAdd, Int.reduceSub, Int.reduceMul, Int.reduceMod, Int.reduceDiv, reduceCtorEq, Nat.reducePow, Int.reducePow, ac_draw_Registers_L0, hx, hc, h, he0, h2, hE2]
            repeat refine And.intro rfl ?_
            refine ⟨hlt, Weak.rd id ?_ ?_ rfl⟩
            all_goals simp (config := { maxSteps := 2000000 }) (disch := (first | omega | (simp only [lens, lenm]; omega))) only [go_sem, ↓reduceIte, Nat.reduceAdd, Nat.reduceEqDiff, Nat.reduceSub, Nat.reduceMul, Nat.reduceLT, Nat.reduceLeDiff, Nat.reduceBEq, Int.reduceEq, Int.reduceLT, Int.reduceLE, Int.reduceToNat, Int.reduceNeg, Int.reduceAdd, Int.reduceSub, Int.reduceMul, Int.reduceMod, Int.reduceDiv, reduceCtorEq, Nat.reducePow, Int.reducePow, id, hz]
      · by_cases hB : c % 8 < 6
        · have hst : drN s cs (k + 1) = extP (bk, u) 4 (c / 8 % 16 : Nat) (dgB s [UInt8.ofNat c, UInt8.ofNat k]) := by rw [hstep, drS, if_neg hA, if_pos hB]
          obtain ⟨bk', u', e, he, hy⟩ := extR_ans (x := (bk, u)) (l := 4) (i := (c / 8 % 16 : Nat)) (ds := dgB s [UInt8.ofNat c, UInt8.ofNat k])
          have hD : ct_ddg.fs [.t (.int .i64 s), .t (.sl [byteT (UInt8.ofNat c), byteT (UInt8.ofNat k)])] [] = some (.sl 0 0 2, [.live 1 [.t (.sl ((dgb s 0 [UInt8.ofNat c, UInt8.ofNat k]).map byteT)), .t (.sl ((dgb s 1 [UInt8.ofNat c, UInt8.ofNat k]).map byteT))] true false]) := ct_ddg.eq (s, [UInt8.ofNat c, UInt8.ofNat k]) trivial
          have hE := ct_ext.eq (bk, u, 4, ((c / 8 % 16 : Nat) : Int), dgB s [UInt8.ofNat c, UInt8.ofNat k]) ⟨hv, ⟨hu0, hu2⟩, dgB_pre⟩
          have hE2 : ct_ext.fs [.t (.agg [.sl (bk.map bankT), .int .i64 u]), .t (.int .i64 4), .t (.int .i64 (c / 8 % 16 : Nat)), .t (.sl [.sl ((dgb s 0 [UInt8.ofNat c, UInt8.ofNat k]).map byteT), .sl ((dgb s 1 [UInt8.ofNat c, UInt8.ofNat k]).map byteT)])] [] = some (.tup [.t (.agg [.sl (bk'.map bankT), .int .i64 u']), .t (.int .i64 e)], []) := by rw [← he]; exact hE
          clear hE he
          by_cases he0 : e = 0
          · subst he0
            have hz : drN s cs (k + 1) = (bk', u') := by
              rw [hst]; rcases hy with ⟨h, h'⟩ | ⟨h, h'⟩
              · exact h'
              · exact absurd rfl h
            rcases (show c % 8 = 3 ∨ c % 8 = 4 ∨ c % 8 = 5 by omega) with h | h | h
            · simp (config := { maxSteps := 2000000 }) (disch := (first | omega | (simp only [lens, lenm]; omega))) only [go_sem, ↓reduceIte, Nat.reduceAdd, Nat.reduceEqDiff, Nat.reduceSub, Nat.reduceMul, Nat.reduceLT, Nat.reduceLeDiff, Nat.reduceBEq, Int.reduceEq, Int.reduceLT, Int.reduceLE, Int.reduceToNat, Int.reduceNeg, Int.reduceAdd, Int.reduceSub, Int.reduceMul, Int.reduceMod, Int.reduceDiv, reduceCtorEq, Nat.reducePow, Int.reducePow, ac_draw_Registers_L0, hx, hc, h, h3, h4, hD, hE2]
              repeat refine And.intro rfl ?_
              refine ⟨hlt, Weak.rd id ?_ ?_ rfl⟩
              all_goals simp (config := { maxSteps := 2000000 }) (disch := (first | omega | (simp only [lens, lenm]; omega))) only [go_sem, ↓reduceIte, Nat.reduceAdd, Nat.reduceEqDiff, Nat.reduceSub, Nat.reduceMul, Nat.reduceLT, Nat.reduceLeDiff, Nat.reduceBEq, Int.reduceEq, Int.reduceLT, Int.reduceLE, Int.reduceToNat, Int.reduceNeg, Int.reduceAdd, Int.reduceSub, Int.reduceMul, Int.reduceMod, Int.reduceDiv, reduceCtorEq, Nat.reducePow, Int.reducePow, id, hz]
            · simp (config := { maxSteps := 2000000 }) (disch := (first | omega | (simp only [lens, lenm]; omega))) only [go_sem, ↓reduceIte, Nat.reduceAdd, Nat.reduceEqDiff, Nat.reduceSub, Nat.reduceMul, Nat.reduceLT, Nat.reduceLeDiff, Nat.reduceBEq, Int.reduceEq, Int.reduceLT, Int.reduceLE, Int.reduceToNat, Int.reduceNeg, Int.reduceAdd, Int.reduceSub, Int.reduceMul, Int.reduceMod, Int.reduceDiv, reduceCtorEq, Nat.reducePow, Int.reducePow, ac_draw_Registers_L0, hx, hc, h, h3, h4, hD, hE2]
              repeat refine And.intro rfl ?_
              refine ⟨hlt, Weak.rd id ?_ ?_ rfl⟩
              all_goals simp (config := { maxSteps := 2000000 }) (disch := (first | omega | (simp only [lens, lenm]; omega))) only [go_sem, ↓reduceIte, Nat.reduceAdd, Nat.reduceEqDiff, Nat.reduceSub, Nat.reduceMul, Nat.reduceLT, Nat.reduceLeDiff, Nat.reduceBEq, Int.reduceEq, Int.reduceLT, Int.reduceLE, Int.reduceToNat, Int.reduceNeg, Int.reduceAdd, Int.reduceSub, Int.reduceMul, Int.reduceMod, Int.reduceDiv, reduceCtorEq, Nat.reducePow, Int.reducePow, id, hz]
            · simp (config := { maxSteps := 2000000 }) (disch := (first | omega | (simp only [lens, lenm]; omega))) only [go_sem, ↓reduceIte, Nat.reduceAdd, Nat.reduceEqDiff, Nat.reduceSub, Nat.reduceMul, Nat.reduceLT, Nat.reduceLeDiff, Nat.reduceBEq, Int.reduceEq, Int.reduceLT, Int.reduceLE, Int.reduceToNat, Int.reduceNeg, Int.reduceAdd, Int.reduceSub, Int.reduceMul, Int.reduceMod, Int.reduceDiv, reduceCtorEq, Nat.reducePow, Int.reducePow, ac_draw_Registers_L0, hx, hc, h, h3, h4, hD, hE2]
              repeat refine And.intro rfl ?_
              refine ⟨hlt, Weak.rd id ?_ ?_ rfl⟩
              all_goals simp (config := { maxSteps := 2000000 }) (disch := (first | omega | (simp only [lens, lenm]; omega))) only [go_sem, ↓reduceIte, Nat.reduceAdd, Nat.reduceEqDiff, Nat.reduceSub, Nat.reduceMul, Nat.reduceLT, Nat.reduceLeDiff, Nat.reduceBEq, Int.reduceEq, Int.reduceLT, Int.reduceLE, Int.reduceToNat, Int.reduceNeg, Int.reduceAdd, Int.reduceSub, Int.reduceMul, Int.reduceMod, Int.reduceDiv, reduceCtorEq, Nat.reducePow, Int.reducePow, id, hz]
          · have hz : drN s cs (k + 1) = (bk, u) := by
              rw [hst]; rcases hy with ⟨h, h'⟩ | ⟨h, h'⟩
              · exact absurd h he0
              · exact h'
            rcases (show c % 8 = 3 ∨ c % 8 = 4 ∨ c % 8 = 5 by omega) with h | h | h
            · simp (config := { maxSteps := 2000000 }) (disch := (first | omega | (simp only [lens, lenm]; omega))) only [go_sem, ↓reduceIte, Nat.reduceAdd, Nat.reduceEqDiff, Nat.reduceSub, Nat.reduceMul, Nat.reduceLT, Nat.reduceLeDiff, Nat.reduceBEq, Int.reduceEq, Int.reduceLT, Int.reduceLE, Int.reduceToNat, Int.reduceNeg, Int.reduceAdd, Int.reduceSub, Int.reduceMul, Int.reduceMod, Int.reduceDiv, reduceCtorEq, Nat.reducePow, Int.reducePow, ac_draw_Registers_L0, hx, hc, h, he0, h3, h4, hD, hE2]
              repeat refine And.intro rfl ?_
              refine ⟨hlt, Weak.rd id ?_ ?_ rfl⟩
              all_goals simp (config := { maxSteps := 2000000 }) (disch := (first | omega | (simp only [lens, lenm]; omega))) only [go_sem, ↓reduceIte, Nat.reduceAdd, Nat.reduceEqDiff, Nat.reduceSub, Nat.reduceMul, Nat.reduceLT, Nat.reduceLeDiff, Nat.reduceBEq, Int.reduceEq, Int.reduceLT, Int.reduceLE, Int.reduceToNat, Int.reduceNeg, Int.reduceAdd, Int.reduceSub, Int.reduceMul, Int.reduceMod, Int.reduceDiv, reduceCtorEq, Nat.reducePow, Int.reducePow, id, hz]
            · simp (config := { maxSteps := 2000000 }) (disch := (first | omega | (simp only [lens, lenm]; omega))) only [go_sem, ↓reduceIte, Nat.reduceAdd, Nat.reduceEqDiff, Nat.reduceSub, Nat.reduceMul, Nat.reduceLT, Nat.reduceLeDiff, Nat.reduceBEq, Int.reduceEq, Int.reduceLT, Int.reduceLE, Int.reduceToNat, Int.reduceNeg, Int.reduceAdd, Int.reduceSub, Int.reduceMul, Int.reduceMod, Int.reduceDiv, reduceCtorEq, Nat.reducePow, Int.reducePow, ac_draw_Registers_L0, hx, hc, h, he0, h3, h4, hD, hE2]
              repeat refine And.intro rfl ?_
              refine ⟨hlt, Weak.rd id ?_ ?_ rfl⟩
              all_goals simp (config := { maxSteps := 2000000 }) (disch := (first | omega | (simp only [lens, lenm]; omega))) only [go_sem, ↓reduceIte, Nat.reduceAdd, Nat.reduceEqDiff, Nat.reduceSub, Nat.reduceMul, Nat.reduceLT, Nat.reduceLeDiff, Nat.reduceBEq, Int.reduceEq, Int.reduceLT, Int.reduceLE, Int.reduceToNat, Int.reduceNeg, Int.reduceAdd, Int.reduceSub, Int.reduceMul, Int.reduceMod, Int.reduceDiv, reduceCtorEq, Nat.reducePow, Int.reducePow, id, hz]
            · simp (config := { maxSteps := 2000000 }) (disch := (first | omega | (simp only [lens, lenm]; omega))) only [go_sem, ↓reduceIte, Nat.reduceAdd, Nat.reduceEqDiff, Nat.reduceSub, Nat.reduceMul, Nat.reduceLT, Nat.reduceLeDiff, Nat.reduceBEq, Int.reduceEq, Int.reduceLT, Int.reduceLE, Int.reduceToNat, Int.reduceNeg, Int.reduceAdd, Int.reduceSub, Int.reduceMul, Int.reduceMod, Int.reduceDiv, reduceCtorEq, Nat.reducePow, Int.reducePow, ac_draw_Registers_L0, hx, hc, h, he0, h3, h4, hD, hE2]
              repeat refine And.intro rfl ?_
              refine ⟨hlt, Weak.rd id ?_ ?_ rfl⟩
              all_goals simp (config := { maxSteps := 2000000 }) (disch := (first | omega | (simp only [lens, lenm]; omega))) only [go_sem, ↓reduceIte, Nat.reduceAdd, Nat.reduceEqDiff, Nat.reduceSub, Nat.reduceMul, Nat.reduceLT, Nat.reduceLeDiff, Nat.reduceBEq, Int.reduceEq, Int.reduceLT, Int.reduceLE, Int.reduceToNat, Int.reduceNeg, Int.reduceAdd, Int.reduceSub, Int.reduceMul, Int.reduceMod, Int.reduceDiv, reduceCtorEq, Nat.reducePow, Int.reducePow, id, hz]
        · by_cases hC : c % 8 = 6
          · have hst : drN s cs (k + 1) = rstP (bk, u) 4 (12 + c / 8 % 4 : Nat) := by rw [hstep, drS, if_neg hA, if_neg hB, if_pos hC]
            obtain ⟨bk', u', e, he, hy⟩ := rstR_ans (x := (bk, u)) (l := 4) (i := (12 + c / 8 % 4 : Nat))
            have hE := ct_rst.eq (bk, u, 4, ((12 + c / 8 % 4 : Nat) : Int)) ⟨hv.rm, hu0, hu2⟩
            have hE2 : ct_rst.fs [.t (.agg [.sl (bk.map bankT), .int .i64 u]), .t (.int .i64 4), .t (.int .i64 (12 + c / 8 % 4 : Nat))] [] = some (.tup [.t (.agg [.sl (bk'.map bankT), .int .i64 u']), .t (.int .i64 e)], []) := by rw [← he]; exact hE
            clear hE he
            have h : c % 8 = 6 := hC
            by_cases he0 : e = 0
            · subst he0
              have hz : drN s cs (k + 1) = (bk', u') := by
                rw [hst]; rcases hy with ⟨h, h'⟩ | ⟨h, h'⟩
                · exact h'
                · exact absurd rfl h
              simp (config := { maxSteps := 2000000 }) (disch := (first | omega | (simp only [lens, lenm]; omega))) only [go_sem, ↓reduceIte, Nat.reduceAdd, Nat.reduceEqDiff, Nat.reduceSub, Nat.reduceMul, Nat.reduceLT, Nat.reduceLeDiff, Nat.reduceBEq, Int.reduceEq, Int.reduceLT, Int.reduceLE, Int.reduceToNat, Int.reduceNeg, Int.reduceAdd, Int.reduceSub, Int.reduceMul, Int.reduceMod, Int.reduceDiv, reduceCtorEq, Nat.reducePow, Int.reducePow, ac_draw_Registers_L0, hx, hc, h, h5, hE2]
              repeat refine And.intro rfl ?_
              refine ⟨hlt, Weak.rd id ?_ ?_ rfl⟩
              all_goals simp (config := { maxSteps := 2000000 }) (disch := (first | omega | (simp only [lens, lenm]; omega))) only [go_sem, ↓reduceIte, Nat.reduceAdd, Nat.reduceEqDiff, Nat.reduceSub, Nat.reduceMul, Nat.reduceLT, Nat.reduceLeDiff, Nat.reduceBEq, Int.reduceEq, Int.reduceLT, Int.reduceLE, Int.reduceToNat, Int.reduceNeg, Int.reduceAdd, Int.reduceSub, Int.reduceMul, Int.reduceMod, Int.reduceDiv, reduceCtorEq, Nat.reducePow, Int.reducePow, id, hz]
            · have hz : drN s cs (k + 1) = (bk, u) := by
                rw [hst]; rcases hy with ⟨h, h'⟩ | ⟨h, h'⟩
                · exact absurd h he0
                · exact h'
              simp (config := { maxSteps := 2000000 }) (disch := (first | omega | (simp only [lens, lenm]; omega))) only [go_sem, ↓reduceIte, Nat.reduceAdd, Nat.reduceEqDiff, Nat.reduceSub, Nat.reduceMul, Nat.reduceLT, Nat.reduceLeDiff, Nat.reduceBEq, Int.reduceEq, Int.reduceLT, Int.reduceLE, Int.reduceToNat, Int.reduceNeg, Int.reduceAdd, Int.reduceSub, Int.reduceMul, Int.reduceMod, Int.reduceDiv, reduceCtorEq, Nat.reducePow, Int.reducePow, ac_draw_Registers_L0, hx, hc, h, he0, h5, hE2]
              repeat refine And.intro rfl ?_
              refine ⟨hlt, Weak.rd id ?_ ?_ rfl⟩
              all_goals simp (config := { maxSteps := 2000000 }) (disch := (first | omega | (simp only [lens, lenm]; omega))) only [go_sem, ↓reduceIte, Nat.reduceAdd, Nat.reduceEqDiff, Nat.reduceSub, Nat.reduceMul, Nat.reduceLT, Nat.reduceLeDiff, Nat.reduceBEq, Int.reduceEq, Int.reduceLT, Int.reduceLE, Int.reduceToNat, Int.reduceNeg, Int.reduceAdd, Int.reduceSub, Int.reduceMul, Int.reduceMod, Int.reduceDiv, reduceCtorEq, Nat.reducePow, Int.reducePow, id, hz]
          · have hz : drN s cs (k + 1) = (resBk bk, u) := by rw [hstep, drS, if_neg hA, if_neg hB, if_neg hC]
            have hE := ct_rsm.eq (bk, u) hv.rm
            have hE2 : ct_rsm.fs [.t (.agg [.sl (bk.map bankT), .int .i64 u])] [] = some (.t (.agg [.sl ((resBk bk).map bankT), .int .i64 u]), []) := hE
            have h : c % 8 = 7 := by omega
            simp (config := { maxSteps := 2000000 }) (disch := (first | omega | (simp only [lens, lenm]; omega))) only [go_sem, ↓reduceIte, Nat.reduceAdd, Nat.reduceEqDiff, Nat.reduceSub, Nat.reduceMul, Nat.reduceLT, Nat.reduceLeDiff, Nat.reduceBEq, Int.reduceEq, Int.reduceLT, Int.reduceLE, Int.reduceToNat, Int.reduceNeg, Int.reduceAdd, Int.reduceSub, Int.reduceMul, Int.reduceMod, Int.reduceDiv, reduceCtorEq, Nat.reducePow, Int.reducePow, ac_draw_Registers_L0, hx, hc, h, h6, hE2]
            repeat refine And.intro rfl ?_
            refine ⟨hlt, Weak.rd id ?_ ?_ rfl⟩
            all_goals simp (config := { maxSteps := 2000000 }) (disch := (first | omega | (simp only [lens, lenm]; omega))) only [go_sem, ↓reduceIte, Nat.reduceAdd, Nat.reduceEqDiff, Nat.reduceSub, Nat.reduceMul, Nat.reduceLT, Nat.reduceLeDiff, Nat.reduceBEq, Int.reduceEq, Int.reduceLT, Int.reduceLE, Int.reduceToNat, Int.reduceNeg, Int.reduceAdd, Int.reduceSub, Int.reduceMul, Int.reduceMod, Int.reduceDiv, reduceCtorEq, Nat.reducePow, Int.reducePow, id, hz]
    · have e : k = min cs.length 12 := by omega
      have hd : dr s cs = drN s cs k := by rw [dr, ← e]
      by_cases h12 : k = 12
      · have h13 : ¬ k < 12 := by omega
        by_cases h14 : k < cs.length
        · simp (config := { maxSteps := 2000000 }) (disch := (first | omega | (simp only [lens, lenm]; omega))) only [go_sem, ↓reduceIte, Nat.reduceAdd, Nat.reduceEqDiff, Nat.reduceSub, Nat.reduceMul, Nat.reduceLT, Nat.reduceLeDiff, Nat.reduceBEq, Int.reduceEq, Int.reduceLT, Int.reduceLE, Int.reduceToNat, Int.reduceNeg, Int.reduceAdd, Int.reduceSub, Int.reduceMul, Int.reduceMod, Int.reduceDiv, reduceCtorEq, Nat.reducePow, Int.reducePow, ac_draw_Registers_L0, h12, hd]
        · simp (config := { maxSteps := 2000000 }) (disch := (first | omega | (simp only [lens, lenm]; omega))) only [go_sem, ↓reduceIte, Nat.reduceAdd, Nat.reduceEqDiff, Nat.reduceSub, Nat.reduceMul, Nat.reduceLT, Nat.reduceLeDiff, Nat.reduceBEq, Int.reduceEq, Int.reduceLT, Int.reduceLE, Int.reduceToNat, Int.reduceNeg, Int.reduceAdd, Int.reduceSub, Int.reduceMul, Int.reduceMod, Int.reduceDiv, reduceCtorEq, Nat.reducePow, Int.reducePow, ac_draw_Registers_L0, h12, hd]
      · have e2 : ¬ k < cs.length := by omega
        simp (config := { maxSteps := 2000000 }) (disch := (first | omega | (simp only [lens, lenm]; omega))) only [go_sem, ↓reduceIte, Nat.reduceAdd, Nat.reduceEqDiff, Nat.reduceSub, Nat.reduceMul, Nat.reduceLT, Nat.reduceLeDiff, Nat.reduceBEq, Int.reduceEq, Int.reduceLT, Int.reduceLE, Int.reduceToNat, Int.reduceNeg, Int.reduceAdd, Int.reduceSub, Int.reduceMul, Int.reduceMod, Int.reduceDiv, reduceCtorEq, Nat.reducePow, Int.reducePow, ac_draw_Registers_L0, hd]
  rcases new_casesX s with ⟨e, hn⟩ | ⟨b0, b1, e, g0, g1, hn⟩
  · simp (config := { maxSteps := 2000000 }) (disch := (first | omega | (simp only [lens, lenm]; omega))) only [go_sem, ↓reduceIte, Nat.reduceAdd, Nat.reduceEqDiff, Nat.reduceSub, Nat.reduceMul, Nat.reduceLT, Nat.reduceLeDiff, Nat.reduceBEq, Int.reduceEq, Int.reduceLT, Int.reduceLE, Int.reduceToNat, Int.reduceNeg, Int.reduceAdd, Int.reduceSub, Int.reduceMul, Int.reduceMod, Int.reduceDiv, reduceCtorEq, Nat.reducePow, Int.reducePow, ac_draw_Registers, h1, hn]
    refine body _ _ ?_
    rw [e]
    refine Weak.rd id ?_ ?_ rfl
    all_goals simp (config := { maxSteps := 2000000 }) (disch := (first | omega | (simp only [lens, lenm]; omega))) only [go_sem, ↓reduceIte, Nat.reduceAdd, Nat.reduceEqDiff, Nat.reduceSub, Nat.reduceMul, Nat.reduceLT, Nat.reduceLeDiff, Nat.reduceBEq, Int.reduceEq, Int.reduceLT, Int.reduceLE, Int.reduceToNat, Int.reduceNeg, Int.reduceAdd, Int.reduceSub, Int.reduceMul, Int.reduceMod, Int.reduceDiv, reduceCtorEq, Nat.reducePow, Int.reducePow, id, List.map_nil, List.map_cons]
  · simp (config := { maxSteps := 2000000 }) (disch := (first | omega | (simp only [lens, lenm]; omega))) only [go_sem, ↓reduceIte, Nat.reduceAdd, Nat.reduceEqDiff, Nat.reduceSub, Nat.reduceMul, Nat.reduceLT, Nat.reduceLeDiff, Nat.reduceBEq, Int.reduceEq, Int.reduceLT, Int.reduceLE, Int.reduceToNat, Int.reduceNeg, Int.reduceAdd, Int.reduceSub, Int.reduceMul, Int.reduceMod, Int.reduceDiv, reduceCtorEq, Nat.reducePow, Int.reducePow, ac_draw_Registers, h1, hn]
    refine body _ _ ?_
    rw [e]
    refine Weak.cv (hv := []) [8209, 8210, 8208] id ?_ rfl
    simp (config := { maxSteps := 2000000 }) (disch := (first | omega | (simp only [lens, lenm]; omega))) only [go_sem, ↓reduceIte, Nat.reduceAdd, Nat.reduceEqDiff, Nat.reduceSub, Nat.reduceMul, Nat.reduceLT, Nat.reduceLeDiff, Nat.reduceBEq, Int.reduceEq, Int.reduceLT, Int.reduceLE, Int.reduceToNat, Int.reduceNeg, Int.reduceAdd, Int.reduceSub, Int.reduceMul, Int.reduceMod, Int.reduceDiv, reduceCtorEq, Nat.reducePow, Int.reducePow, id, List.map_nil, List.map_cons]
    rfl
end Go.Eng
end
section
set_option maxRecDepth 20000
namespace Go.Eng
open Go.MuLone
theorem tieW {P : Program} {G : Gl} {tab : Tab} {f : FuncId} {fn : Func} {c : Code} {ac : AC} {hints : List (Nat × List Nat)} {rs : List (Nat × Option (Nat × Bool))} (hf : P.funcs[f]? = some fn) (hname : (fn.name == "runtime.NumGoroutine") = false) (hb : fn.body = some c) (hann : ann P fn.ntmps hints c = some ac) (hmx : P.follows .mixedOrders = true)
    (ht : TabOk P G tab) (hrs : resOf P fn.results.toList = some rs) (ct : Ct) (hn : ∀ x, (ct.as x).length ≤ fn.ntmps) (hi : ∀ x, (ct.ins x).length ≤ 100)
    (h : ∀ x, ct.pre x → ac.wp tab G (zipF 0 (ct.as x)) (zipF 0 (ct.ins x)) (resW rs (ct.ins x).length (fun r' o' => r' = ct.r x ∧ o' = ct.outs x))) : FOk P G f ct.fs :=
  ct.ok (fun args w => run_callFunc_enter hf hname hb args w) (fun x hx => spec_of hf hb hann hmx ht hrs (hn x) (hi x) (h x hx))
theorem tieF {P : Program} {G : Gl} {tab : Tab} {f : FuncId} {fn : Func} {c : Code} {ac : AC} {hints : List (Nat × List Nat)} {rs : List (Nat × Option (Nat × Bool))} (fz : List Nat) (hf : P.funcs[f]? = some fn) (hname : (fn.name == "runtime.NumGoroutine") = false) (hb : fn.body = some c) (hann : ann P fn.ntmps hints c = some ac) (hmx : P.follows .mixedOrders = true)
    (ht : TabOk P G tab) (hrs : resOf P fn.results.toList = some rs) (ct : Ct) (hn : ∀ x, (ct.as x).length ≤ fn.ntmps) (hi : ∀ x, (ct.ins x).length ≤ 100)
    (h : ∀ x, ct.pre x → ac.wp tab G (zipF 0 (ct.as x)) (zipF 0 (ct.ins x)) (resF fz rs (ct.ins x).length (fun r' o' => r' = ct.r x ∧ o' = ct.outs x))) : FOk P G f ct.fs :=
  ct.ok (fun args w => run_callFunc_enter hf hname hb args w) (fun x hx => spec_live fz hf hb hann hmx ht hrs (hn x) (hi x) (h x hx))
theorem tieL {P : Program} {G : Gl} {tab : Tab} {f : FuncId} {fn : Func} {c : Code} {ac : AC} {hints : List (Nat × List Nat)} {rs : List (Nat × Option (Nat × Bool))} (hf : P.funcs[f]? = some fn) (hb : fn.body = some c) (hann : ann P fn.ntmps hints c = some ac) (hmx : P.follows .mixedOrders = true)
    (ht : TabOk P G tab) (hrs : resOf P fn.results.toList = some rs) {as : List V} (hn : as.length ≤ fn.ntmps)
    (h : ac.wp tab G (zipF 0 as) (zipF 0 []) (resW rs 0 (fun r o => r = .t (.bool true) ∧ o = []))) : Spec P G f as [] (.t (.bool true)) [] :=
  spec_of hf hb hann hmx ht hrs hn (Nat.zero_le _) h
end Go.Eng
end
section
set_option maxRecDepth 20000
namespace Go.Eng
theorem ok_mnz {P : Program} {G : Nat → Option (List T)} {f : FuncId} {fn : Func} {ps : Array TypeId} {t e : TypeId} (hf : P.funcs[f]? = some fn) (hname : (fn.name == "runtime.NumGoroutine") = false) (hb : fn.body.isNone = true) (hn : Extern.findNext fn = none)
    (he : Extern.find fn = some (Extern.BytealgMakeNoZero.makeNoZero ps #[t])) (ht : P.underlying t = some (.slice e)) : FOk P G f ct_mnz.fs := by
  intro as ins r outs hs
  have key : ∃ n : Nat, (n = 20 ∨ n = 32) ∧ as = [.t (.int .i64 n)] ∧ ins = [] ∧ r = .sl 0 0 n ∧ outs = [.live 1 [] true false] := by
    unfold Ct.fs at hs
    split at hs
    · rename_i hx
      cases hs
      have h1 := hx.choose_spec
      generalize hx.choose = y at h1 ⊢
      obtain ⟨⟨rfl, rfl⟩, h3⟩ := h1
      have h4 : (show Int from y) = 20 ∨ (show Int from y) = 32 := h3
      rcases h4 with h4 | h4
      · refine ⟨20, .inl rfl, ?_⟩
        have h5 : y = (20 : Int) := h4
        subst h5
        exact ⟨rfl, rfl, rfl, rfl⟩
      · refine ⟨32, .inr rfl, ?_⟩
        have h5 : y = (32 : Int) := h4
        subst h5
        exact ⟨rfl, rfl, rfl, rfl⟩
    · cases hs
  obtain ⟨n, hn2, rfl, rfl, rfl, rfl⟩ := key
  intro w β F vals env fits hargs
  have hvals : vals = #[.int .i64 n] := by
    obtain ⟨l⟩ := vals
    cases hargs with
    | cons h1 h2 =>
      cases h2
      cases h1 with
      | t h => cases h; rfl
  subst hvals
  obtain ⟨cs, hrun, hle, hmx⟩ := Lib.run_makeNoZero (P := P) w ps t e ht n (by omega)
  refine .inr ⟨.slice (some ⟨w.heap.size, 0, none⟩) n cs.size, w.drew.drew.alloc (.cells cs e), ?_, .slice (some ⟨w.heap.size, 0, none⟩) n cs.size, fun k => if k = 0 then some ⟨some w.heap.size, 1, cs.size⟩ else none, F, rfl, ?_⟩
  · rw [run_callFunc_extern hf hname hb hn he, hrun]; rfl
  · have hsz : (w.drew.drew.alloc (.cells cs e)).heap.size = w.heap.size + 1 := by
      show (w.heap.push _).size = _
      exact Array.size_push _
    have hnew : (w.drew.drew.alloc (.cells cs e)).heap[w.heap.size]? = some (.cells cs e) := by
      show (w.heap.push _)[w.heap.size]? = _
      simp
    have hold : ∀ b, b < w.heap.size → (w.drew.drew.alloc (.cells cs e)).heap[b]? = w.heap[b]? := by
      intro b hb
      show (w.heap.push _)[b]? = _
      rw [Array.getElem?_push, if_neg (by omega)]
    have hFb : ¬ F w.heap.size := fun h => absurd (env.Fw _ h) (by omega)
    have mx : n ≤ maxLen := by have : (32 : Nat) ≤ maxLen := by decide
                               omega
    refine ⟨⟨fun k o hk => ?_, fun k hk => ?_, fun i j bi bj b h1 h2 h3 h4 => ?_, fun k bi b h1 h2 => ?_⟩, ?_, fun k hk => ?_, fun k bi b _ h1 h2 => ?_, fun b _ => Iff.rfl, fun b hb => ?_, rfl, rfl, rfl, ?_, fun b hb _ => hold b hb⟩
    · cases k with
      | succ k => simp at hk
      | zero =>
        simp only [List.getElem?_cons_zero, Option.some.injEq] at hk
        subst hk
        refine ⟨_, if_pos rfl, ⟨rfl, by simp, cs, e, (0, 0), hnew, by omega, by simp, by simp, hmx mx, fun i x h => by simp at h, ?_⟩, 1, [], false, rfl⟩
        simpa using hFb
    · have : k ≠ 0 := by simp at hk; omega
      exact if_neg this
    · split at h1 <;> split at h2 <;> simp_all
    · split at h1
      · cases h1
        cases h2
        exact ⟨by rw [hsz]; omega, hFb⟩
      · cases h1
    · exact .sl 0 0 n cs.size w.heap.size 1 cs.size _ (if_pos rfl) hle (by omega) (fun _ => by simp) rfl
    · simp at hk
    · split at h1
      · cases h1
        cases h2
        exact Nat.le_refl _
      · cases h1
    · have := env.Fw b hb
      rw [hsz]; omega
    · rw [hsz]; omega
end Go.Eng
end
