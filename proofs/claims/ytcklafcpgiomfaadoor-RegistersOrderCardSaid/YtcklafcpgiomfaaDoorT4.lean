/- My own text: an abstract machine, its walks over the functions reached, and their tie to the program. -/
import Derived.Test.YtcklafcpgiomfaaDoorT3
import Derived.Test.YtcklafcpgiomfaaDoorT2
set_option linter.unusedSimpArgs false
set_option linter.unusedVariables false
section
set_option maxRecDepth 20000
set_option maxHeartbeats 8000000
namespace Go.Eng
theorem w_bits_Mul64 (tab : Tab) (gl : Gl) (n : Int) (hn : n = 20 ∨ n = 32) : ac_bits_Mul64.wp tab gl (zipF 0 [.t (.int .u64 1), .t (.int .u64 n)]) (zipF 0 []) (resW [(4, none), (5, none)] 0 (fun r o => r = .tup [.t (.int .u64 0), .t (.int .u64 n)] ∧ o = [])) := by
  rcases hn with rfl | rfl
  · simp (config := { maxSteps := 2000000 }) (disch := (first | omega | (simp only [lens, lenm]; omega))) only [go_sem, ↓reduceIte, Nat.reduceAdd, Nat.reduceEqDiff, Nat.reduceSub, Nat.reduceMul, Nat.reduceLT, Nat.reduceLeDiff, Nat.reduceBEq, Int.reduceEq, Int.reduceLT, Int.reduceLE, Int.reduceToNat, Int.reduceNeg, Int.reduceAdd, Int.reduceSub, Int.reduceMul, Int.reduceMod, Int.reduceDiv, reduceCtorEq, Nat.reducePow, Int.reducePow, ac_bits_Mul64, BitVec.reduceOfInt, BitVec.reduceAnd, BitVec.reduceToNat, Int.reduceFDiv]
  · simp (config := { maxSteps := 2000000 }) (disch := (first | omega | (simp only [lens, lenm]; omega))) only [go_sem, ↓reduceIte, Nat.reduceAdd, Nat.reduceEqDiff, Nat.reduceSub, Nat.reduceMul, Nat.reduceLT, Nat.reduceLeDiff, Nat.reduceBEq, Int.reduceEq, Int.reduceLT, Int.reduceLE, Int.reduceToNat, Int.reduceNeg, Int.reduceAdd, Int.reduceSub, Int.reduceMul, Int.reduceMod, Int.reduceDiv, reduceCtorEq, Nat.reducePow, Int.reducePow, ac_bits_Mul64, BitVec.reduceOfInt, BitVec.reduceAnd, BitVec.reduceToNat, Int.reduceFDiv]
def ct_mul64 : Ct where
  α := Int
  as x := [.t (.int .u64 1), .t (.int .u64 x)]
  ins _ := []
  pre x := x = 20 ∨ x = 32
  r x := .tup [.t (.int .u64 0), .t (.int .u64 x)]
  outs _ := []
  inj := by
    intro a b h _
    simp at h
    subst h; exact ⟨rfl, rfl⟩
theorem mul64_eq {n : Int} (h : n = 20 ∨ n = 32) : ct_mul64.fs [.t (.int .u64 1), .t (.int .u64 n)] [] = some (.tup [.t (.int .u64 0), .t (.int .u64 n)], []) := ct_mul64.eq n h
theorem w_bits_Mul (tab : Tab) (gl : Gl) (n1 n2 : Nat) (h2 : tab.look n2 = some ct_mul64.fs) (n : Int) (hn : n = 20 ∨ n = 32) : (ac_bits_Mul n1 n2).wp tab gl (zipF 0 [.t (.int .u64 1), .t (.int .u64 n)]) (zipF 0 []) (resW [(4, none), (5, none)] 0 (fun r o => r = .tup [.t (.int .u64 0), .t (.int .u64 n)] ∧ o = [])) := by
  simp (config := { maxSteps := 2000000 }) (disch := (first | omega | (simp only [lens, lenm]; omega))) only [go_sem, ↓reduceIte, Nat.reduceAdd, Nat.reduceEqDiff, Nat.reduceSub, Nat.reduceMul, Nat.reduceLT, Nat.reduceLeDiff, Nat.reduceBEq, Int.reduceEq, Int.reduceLT, Int.reduceLE, Int.reduceToNat, Int.reduceNeg, Int.reduceAdd, Int.reduceSub, Int.reduceMul, Int.reduceMod, Int.reduceDiv, reduceCtorEq, Nat.reducePow, Int.reducePow, ac_bits_Mul, h2, mul64_eq]
def ct_mnz : Ct where
  α := Int
  as x := [.t (.int .i64 x)]
  ins _ := []
  pre x := x = 20 ∨ x = 32
  r x := .sl 0 0 x.toNat
  outs _ := [.live 1 [] true false]
  inj := by
    intro a b h _
    simp at h
    subst h; exact ⟨rfl, rfl⟩
theorem mnz_eq {n : Int} (h : n = 20 ∨ n = 32) : ct_mnz.fs [.t (.int .i64 n)] [] = some (.sl 0 0 n.toNat, [.live 1 [] true false]) := ct_mnz.eq n h
theorem setRange_end {α : Type} {l xs : List α} : setRange l l.length xs = l ++ xs := by simp [setRange]
theorem w_bytes_Repeat (tab : Tab) (gl : Gl) (n1 n2 : Nat) (h1 : tab.look n1 = some ct_mul64.fs) (h2 : tab.look n2 = some ct_mnz.fs) (x : UInt8) (n : Nat) (hn : n = 20 ∨ n = 32) :
    (ac_bytes_Repeat n1 n2).wp tab gl (zipF 0 [.t (.sl ([x].map byteT)), .t (.int .i64 n)]) (zipF 0 []) (resF [] [(4, none)] 0 (fun r o => r = .sl 0 0 n ∧ o = [.live 1 (((List.replicate n x).map byteT).map V.t) true false])) := by
  have hn2 : (n : Int) = 20 ∨ (n : Int) = 32 := by omega
  have ht1 : ∀ v : V, List.take n [v] = [v] := fun v => List.take_of_length_le (by simp only [List.length_cons, List.length_nil]; omega)
  simp (config := { maxSteps := 2000000 }) (disch := (first | omega | (simp only [lens, lenm]; omega))) only [go_sem, ↓reduceIte, Nat.reduceAdd, Nat.reduceEqDiff, Nat.reduceSub, Nat.reduceMul, Nat.reduceLT, Nat.reduceLeDiff, Nat.reduceBEq, Int.reduceEq, Int.reduceLT, Int.reduceLE, Int.reduceToNat, Int.reduceNeg, Int.reduceAdd, Int.reduceSub, Int.reduceMul, Int.reduceMod, Int.reduceDiv, reduceCtorEq, Nat.reducePow, Int.reducePow, ac_bytes_Repeat, h1, h2, mul64_eq, mnz_eq, ht1]
  refine loop_rule (ι := { p : Nat // 1 ≤ p ∧ p ≤ n }) (fun p => ([(7, .t (.int .i64 n)), (8, .t (.int .i64 n)), (9, .sl 69648 0 n), (10, .t (.int .i64 p.1))], [(69648, .live 1 (((List.replicate p.1 x).map byteT).map V.t) true false)])) (fun p => n - p.1) ⟨1, by omega⟩ ?_ (fun p => ?_)
  · refine Weak.rd id ?_ ?_ rfl
    all_goals simp (config := { maxSteps := 2000000 }) (disch := (first | omega | (simp only [lens, lenm]; omega))) only [go_sem, ↓reduceIte, Nat.reduceAdd, Nat.reduceEqDiff, Nat.reduceSub, Nat.reduceMul, Nat.reduceLT, Nat.reduceLeDiff, Nat.reduceBEq, Int.reduceEq, Int.reduceLT, Int.reduceLE, Int.reduceToNat, Int.reduceNeg, Int.reduceAdd, Int.reduceSub, Int.reduceMul, Int.reduceMod, Int.reduceDiv, reduceCtorEq, Nat.reducePow, Int.reducePow, id, List.map_cons, List.map_nil]
  · obtain ⟨p, hp1, hp2⟩ := p
    by_cases hlt : p < n
    · have hse : ∀ xs, setRange (List.map V.t (List.map byteT (List.replicate p x))) p xs = List.map V.t (List.map byteT (List.replicate p x)) ++ xs := by
        intro xs
        have := setRange_end (l := List.map V.t (List.map byteT (List.replicate p x))) (xs := xs)
        simpa using this
      have hm : (if (n : Int) < (p : Int) then (n : Int) else (p : Int)) = p := if_neg (by omega)
      by_cases hd : p ≤ n - p
      · simp (config := { maxSteps := 2000000 }) (disch := (first | omega | (simp only [lens, lenm]; omega))) only [go_sem, ↓reduceIte, Nat.reduceAdd, Nat.reduceEqDiff, Nat.reduceSub, Nat.reduceMul, Nat.reduceLT, Nat.reduceLeDiff, Nat.reduceBEq, Int.reduceEq, Int.reduceLT, Int.reduceLE, Int.reduceToNat, Int.reduceNeg, Int.reduceAdd, Int.reduceSub, Int.reduceMul, Int.reduceMod, Int.reduceDiv, reduceCtorEq, Nat.reducePow, Int.reducePow, ac_bytes_Repeat_L0, hse, List.take_replicate, hm]
        refine ⟨rfl, ⟨p + p, by omega⟩, by simp only; omega, Weak.rd id ?_ ?_ rfl⟩
        all_goals simp (config := { maxSteps := 2000000 }) (disch := (first | omega | (simp only [lens, lenm]; omega))) only [go_sem, ↓reduceIte, Nat.reduceAdd, Nat.reduceEqDiff, Nat.reduceSub, Nat.reduceMul, Nat.reduceLT, Nat.reduceLeDiff, Nat.reduceBEq, Int.reduceEq, Int.reduceLT, Int.reduceLE, Int.reduceToNat, Int.reduceNeg, Int.reduceAdd, Int.reduceSub, Int.reduceMul, Int.reduceMod, Int.reduceDiv, reduceCtorEq, Nat.reducePow, Int.reducePow, id, List.replicate_append_replicate]
      · simp (config := { maxSteps := 2000000 }) (disch := (first | omega | (simp only [lens, lenm]; omega))) only [go_sem, ↓reduceIte, Nat.reduceAdd, Nat.reduceEqDiff, Nat.reduceSub, Nat.reduceMul, Nat.reduceLT, Nat.reduceLeDiff, Nat.reduceBEq, Int.reduceEq, Int.reduceLT, Int.reduceLE, Int.reduceToNat, Int.reduceNeg, Int.reduceAdd, Int.reduceSub, Int.reduceMul, Int.reduceMod, Int.reduceDiv, reduceCtorEq, Nat.reducePow, Int.reducePow, ac_bytes_Repeat_L0, hse, List.take_replicate, hm]
        refine ⟨rfl, ⟨p + (n - p), by omega⟩, by simp only; omega, Weak.rd id ?_ ?_ rfl⟩
        all_goals simp (config := { maxSteps := 2000000 }) (disch := (first | omega | (simp only [lens, lenm]; omega))) only [go_sem, ↓reduceIte, Nat.reduceAdd, Nat.reduceEqDiff, Nat.reduceSub, Nat.reduceMul, Nat.reduceLT, Nat.reduceLeDiff, Nat.reduceBEq, Int.reduceEq, Int.reduceLT, Int.reduceLE, Int.reduceToNat, Int.reduceNeg, Int.reduceAdd, Int.reduceSub, Int.reduceMul, Int.reduceMod, Int.reduceDiv, reduceCtorEq, Nat.reducePow, Int.reducePow, id, List.replicate_append_replicate]
    · have e : p = n := by omega
      subst e
      simp (config := { maxSteps := 2000000 }) (disch := (first | omega | (simp only [lens, lenm]; omega))) only [go_sem, ↓reduceIte, Nat.reduceAdd, Nat.reduceEqDiff, Nat.reduceSub, Nat.reduceMul, Nat.reduceLT, Nat.reduceLeDiff, Nat.reduceBEq, Int.reduceEq, Int.reduceLT, Int.reduceLE, Int.reduceToNat, Int.reduceNeg, Int.reduceAdd, Int.reduceSub, Int.reduceMul, Int.reduceMod, Int.reduceDiv, reduceCtorEq, Nat.reducePow, Int.reducePow, ac_bytes_Repeat_L0]
def ct_repeat : Ct where
  α := UInt8 × Nat
  as x := [.t (.sl ([x.1].map byteT)), .t (.int .i64 x.2)]
  ins _ := []
  pre x := x.2 = 20 ∨ x.2 = 32
  r x := .sl 0 0 x.2
  outs x := [.live 1 (((List.replicate x.2 x.1).map byteT).map V.t) true false]
  inj := by
    rintro ⟨a, b⟩ ⟨c, d⟩ h _
    simp [byteT_eq, Int.natCast_inj] at h
    obtain ⟨rfl, rfl⟩ := h
    exact ⟨rfl, rfl⟩
theorem repeat_eq {x : UInt8} {n : Nat} (h : n = 20 ∨ n = 32) : ct_repeat.fs [.t (.sl [byteT x]), .t (.int .i64 n)] [] = some (.sl 0 0 n, [.live 1 (((List.replicate n x).map byteT).map V.t) true false]) := ct_repeat.eq (x, n) h
theorem w_registers_fill (tab : Tab) (gl : Gl) (n1 : Nat) (h1 : tab.look n1 = some ct_repeat.fs) (x : UInt8) (n : Nat) (hn : n = 20 ∨ n = 32) : (ac_registers_fill n1).wp tab gl (zipF 0 [.t (.int .i64 n), .t (byteT x)]) (zipF 0 []) (resF [] [(4, none)] 0 (fun r o => r = .sl 0 0 n ∧ o = [.live 1 (((List.replicate n x).map byteT).map V.t) true false])) := by
  simp (config := { maxSteps := 2000000 }) (disch := (first | omega | (simp only [lens, lenm]; omega))) only [go_sem, ↓reduceIte, Nat.reduceAdd, Nat.reduceEqDiff, Nat.reduceSub, Nat.reduceMul, Nat.reduceLT, Nat.reduceLeDiff, Nat.reduceBEq, Int.reduceEq, Int.reduceLT, Int.reduceLE, Int.reduceToNat, Int.reduceNeg, Int.reduceAdd, Int.reduceSub, Int.reduceMul, Int.reduceMod, Int.reduceDiv, reduceCtorEq, Nat.reducePow, Int.reducePow, ac_registers_fill, h1, repeat_eq]
theorem set_fill {α : Type} {x d : α} {n k : Nat} (h : k < n) : (List.replicate k x ++ List.replicate (n - k) d).set k x = List.replicate (k + 1) x ++ List.replicate (n - (k + 1)) d := by
  rw [show n - k = (n - (k + 1)) + 1 by omega, List.replicate_succ, List.set_append_right _ _ (by simp)]
  simp [List.replicate_succ']
theorem w_ref8_fill (tab : Tab) (gl : Gl) (x : UInt8) (n : Nat) (hn : n < 1000000000) : ac_ref8_fill.wp tab gl (zipF 0 [.t (.int .i64 n), .t (byteT x)]) (zipF 0 []) (resF [] [(4, none)] 0 (fun r o => r = .sl 0 0 n ∧ o = [.live 1 (((List.replicate n x).map byteT).map V.t) true false])) := by
  simp (config := { maxSteps := 2000000 }) (disch := (first | omega | (simp only [lens, lenm]; omega))) only [go_sem, ↓reduceIte, Nat.reduceAdd, Nat.reduceEqDiff, Nat.reduceSub, Nat.reduceMul, Nat.reduceLT, Nat.reduceLeDiff, Nat.reduceBEq, Int.reduceEq, Int.reduceLT, Int.reduceLE, Int.reduceToNat, Int.reduceNeg, Int.reduceAdd, Int.reduceSub, Int.reduceMul, Int.reduceMod, Int.reduceDiv, reduceCtorEq, Nat.reducePow, Int.reducePow, ac_ref8_fill]
  refine loop_upto n (fun k => [(0, .t (.int .i64 n)), (1, .t (byteT x)), (5, .sl 8208 0 n), (6, .t (.int .i64 k))]) (fun k => [(8208, .live 1 (((List.replicate k x ++ List.replicate (n - k) 0).map byteT).map V.t) true false)]) ?_ (fun k hk => ?_)
  · refine Weak.rd id ?_ ?_ rfl
    all_goals simp (config := { maxSteps := 2000000 }) (disch := (first | omega | (simp only [lens, lenm]; omega))) only [go_sem, ↓reduceIte, Nat.reduceAdd, Nat.reduceEqDiff, Nat.reduceSub, Nat.reduceMul, Nat.reduceLT, Nat.reduceLeDiff, Nat.reduceBEq, Int.reduceEq, Int.reduceLT, Int.reduceLE, Int.reduceToNat, Int.reduceNeg, Int.reduceAdd, Int.reduceSub, Int.reduceMul, Int.reduceMod, Int.reduceDiv, reduceCtorEq, Nat.reducePow, Int.reducePow, id]
  · by_cases hlt : k < n
    · simp (config := { maxSteps := 2000000 }) (disch := (first | omega | (simp only [lens, lenm]; omega))) only [go_sem, ↓reduceIte, Nat.reduceAdd, Nat.reduceEqDiff, Nat.reduceSub, Nat.reduceMul, Nat.reduceLT, Nat.reduceLeDiff, Nat.reduceBEq, Int.reduceEq, Int.reduceLT, Int.reduceLE, Int.reduceToNat, Int.reduceNeg, Int.reduceAdd, Int.reduceSub, Int.reduceMul, Int.reduceMod, Int.reduceDiv, reduceCtorEq, Nat.reducePow, Int.reducePow, ac_ref8_fill_L0]
      refine ⟨hlt, Weak.rd id ?_ ?_ rfl⟩
      all_goals simp (config := { maxSteps := 2000000 }) (disch := (first | omega | (simp only [lens, lenm]; omega))) only [go_sem, ↓reduceIte, Nat.reduceAdd, Nat.reduceEqDiff, Nat.reduceSub, Nat.reduceMul, Nat.reduceLT, Nat.reduceLeDiff, Nat.reduceBEq, Int.reduceEq, Int.reduceLT, Int.reduceLE, Int.reduceToNat, Int.reduceNeg, Int.reduceAdd, Int.reduceSub, Int.reduceMul, Int.reduceMod, Int.reduceDiv, reduceCtorEq, Nat.reducePow, Int.reducePow, id, set_fill hlt]
    · have e : k = n := by omega
      subst e
      simp (config := { maxSteps := 2000000 }) (disch := (first | omega | (simp only [lens, lenm]; omega))) only [go_sem, ↓reduceIte, Nat.reduceAdd, Nat.reduceEqDiff, Nat.reduceSub, Nat.reduceMul, Nat.reduceLT, Nat.reduceLeDiff, Nat.reduceBEq, Int.reduceEq, Int.reduceLT, Int.reduceLE, Int.reduceToNat, Int.reduceNeg, Int.reduceAdd, Int.reduceSub, Int.reduceMul, Int.reduceMod, Int.reduceDiv, reduceCtorEq, Nat.reducePow, Int.reducePow, ac_ref8_fill_L0, Nat.sub_self, List.append_nil]
end Go.Eng
end
section
set_option maxRecDepth 20000
set_option maxHeartbeats 8000000
namespace Go.Eng
abbrev Bank := List (List UInt8)
def bankT (b : Bank) : T := .sl (b.map bsT)
def regT (bk : List Bank) (u : Int) : T := .agg [.sl (bk.map bankT), .int .i64 u]
theorem bankT_def {b : Bank} : bankT b = .sl (b.map bsT) := Eq.trans (Eq.refl _) rfl
theorem regT_def {bk : List Bank} {u : Int} : regT bk u = .agg [.sl (bk.map bankT), .int .i64 u] := Eq.trans (Eq.refl _) rfl
attribute [go_sem] bankT_def regT_def
def bkOk (b : Bank) : Prop := b.length = 0 ∨ b.length = 16
def actM (b0 b1 : Bank) : Int := (if b0.length = 16 then 1 else 0) + (if b1.length = 16 then 2 else 0)
theorem w_registers_active0 (tab : Tab) (gl : Gl) (u : Int) : ac_registers_active.wp tab gl (zipF 0 [.t (regT [] u)]) (zipF 0 []) (resW [(2, none)] 0 (fun r o => r = .t (.int .i64 0) ∧ o = [])) := by
  simp (config := { maxSteps := 2000000 }) (disch := (first | omega | (simp only [lens, lenm]; omega))) only [go_sem, ↓reduceIte, Nat.reduceAdd, Nat.reduceEqDiff, Nat.reduceSub, Nat.reduceMul, Nat.reduceLT, Nat.reduceLeDiff, Nat.reduceBEq, Int.reduceEq, Int.reduceLT, Int.reduceLE, Int.reduceToNat, Int.reduceNeg, Int.reduceAdd, Int.reduceSub, Int.reduceMul, Int.reduceMod, Int.reduceDiv, reduceCtorEq, Nat.reducePow, Int.reducePow, ac_registers_active, List.map_nil, List.map_cons]
  refine loop_fuel 1 ?_
  simp (config := { maxSteps := 2000000 }) (disch := (first | omega | (simp only [lens, lenm]; omega))) only [go_sem, ↓reduceIte, Nat.reduceAdd, Nat.reduceEqDiff, Nat.reduceSub, Nat.reduceMul, Nat.reduceLT, Nat.reduceLeDiff, Nat.reduceBEq, Int.reduceEq, Int.reduceLT, Int.reduceLE, Int.reduceToNat, Int.reduceNeg, Int.reduceAdd, Int.reduceSub, Int.reduceMul, Int.reduceMod, Int.reduceDiv, reduceCtorEq, Nat.reducePow, Int.reducePow, loopN_succ, ac_registers_active_L0]
theorem w_registers_active2 (tab : Tab) (gl : Gl) (b0 b1 : Bank) (h0 : b0.length < 1000000000) (h1 : b1.length < 1000000000) (u : Int) : ac_registers_active.wp tab gl (zipF 0 [.t (regT [b0, b1] u)]) (zipF 0 []) (resW [(2, none)] 0 (fun r o => r = .t (.int .i64 (actM b0 b1)) ∧ o = [])) := by
  simp (config := { maxSteps := 2000000 }) (disch := (first | omega | (simp only [lens, lenm]; omega))) only [go_sem, ↓reduceIte, Nat.reduceAdd, Nat.reduceEqDiff, Nat.reduceSub, Nat.reduceMul, Nat.reduceLT, Nat.reduceLeDiff, Nat.reduceBEq, Int.reduceEq, Int.reduceLT, Int.reduceLE, Int.reduceToNat, Int.reduceNeg, Int.reduceAdd, Int.reduceSub, Int.reduceMul, Int.reduceMod, Int.reduceDiv, reduceCtorEq, Nat.reducePow, Int.reducePow, ac_registers_active, List.map_nil, List.map_cons]
  refine loop_fuel 3 ?_
  by_cases e0 : b0.length = 16
  · by_cases e1 : b1.length = 16
    · simp (config := { maxSteps := 2000000 }) (disch := (first | omega | (simp only [lens, lenm]; omega))) only [go_sem, ↓reduceIte, Nat.reduceAdd, Nat.reduceEqDiff, Nat.reduceSub, Nat.reduceMul, Nat.reduceLT, Nat.reduceLeDiff, Nat.reduceBEq, Int.reduceEq, Int.reduceLT, Int.reduceLE, Int.reduceToNat, Int.reduceNeg, Int.reduceAdd, Int.reduceSub, Int.reduceMul, Int.reduceMod, Int.reduceDiv, reduceCtorEq, Nat.reducePow, Int.reducePow, loopN_succ, ac_registers_active_L0, actM, e0, e1, BitVec.reduceOfInt, BitVec.reduceOr, BitVec.reduceToNat]
    · simp (config := { maxSteps := 2000000 }) (disch := (first | omega | (simp only [lens, lenm]; omega))) only [go_sem, ↓reduceIte, Nat.reduceAdd, Nat.reduceEqDiff, Nat.reduceSub, Nat.reduceMul, Nat.reduceLT, Nat.reduceLeDiff, Nat.reduceBEq, Int.reduceEq, Int.reduceLT, Int.reduceLE, Int.reduceToNat, Int.reduceNeg, Int.reduceAdd, Int.reduceSub, Int.reduceMul, Int.reduceMod, Int.reduceDiv, reduceCtorEq, Nat.reducePow, Int.reducePow, loopN_succ, ac_registers_active_L0, actM, e0, e1, BitVec.reduceOfInt, BitVec.reduceOr, BitVec.reduceToNat]
  · by_cases e1 : b1.length = 16
    · simp (config := { maxSteps := 2000000 }) (disch := (first | omega | (simp only [lens, lenm]; omega))) only [go_sem, ↓reduceIte, Nat.reduceAdd, Nat.reduceEqDiff, Nat.reduceSub, Nat.reduceMul, Nat.reduceLT, Nat.reduceLeDiff, Nat.reduceBEq, Int.reduceEq, Int.reduceLT, Int.reduceLE, Int.reduceToNat, Int.reduceNeg, Int.reduceAdd, Int.reduceSub, Int.reduceMul, Int.reduceMod, Int.reduceDiv, reduceCtorEq, Nat.reducePow, Int.reducePow, loopN_succ, ac_registers_active_L0, actM, e0, e1, BitVec.reduceOfInt, BitVec.reduceOr, BitVec.reduceToNat]
    · simp (config := { maxSteps := 2000000 }) (disch := (first | omega | (simp only [lens, lenm]; omega))) only [go_sem, ↓reduceIte, Nat.reduceAdd, Nat.reduceEqDiff, Nat.reduceSub, Nat.reduceMul, Nat.reduceLT, Nat.reduceLeDiff, Nat.reduceBEq, Int.reduceEq, Int.reduceLT, Int.reduceLE, Int.reduceToNat, Int.reduceNeg, Int.reduceAdd, Int.reduceSub, Int.reduceMul, Int.reduceMod, Int.reduceDiv, reduceCtorEq, Nat.reducePow, Int.reducePow, loopN_succ, ac_registers_active_L0, actM, e0, e1, BitVec.reduceOfInt, BitVec.reduceOr, BitVec.reduceToNat]
inductive RK : List Bank → Prop
  | nil : RK []
  | two (b0 b1 : Bank) (h0 : bkOk b0) (h1 : bkOk b1) : RK [b0, b1]
def actI : List Bank → Int
  | [b0, b1] => actM b0 b1
  | _ => 0
theorem bankT_inj {a b : Bank} (h : bankT a = bankT b) : a = b := by
  simpa [bankT, mapBs_inj] using h
theorem regT_inj {a b : List Bank} {u v : Int} (h : regT a u = regT b v) : a = b ∧ u = v := by
  simp only [regT, T.agg.injEq, List.cons.injEq, T.sl.injEq, T.int.injEq, true_and, and_true] at h
  exact ⟨map_inj' (fun _ _ => bankT_inj) h.1, h.2⟩
def ct_active : Ct where
  α := List Bank × Int
  as x := [.t (regT x.1 x.2)]
  ins _ := []
  pre x := RK x.1
  r x := .t (.int .i64 (actI x.1))
  outs _ := []
  inj := by
    rintro ⟨a, u⟩ ⟨b, v⟩ h _
    simp only [List.cons.injEq, V.t.injEq, and_true] at h
    obtain ⟨rfl, rfl⟩ := regT_inj h
    exact ⟨rfl, rfl⟩
theorem active_eq {bk : List Bank} {u : Int} (h : RK bk) : ct_active.fs [.t (.agg [.sl (bk.map bankT), .int .i64 u])] [] = some (.t (.int .i64 (actI bk)), []) := ct_active.eq (bk, u) h
def onB (bk : List Bank) (a : Nat) : Bool := decide ((bk.getD a []).length = 16)
theorem w_registers_on (tab : Tab) (gl : Gl) (n1 : Nat) (h1 : tab.look n1 = some ct_active.fs) (bk : List Bank) (u : Int) (hk : RK bk) (a : Nat) (ha : a < 2) : (ac_registers_on n1).wp tab gl (zipF 0 [.t (regT bk u), .t (.int .i64 a)]) (zipF 0 []) (resW [(4, none)] 0 (fun r o => r = .t (.bool (onB bk a)) ∧ o = [])) := by
  have he := active_eq (u := u) hk
  have hv : actI bk = 0 ∨ actI bk = 1 ∨ actI bk = 2 ∨ actI bk = 3 := by
    cases hk with
    | nil => left; rfl
    | two b0 b1 h0 h1 => simp only [actI, actM]; split <;> split <;> simp
  have hon : onB bk a = decide ((actI bk).toNat / 2 ^ a % 2 = 1) := by
    cases hk with
    | nil =>
      rcases (show a = 0 ∨ a = 1 by omega) with rfl | rfl <;> simp [onB, actI]
    | two b0 b1 h0 h1 =>
      rcases (show a = 0 ∨ a = 1 by omega) with rfl | rfl
      · simp only [onB, actI, actM, List.getD_cons_zero]; split <;> split <;> simp_all
      · simp only [onB, actI, actM, List.getD_cons_succ, List.getD_cons_zero]; split <;> split <;> simp_all
  rw [hon]
  rcases (show a = 0 ∨ a = 1 by omega) with rfl | rfl <;> rcases hv with hv | hv | hv | hv <;> rw [hv] at he <;> simp only [hv]
  all_goals simp (config := { maxSteps := 2000000 }) (disch := (first | omega | (simp only [lens, lenm]; omega))) only [go_sem, ↓reduceIte, Nat.reduceAdd, Nat.reduceEqDiff, Nat.reduceSub, Nat.reduceMul, Nat.reduceLT, Nat.reduceLeDiff, Nat.reduceBEq, Int.reduceEq, Int.reduceLT, Int.reduceLE, Int.reduceToNat, Int.reduceNeg, Int.reduceAdd, Int.reduceSub, Int.reduceMul, Int.reduceMod, Int.reduceDiv, reduceCtorEq, Nat.reducePow, Int.reducePow, ac_registers_on, h1, he, Int.reduceFDiv, Int.reduceToNat, Nat.reduceDiv, Nat.reduceMod, Int.reduceBEq]
theorem w_registers_index (tab : Tab) (gl : Gl) (i : Int) : ac_registers_index.wp tab gl (zipF 0 [.t (.int .i64 i)]) (zipF 0 []) (resW [(2, none)] 0 (fun r o => r = .t (.bool (decide (0 ≤ i ∧ i < 16))) ∧ o = [])) := by
  by_cases h : 0 ≤ i
  · by_cases h2 : i < 16
    · simp (config := { maxSteps := 2000000 }) (disch := (first | omega | (simp only [lens, lenm]; omega))) only [go_sem, ↓reduceIte, Nat.reduceAdd, Nat.reduceEqDiff, Nat.reduceSub, Nat.reduceMul, Nat.reduceLT, Nat.reduceLeDiff, Nat.reduceBEq, Int.reduceEq, Int.reduceLT, Int.reduceLE, Int.reduceToNat, Int.reduceNeg, Int.reduceAdd, Int.reduceSub, Int.reduceMul, Int.reduceMod, Int.reduceDiv, reduceCtorEq, Nat.reducePow, Int.reducePow, ac_registers_index, h, h2]
    · simp (config := { maxSteps := 2000000 }) (disch := (first | omega | (simp only [lens, lenm]; omega))) only [go_sem, ↓reduceIte, Nat.reduceAdd, Nat.reduceEqDiff, Nat.reduceSub, Nat.reduceMul, Nat.reduceLT, Nat.reduceLeDiff, Nat.reduceBEq, Int.reduceEq, Int.reduceLT, Int.reduceLE, Int.reduceToNat, Int.reduceNeg, Int.reduceAdd, Int.reduceSub, Int.reduceMul, Int.reduceMod, Int.reduceDiv, reduceCtorEq, Nat.reducePow, Int.reducePow, ac_registers_index, h, h2]
  · simp (config := { maxSteps := 2000000 }) (disch := (first | omega | (simp only [lens, lenm]; omega))) only [go_sem, ↓reduceIte, Nat.reduceAdd, Nat.reduceEqDiff, Nat.reduceSub, Nat.reduceMul, Nat.reduceLT, Nat.reduceLeDiff, Nat.reduceBEq, Int.reduceEq, Int.reduceLT, Int.reduceLE, Int.reduceToNat, Int.reduceNeg, Int.reduceAdd, Int.reduceSub, Int.reduceMul, Int.reduceMod, Int.reduceDiv, reduceCtorEq, Nat.reducePow, Int.reducePow, ac_registers_index, h]
def leastI (i : Int) (reset : Bool) : Int := if reset = true ∧ i < 12 then 5 else if i = 14 then (if reset then 3 else 2) else if i = 15 then (if reset then 4 else 3) else 0
theorem w_registers_least (tab : Tab) (gl : Gl) (i : Int) (rs : Bool) : ac_registers_least.wp tab gl (zipF 0 [.t (.int .i64 i), .t (.bool rs)]) (zipF 0 []) (resW [(4, none)] 0 (fun r o => r = .t (.int .i64 (leastI i rs)) ∧ o = [])) := by
  cases rs <;> by_cases h12 : i < 12 <;> by_cases h14 : i = 14 <;> by_cases h15 : i = 15
  all_goals try omega
  all_goals simp (config := { maxSteps := 2000000 }) (disch := (first | omega | (simp only [lens, lenm]; omega))) only [go_sem, ↓reduceIte, Nat.reduceAdd, Nat.reduceEqDiff, Nat.reduceSub, Nat.reduceMul, Nat.reduceLT, Nat.reduceLeDiff, Nat.reduceBEq, Int.reduceEq, Int.reduceLT, Int.reduceLE, Int.reduceToNat, Int.reduceNeg, Int.reduceAdd, Int.reduceSub, Int.reduceMul, Int.reduceMod, Int.reduceDiv, reduceCtorEq, Nat.reducePow, Int.reducePow, ac_registers_least, leastI, h12, h14, h15]
theorem w_ref8_Least (tab : Tab) (gl : Gl) (i : Int) (rs : Bool) : ac_ref8_Least.wp tab gl (zipF 0 [.t (.int .i64 i), .t (.bool rs)]) (zipF 0 []) (resW [(4, none)] 0 (fun r o => r = .t (.int .i64 (if leastI i rs = 5 then -1 else leastI i rs)) ∧ o = [])) := by
  cases rs <;> by_cases h12 : i < 12 <;> by_cases h14 : i = 14 <;> by_cases h15 : i = 15
  all_goals try omega
  all_goals simp (config := { maxSteps := 2000000 }) (disch := (first | omega | (simp only [lens, lenm]; omega))) only [go_sem, ↓reduceIte, Nat.reduceAdd, Nat.reduceEqDiff, Nat.reduceSub, Nat.reduceMul, Nat.reduceLT, Nat.reduceLeDiff, Nat.reduceBEq, Int.reduceEq, Int.reduceLT, Int.reduceLE, Int.reduceToNat, Int.reduceNeg, Int.reduceAdd, Int.reduceSub, Int.reduceMul, Int.reduceMod, Int.reduceDiv, reduceCtorEq, Nat.reducePow, Int.reducePow, ac_ref8_Least, leastI, h12, h14, h15]
def actB (bk : List Bank) (a : Nat) : Bool := decide (a < bk.length) && decide (0 < (bk.getD a []).length)
theorem w_ref8_Active (tab : Tab) (gl : Gl) (bk : List Bank) (u : Int) (a : Nat) (ha : a < 1000000000) (hb : bk.length < 1000000000) (hm : ∀ b ∈ bk, b.length < 1000000000) : ac_ref8_Active.wp tab gl (zipF 0 [.t (regT bk u), .t (.int .i64 a)]) (zipF 0 []) (resW [(4, none)] 0 (fun r o => r = .t (.bool (actB bk a)) ∧ o = [])) := by
  by_cases h : a < bk.length
  · have hg : bk[a]? = some (bk.getD a []) := by simp [List.getD, h]
    have hl : (bk.getD a []).length < 1000000000 := by
      have : bk.getD a [] = bk[a] := by simp [List.getD, h]
      rw [this]; exact hm _ (List.getElem_mem h)
    by_cases h0 : 0 < (bk.getD a []).length
    · simp (config := { maxSteps := 2000000 }) (disch := (first | omega | (simp only [lens, lenm]; omega))) only [go_sem, ↓reduceIte, Nat.reduceAdd, Nat.reduceEqDiff, Nat.reduceSub, Nat.reduceMul, Nat.reduceLT, Nat.reduceLeDiff, Nat.reduceBEq, Int.reduceEq, Int.reduceLT, Int.reduceLE, Int.reduceToNat, Int.reduceNeg, Int.reduceAdd, Int.reduceSub, Int.reduceMul, Int.reduceMod, Int.reduceDiv, reduceCtorEq, Nat.reducePow, Int.reducePow, ac_ref8_Active, actB, h, hg, h0]
    · simp (config := { maxSteps := 2000000 }) (disch := (first | omega | (simp only [lens, lenm]; omega))) only [go_sem, ↓reduceIte, Nat.reduceAdd, Nat.reduceEqDiff, Nat.reduceSub, Nat.reduceMul, Nat.reduceLT, Nat.reduceLeDiff, Nat.reduceBEq, Int.reduceEq, Int.reduceLT, Int.reduceLE, Int.reduceToNat, Int.reduceNeg, Int.reduceAdd, Int.reduceSub, Int.reduceMul, Int.reduceMod, Int.reduceDiv, reduceCtorEq, Nat.reducePow, Int.reducePow, ac_ref8_Active, actB, h, hg, h0]
  · simp (config := { maxSteps := 2000000 }) (disch := (first | omega | (simp only [lens, lenm]; omega))) only [go_sem, ↓reduceIte, Nat.reduceAdd, Nat.reduceEqDiff, Nat.reduceSub, Nat.reduceMul, Nat.reduceLT, Nat.reduceLeDiff, Nat.reduceBEq, Int.reduceEq, Int.reduceLT, Int.reduceLE, Int.reduceToNat, Int.reduceNeg, Int.reduceAdd, Int.reduceSub, Int.reduceMul, Int.reduceMod, Int.reduceDiv, reduceCtorEq, Nat.reducePow, Int.reducePow, ac_ref8_Active, actB, h]
end Go.Eng
end
section
set_option maxRecDepth 20000
set_option maxHeartbeats 8000000
namespace Go.Eng
theorem w_registers_twin0 (tab : Tab) (gl : Gl) (u : Int) : ac_registers_twin.wp tab gl (zipF 0 [.t (regT [] u)]) (zipF 0 []) (resF [] [(2, some (2, true))] 0 (fun r o => r = .agg [.nil, .t (.int .i64 u)] ∧ o = [])) := by
  simp (config := { maxSteps := 2000000 }) (disch := (first | omega | (simp only [lens, lenm]; omega))) only [go_sem, ↓reduceIte, Nat.reduceAdd, Nat.reduceEqDiff, Nat.reduceSub, Nat.reduceMul, Nat.reduceLT, Nat.reduceLeDiff, Nat.reduceBEq, Int.reduceEq, Int.reduceLT, Int.reduceLE, Int.reduceToNat, Int.reduceNeg, Int.reduceAdd, Int.reduceSub, Int.reduceMul, Int.reduceMod, Int.reduceDiv, reduceCtorEq, Nat.reducePow, Int.reducePow, ac_registers_twin, List.map_nil, Int.natCast_zero]
  refine loop_fuel 1 ?_
  simp (config := { maxSteps := 2000000 }) (disch := (first | omega | (simp only [lens, lenm]; omega))) only [go_sem, ↓reduceIte, Nat.reduceAdd, Nat.reduceEqDiff, Nat.reduceSub, Nat.reduceMul, Nat.reduceLT, Nat.reduceLeDiff, Nat.reduceBEq, Int.reduceEq, Int.reduceLT, Int.reduceLE, Int.reduceToNat, Int.reduceNeg, Int.reduceAdd, Int.reduceSub, Int.reduceMul, Int.reduceMod, Int.reduceDiv, reduceCtorEq, Nat.reducePow, Int.reducePow, loopN_succ, ac_registers_twin_L0]
theorem w_registers_twin2 (tab : Tab) (gl : Gl) (b0 b1 : Bank) (u : Int) (m0 : modL b0) (m1 : modL b1) : ac_registers_twin.wp tab gl (zipF 0 [.t (regT [b0, b1] u)]) (zipF 0 []) (resF [] [(2, some (2, true))] 0 (fun r o => r = .agg [.sl 0 0 2, .t (.int .i64 u)] ∧ o = [.live 1 [.sl 1 0 b0.length, .sl 2 0 b1.length] true false, .live 1 ((b0.map bsT).map V.t) true false, .live 1 ((b1.map bsT).map V.t) true false])) := by
  simp (config := { maxSteps := 2000000 }) (disch := (first | omega | (simp only [lens, lenm]; omega))) only [go_sem, ↓reduceIte, Nat.reduceAdd, Nat.reduceEqDiff, Nat.reduceSub, Nat.reduceMul, Nat.reduceLT, Nat.reduceLeDiff, Nat.reduceBEq, Int.reduceEq, Int.reduceLT, Int.reduceLE, Int.reduceToNat, Int.reduceNeg, Int.reduceAdd, Int.reduceSub, Int.reduceMul, Int.reduceMod, Int.reduceDiv, reduceCtorEq, Nat.reducePow, Int.reducePow, ac_registers_twin, List.map_nil, List.map_cons]
  have hl0 := m0.1
  have hl1 := m1.1
  refine loop_upto 2 (fun k => match k with | 0 => [(2, .ref 4112 0 0), (3, .ref 8240 0 0), (15, .t (.int .i64 0)), (13, .t (T.sl [T.sl (List.map bsT b0), T.sl (List.map bsT b1)])), (14, .t (.int .i64 2))] | 1 => [(2, .ref 4112 0 0), (3, .ref 8240 0 0), (15, .t (.int .i64 1)), (13, .t (T.sl [T.sl (List.map bsT b0), T.sl (List.map bsT b1)])), (14, .t (.int .i64 2))] | _ => [(2, .ref 4112 0 0), (3, .ref 8240 0 0), (15, .t (.int .i64 2)), (13, .t (T.sl [T.sl (List.map bsT b0), T.sl (List.map bsT b1)])), (14, .t (.int .i64 2))]) (fun k => match k with | 0 => [(8240, .live 2 [.agg [.nil, .t (.int .i64 u)]] true true), (4112, .live 2 [.agg [.nil, .t (.int .i64 0)]] true true)] | 1 => [(8240, .live 2 [.agg [.sl 9000 0 1, .t (.int .i64 u)]] true true), (9000, .live 1 [.sl 9001 0 b0.length] true false), (9001, .live 1 ((b0.map bsT).map V.t) true false), (4112, .live 2 [.agg [.nil, .t (.int .i64 0)]] true true)] | _ => [(8240, .live 2 [.agg [.sl 9000 0 2, .t (.int .i64 u)]] true true), (9000, .live 1 [.sl 9001 0 b0.length, .sl 9002 0 b1.length] true false), (9001, .live 1 ((b0.map bsT).map V.t) true false), (9002, .live 1 ((b1.map bsT).map V.t) true false), (4112, .live 2 [.agg [.nil, .t (.int .i64 0)]] true true)]) ?_ (fun k hk => ?_)
  · refine Weak.rd id ?_ ?_ rfl
    all_goals simp (config := { maxSteps := 2000000 }) (disch := (first | omega | (simp only [lens, lenm]; omega))) only [go_sem, ↓reduceIte, Nat.reduceAdd, Nat.reduceEqDiff, Nat.reduceSub, Nat.reduceMul, Nat.reduceLT, Nat.reduceLeDiff, Nat.reduceBEq, Int.reduceEq, Int.reduceLT, Int.reduceLE, Int.reduceToNat, Int.reduceNeg, Int.reduceAdd, Int.reduceSub, Int.reduceMul, Int.reduceMod, Int.reduceDiv, reduceCtorEq, Nat.reducePow, Int.reducePow, id]
  · rcases (show k = 0 ∨ k = 1 ∨ k = 2 by omega) with rfl | rfl | rfl
    · simp (config := { maxSteps := 2000000 }) (disch := (first | omega | (simp only [lens, lenm]; omega))) only [go_sem, ↓reduceIte, Nat.reduceAdd, Nat.reduceEqDiff, Nat.reduceSub, Nat.reduceMul, Nat.reduceLT, Nat.reduceLeDiff, Nat.reduceBEq, Int.reduceEq, Int.reduceLT, Int.reduceLE, Int.reduceToNat, Int.reduceNeg, Int.reduceAdd, Int.reduceSub, Int.reduceMul, Int.reduceMod, Int.reduceDiv, reduceCtorEq, Nat.reducePow, Int.reducePow, ac_registers_twin_L0]
      refine loop_upto b0.length (fun i => [(2, .ref 4112 0 0), (3, .ref 8240 0 0), (15, .t (.int .i64 0)), (13, .t (T.sl [T.sl (List.map bsT b0), T.sl (List.map bsT b1)])), (14, .t (.int .i64 2)), (6, .sl 9100 0 i), (21, .t (.int .i64 (i : Nat))), (19, .t (.sl (b0.map bsT))), (20, .t (.int .i64 b0.length))]) (fun i => [(9100, .live 1 (((b0.take i).map bsT).map V.t) true false), (8240, .live 2 [.agg [.nil, .t (.int .i64 u)]] true true), (4112, .live 2 [.agg [.nil, .t (.int .i64 0)]] true true)]) ?_ (fun i hi => ?_)
      · refine Weak.cv0 (hv := [(9100, .live 1 [] true false)]) (ho := [(8240, .live 2 [.agg [.nil, .t (.int .i64 u)]] true true), (4112, .live 2 [.agg [.nil, .t (.int .i64 0)]] true true)]) id ?_ ?_ rfl rfl
        all_goals simp (config := { maxSteps := 2000000 }) (disch := (first | omega | (simp only [lens, lenm]; omega))) only [go_sem, ↓reduceIte, Nat.reduceAdd, Nat.reduceEqDiff, Nat.reduceSub, Nat.reduceMul, Nat.reduceLT, Nat.reduceLeDiff, Nat.reduceBEq, Int.reduceEq, Int.reduceLT, Int.reduceLE, Int.reduceToNat, Int.reduceNeg, Int.reduceAdd, Int.reduceSub, Int.reduceMul, Int.reduceMod, Int.reduceDiv, reduceCtorEq, Nat.reducePow, Int.reducePow, id, List.map_cons, List.map_nil]
      · have hm := modL_get m0 i
        by_cases hlt : i < b0.length
        · simp (config := { maxSteps := 2000000 }) (disch := (first | omega | (simp only [lens, lenm]; omega))) only [go_sem, ↓reduceIte, Nat.reduceAdd, Nat.reduceEqDiff, Nat.reduceSub, Nat.reduceMul, Nat.reduceLT, Nat.reduceLeDiff, Nat.reduceBEq, Int.reduceEq, Int.reduceLT, Int.reduceLE, Int.reduceToNat, Int.reduceNeg, Int.reduceAdd, Int.reduceSub, Int.reduceMul, Int.reduceMod, Int.reduceDiv, reduceCtorEq, Nat.reducePow, Int.reducePow, ac_registers_twin_L1]
          refine ⟨hlt, Weak.cv (hv := []) [40992] (fun j => if j = 9100 then 41024 else j) ?_ rfl⟩
          simp (config := { maxSteps := 2000000 }) (disch := (first | omega | (simp only [lens, lenm]; omega))) only [go_sem, ↓reduceIte, Nat.reduceAdd, Nat.reduceEqDiff, Nat.reduceSub, Nat.reduceMul, Nat.reduceLT, Nat.reduceLeDiff, Nat.reduceBEq, Int.reduceEq, Int.reduceLT, Int.reduceLE, Int.reduceToNat, Int.reduceNeg, Int.reduceAdd, Int.reduceSub, Int.reduceMul, Int.reduceMod, Int.reduceDiv, reduceCtorEq, Nat.reducePow, Int.reducePow, take_s (d := []) hlt]
          rfl
        · have e : i = b0.length := by omega
          subst e
          simp (config := { maxSteps := 2000000 }) (disch := (first | omega | (simp only [lens, lenm]; omega))) only [go_sem, ↓reduceIte, Nat.reduceAdd, Nat.reduceEqDiff, Nat.reduceSub, Nat.reduceMul, Nat.reduceLT, Nat.reduceLeDiff, Nat.reduceBEq, Int.reduceEq, Int.reduceLT, Int.reduceLE, Int.reduceToNat, Int.reduceNeg, Int.reduceAdd, Int.reduceSub, Int.reduceMul, Int.reduceMod, Int.reduceDiv, reduceCtorEq, Nat.reducePow, Int.reducePow, ac_registers_twin_L1]
          refine Weak.rd (fun j => if j = 9000 then 49216 else if j = 9001 then 9100 else j) ?_ ?_ rfl
          all_goals simp (config := { maxSteps := 2000000 }) (disch := (first | omega | (simp only [lens, lenm]; omega))) only [go_sem, ↓reduceIte, Nat.reduceAdd, Nat.reduceEqDiff, Nat.reduceSub, Nat.reduceMul, Nat.reduceLT, Nat.reduceLeDiff, Nat.reduceBEq, Int.reduceEq, Int.reduceLT, Int.reduceLE, Int.reduceToNat, Int.reduceNeg, Int.reduceAdd, Int.reduceSub, Int.reduceMul, Int.reduceMod, Int.reduceDiv, reduceCtorEq, Nat.reducePow, Int.reducePow]
    · simp (config := { maxSteps := 2000000 }) (disch := (first | omega | (simp only [lens, lenm]; omega))) only [go_sem, ↓reduceIte, Nat.reduceAdd, Nat.reduceEqDiff, Nat.reduceSub, Nat.reduceMul, Nat.reduceLT, Nat.reduceLeDiff, Nat.reduceBEq, Int.reduceEq, Int.reduceLT, Int.reduceLE, Int.reduceToNat, Int.reduceNeg, Int.reduceAdd, Int.reduceSub, Int.reduceMul, Int.reduceMod, Int.reduceDiv, reduceCtorEq, Nat.reducePow, Int.reducePow, ac_registers_twin_L0]
      refine loop_upto b1.length (fun i => [(2, .ref 4112 0 0), (3, .ref 8240 0 0), (15, .t (.int .i64 1)), (13, .t (T.sl [T.sl (List.map bsT b0), T.sl (List.map bsT b1)])), (14, .t (.int .i64 2)), (6, .sl 9100 0 i), (21, .t (.int .i64 (i : Nat))), (19, .t (.sl (b1.map bsT))), (20, .t (.int .i64 b1.length))]) (fun i => [(9100, .live 1 (((b1.take i).map bsT).map V.t) true false), (8240, .live 2 [.agg [.sl 9000 0 1, .t (.int .i64 u)]] true true), (9000, .live 1 [.sl 9001 0 b0.length] true false), (9001, .live 1 ((b0.map bsT).map V.t) true false), (4112, .live 2 [.agg [.nil, .t (.int .i64 0)]] true true)]) ?_ (fun i hi => ?_)
      · refine Weak.cv0 (hv := [(9100, .live 1 [] true false)]) (ho := [(8240, .live 2 [.agg [.sl 9000 0 1, .t (.int .i64 u)]] true true), (9000, .live 1 [.sl 9001 0 b0.length] true false), (9001, .live 1 ((b0.map bsT).map V.t) true false), (4112, .live 2 [.agg [.nil, .t (.int .i64 0)]] true true)]) id ?_ ?_ rfl rfl
        all_goals simp (config := { maxSteps := 2000000 }) (disch := (first | omega | (simp only [lens, lenm]; omega))) only [go_sem, ↓reduceIte, Nat.reduceAdd, Nat.reduceEqDiff, Nat.reduceSub, Nat.reduceMul, Nat.reduceLT, Nat.reduceLeDiff, Nat.reduceBEq, Int.reduceEq, Int.reduceLT, Int.reduceLE, Int.reduceToNat, Int.reduceNeg, Int.reduceAdd, Int.reduceSub, Int.reduceMul, Int.reduceMod, Int.reduceDiv, reduceCtorEq, Nat.reducePow, Int.reducePow, id, List.map_cons, List.map_nil]
      · have hm := modL_get m1 i
        by_cases hlt : i < b1.length
        · simp (config := { maxSteps := 2000000 }) (disch := (first | omega | (simp only [lens, lenm]; omega))) only [go_sem, ↓reduceIte, Nat.reduceAdd, Nat.reduceEqDiff, Nat.reduceSub, Nat.reduceMul, Nat.reduceLT, Nat.reduceLeDiff, Nat.reduceBEq, Int.reduceEq, Int.reduceLT, Int.reduceLE, Int.reduceToNat, Int.reduceNeg, Int.reduceAdd, Int.reduceSub, Int.reduceMul, Int.reduceMod, Int.reduceDiv, reduceCtorEq, Nat.reducePow, Int.reducePow, ac_registers_twin_L1]
          refine ⟨hlt, Weak.cv (hv := []) [40992] (fun j => if j = 9100 then 41024 else j) ?_ rfl⟩
          simp (config := { maxSteps := 2000000 }) (disch := (first | omega | (simp only [lens, lenm]; omega))) only [go_sem, ↓reduceIte, Nat.reduceAdd, Nat.reduceEqDiff, Nat.reduceSub, Nat.reduceMul, Nat.reduceLT, Nat.reduceLeDiff, Nat.reduceBEq, Int.reduceEq, Int.reduceLT, Int.reduceLE, Int.reduceToNat, Int.reduceNeg, Int.reduceAdd, Int.reduceSub, Int.reduceMul, Int.reduceMod, Int.reduceDiv, reduceCtorEq, Nat.reducePow, Int.reducePow, take_s (d := []) hlt]
          rfl
        · have e : i = b1.length := by omega
          subst e
          simp (config := { maxSteps := 2000000 }) (disch := (first | omega | (simp only [lens, lenm]; omega))) only [go_sem, ↓reduceIte, Nat.reduceAdd, Nat.reduceEqDiff, Nat.reduceSub, Nat.reduceMul, Nat.reduceLT, Nat.reduceLeDiff, Nat.reduceBEq, Int.reduceEq, Int.reduceLT, Int.reduceLE, Int.reduceToNat, Int.reduceNeg, Int.reduceAdd, Int.reduceSub, Int.reduceMul, Int.reduceMod, Int.reduceDiv, reduceCtorEq, Nat.reducePow, Int.reducePow, ac_registers_twin_L1]
          refine Weak.rd (fun j => if j = 9000 then 49216 else if j = 9002 then 9100 else j) ?_ ?_ rfl
          all_goals simp (config := { maxSteps := 2000000 }) (disch := (first | omega | (simp only [lens, lenm]; omega))) only [go_sem, ↓reduceIte, Nat.reduceAdd, Nat.reduceEqDiff, Nat.reduceSub, Nat.reduceMul, Nat.reduceLT, Nat.reduceLeDiff, Nat.reduceBEq, Int.reduceEq, Int.reduceLT, Int.reduceLE, Int.reduceToNat, Int.reduceNeg, Int.reduceAdd, Int.reduceSub, Int.reduceMul, Int.reduceMod, Int.reduceDiv, reduceCtorEq, Nat.reducePow, Int.reducePow]
    · simp (config := { maxSteps := 2000000 }) (disch := (first | omega | (simp only [lens, lenm]; omega))) only [go_sem, ↓reduceIte, Nat.reduceAdd, Nat.reduceEqDiff, Nat.reduceSub, Nat.reduceMul, Nat.reduceLT, Nat.reduceLeDiff, Nat.reduceBEq, Int.reduceEq, Int.reduceLT, Int.reduceLE, Int.reduceToNat, Int.reduceNeg, Int.reduceAdd, Int.reduceSub, Int.reduceMul, Int.reduceMod, Int.reduceDiv, reduceCtorEq, Nat.reducePow, Int.reducePow, ac_registers_twin_L0]
theorem w_ref8_Copy0 (tab : Tab) (gl : Gl) (n1 : Nat) (u : Int) : (ac_ref8_Copy n1).wp tab gl (zipF 0 [.t (regT [] u)]) (zipF 0 []) (resF [] [(2, some (2, true))] 0 (fun r o => r = .agg [.nil, .t (.int .i64 u)] ∧ o = [])) := by
  simp (config := { maxSteps := 2000000 }) (disch := (first | omega | (simp only [lens, lenm]; omega))) only [go_sem, ↓reduceIte, Nat.reduceAdd, Nat.reduceEqDiff, Nat.reduceSub, Nat.reduceMul, Nat.reduceLT, Nat.reduceLeDiff, Nat.reduceBEq, Int.reduceEq, Int.reduceLT, Int.reduceLE, Int.reduceToNat, Int.reduceNeg, Int.reduceAdd, Int.reduceSub, Int.reduceMul, Int.reduceMod, Int.reduceDiv, reduceCtorEq, Nat.reducePow, Int.reducePow, ac_ref8_Copy, List.map_nil]
  refine loop_fuel 1 ?_
  simp (config := { maxSteps := 2000000 }) (disch := (first | omega | (simp only [lens, lenm]; omega))) only [go_sem, ↓reduceIte, Nat.reduceAdd, Nat.reduceEqDiff, Nat.reduceSub, Nat.reduceMul, Nat.reduceLT, Nat.reduceLeDiff, Nat.reduceBEq, Int.reduceEq, Int.reduceLT, Int.reduceLE, Int.reduceToNat, Int.reduceNeg, Int.reduceAdd, Int.reduceSub, Int.reduceMul, Int.reduceMod, Int.reduceDiv, reduceCtorEq, Nat.reducePow, Int.reducePow, loopN_succ, ac_ref8_Copy_L0]
def ct_copy : Ct where
  α := List UInt8
  as x := [.t (.sl (x.map byteT))]
  ins _ := []
  pre x := x.length < 1000000000
  r x := .sl 0 0 x.length
  outs x := [.live 1 ((x.map byteT).map V.t) true false]
  inj := by
    intro a b h _
    simp [mapB_inj] at h
    subst h; exact ⟨rfl, rfl⟩
theorem copy_eq {bs : List UInt8} (h : bs.length < 1000000000) : ct_copy.fs [.t (.sl (bs.map byteT))] [] = some (.sl 0 0 bs.length, [.live 1 ((bs.map byteT).map V.t) true false]) := ct_copy.eq bs h
theorem w_ref8_Copy2 (tab : Tab) (gl : Gl) (n1 : Nat) (h1 : tab.look n1 = some ct_copy.fs) (b0 b1 : Bank) (u : Int) (m0 : modL b0) (m1 : modL b1) : (ac_ref8_Copy n1).wp tab gl (zipF 0 [.t (regT [b0, b1] u)]) (zipF 0 []) (resF [] [(2, some (2, true))] 0 (fun r o => r = .agg [.sl 0 0 2, .t (.int .i64 u)] ∧ o = [.live 1 [.sl 1 0 b0.length, .sl 2 0 b1.length] true false, .live 1 ((b0.map bsT).map V.t) true false, .live 1 ((b1.map bsT).map V.t) true false])) := by
  simp (config := { maxSteps := 2000000 }) (disch := (first | omega | (simp only [lens, lenm]; omega))) only [go_sem, ↓reduceIte, Nat.reduceAdd, Nat.reduceEqDiff, Nat.reduceSub, Nat.reduceMul, Nat.reduceLT, Nat.reduceLeDiff, Nat.reduceBEq, Int.reduceEq, Int.reduceLT, Int.reduceLE, Int.reduceToNat, Int.reduceNeg, Int.reduceAdd, Int.reduceSub, Int.reduceMul, Int.reduceMod, Int.reduceDiv, reduceCtorEq, Nat.reducePow, Int.reducePow, ac_ref8_Copy, List.map_nil, List.map_cons]
  have hl0 := m0.1
  have hl1 := m1.1
  refine loop_upto 2 (fun k => match k with | 0 => [(2, .ref 4112 0 0), (3, .ref 8240 0 0), (4, .t (.int .i64 0)), (1, .ref 4096 0 0)] | 1 => [(2, .ref 4112 0 0), (3, .ref 8240 0 0), (4, .t (.int .i64 1)), (1, .ref 4096 0 0)] | _ => [(2, .ref 4112 0 0), (3, .ref 8240 0 0), (4, .t (.int .i64 2)), (1, .ref 4096 0 0)]) (fun k => match k with | 0 => [(8240, .live 2 [.agg [.nil, .t (.int .i64 u)]] true true), (4112, .live 2 [.agg [.nil, .t (.int .i64 0)]] true true), (4096, .live 2 [.t (.agg [T.sl [T.sl (List.map bsT b0), T.sl (List.map bsT b1)], .int .i64 u])] true true)] | 1 => [(8240, .live 2 [.agg [.sl 9000 0 1, .t (.int .i64 u)]] true true), (9000, .live 1 [.sl 9001 0 b0.length] true false), (9001, .live 1 ((b0.map bsT).map V.t) true false), (4112, .live 2 [.agg [.nil, .t (.int .i64 0)]] true true), (4096, .live 2 [.t (.agg [T.sl [T.sl (List.map bsT b0), T.sl (List.map bsT b1)], .int .i64 u])] true true)] | _ => [(8240, .live 2 [.agg [.sl 9000 0 2, .t (.int .i64 u)]] true true), (9000, .live 1 [.sl 9001 0 b0.length, .sl 9002 0 b1.length] true false), (9001, .live 1 ((b0.map bsT).map V.t) true false), (9002, .live 1 ((b1.map bsT).map V.t) true false), (4112, .live 2 [.agg [.nil, .t (.int .i64 0)]] true true), (4096, .live 2 [.t (.agg [T.sl [T.sl (List.map bsT b0), T.sl (List.map bsT b1)], .int .i64 u])] true true)]) ?_ (fun k hk => ?_)
  · refine Weak.rd id ?_ ?_ rfl
    all_goals simp (config := { maxSteps := 2000000 }) (disch := (first | omega | (simp only [lens, lenm]; omega))) only [go_sem, ↓reduceIte, Nat.reduceAdd, Nat.reduceEqDiff, Nat.reduceSub, Nat.reduceMul, Nat.reduceLT, Nat.reduceLeDiff, Nat.reduceBEq, Int.reduceEq, Int.reduceLT, Int.reduceLE, Int.reduceToNat, Int.reduceNeg, Int.reduceAdd, Int.reduceSub, Int.reduceMul, Int.reduceMod, Int.reduceDiv, reduceCtorEq, Nat.reducePow, Int.reducePow, id]
  · rcases (show k = 0 ∨ k = 1 ∨ k = 2 by omega) with rfl | rfl | rfl
    · simp (config := { maxSteps := 2000000 }) (disch := (first | omega | (simp only [lens, lenm]; omega))) only [go_sem, ↓reduceIte, Nat.reduceAdd, Nat.reduceEqDiff, Nat.reduceSub, Nat.reduceMul, Nat.reduceLT, Nat.reduceLeDiff, Nat.reduceBEq, Int.reduceEq, Int.reduceLT, Int.reduceLE, Int.reduceToNat, Int.reduceNeg, Int.reduceAdd, Int.reduceSub, Int.reduceMul, Int.reduceMod, Int.reduceDiv, reduceCtorEq, Nat.reducePow, Int.reducePow, ac_ref8_Copy_L0, h1, copy_eq]
      refine loop_upto b0.length (fun i => [(2, .ref 4112 0 0), (3, .ref 8240 0 0), (4, .t (.int .i64 0)), (1, .ref 4096 0 0), (5, .sl 9100 0 i), (6, .t (.int .i64 (i : Nat)))]) (fun i => [(9100, .live 1 (((b0.take i).map bsT).map V.t) true false), (8240, .live 2 [.agg [.nil, .t (.int .i64 u)]] true true), (4112, .live 2 [.agg [.nil, .t (.int .i64 0)]] true true), (4096, .live 2 [.t (.agg [T.sl [T.sl (List.map bsT b0), T.sl (List.map bsT b1)], .int .i64 u])] true true)]) ?_ (fun i hi => ?_)
      · refine Weak.cv0 (hv := [(9100, .live 1 [] true false)]) (ho := [(8240, .live 2 [.agg [.nil, .t (.int .i64 u)]] true true), (4112, .live 2 [.agg [.nil, .t (.int .i64 0)]] true true), (4096, .live 2 [.t (.agg [T.sl [T.sl (List.map bsT b0), T.sl (List.map bsT b1)], .int .i64 u])] true true)]) id ?_ ?_ rfl rfl
        all_goals simp (config := { maxSteps := 2000000 }) (disch := (first | omega | (simp only [lens, lenm]; omega))) only [go_sem, ↓reduceIte, Nat.reduceAdd, Nat.reduceEqDiff, Nat.reduceSub, Nat.reduceMul, Nat.reduceLT, Nat.reduceLeDiff, Nat.reduceBEq, Int.reduceEq, Int.reduceLT, Int.reduceLE, Int.reduceToNat, Int.reduceNeg, Int.reduceAdd, Int.reduceSub, Int.reduceMul, Int.reduceMod, Int.reduceDiv, reduceCtorEq, Nat.reducePow, Int.reducePow, id, List.map_cons, List.map_nil]
      · have hm := modL_get m0 i
        by_cases hlt : i < b0.length
        · simp (config := { maxSteps := 2000000 }) (disch := (first | omega | (simp only [lens, lenm]; omega))) only [go_sem, ↓reduceIte, Nat.reduceAdd, Nat.reduceEqDiff, Nat.reduceSub, Nat.reduceMul, Nat.reduceLT, Nat.reduceLeDiff, Nat.reduceBEq, Int.reduceEq, Int.reduceLT, Int.reduceLE, Int.reduceToNat, Int.reduceNeg, Int.reduceAdd, Int.reduceSub, Int.reduceMul, Int.reduceMod, Int.reduceDiv, reduceCtorEq, Nat.reducePow, Int.reducePow, ac_ref8_Copy_L1, h1, copy_eq]
          refine ⟨hlt, Weak.cv (hv := []) [41104] (fun j => if j = 9100 then 41136 else j) ?_ rfl⟩
          simp (config := { maxSteps := 2000000 }) (disch := (first | omega | (simp only [lens, lenm]; omega))) only [go_sem, ↓reduceIte, Nat.reduceAdd, Nat.reduceEqDiff, Nat.reduceSub, Nat.reduceMul, Nat.reduceLT, Nat.reduceLeDiff, Nat.reduceBEq, Int.reduceEq, Int.reduceLT, Int.reduceLE, Int.reduceToNat, Int.reduceNeg, Int.reduceAdd, Int.reduceSub, Int.reduceMul, Int.reduceMod, Int.reduceDiv, reduceCtorEq, Nat.reducePow, Int.reducePow, take_s (d := []) hlt]
          rfl
        · have e : i = b0.length := by omega
          subst e
          simp (config := { maxSteps := 2000000 }) (disch := (first | omega | (simp only [lens, lenm]; omega))) only [go_sem, ↓reduceIte, Nat.reduceAdd, Nat.reduceEqDiff, Nat.reduceSub, Nat.reduceMul, Nat.reduceLT, Nat.reduceLeDiff, Nat.reduceBEq, Int.reduceEq, Int.reduceLT, Int.reduceLE, Int.reduceToNat, Int.reduceNeg, Int.reduceAdd, Int.reduceSub, Int.reduceMul, Int.reduceMod, Int.reduceDiv, reduceCtorEq, Nat.reducePow, Int.reducePow, ac_ref8_Copy_L1, h1, copy_eq]
          refine Weak.rd (fun j => if j = 9000 then 45120 else if j = 9001 then 9100 else j) ?_ ?_ rfl
          all_goals simp (config := { maxSteps := 2000000 }) (disch := (first | omega | (simp only [lens, lenm]; omega))) only [go_sem, ↓reduceIte, Nat.reduceAdd, Nat.reduceEqDiff, Nat.reduceSub, Nat.reduceMul, Nat.reduceLT, Nat.reduceLeDiff, Nat.reduceBEq, Int.reduceEq, Int.reduceLT, Int.reduceLE, Int.reduceToNat, Int.reduceNeg, Int.reduceAdd, Int.reduceSub, Int.reduceMul, Int.reduceMod, Int.reduceDiv, reduceCtorEq, Nat.reducePow, Int.reducePow]
    · simp (config := { maxSteps := 2000000 }) (disch := (first | omega | (simp only [lens, lenm]; omega))) only [go_sem, ↓reduceIte, Nat.reduceAdd, Nat.reduceEqDiff, Nat.reduceSub, Nat.reduceMul, Nat.reduceLT, Nat.reduceLeDiff, Nat.reduceBEq, Int.reduceEq, Int.reduceLT, Int.reduceLE, Int.reduceToNat, Int.reduceNeg, Int.reduceAdd, Int.reduceSub, Int.reduceMul, Int.reduceMod, Int.reduceDiv, reduceCtorEq, Nat.reducePow, Int.reducePow, ac_ref8_Copy_L0, h1, copy_eq]
      refine loop_upto b1.length (fun i => [(2, .ref 4112 0 0), (3, .ref 8240 0 0), (4, .t (.int .i64 1)), (1, .ref 4096 0 0), (5, .sl 9100 0 i), (6, .t (.int .i64 (i : Nat)))]) (fun i => [(9100, .live 1 (((b1.take i).map bsT).map V.t) true false), (8240, .live 2 [.agg [.sl 9000 0 1, .t (.int .i64 u)]] true true), (9000, .live 1 [.sl 9001 0 b0.length] true false), (9001, .live 1 ((b0.map bsT).map V.t) true false), (4112, .live 2 [.agg [.nil, .t (.int .i64 0)]] true true), (4096, .live 2 [.t (.agg [T.sl [T.sl (List.map bsT b0), T.sl (List.map bsT b1)], .int .i64 u])] true true)]) ?_ (fun i hi => ?_)
      · refine Weak.cv0 (hv := [(9100, .live 1 [] true false)]) (ho := [(8240, .live 2 [.agg [.sl 9000 0 1, .t (.int .i64 u)]] true true), (9000, .live 1 [.sl 9001 0 b0.length] true false), (9001, .live 1 ((b0.map bsT).map V.t) true false), (4112, .live 2 [.agg [.nil, .t (.int .i64 0)]] true true), (4096, .live 2 [.t (.agg [T.sl [T.sl (List.map bsT b0), T.sl (List.map bsT b1)], .int .i64 u])] true true)]) id ?_ ?_ rfl rfl
        all_goals simp (config := { maxSteps := 2000000 }) (disch := (first | omega | (simp only [lens, lenm]; omega))) only [go_sem, ↓reduceIte, Nat.reduceAdd, Nat.reduceEqDiff, Nat.reduceSub, Nat.reduceMul, Nat.reduceLT, Nat.reduceLeDiff, Nat.reduceBEq, Int.reduceEq, Int.reduceLT, Int.reduceLE, Int.reduceToNat, Int.reduceNeg, Int.reduceAdd, Int.reduceSub, Int.reduceMul, Int.reduceMod, Int.reduceDiv, reduceCtorEq, Nat.reducePow, Int.reducePow, id, List.map_cons, List.map_nil]
      · have hm := modL_get m1 i
        by_cases hlt : i < b1.length
        · simp (config := { maxSteps := 2000000 }) (disch := (first | omega | (simp only [lens, lenm]; omega))) only [go_sem, ↓reduceIte, Nat.reduceAdd, Nat.reduceEqDiff, Nat.reduceSub, Nat.reduceMul, Nat.reduceLT, Nat.reduceLeDiff, Nat.reduceBEq, Int.reduceEq, Int.reduceLT, Int.reduceLE, Int.reduceToNat, Int.reduceNeg, Int.reduceAdd, Int.reduceSub, Int.reduceMul, Int.reduceMod, Int.reduceDiv, reduceCtorEq, Nat.reducePow, Int.reducePow, ac_ref8_Copy_L1, h1, copy_eq]
          refine ⟨hlt, Weak.cv (hv := []) [41104] (fun j => if j = 9100 then 41136 else j) ?_ rfl⟩
          simp (config := { maxSteps := 2000000 }) (disch := (first | omega | (simp only [lens, lenm]; omega))) only [go_sem, ↓reduceIte, Nat.reduceAdd, Nat.reduceEqDiff, Nat.reduceSub, Nat.reduceMul, Nat.reduceLT, Nat.reduceLeDiff, Nat.reduceBEq, Int.reduceEq, Int.reduceLT, Int.reduceLE, Int.reduceToNat, Int.reduceNeg, Int.reduceAdd, Int.reduceSub, Int.reduceMul, Int.reduceMod, Int.reduceDiv, reduceCtorEq, Nat.reducePow, Int.reducePow, take_s (d := []) hlt]
          rfl
        · have e : i = b1.length := by omega
          subst e
          simp (config := { maxSteps := 2000000 }) (disch := (first | omega | (simp only [lens, lenm]; omega))) only [go_sem, ↓reduceIte, Nat.reduceAdd, Nat.reduceEqDiff, Nat.reduceSub, Nat.reduceMul, Nat.reduceLT, Nat.reduceLeDiff, Nat.reduceBEq, Int.reduceEq, Int.reduceLT, Int.reduceLE, Int.reduceToNat, Int.reduceNeg, Int.reduceAdd, Int.reduceSub, Int.reduceMul, Int.reduceMod, Int.reduceDiv, reduceCtorEq, Nat.reducePow, Int.reducePow, ac_ref8_Copy_L1, h1, copy_eq]
          refine Weak.rd (fun j => if j = 9000 then 45120 else if j = 9002 then 9100 else j) ?_ ?_ rfl
          all_goals simp (config := { maxSteps := 2000000 }) (disch := (first | omega | (simp only [lens, lenm]; omega))) only [go_sem, ↓reduceIte, Nat.reduceAdd, Nat.reduceEqDiff, Nat.reduceSub, Nat.reduceMul, Nat.reduceLT, Nat.reduceLeDiff, Nat.reduceBEq, Int.reduceEq, Int.reduceLT, Int.reduceLE, Int.reduceToNat, Int.reduceNeg, Int.reduceAdd, Int.reduceSub, Int.reduceMul, Int.reduceMod, Int.reduceDiv, reduceCtorEq, Nat.reducePow, Int.reducePow]
    · simp (config := { maxSteps := 2000000 }) (disch := (first | omega | (simp only [lens, lenm]; omega))) only [go_sem, ↓reduceIte, Nat.reduceAdd, Nat.reduceEqDiff, Nat.reduceSub, Nat.reduceMul, Nat.reduceLT, Nat.reduceLeDiff, Nat.reduceBEq, Int.reduceEq, Int.reduceLT, Int.reduceLE, Int.reduceToNat, Int.reduceNeg, Int.reduceAdd, Int.reduceSub, Int.reduceMul, Int.reduceMod, Int.reduceDiv, reduceCtorEq, Nat.reducePow, Int.reducePow, ac_ref8_Copy_L0, h1, copy_eq]
def twR (bk : List Bank) (u : Int) : V := match bk with
  | [_, _] => .agg [.sl 0 0 2, .t (.int .i64 u)]
  | _ => .agg [.nil, .t (.int .i64 u)]
def twO (bk : List Bank) : List Ob := match bk with
  | [b0, b1] => [.live 1 [.sl 1 0 b0.length, .sl 2 0 b1.length] true false, .live 1 ((b0.map bsT).map V.t) true false, .live 1 ((b1.map bsT).map V.t) true false]
  | _ => []
def RM (bk : List Bank) : Prop := RK bk ∧ ∀ b ∈ bk, modL b
def ct_twin : Ct where
  α := List Bank × Int
  as x := [.t (regT x.1 x.2)]
  ins _ := []
  pre x := RM x.1
  r x := twR x.1 x.2
  outs x := twO x.1
  inj := by
    rintro ⟨a, u⟩ ⟨b, v⟩ h _
    simp only [List.cons.injEq, V.t.injEq, and_true] at h
    obtain ⟨rfl, rfl⟩ := regT_inj h
    exact ⟨rfl, rfl⟩
theorem twin_eq0 {u : Int} : ct_twin.fs [.t (.agg [.sl [], .int .i64 u])] [] = some (.agg [.nil, .t (.int .i64 u)], []) := ct_twin.eq ([], u) ⟨.nil, by simp⟩
theorem twin_eq2 {b0 b1 : Bank} {u : Int} (h : RM [b0, b1]) : ct_twin.fs [.t (.agg [.sl [.sl (b0.map bsT), .sl (b1.map bsT)], .int .i64 u])] [] =
    some (.agg [.sl 0 0 2, .t (.int .i64 u)], [.live 1 [.sl 1 0 b0.length, .sl 2 0 b1.length] true false, .live 1 ((b0.map bsT).map V.t) true false, .live 1 ((b1.map bsT).map V.t) true false]) := ct_twin.eq ([b0, b1], u) h
end Go.Eng
end
section
set_option maxRecDepth 20000
set_option maxHeartbeats 16000000
namespace Go.Eng
def newV (i : Nat) : UInt8 := if 12 ≤ i then 255 else 0
theorem newV_a {i : Nat} (h : i < 12) : newV i = 0 := if_neg (by omega)
theorem newV_b {i : Nat} (h : ¬ i < 12) : newV i = 255 := if_pos (by omega)
def newB (a : Nat) : Bank := (List.range 16).map fun i => List.replicate (szA a) (newV i)
theorem newB_take {a i : Nat} (h : i < 16) : (newB a).take (i + 1) = (newB a).take i ++ [List.replicate (szA a) (newV i)] := by
  rw [take_s (d := []) (by simp [newB]; omega)]
  congr 2
  simp [newB, List.getD, h]
theorem newB_all {a : Nat} : (newB a).take 16 = newB a := List.take_of_length_le (by simp [newB])
theorem newB_length {a : Nat} : List.length (newB a) = 16 := by simp [newB]
def newBk (s : Int) : List Bank := if s % 4 = 0 then [] else [if s % 2 = 1 then newB 0 else [], if s / 2 % 2 = 1 then newB 1 else []]
theorem newBk_of {s : Int} (h : ¬ s % 4 = 0) : newBk s = [if s % 2 = 1 then newB 0 else [], if s / 2 % 2 = 1 then newB 1 else []] := if_neg h
def ct_size : Ct where
  α := Int
  as x := [.t (.int .i64 x)]
  ins _ := []
  pre _ := True
  r x := .t (.int .i64 (if x = 0 then 20 else if x = 1 then 32 else 0))
  outs _ := []
  inj := by
    intro a b h _
    simp at h
    subst h; exact ⟨rfl, rfl⟩
theorem size_eq0 : ct_size.fs [.t (.int .i64 0)] [] = some (.t (.int .i64 20), []) := ct_size.eq (0 : Int) trivial
theorem size_eq1 : ct_size.fs [.t (.int .i64 1)] [] = some (.t (.int .i64 32), []) := ct_size.eq (1 : Int) trivial
def ct_fill : Ct where
  α := Nat × UInt8
  as x := [.t (.int .i64 x.1), .t (byteT x.2)]
  ins _ := []
  pre x := x.1 = 20 ∨ x.1 = 32
  r x := .sl 0 0 x.1
  outs x := [.live 1 (((List.replicate x.1 x.2).map byteT).map V.t) true false]
  inj := by
    rintro ⟨a, b⟩ ⟨c, d⟩ h _
    simp [byteT_eq, Int.natCast_inj] at h
    obtain ⟨rfl, rfl⟩ := h
    exact ⟨rfl, rfl⟩
theorem fill_eq20 {x : UInt8} : ct_fill.fs [.t (.int .i64 20), .t (byteT x)] [] = some (.sl 0 0 20, [.live 1 (((List.replicate 20 x).map byteT).map V.t) true false]) := ct_fill.eq (20, x) (.inl rfl)
theorem fill_eq32 {x : UInt8} : ct_fill.fs [.t (.int .i64 32), .t (byteT x)] [] = some (.sl 0 0 32, [.live 1 (((List.replicate 32 x).map byteT).map V.t) true false]) := ct_fill.eq (32, x) (.inr rfl)
theorem w_ref8_initial (tab : Tab) (gl : Gl) (n1 n2 : Nat) (h1 : tab.look n1 = some ct_size.fs) (h2 : tab.look n2 = some ct_fill.fs) (a : Nat) (ha : a < 2) (i : Nat) : (ac_ref8_initial n1 n2).wp tab gl (zipF 0 [.t (.int .i64 a), .t (.int .i64 i)]) (zipF 0 []) (resF [] [(4, none)] 0 (fun r o => r = .sl 0 0 (szA a) ∧ o = [.live 1 (((List.replicate (szA a) (newV i)).map byteT).map V.t) true false])) := by
  rcases (show a = 0 ∨ a = 1 by omega) with rfl | rfl <;> by_cases hi : i < 12
  all_goals simp (config := { maxSteps := 2000000 }) (disch := (first | omega | (simp only [lens, lenm]; omega))) only [go_sem, ↓reduceIte, Nat.reduceAdd, Nat.reduceEqDiff, Nat.reduceSub, Nat.reduceMul, Nat.reduceLT, Nat.reduceLeDiff, Nat.reduceBEq, Int.reduceEq, Int.reduceLT, Int.reduceLE, Int.reduceToNat, Int.reduceNeg, Int.reduceAdd, Int.reduceSub, Int.reduceMul, Int.reduceMod, Int.reduceDiv, reduceCtorEq, Nat.reducePow, Int.reducePow, ac_ref8_initial, h1, h2, size_eq0, size_eq1, fill_eq20, fill_eq32, szA]
  all_goals first | rw [newV_a hi] | rw [newV_b hi]
def ct_init : Ct where
  α := Nat × Nat
  as x := [.t (.int .i64 x.1), .t (.int .i64 x.2)]
  ins _ := []
  pre x := x.1 < 2
  r x := .sl 0 0 (szA x.1)
  outs x := [.live 1 (((List.replicate (szA x.1) (newV x.2)).map byteT).map V.t) true false]
  inj := by
    rintro ⟨a, b⟩ ⟨c, d⟩ h _
    simp [Int.natCast_inj] at h
    obtain ⟨rfl, rfl⟩ := h
    exact ⟨rfl, rfl⟩
theorem init_eq0 {i : Nat} : ct_init.fs [.t (.int .i64 0), .t (.int .i64 i)] [] = some (.sl 0 0 20, [.live 1 (((List.replicate 20 (newV i)).map byteT).map V.t) true false]) := ct_init.eq (0, i) (by simp [ct_init])
theorem init_eq1 {i : Nat} : ct_init.fs [.t (.int .i64 1), .t (.int .i64 i)] [] = some (.sl 0 0 32, [.live 1 (((List.replicate 32 (newV i)).map byteT).map V.t) true false]) := ct_init.eq (1, i) (by simp [ct_init])
theorem w_registers_New0 (tab : Tab) (gl : Gl) (n1 n2 : Nat) (s : Int) (h3 : s % 4 = 0) : (ac_registers_New n1 n2).wp tab gl (zipF 0 [.t (.int .i64 s)]) (zipF 0 []) (resF [] [(2, some (2, true))] 0 (fun r o => r = .agg [.nil, .t (.int .i64 0)] ∧ o = [])) := by
  simp (config := { maxSteps := 2000000 }) (disch := (first | omega | (simp only [lens, lenm]; omega))) only [go_sem, ↓reduceIte, Nat.reduceAdd, Nat.reduceEqDiff, Nat.reduceSub, Nat.reduceMul, Nat.reduceLT, Nat.reduceLeDiff, Nat.reduceBEq, Int.reduceEq, Int.reduceLT, Int.reduceLE, Int.reduceToNat, Int.reduceNeg, Int.reduceAdd, Int.reduceSub, Int.reduceMul, Int.reduceMod, Int.reduceDiv, reduceCtorEq, Nat.reducePow, Int.reducePow, ac_registers_New, h3]
theorem w_ref8_New0 (tab : Tab) (gl : Gl) (n1 : Nat) (s : Int) (h3 : s % 4 = 0) : (ac_ref8_New n1).wp tab gl (zipF 0 [.t (.int .i64 s)]) (zipF 0 []) (resF [] [(2, some (2, true))] 0 (fun r o => r = .agg [.nil, .t (.int .i64 0)] ∧ o = [])) := by
  simp (config := { maxSteps := 2000000 }) (disch := (first | omega | (simp only [lens, lenm]; omega))) only [go_sem, ↓reduceIte, Nat.reduceAdd, Nat.reduceEqDiff, Nat.reduceSub, Nat.reduceMul, Nat.reduceLT, Nat.reduceLeDiff, Nat.reduceBEq, Int.reduceEq, Int.reduceLT, Int.reduceLE, Int.reduceToNat, Int.reduceNeg, Int.reduceAdd, Int.reduceSub, Int.reduceMul, Int.reduceMod, Int.reduceDiv, reduceCtorEq, Nat.reducePow, Int.reducePow, ac_ref8_New, h3]
theorem w_registers_New (tab : Tab) (gl : Gl) (n1 n2 : Nat) (h1 : tab.look n1 = some ct_size.fs) (h2 : tab.look n2 = some ct_fill.fs) (s : Int) (h3 : ¬ s % 4 = 0) : (ac_registers_New n1 n2).wp tab gl (zipF 0 [.t (.int .i64 s)]) (zipF 0 []) (resF [] [(2, some (2, true))] 0 (fun r o => r = twR (newBk s) 0 ∧ o = twO (newBk s))) := by
  have h4 : (s % 4 == 0) = false := by simpa using h3
  have hf1 : s.fdiv 1 = s := Int.fdiv_one s
  have hf2 : s.fdiv 2 = s / 2 := Int.fdiv_eq_ediv_of_nonneg s (by omega)
  have hc0 : s % 2 = 0 ∨ s % 2 = 1 := by omega
  have hc1 : s / 2 % 2 = 0 ∨ s / 2 % 2 = 1 := by omega
  rcases hc0 with c0 | c0 <;> rcases hc1 with c1 | c1
  · exact absurd (by omega) h3
  · rw [newBk_of h3, if_neg (by omega), if_pos (by omega)]
    simp (config := { maxSteps := 2000000 }) (disch := (first | omega | (simp only [lens, lenm]; omega))) only [go_sem, ↓reduceIte, Nat.reduceAdd, Nat.reduceEqDiff, Nat.reduceSub, Nat.reduceMul, Nat.reduceLT, Nat.reduceLeDiff, Nat.reduceBEq, Int.reduceEq, Int.reduceLT, Int.reduceLE, Int.reduceToNat, Int.reduceNeg, Int.reduceAdd, Int.reduceSub, Int.reduceMul, Int.reduceMod, Int.reduceDiv, reduceCtorEq, Nat.reducePow, Int.reducePow, ac_registers_New, h4, hf1, hf2]
    refine loop_upto 2 (fun k => match k with | 0 => [(0, .t (.int .i64 s)), (2, .ref 4096 0 0), (3, .ref 16384 0 0), (12, .t (.int .i64 0))] | 1 => [(0, .t (.int .i64 s)), (2, .ref 4096 0 0), (3, .ref 16384 0 0), (12, .t (.int .i64 1))] | _ => [(0, .t (.int .i64 s)), (2, .ref 4096 0 0), (3, .ref 16384 0 0), (12, .t (.int .i64 2))]) (fun k => match k with | 0 => [(16384, .live 2 [.agg [.nil, .t (.int .i64 0)]] true true), (4096, .live 2 [.agg [.nil, .t (.int .i64 0)]] true true)] | 1 => [(16384, .live 2 [.agg [.sl 9000 0 1, .t (.int .i64 0)]] true true), (9000, .live 1 [.sl 9001 0 0] true false), (9001, .live 1 ((([] : Bank).map bsT).map V.t) true false), (4096, .live 2 [.agg [.nil, .t (.int .i64 0)]] true true)] | _ => [(16384, .live 2 [.agg [.sl 9000 0 2, .t (.int .i64 0)]] true true), (9000, .live 1 [.sl 9001 0 0, .sl 9002 0 16] true false), (9001, .live 1 ((([] : Bank).map bsT).map V.t) true false), (9002, .live 1 (((newB 1 : Bank).map bsT).map V.t) true false), (4096, .live 2 [.agg [.nil, .t (.int .i64 0)]] true true)]) ?_ (fun k hk => ?_)
    · refine Weak.rd id ?_ ?_ rfl
      all_goals simp (config := { maxSteps := 2000000 }) (disch := (first | omega | (simp only [lens, lenm]; omega))) only [go_sem, ↓reduceIte, Nat.reduceAdd, Nat.reduceEqDiff, Nat.reduceSub, Nat.reduceMul, Nat.reduceLT, Nat.reduceLeDiff, Nat.reduceBEq, Int.reduceEq, Int.reduceLT, Int.reduceLE, Int.reduceToNat, Int.reduceNeg, Int.reduceAdd, Int.reduceSub, Int.reduceMul, Int.reduceMod, Int.reduceDiv, reduceCtorEq, Nat.reducePow, Int.reducePow, id]
    · rcases (show k = 0 ∨ k = 1 ∨ k = 2 by omega) with rfl | rfl | rfl
      · simp (config := { maxSteps := 2000000 }) (disch := (first | omega | (simp only [lens, lenm]; omega))) only [go_sem, ↓reduceIte, Nat.reduceAdd, Nat.reduceEqDiff, Nat.reduceSub, Nat.reduceMul, Nat.reduceLT, Nat.reduceLeDiff, Nat.reduceBEq, Int.reduceEq, Int.reduceLT, Int.reduceLE, Int.reduceToNat, Int.reduceNeg, Int.reduceAdd, Int.reduceSub, Int.reduceMul, Int.reduceMod, Int.reduceDiv, reduceCtorEq, Nat.reducePow, Int.reducePow, ac_registers_New_L0, c0, c1, newB_length, h1, h2, size_eq0, size_eq1, fill_eq20, fill_eq32, hf1, hf2]
        refine loop_fuel 1 ?_
        simp (config := { maxSteps := 2000000 }) (disch := (first | omega | (simp only [lens, lenm]; omega))) only [go_sem, ↓reduceIte, Nat.reduceAdd, Nat.reduceEqDiff, Nat.reduceSub, Nat.reduceMul, Nat.reduceLT, Nat.reduceLeDiff, Nat.reduceBEq, Int.reduceEq, Int.reduceLT, Int.reduceLE, Int.reduceToNat, Int.reduceNeg, Int.reduceAdd, Int.reduceSub, Int.reduceMul, Int.reduceMod, Int.reduceDiv, reduceCtorEq, Nat.reducePow, Int.reducePow, loopN_succ, ac_registers_New_L1, c0, c1, newB_length, h1, h2, size_eq0, size_eq1, fill_eq20, fill_eq32, hf1, hf2]
        refine Weak.trans (fs' := [(0, .t (.int .i64 s)), (2, .ref 4096 0 0), (3, .ref 16384 0 0), (12, .t (.int .i64 1))]) (Weak.cv0 (hv := [(9001, .live 1 [] true false)]) (ho := [(16384, .live 2 [.agg [.sl 9000 0 1, .t (.int .i64 0)]] true true), (9000, .live 1 [.sl 9001 0 0] true false), (4096, .live 2 [.agg [.nil, .t (.int .i64 0)]] true true)]) (fun j => if j = 9000 then 65600 else j) ?_ ?_ rfl rfl) (Weak.rd id ?_ ?_ rfl)
        all_goals simp (config := { maxSteps := 2000000 }) (disch := (first | omega | (simp only [lens, lenm]; omega))) only [go_sem, ↓reduceIte, Nat.reduceAdd, Nat.reduceEqDiff, Nat.reduceSub, Nat.reduceMul, Nat.reduceLT, Nat.reduceLeDiff, Nat.reduceBEq, Int.reduceEq, Int.reduceLT, Int.reduceLE, Int.reduceToNat, Int.reduceNeg, Int.reduceAdd, Int.reduceSub, Int.reduceMul, Int.reduceMod, Int.reduceDiv, reduceCtorEq, Nat.reducePow, Int.reducePow, List.map_cons, List.map_nil, id]
      · simp (config := { maxSteps := 2000000 }) (disch := (first | omega | (simp only [lens, lenm]; omega))) only [go_sem, ↓reduceIte, Nat.reduceAdd, Nat.reduceEqDiff, Nat.reduceSub, Nat.reduceMul, Nat.reduceLT, Nat.reduceLeDiff, Nat.reduceBEq, Int.reduceEq, Int.reduceLT, Int.reduceLE, Int.reduceToNat, Int.reduceNeg, Int.reduceAdd, Int.reduceSub, Int.reduceMul, Int.reduceMod, Int.reduceDiv, reduceCtorEq, Nat.reducePow, Int.reducePow, ac_registers_New_L0, c0, c1, newB_length, h1, h2, size_eq0, size_eq1, fill_eq20, fill_eq32, hf1, hf2]
        refine loop_upto 16 (fun i => [(0, .t (.int .i64 s)), (2, .ref 4096 0 0), (3, .ref 16384 0 0), (12, .t (.int .i64 1)), (4, .t (.int .i64 1)), (5, .sl 9100 0 i), (6, .t (.int .i64 (i : Nat)))]) (fun i => [(9100, .live 1 ((((newB 1).take i).map bsT).map V.t) true false), (16384, .live 2 [.agg [.sl 9000 0 1, .t (.int .i64 0)]] true true), (9000, .live 1 [.sl 9001 0 0] true false), (9001, .live 1 ((([] : Bank).map bsT).map V.t) true false), (4096, .live 2 [.agg [.nil, .t (.int .i64 0)]] true true)]) ?_ (fun i hi => ?_)
        · refine Weak.cv0 (hv := [(9100, .live 1 [] true false)]) (ho := [(16384, .live 2 [.agg [.sl 9000 0 1, .t (.int .i64 0)]] true true), (9000, .live 1 [.sl 9001 0 0] true false), (9001, .live 1 ((([] : Bank).map bsT).map V.t) true false), (4096, .live 2 [.agg [.nil, .t (.int .i64 0)]] true true)]) id ?_ ?_ rfl rfl
          all_goals simp (config := { maxSteps := 2000000 }) (disch := (first | omega | (simp only [lens, lenm]; omega))) only [go_sem, ↓reduceIte, Nat.reduceAdd, Nat.reduceEqDiff, Nat.reduceSub, Nat.reduceMul, Nat.reduceLT, Nat.reduceLeDiff, Nat.reduceBEq, Int.reduceEq, Int.reduceLT, Int.reduceLE, Int.reduceToNat, Int.reduceNeg, Int.reduceAdd, Int.reduceSub, Int.reduceMul, Int.reduceMod, Int.reduceDiv, reduceCtorEq, Nat.reducePow, Int.reducePow, List.map_cons, List.map_nil, id]
        · by_cases hlt : i < 16
          · by_cases h12 : i < 12
            · simp (config := { maxSteps := 2000000 }) (disch := (first | omega | (simp only [lens, lenm]; omega))) only [go_sem, ↓reduceIte, Nat.reduceAdd, Nat.reduceEqDiff, Nat.reduceSub, Nat.reduceMul, Nat.reduceLT, Nat.reduceLeDiff, Nat.reduceBEq, Int.reduceEq, Int.reduceLT, Int.reduceLE, Int.reduceToNat, Int.reduceNeg, Int.reduceAdd, Int.reduceSub, Int.reduceMul, Int.reduceMod, Int.reduceDiv, reduceCtorEq, Nat.reducePow, Int.reducePow, ac_registers_New_L1, c0, c1, newB_length, h1, h2, size_eq0, size_eq1, fill_eq20, fill_eq32, hf1, hf2]
              refine ⟨hlt, Weak.cv (hv := []) [61504] (fun j => if j = 9100 then 61536 else j) ?_ rfl⟩
              simp (config := { maxSteps := 2000000 }) (disch := (first | omega | (simp only [lens, lenm]; omega))) only [go_sem, ↓reduceIte, Nat.reduceAdd, Nat.reduceEqDiff, Nat.reduceSub, Nat.reduceMul, Nat.reduceLT, Nat.reduceLeDiff, Nat.reduceBEq, Int.reduceEq, Int.reduceLT, Int.reduceLE, Int.reduceToNat, Int.reduceNeg, Int.reduceAdd, Int.reduceSub, Int.reduceMul, Int.reduceMod, Int.reduceDiv, reduceCtorEq, Nat.reducePow, Int.reducePow, newB_take hlt, szA, List.take_replicate, Nat.min_self, newV_a h12]
              rfl
            · simp (config := { maxSteps := 2000000 }) (disch := (first | omega | (simp only [lens, lenm]; omega))) only [go_sem, ↓reduceIte, Nat.reduceAdd, Nat.reduceEqDiff, Nat.reduceSub, Nat.reduceMul, Nat.reduceLT, Nat.reduceLeDiff, Nat.reduceBEq, Int.reduceEq, Int.reduceLT, Int.reduceLE, Int.reduceToNat, Int.reduceNeg, Int.reduceAdd, Int.reduceSub, Int.reduceMul, Int.reduceMod, Int.reduceDiv, reduceCtorEq, Nat.reducePow, Int.reducePow, ac_registers_New_L1, c0, c1, newB_length, h1, h2, size_eq0, size_eq1, fill_eq20, fill_eq32, hf1, hf2]
              refine ⟨hlt, Weak.cv (hv := []) [61504] (fun j => if j = 9100 then 61536 else j) ?_ rfl⟩
              simp (config := { maxSteps := 2000000 }) (disch := (first | omega | (simp only [lens, lenm]; omega))) only [go_sem, ↓reduceIte, Nat.reduceAdd, Nat.reduceEqDiff, Nat.reduceSub, Nat.reduceMul, Nat.reduceLT, Nat.reduceLeDiff, Nat.reduceBEq, Int.reduceEq, Int.reduceLT, Int.reduceLE, Int.reduceToNat, Int.reduceNeg, Int.reduceAdd, Int.reduceSub, Int.reduceMul, Int.reduceMod, Int.reduceDiv, reduceCtorEq, Nat.reducePow, Int.reducePow, newB_take hlt, szA, List.take_replicate, Nat.min_self, newV_b h12]
              rfl
          · have e : i = 16 := by omega
            subst e
            simp (config := { maxSteps := 2000000 }) (disch := (first | omega | (simp only [lens, lenm]; omega))) only [go_sem, ↓reduceIte, Nat.reduceAdd, Nat.reduceEqDiff, Nat.reduceSub, Nat.reduceMul, Nat.reduceLT, Nat.reduceLeDiff, Nat.reduceBEq, Int.reduceEq, Int.reduceLT, Int.reduceLE, Int.reduceToNat, Int.reduceNeg, Int.reduceAdd, Int.reduceSub, Int.reduceMul, Int.reduceMod, Int.reduceDiv, reduceCtorEq, Nat.reducePow, Int.reducePow, ac_registers_New_L1, c0, c1, newB_length, h1, h2, size_eq0, size_eq1, fill_eq20, fill_eq32, hf1, hf2]
            refine Weak.rd (fun j => if j = 9000 then 65600 else if j = 9002 then 9100 else j) ?_ ?_ rfl
            all_goals simp (config := { maxSteps := 2000000 }) (disch := (first | omega | (simp only [lens, lenm]; omega))) only [go_sem, ↓reduceIte, Nat.reduceAdd, Nat.reduceEqDiff, Nat.reduceSub, Nat.reduceMul, Nat.reduceLT, Nat.reduceLeDiff, Nat.reduceBEq, Int.reduceEq, Int.reduceLT, Int.reduceLE, Int.reduceToNat, Int.reduceNeg, Int.reduceAdd, Int.reduceSub, Int.reduceMul, Int.reduceMod, Int.reduceDiv, reduceCtorEq, Nat.reducePow, Int.reducePow, newB_all]
      · simp (config := { maxSteps := 2000000 }) (disch := (first | omega | (simp only [lens, lenm]; omega))) only [go_sem, ↓reduceIte, Nat.reduceAdd, Nat.reduceEqDiff, Nat.reduceSub, Nat.reduceMul, Nat.reduceLT, Nat.reduceLeDiff, Nat.reduceBEq, Int.reduceEq, Int.reduceLT, Int.reduceLE, Int.reduceToNat, Int.reduceNeg, Int.reduceAdd, Int.reduceSub, Int.reduceMul, Int.reduceMod, Int.reduceDiv, reduceCtorEq, Nat.reducePow, Int.reducePow, ac_registers_New_L0, c0, c1, newB_length, h1, h2, size_eq0, size_eq1, fill_eq20, fill_eq32, hf1, hf2]
        exact ⟨rfl, rfl⟩
  · rw [newBk_of h3, if_pos (by omega), if_neg (by omega)]
    simp (config := { maxSteps := 2000000 }) (disch := (first | omega | (simp only [lens, lenm]; omega))) only [go_sem, ↓reduceIte, Nat.reduceAdd, Nat.reduceEqDiff, Nat.reduceSub, Nat.reduceMul, Nat.reduceLT, Nat.reduceLeDiff, Nat.reduceBEq, Int.reduceEq, Int.reduceLT, Int.reduceLE, Int.reduceToNat, Int.reduceNeg, Int.reduceAdd, Int.reduceSub, Int.reduceMul, Int.reduceMod, Int.reduceDiv, reduceCtorEq, Nat.reducePow, Int.reducePow, ac_registers_New, h4, hf1, hf2]
    refine loop_upto 2 (fun k => match k with | 0 => [(0, .t (.int .i64 s)), (2, .ref 4096 0 0), (3, .ref 16384 0 0), (12, .t (.int .i64 0))] | 1 => [(0, .t (.int .i64 s)), (2, .ref 4096 0 0), (3, .ref 16384 0 0), (12, .t (.int .i64 1))] | _ => [(0, .t (.int .i64 s)), (2, .ref 4096 0 0), (3, .ref 16384 0 0), (12, .t (.int .i64 2))]) (fun k => match k with | 0 => [(16384, .live 2 [.agg [.nil, .t (.int .i64 0)]] true true), (4096, .live 2 [.agg [.nil, .t (.int .i64 0)]] true true)] | 1 => [(16384, .live 2 [.agg [.sl 9000 0 1, .t (.int .i64 0)]] true true), (9000, .live 1 [.sl 9001 0 16] true false), (9001, .live 1 (((newB 0 : Bank).map bsT).map V.t) true false), (4096, .live 2 [.agg [.nil, .t (.int .i64 0)]] true true)] | _ => [(16384, .live 2 [.agg [.sl 9000 0 2, .t (.int .i64 0)]] true true), (9000, .live 1 [.sl 9001 0 16, .sl 9002 0 0] true false), (9001, .live 1 (((newB 0 : Bank).map bsT).map V.t) true false), (9002, .live 1 ((([] : Bank).map bsT).map V.t) true false), (4096, .live 2 [.agg [.nil, .t (.int .i64 0)]] true true)]) ?_ (fun k hk => ?_)
    · refine Weak.rd id ?_ ?_ rfl
      all_goals simp (config := { maxSteps := 2000000 }) (disch := (first | omega | (simp only [lens, lenm]; omega))) only [go_sem, ↓reduceIte, Nat.reduceAdd, Nat.reduceEqDiff, Nat.reduceSub, Nat.reduceMul, Nat.reduceLT, Nat.reduceLeDiff, Nat.reduceBEq, Int.reduceEq, Int.reduceLT, Int.reduceLE, Int.reduceToNat, Int.reduceNeg, Int.reduceAdd, Int.reduceSub, Int.reduceMul, Int.reduceMod, Int.reduceDiv, reduceCtorEq, Nat.reducePow, Int.reducePow, id]
    · rcases (show k = 0 ∨ k = 1 ∨ k = 2 by omega) with rfl | rfl | rfl
      · simp (config := { maxSteps := 2000000 }) (disch := (first | omega | (simp only [lens, lenm]; omega))) only [go_sem, ↓reduceIte, Nat.reduceAdd, Nat.reduceEqDiff, Nat.reduceSub, Nat.reduceMul, Nat.reduceLT, Nat.reduceLeDiff, Nat.reduceBEq, Int.reduceEq, Int.reduceLT, Int.reduceLE, Int.reduceToNat, Int.reduceNeg, Int.reduceAdd, Int.reduceSub, Int.reduceMul, Int.reduceMod, Int.reduceDiv, reduceCtorEq, Nat.reducePow, Int.reducePow, ac_registers_New_L0, c0, c1, newB_length, h1, h2, size_eq0, size_eq1, fill_eq20, fill_eq32, hf1, hf2]
        refine loop_upto 16 (fun i => [(0, .t (.int .i64 s)), (2, .ref 4096 0 0), (3, .ref 16384 0 0), (12, .t (.int .i64 0)), (4, .t (.int .i64 0)), (5, .sl 9100 0 i), (6, .t (.int .i64 (i : Nat)))]) (fun i => [(9100, .live 1 ((((newB 0).take i).map bsT).map V.t) true false), (16384, .live 2 [.agg [.nil, .t (.int .i64 0)]] true true), (4096, .live 2 [.agg [.nil, .t (.int .i64 0)]] true true)]) ?_ (fun i hi => ?_)
        · refine Weak.cv0 (hv := [(9100, .live 1 [] true false)]) (ho := [(16384, .live 2 [.agg [.nil, .t (.int .i64 0)]] true true), (4096, .live 2 [.agg [.nil, .t (.int .i64 0)]] true true)]) id ?_ ?_ rfl rfl
          all_goals simp (config := { maxSteps := 2000000 }) (disch := (first | omega | (simp only [lens, lenm]; omega))) only [go_sem, ↓reduceIte, Nat.reduceAdd, Nat.reduceEqDiff, Nat.reduceSub, Nat.reduceMul, Nat.reduceLT, Nat.reduceLeDiff, Nat.reduceBEq, Int.reduceEq, Int.reduceLT, Int.reduceLE, Int.reduceToNat, Int.reduceNeg, Int.reduceAdd, Int.reduceSub, Int.reduceMul, Int.reduceMod, Int.reduceDiv, reduceCtorEq, Nat.reducePow, Int.reducePow, List.map_cons, List.map_nil, id]
        · by_cases hlt : i < 16
          · by_cases h12 : i < 12
            · simp (config := { maxSteps := 2000000 }) (disch := (first | omega | (simp only [lens, lenm]; omega))) only [go_sem, ↓reduceIte, Nat.reduceAdd, Nat.reduceEqDiff, Nat.reduceSub, Nat.reduceMul, Nat.reduceLT, Nat.reduceLeDiff, Nat.reduceBEq, Int.reduceEq, Int.reduceLT, Int.reduceLE, Int.reduceToNat, Int.reduceNeg, Int.reduceAdd, Int.reduceSub, Int.reduceMul, Int.reduceMod, Int.reduceDiv, reduceCtorEq, Nat.reducePow, Int.reducePow, ac_registers_New_L1, c0, c1, newB_length, h1, h2, size_eq0, size_eq1, fill_eq20, fill_eq32, hf1, hf2]
              refine ⟨hlt, Weak.cv (hv := []) [61504] (fun j => if j = 9100 then 61536 else j) ?_ rfl⟩
              simp (config := { maxSteps := 2000000 }) (disch := (first | omega | (simp only [lens, lenm]; omega))) only [go_sem, ↓reduceIte, Nat.reduceAdd, Nat.reduceEqDiff, Nat.reduceSub, Nat.reduceMul, Nat.reduceLT, Nat.reduceLeDiff, Nat.reduceBEq, Int.reduceEq, Int.reduceLT, Int.reduceLE, Int.reduceToNat, Int.reduceNeg, Int.reduceAdd, Int.reduceSub, Int.reduceMul, Int.reduceMod, Int.reduceDiv, reduceCtorEq, Nat.reducePow, Int.reducePow, newB_take hlt, szA, List.take_replicate, Nat.min_self, newV_a h12]
              rfl
            · simp (config := { maxSteps := 2000000 }) (disch := (first | omega | (simp only [lens, lenm]; omega))) only [go_sem, ↓reduceIte, Nat.reduceAdd, Nat.reduceEqDiff, Nat.reduceSub, Nat.reduceMul, Nat.reduceLT, Nat.reduceLeDiff, Nat.reduceBEq, Int.reduceEq, Int.reduceLT, Int.reduceLE, Int.reduceToNat, Int.reduceNeg, Int.reduceAdd, Int.reduceSub, Int.reduceMul, Int.reduceMod, Int.reduceDiv, reduceCtorEq, Nat.reducePow, Int.reducePow, ac_registers_New_L1, c0, c1, newB_length, h1, h2, size_eq0, size_eq1, fill_eq20, fill_eq32, hf1, hf2]
              refine ⟨hlt, Weak.cv (hv := []) [61504] (fun j => if j = 9100 then 61536 else j) ?_ rfl⟩
              simp (config := { maxSteps := 2000000 }) (disch := (first | omega | (simp only [lens, lenm]; omega))) only [go_sem, ↓reduceIte, Nat.reduceAdd, Nat.reduceEqDiff, Nat.reduceSub, Nat.reduceMul, Nat.reduceLT, Nat.reduceLeDiff, Nat.reduceBEq, Int.reduceEq, Int.reduceLT, Int.reduceLE, Int.reduceToNat, Int.reduceNeg, Int.reduceAdd, Int.reduceSub, Int.reduceMul, Int.reduceMod, Int.reduceDiv, reduceCtorEq, Nat.reducePow, Int.reducePow, newB_take hlt, szA, List.take_replicate, Nat.min_self, newV_b h12]
              rfl
          · have e : i = 16 := by omega
            subst e
            simp (config := { maxSteps := 2000000 }) (disch := (first | omega | (simp only [lens, lenm]; omega))) only [go_sem, ↓reduceIte, Nat.reduceAdd, Nat.reduceEqDiff, Nat.reduceSub, Nat.reduceMul, Nat.reduceLT, Nat.reduceLeDiff, Nat.reduceBEq, Int.reduceEq, Int.reduceLT, Int.reduceLE, Int.reduceToNat, Int.reduceNeg, Int.reduceAdd, Int.reduceSub, Int.reduceMul, Int.reduceMod, Int.reduceDiv, reduceCtorEq, Nat.reducePow, Int.reducePow, ac_registers_New_L1, c0, c1, newB_length, h1, h2, size_eq0, size_eq1, fill_eq20, fill_eq32, hf1, hf2]
            refine Weak.rd (fun j => if j = 9000 then 65600 else if j = 9001 then 9100 else j) ?_ ?_ rfl
            all_goals simp (config := { maxSteps := 2000000 }) (disch := (first | omega | (simp only [lens, lenm]; omega))) only [go_sem, ↓reduceIte, Nat.reduceAdd, Nat.reduceEqDiff, Nat.reduceSub, Nat.reduceMul, Nat.reduceLT, Nat.reduceLeDiff, Nat.reduceBEq, Int.reduceEq, Int.reduceLT, Int.reduceLE, Int.reduceToNat, Int.reduceNeg, Int.reduceAdd, Int.reduceSub, Int.reduceMul, Int.reduceMod, Int.reduceDiv, reduceCtorEq, Nat.reducePow, Int.reducePow, newB_all]
      · simp (config := { maxSteps := 2000000 }) (disch := (first | omega | (simp only [lens, lenm]; omega))) only [go_sem, ↓reduceIte, Nat.reduceAdd, Nat.reduceEqDiff, Nat.reduceSub, Nat.reduceMul, Nat.reduceLT, Nat.reduceLeDiff, Nat.reduceBEq, Int.reduceEq, Int.reduceLT, Int.reduceLE, Int.reduceToNat, Int.reduceNeg, Int.reduceAdd, Int.reduceSub, Int.reduceMul, Int.reduceMod, Int.reduceDiv, reduceCtorEq, Nat.reducePow, Int.reducePow, ac_registers_New_L0, c0, c1, newB_length, h1, h2, size_eq0, size_eq1, fill_eq20, fill_eq32, hf1, hf2]
        refine loop_fuel 1 ?_
        simp (config := { maxSteps := 2000000 }) (disch := (first | omega | (simp only [lens, lenm]; omega))) only [go_sem, ↓reduceIte, Nat.reduceAdd, Nat.reduceEqDiff, Nat.reduceSub, Nat.reduceMul, Nat.reduceLT, Nat.reduceLeDiff, Nat.reduceBEq, Int.reduceEq, Int.reduceLT, Int.reduceLE, Int.reduceToNat, Int.reduceNeg, Int.reduceAdd, Int.reduceSub, Int.reduceMul, Int.reduceMod, Int.reduceDiv, reduceCtorEq, Nat.reducePow, Int.reducePow, loopN_succ, ac_registers_New_L1, c0, c1, newB_length, h1, h2, size_eq0, size_eq1, fill_eq20, fill_eq32, hf1, hf2]
        refine Weak.trans (fs' := [(0, .t (.int .i64 s)), (2, .ref 4096 0 0), (3, .ref 16384 0 0), (12, .t (.int .i64 2))]) (Weak.cv0 (hv := [(9002, .live 1 [] true false)]) (ho := [(16384, .live 2 [.agg [.sl 9000 0 2, .t (.int .i64 0)]] true true), (9000, .live 1 [.sl 9001 0 16, .sl 9002 0 0] true false), (9001, .live 1 (((newB 0 : Bank).map bsT).map V.t) true false), (4096, .live 2 [.agg [.nil, .t (.int .i64 0)]] true true)]) (fun j => if j = 9000 then 65600 else j) ?_ ?_ rfl rfl) (Weak.rd id ?_ ?_ rfl)
        all_goals simp (config := { maxSteps := 2000000 }) (disch := (first | omega | (simp only [lens, lenm]; omega))) only [go_sem, ↓reduceIte, Nat.reduceAdd, Nat.reduceEqDiff, Nat.reduceSub, Nat.reduceMul, Nat.reduceLT, Nat.reduceLeDiff, Nat.reduceBEq, Int.reduceEq, Int.reduceLT, Int.reduceLE, Int.reduceToNat, Int.reduceNeg, Int.reduceAdd, Int.reduceSub, Int.reduceMul, Int.reduceMod, Int.reduceDiv, reduceCtorEq, Nat.reducePow, Int.reducePow, List.map_cons, List.map_nil, id]
      · simp (config := { maxSteps := 2000000 }) (disch := (first | omega | (simp only [lens, lenm]; omega))) only [go_sem, ↓reduceIte, Nat.reduceAdd, Nat.reduceEqDiff, Nat.reduceSub, Nat.reduceMul, Nat.reduceLT, Nat.reduceLeDiff, Nat.reduceBEq, Int.reduceEq, Int.reduceLT, Int.reduceLE, Int.reduceToNat, Int.reduceNeg, Int.reduceAdd, Int.reduceSub, Int.reduceMul, Int.reduceMod, Int.reduceDiv, reduceCtorEq, Nat.reducePow, Int.reducePow, ac_registers_New_L0, c0, c1, newB_length, h1, h2, size_eq0, size_eq1, fill_eq20, fill_eq32, hf1, hf2]
        exact ⟨rfl, rfl⟩
  · rw [newBk_of h3, if_pos (by omega), if_pos (by omega)]
    simp (config := { maxSteps := 2000000 }) (disch := (first | omega | (simp only [lens, lenm]; omega))) only [go_sem, ↓reduceIte, Nat.reduceAdd, Nat.reduceEqDiff, Nat.reduceSub, Nat.reduceMul, Nat.reduceLT, Nat.reduceLeDiff, Nat.reduceBEq, Int.reduceEq, Int.reduceLT, Int.reduceLE, Int.reduceToNat, Int.reduceNeg, Int.reduceAdd, Int.reduceSub, Int.reduceMul, Int.reduceMod, Int.reduceDiv, reduceCtorEq, Nat.reducePow, Int.reducePow, ac_registers_New, h4, hf1, hf2]
    refine loop_upto 2 (fun k => match k with | 0 => [(0, .t (.int .i64 s)), (2, .ref 4096 0 0), (3, .ref 16384 0 0), (12, .t (.int .i64 0))] | 1 => [(0, .t (.int .i64 s)), (2, .ref 4096 0 0), (3, .ref 16384 0 0), (12, .t (.int .i64 1))] | _ => [(0, .t (.int .i64 s)), (2, .ref 4096 0 0), (3, .ref 16384 0 0), (12, .t (.int .i64 2))]) (fun k => match k with | 0 => [(16384, .live 2 [.agg [.nil, .t (.int .i64 0)]] true true), (4096, .live 2 [.agg [.nil, .t (.int .i64 0)]] true true)] | 1 => [(16384, .live 2 [.agg [.sl 9000 0 1, .t (.int .i64 0)]] true true), (9000, .live 1 [.sl 9001 0 16] true false), (9001, .live 1 (((newB 0 : Bank).map bsT).map V.t) true false), (4096, .live 2 [.agg [.nil, .t (.int .i64 0)]] true true)] | _ => [(16384, .live 2 [.agg [.sl 9000 0 2, .t (.int .i64 0)]] true true), (9000, .live 1 [.sl 9001 0 16, .sl 9002 0 16] true false), (9001, .live 1 (((newB 0 : Bank).map bsT).map V.t) true false), (9002, .live 1 (((newB 1 : Bank).map bsT).map V.t) true false), (4096, .live 2 [.agg [.nil, .t (.int .i64 0)]] true true)]) ?_ (fun k hk => ?_)
    · refine Weak.rd id ?_ ?_ rfl
      all_goals simp (config := { maxSteps := 2000000 }) (disch := (first | omega | (simp only [lens, lenm]; omega))) only [go_sem, ↓reduceIte, Nat.reduceAdd, Nat.reduceEqDiff, Nat.reduceSub, Nat.reduceMul, Nat.reduceLT, Nat.reduceLeDiff, Nat.reduceBEq, Int.reduceEq, Int.reduceLT, Int.reduceLE, Int.reduceToNat, Int.reduceNeg, Int.reduceAdd, Int.reduceSub, Int.reduceMul, Int.reduceMod, Int.reduceDiv, reduceCtorEq, Nat.reducePow, Int.reducePow, id]
    · rcases (show k = 0 ∨ k = 1 ∨ k = 2 by omega) with rfl | rfl | rfl
      · simp (config := { maxSteps := 2000000 }) (disch := (first | omega | (simp only [lens, lenm]; omega))) only [go_sem, ↓reduceIte, Nat.reduceAdd, Nat.reduceEqDiff, Nat.reduceSub, Nat.reduceMul, Nat.reduceLT, Nat.reduceLeDiff, Nat.reduceBEq, Int.reduceEq, Int.reduceLT, Int.reduceLE, Int.reduceToNat, Int.reduceNeg, Int.reduceAdd, Int.reduceSub, Int.reduceMul, Int.reduceMod, Int.reduceDiv, reduceCtorEq, Nat.reducePow, Int.reducePow, ac_registers_New_L0, c0, c1, newB_length, h1, h2, size_eq0, size_eq1, fill_eq20, fill_eq32, hf1, hf2]
        refine loop_upto 16 (fun i => [(0, .t (.int .i64 s)), (2, .ref 4096 0 0), (3, .ref 16384 0 0), (12, .t (.int .i64 0)), (4, .t (.int .i64 0)), (5, .sl 9100 0 i), (6, .t (.int .i64 (i : Nat)))]) (fun i => [(9100, .live 1 ((((newB 0).take i).map bsT).map V.t) true false), (16384, .live 2 [.agg [.nil, .t (.int .i64 0)]] true true), (4096, .live 2 [.agg [.nil, .t (.int .i64 0)]] true true)]) ?_ (fun i hi => ?_)
        · refine Weak.cv0 (hv := [(9100, .live 1 [] true false)]) (ho := [(16384, .live 2 [.agg [.nil, .t (.int .i64 0)]] true true), (4096, .live 2 [.agg [.nil, .t (.int .i64 0)]] true true)]) id ?_ ?_ rfl rfl
          all_goals simp (config := { maxSteps := 2000000 }) (disch := (first | omega | (simp only [lens, lenm]; omega))) only [go_sem, ↓reduceIte, Nat.reduceAdd, Nat.reduceEqDiff, Nat.reduceSub, Nat.reduceMul, Nat.reduceLT, Nat.reduceLeDiff, Nat.reduceBEq, Int.reduceEq, Int.reduceLT, Int.reduceLE, Int.reduceToNat, Int.reduceNeg, Int.reduceAdd, Int.reduceSub, Int.reduceMul, Int.reduceMod, Int.reduceDiv, reduceCtorEq, Nat.reducePow, Int.reducePow, List.map_cons, List.map_nil, id]
        · by_cases hlt : i < 16
          · by_cases h12 : i < 12
            · simp (config := { maxSteps := 2000000 }) (disch := (first | omega | (simp only [lens, lenm]; omega))) only [go_sem, ↓reduceIte, Nat.reduceAdd, Nat.reduceEqDiff, Nat.reduceSub, Nat.reduceMul, Nat.reduceLT, Nat.reduceLeDiff, Nat.reduceBEq, Int.reduceEq, Int.reduceLT, Int.reduceLE, Int.reduceToNat, Int.reduceNeg, Int.reduceAdd, Int.reduceSub, Int.reduceMul, Int.reduceMod, Int.reduceDiv, reduceCtorEq, Nat.reducePow, Int.reducePow, ac_registers_New_L1, c0, c1, newB_length, h1, h2, size_eq0, size_eq1, fill_eq20, fill_eq32, hf1, hf2]
              refine ⟨hlt, Weak.cv (hv := []) [61504] (fun j => if j = 9100 then 61536 else j) ?_ rfl⟩
              simp (config := { maxSteps := 2000000 }) (disch := (first | omega | (simp only [lens, lenm]; omega))) only [go_sem, ↓reduceIte, Nat.reduceAdd, Nat.reduceEqDiff, Nat.reduceSub, Nat.reduceMul, Nat.reduceLT, Nat.reduceLeDiff, Nat.reduceBEq, Int.reduceEq, Int.reduceLT, Int.reduceLE, Int.reduceToNat, Int.reduceNeg, Int.reduceAdd, Int.reduceSub, Int.reduceMul, Int.reduceMod, Int.reduceDiv, reduceCtorEq, Nat.reducePow, Int.reducePow, newB_take hlt, szA, List.take_replicate, Nat.min_self, newV_a h12]
              rfl
            · simp (config := { maxSteps := 2000000 }) (disch := (first | omega | (simp only [lens, lenm]; omega))) only [go_sem, ↓reduceIte, Nat.reduceAdd, Nat.reduceEqDiff, Nat.reduceSub, Nat.reduceMul, Nat.reduceLT, Nat.reduceLeDiff, Nat.reduceBEq, Int.reduceEq, Int.reduceLT, Int.reduceLE, Int.reduceToNat, Int.reduceNeg, Int.reduceAdd, Int.reduceSub, Int.reduceMul, Int.reduceMod, Int.reduceDiv, reduceCtorEq, Nat.reducePow, Int.reducePow, ac_registers_New_L1, c0, c1, newB_length, h1, h2, size_eq0, size_eq1, fill_eq20, fill_eq32, hf1, hf2]
              refine ⟨hlt, Weak.cv (hv := []) [61504] (fun j => if j = 9100 then 61536 else j) ?_ rfl⟩
              simp (config := { maxSteps := 2000000 }) (disch := (first | omega | (simp only [lens, lenm]; omega))) only [go_sem, ↓reduceIte, Nat.reduceAdd, Nat.reduceEqDiff, Nat.reduceSub, Nat.reduceMul, Nat.reduceLT, Nat.reduceLeDiff, Nat.reduceBEq, Int.reduceEq, Int.reduceLT, Int.reduceLE, Int.reduceToNat, Int.reduceNeg, Int.reduceAdd, Int.reduceSub, Int.reduceMul, Int.reduceMod, Int.reduceDiv, reduceCtorEq, Nat.reducePow, Int.reducePow, newB_take hlt, szA, List.take_replicate, Nat.min_self, newV_b h12]
              rfl
          · have e : i = 16 := by omega
            subst e
            simp (config := { maxSteps := 2000000 }) (disch := (first | omega | (simp only [lens, lenm]; omega))) only [go_sem, ↓reduceIte, Nat.reduceAdd, Nat.reduceEqDiff, Nat.reduceSub, Nat.reduceMul, Nat.reduceLT, Nat.reduceLeDiff, Nat.reduceBEq, Int.reduceEq, Int.reduceLT, Int.reduceLE, Int.reduceToNat, Int.reduceNeg, Int.reduceAdd, Int.reduceSub, Int.reduceMul, Int.reduceMod, Int.reduceDiv, reduceCtorEq, Nat.reducePow, Int.reducePow, ac_registers_New_L1, c0, c1, newB_length, h1, h2, size_eq0, size_eq1, fill_eq20, fill_eq32, hf1, hf2]
            refine Weak.rd (fun j => if j = 9000 then 65600 else if j = 9001 then 9100 else j) ?_ ?_ rfl
            all_goals simp (config := { maxSteps := 2000000 }) (disch := (first | omega | (simp only [lens, lenm]; omega))) only [go_sem, ↓reduceIte, Nat.reduceAdd, Nat.reduceEqDiff, Nat.reduceSub, Nat.reduceMul, Nat.reduceLT, Nat.reduceLeDiff, Nat.reduceBEq, Int.reduceEq, Int.reduceLT, Int.reduceLE, Int.reduceToNat, Int.reduceNeg, Int.reduceAdd, Int.reduceSub, Int.reduceMul, Int.reduceMod, Int.reduceDiv, reduceCtorEq, Nat.reducePow, Int.reducePow, newB_all]
      · simp (config := { maxSteps := 2000000 }) (disch := (first | omega | (simp only [lens, lenm]; omega))) only [go_sem, ↓reduceIte, Nat.reduceAdd, Nat.reduceEqDiff, Nat.reduceSub, Nat.reduceMul, Nat.reduceLT, Nat.reduceLeDiff, Nat.reduceBEq, Int.reduceEq, Int.reduceLT, Int.reduceLE, Int.reduceToNat, Int.reduceNeg, Int.reduceAdd, Int.reduceSub, Int.reduceMul, Int.reduceMod, Int.reduceDiv, reduceCtorEq, Nat.reducePow, Int.reducePow, ac_registers_New_L0, c0, c1, newB_length, h1, h2, size_eq0, size_eq1, fill_eq20, fill_eq32, hf1, hf2]
        refine loop_upto 16 (fun i => [(0, .t (.int .i64 s)), (2, .ref 4096 0 0), (3, .ref 16384 0 0), (12, .t (.int .i64 1)), (4, .t (.int .i64 1)), (5, .sl 9100 0 i), (6, .t (.int .i64 (i : Nat)))]) (fun i => [(9100, .live 1 ((((newB 1).take i).map bsT).map V.t) true false), (16384, .live 2 [.agg [.sl 9000 0 1, .t (.int .i64 0)]] true true), (9000, .live 1 [.sl 9001 0 16] true false), (9001, .live 1 (((newB 0 : Bank).map bsT).map V.t) true false), (4096, .live 2 [.agg [.nil, .t (.int .i64 0)]] true true)]) ?_ (fun i hi => ?_)
        · refine Weak.cv0 (hv := [(9100, .live 1 [] true false)]) (ho := [(16384, .live 2 [.agg [.sl 9000 0 1, .t (.int .i64 0)]] true true), (9000, .live 1 [.sl 9001 0 16] true false), (9001, .live 1 (((newB 0 : Bank).map bsT).map V.t) true false), (4096, .live 2 [.agg [.nil, .t (.int .i64 0)]] true true)]) id ?_ ?_ rfl rfl
          all_goals simp (config := { maxSteps := 2000000 }) (disch := (first | omega | (simp only [lens, lenm]; omega))) only [go_sem, ↓reduceIte, Nat.reduceAdd, Nat.reduceEqDiff, Nat.reduceSub, Nat.reduceMul, Nat.reduceLT, Nat.reduceLeDiff, Nat.reduceBEq, Int.reduceEq, Int.reduceLT, Int.reduceLE, Int.reduceToNat, Int.reduceNeg, Int.reduceAdd, Int.reduceSub, Int.reduceMul, Int.reduceMod, Int.reduceDiv, reduceCtorEq, Nat.reducePow, Int.reducePow, List.map_cons, List.map_nil, id]
        · by_cases hlt : i < 16
          · by_cases h12 : i < 12
            · simp (config := { maxSteps := 2000000 }) (disch := (first | omega | (simp only [lens, lenm]; omega))) only [go_sem, ↓reduceIte, Nat.reduceAdd, Nat.reduceEqDiff, Nat.reduceSub, Nat.reduceMul, Nat.reduceLT, Nat.reduceLeDiff, Nat.reduceBEq, Int.reduceEq, Int.reduceLT, Int.reduceLE, Int.reduceToNat, Int.reduceNeg, Int.reduceAdd, Int.reduceSub, Int.reduceMul, Int.reduceMod, Int.reduceDiv, reduceCtorEq, Nat.reducePow, Int.reducePow, ac_registers_New_L1, c0, c1, newB_length, h1, h2, size_eq0, size_eq1, fill_eq20, fill_eq32, hf1, hf2]
              refine ⟨hlt, Weak.cv (hv := []) [61504] (fun j => if j = 9100 then 61536 else j) ?_ rfl⟩
              simp (config := { maxSteps := 2000000 }) (disch := (first | omega | (simp only [lens, lenm]; omega))) only [go_sem, ↓reduceIte, Nat.reduceAdd, Nat.reduceEqDiff, Nat.reduceSub, Nat.reduceMul, Nat.reduceLT, Nat.reduceLeDiff, Nat.reduceBEq, Int.reduceEq, Int.reduceLT, Int.reduceLE, Int.reduceToNat, Int.reduceNeg, Int.reduceAdd, Int.reduceSub, Int.reduceMul, Int.reduceMod, Int.reduceDiv, reduceCtorEq, Nat.reducePow, Int.reducePow, newB_take hlt, szA, List.take_replicate, Nat.min_self, newV_a h12]
              rfl
            · simp (config := { maxSteps := 2000000 }) (disch := (first | omega | (simp only [lens, lenm]; omega))) only [go_sem, ↓reduceIte, Nat.reduceAdd, Nat.reduceEqDiff, Nat.reduceSub, Nat.reduceMul, Nat.reduceLT, Nat.reduceLeDiff, Nat.reduceBEq, Int.reduceEq, Int.reduceLT, Int.reduceLE, Int.reduceToNat, Int.reduceNeg, Int.reduceAdd, Int.reduceSub, Int.reduceMul, Int.reduceMod, Int.reduceDiv, reduceCtorEq, Nat.reducePow, Int.reducePow, ac_registers_New_L1, c0, c1, newB_length, h1, h2, size_eq0, size_eq1, fill_eq20, fill_eq32, hf1, hf2]
              refine ⟨hlt, Weak.cv (hv := []) [61504] (fun j => if j = 9100 then 61536 else j) ?_ rfl⟩
              simp (config := { maxSteps := 2000000 }) (disch := (first | omega | (simp only [lens, lenm]; omega))) only [go_sem, ↓reduceIte, Nat.reduceAdd, Nat.reduceEqDiff, Nat.reduceSub, Nat.reduceMul, Nat.reduceLT, Nat.reduceLeDiff, Nat.reduceBEq, Int.reduceEq, Int.reduceLT, Int.reduceLE, Int.reduceToNat, Int.reduceNeg, Int.reduceAdd, Int.reduceSub, Int.reduceMul, Int.reduceMod, Int.reduceDiv, reduceCtorEq, Nat.reducePow, Int.reducePow, newB_take hlt, szA, List.take_replicate, Nat.min_self, newV_b h12]
              rfl
          · have e : i = 16 := by omega
            subst e
            simp (config := { maxSteps := 2000000 }) (disch := (first | omega | (simp only [lens, lenm]; omega))) only [go_sem, ↓reduceIte, Nat.reduceAdd, Nat.reduceEqDiff, Nat.reduceSub, Nat.reduceMul, Nat.reduceLT, Nat.reduceLeDiff, Nat.reduceBEq, Int.reduceEq, Int.reduceLT, Int.reduceLE, Int.reduceToNat, Int.reduceNeg, Int.reduceAdd, Int.reduceSub, Int.reduceMul, Int.reduceMod, Int.reduceDiv, reduceCtorEq, Nat.reducePow, Int.reducePow, ac_registers_New_L1, c0, c1, newB_length, h1, h2, size_eq0, size_eq1, fill_eq20, fill_eq32, hf1, hf2]
            refine Weak.rd (fun j => if j = 9000 then 65600 else if j = 9002 then 9100 else j) ?_ ?_ rfl
            all_goals simp (config := { maxSteps := 2000000 }) (disch := (first | omega | (simp only [lens, lenm]; omega))) only [go_sem, ↓reduceIte, Nat.reduceAdd, Nat.reduceEqDiff, Nat.reduceSub, Nat.reduceMul, Nat.reduceLT, Nat.reduceLeDiff, Nat.reduceBEq, Int.reduceEq, Int.reduceLT, Int.reduceLE, Int.reduceToNat, Int.reduceNeg, Int.reduceAdd, Int.reduceSub, Int.reduceMul, Int.reduceMod, Int.reduceDiv, reduceCtorEq, Nat.reducePow, Int.reducePow, newB_all]
      · simp (config := { maxSteps := 2000000 }) (disch := (first | omega | (simp only [lens, lenm]; omega))) only [go_sem, ↓reduceIte, Nat.reduceAdd, Nat.reduceEqDiff, Nat.reduceSub, Nat.reduceMul, Nat.reduceLT, Nat.reduceLeDiff, Nat.reduceBEq, Int.reduceEq, Int.reduceLT, Int.reduceLE, Int.reduceToNat, Int.reduceNeg, Int.reduceAdd, Int.reduceSub, Int.reduceMul, Int.reduceMod, Int.reduceDiv, reduceCtorEq, Nat.reducePow, Int.reducePow, ac_registers_New_L0, c0, c1, newB_length, h1, h2, size_eq0, size_eq1, fill_eq20, fill_eq32, hf1, hf2]
        exact ⟨rfl, rfl⟩
theorem w_ref8_New (tab : Tab) (gl : Gl) (n1 : Nat) (h1 : tab.look n1 = some ct_init.fs) (s : Int) (h3 : ¬ s % 4 = 0) : (ac_ref8_New n1).wp tab gl (zipF 0 [.t (.int .i64 s)]) (zipF 0 []) (resF [] [(2, some (2, true))] 0 (fun r o => r = twR (newBk s) 0 ∧ o = twO (newBk s))) := by
  have h4 : (s % 4 == 0) = false := by simpa using h3
  have hf1 : s.fdiv 1 = s := Int.fdiv_one s
  have hf2 : s.fdiv 2 = s / 2 := Int.fdiv_eq_ediv_of_nonneg s (by omega)
  have hc0 : s % 2 = 0 ∨ s % 2 = 1 := by omega
  have hc1 : s / 2 % 2 = 0 ∨ s / 2 % 2 = 1 := by omega
  rcases hc0 with c0 | c0 <;> rcases hc1 with c1 | c1
  · exact absurd (by omega) h3
  · rw [newBk_of h3, if_neg (by omega), if_pos (by omega)]
    simp (config := { maxSteps := 2000000 }) (disch := (first | omega | (simp only [lens, lenm]; omega))) only [go_sem, ↓reduceIte, Nat.reduceAdd, Nat.reduceEqDiff, Nat.reduceSub, Nat.reduceMul, Nat.reduceLT, Nat.reduceLeDiff, Nat.reduceBEq, Int.reduceEq, Int.reduceLT, Int.reduceLE, Int.reduceToNat, Int.reduceNeg, Int.reduceAdd, Int.reduceSub, Int.reduceMul, Int.reduceMod, Int.reduceDiv, reduceCtorEq, Nat.reducePow, Int.reducePow, ac_ref8_New, h4, hf1, hf2]
    refine loop_upto 2 (fun k => match k with | 0 => [(0, .t (.int .i64 s)), (2, .ref 4096 0 0), (3, .ref 8208 0 0), (4, .t (.int .i64 0))] | 1 => [(0, .t (.int .i64 s)), (2, .ref 4096 0 0), (3, .ref 8208 0 0), (4, .t (.int .i64 1))] | _ => [(0, .t (.int .i64 s)), (2, .ref 4096 0 0), (3, .ref 8208 0 0), (4, .t (.int .i64 2))]) (fun k => match k with | 0 => [(8208, .live 2 [.agg [.nil, .t (.int .i64 0)]] true true), (4096, .live 2 [.agg [.nil, .t (.int .i64 0)]] true true)] | 1 => [(8208, .live 2 [.agg [.sl 9000 0 1, .t (.int .i64 0)]] true true), (9000, .live 1 [.sl 9001 0 0] true false), (9001, .live 1 ((([] : Bank).map bsT).map V.t) true false), (4096, .live 2 [.agg [.nil, .t (.int .i64 0)]] true true)] | _ => [(8208, .live 2 [.agg [.sl 9000 0 2, .t (.int .i64 0)]] true true), (9000, .live 1 [.sl 9001 0 0, .sl 9002 0 16] true false), (9001, .live 1 ((([] : Bank).map bsT).map V.t) true false), (9002, .live 1 (((newB 1 : Bank).map bsT).map V.t) true false), (4096, .live 2 [.agg [.nil, .t (.int .i64 0)]] true true)]) ?_ (fun k hk => ?_)
    · refine Weak.rd id ?_ ?_ rfl
      all_goals simp (config := { maxSteps := 2000000 }) (disch := (first | omega | (simp only [lens, lenm]; omega))) only [go_sem, ↓reduceIte, Nat.reduceAdd, Nat.reduceEqDiff, Nat.reduceSub, Nat.reduceMul, Nat.reduceLT, Nat.reduceLeDiff, Nat.reduceBEq, Int.reduceEq, Int.reduceLT, Int.reduceLE, Int.reduceToNat, Int.reduceNeg, Int.reduceAdd, Int.reduceSub, Int.reduceMul, Int.reduceMod, Int.reduceDiv, reduceCtorEq, Nat.reducePow, Int.reducePow, id]
    · rcases (show k = 0 ∨ k = 1 ∨ k = 2 by omega) with rfl | rfl | rfl
      · simp (config := { maxSteps := 2000000 }) (disch := (first | omega | (simp only [lens, lenm]; omega))) only [go_sem, ↓reduceIte, Nat.reduceAdd, Nat.reduceEqDiff, Nat.reduceSub, Nat.reduceMul, Nat.reduceLT, Nat.reduceLeDiff, Nat.reduceBEq, Int.reduceEq, Int.reduceLT, Int.reduceLE, Int.reduceToNat, Int.reduceNeg, Int.reduceAdd, Int.reduceSub, Int.reduceMul, Int.reduceMod, Int.reduceDiv, reduceCtorEq, Nat.reducePow, Int.reducePow, ac_ref8_New_L0, c0, c1, newB_length, h1, init_eq0, init_eq1, hf1, hf2]
        refine loop_fuel 1 ?_
        simp (config := { maxSteps := 2000000 }) (disch := (first | omega | (simp only [lens, lenm]; omega))) only [go_sem, ↓reduceIte, Nat.reduceAdd, Nat.reduceEqDiff, Nat.reduceSub, Nat.reduceMul, Nat.reduceLT, Nat.reduceLeDiff, Nat.reduceBEq, Int.reduceEq, Int.reduceLT, Int.reduceLE, Int.reduceToNat, Int.reduceNeg, Int.reduceAdd, Int.reduceSub, Int.reduceMul, Int.reduceMod, Int.reduceDiv, reduceCtorEq, Nat.reducePow, Int.reducePow, loopN_succ, ac_ref8_New_L1, c0, c1, newB_length, h1, init_eq0, init_eq1, hf1, hf2]
        refine Weak.trans (fs' := [(0, .t (.int .i64 s)), (2, .ref 4096 0 0), (3, .ref 8208 0 0), (4, .t (.int .i64 1))]) (Weak.cv0 (hv := [(9001, .live 1 [] true false)]) (ho := [(8208, .live 2 [.agg [.sl 9000 0 1, .t (.int .i64 0)]] true true), (9000, .live 1 [.sl 9001 0 0] true false), (4096, .live 2 [.agg [.nil, .t (.int .i64 0)]] true true)]) (fun j => if j = 9000 then 53312 else j) ?_ ?_ rfl rfl) (Weak.rd id ?_ ?_ rfl)
        all_goals simp (config := { maxSteps := 2000000 }) (disch := (first | omega | (simp only [lens, lenm]; omega))) only [go_sem, ↓reduceIte, Nat.reduceAdd, Nat.reduceEqDiff, Nat.reduceSub, Nat.reduceMul, Nat.reduceLT, Nat.reduceLeDiff, Nat.reduceBEq, Int.reduceEq, Int.reduceLT, Int.reduceLE, Int.reduceToNat, Int.reduceNeg, Int.reduceAdd, Int.reduceSub, Int.reduceMul, Int.reduceMod, Int.reduceDiv, reduceCtorEq, Nat.reducePow, Int.reducePow, List.map_cons, List.map_nil, id]
      · simp (config := { maxSteps := 2000000 }) (disch := (first | omega | (simp only [lens, lenm]; omega))) only [go_sem, ↓reduceIte, Nat.reduceAdd, Nat.reduceEqDiff, Nat.reduceSub, Nat.reduceMul, Nat.reduceLT, Nat.reduceLeDiff, Nat.reduceBEq, Int.reduceEq, Int.reduceLT, Int.reduceLE, Int.reduceToNat, Int.reduceNeg, Int.reduceAdd, Int.reduceSub, Int.reduceMul, Int.reduceMod, Int.reduceDiv, reduceCtorEq, Nat.reducePow, Int.reducePow, ac_ref8_New_L0, c0, c1, newB_length, h1, init_eq0, init_eq1, hf1, hf2]
        refine loop_upto 16 (fun i => [(0, .t (.int .i64 s)), (2, .ref 4096 0 0), (3, .ref 8208 0 0), (4, .t (.int .i64 1)), (5, .sl 9100 0 i), (6, .t (.int .i64 (i : Nat)))]) (fun i => [(9100, .live 1 ((((newB 1).take i).map bsT).map V.t) true false), (8208, .live 2 [.agg [.sl 9000 0 1, .t (.int .i64 0)]] true true), (9000, .live 1 [.sl 9001 0 0] true false), (9001, .live 1 ((([] : Bank).map bsT).map V.t) true false), (4096, .live 2 [.agg [.nil, .t (.int .i64 0)]] true true)]) ?_ (fun i hi => ?_)
        · refine Weak.cv0 (hv := [(9100, .live 1 [] true false)]) (ho := [(8208, .live 2 [.agg [.sl 9000 0 1, .t (.int .i64 0)]] true true), (9000, .live 1 [.sl 9001 0 0] true false), (9001, .live 1 ((([] : Bank).map bsT).map V.t) true false), (4096, .live 2 [.agg [.nil, .t (.int .i64 0)]] true true)]) id ?_ ?_ rfl rfl
          all_goals simp (config := { maxSteps := 2000000 }) (disch := (first | omega | (simp only [lens, lenm]; omega))) only [go_sem, ↓reduceIte, Nat.reduceAdd, Nat.reduceEqDiff, Nat.reduceSub, Nat.reduceMul, Nat.reduceLT, Nat.reduceLeDiff, Nat.reduceBEq, Int.reduceEq, Int.reduceLT, Int.reduceLE, Int.reduceToNat, Int.reduceNeg, Int.reduceAdd, Int.reduceSub, Int.reduceMul, Int.reduceMod, Int.reduceDiv, reduceCtorEq, Nat.reducePow, Int.reducePow, List.map_cons, List.map_nil, id]
        · by_cases hlt : i < 16
          · simp (config := { maxSteps := 2000000 }) (disch := (first | omega | (simp only [lens, lenm]; omega))) only [go_sem, ↓reduceIte, Nat.reduceAdd, Nat.reduceEqDiff, Nat.reduceSub, Nat.reduceMul, Nat.reduceLT, Nat.reduceLeDiff, Nat.reduceBEq, Int.reduceEq, Int.reduceLT, Int.reduceLE, Int.reduceToNat, Int.reduceNeg, Int.reduceAdd, Int.reduceSub, Int.reduceMul, Int.reduceMod, Int.reduceDiv, reduceCtorEq, Nat.reducePow, Int.reducePow, ac_ref8_New_L1, c0, c1, newB_length, h1, init_eq0, init_eq1, hf1, hf2]
            refine ⟨hlt, Weak.cv (hv := []) [49200] (fun j => if j = 9100 then 49232 else j) ?_ rfl⟩
            simp (config := { maxSteps := 2000000 }) (disch := (first | omega | (simp only [lens, lenm]; omega))) only [go_sem, ↓reduceIte, Nat.reduceAdd, Nat.reduceEqDiff, Nat.reduceSub, Nat.reduceMul, Nat.reduceLT, Nat.reduceLeDiff, Nat.reduceBEq, Int.reduceEq, Int.reduceLT, Int.reduceLE, Int.reduceToNat, Int.reduceNeg, Int.reduceAdd, Int.reduceSub, Int.reduceMul, Int.reduceMod, Int.reduceDiv, reduceCtorEq, Nat.reducePow, Int.reducePow, newB_take hlt, szA, List.take_replicate, Nat.min_self]
            rfl
          · have e : i = 16 := by omega
            subst e
            simp (config := { maxSteps := 2000000 }) (disch := (first | omega | (simp only [lens, lenm]; omega))) only [go_sem, ↓reduceIte, Nat.reduceAdd, Nat.reduceEqDiff, Nat.reduceSub, Nat.reduceMul, Nat.reduceLT, Nat.reduceLeDiff, Nat.reduceBEq, Int.reduceEq, Int.reduceLT, Int.reduceLE, Int.reduceToNat, Int.reduceNeg, Int.reduceAdd, Int.reduceSub, Int.reduceMul, Int.reduceMod, Int.reduceDiv, reduceCtorEq, Nat.reducePow, Int.reducePow, ac_ref8_New_L1, c0, c1, newB_length, h1, init_eq0, init_eq1, hf1, hf2]
            refine Weak.rd (fun j => if j = 9000 then 53312 else if j = 9002 then 9100 else j) ?_ ?_ rfl
            all_goals simp (config := { maxSteps := 2000000 }) (disch := (first | omega | (simp only [lens, lenm]; omega))) only [go_sem, ↓reduceIte, Nat.reduceAdd, Nat.reduceEqDiff, Nat.reduceSub, Nat.reduceMul, Nat.reduceLT, Nat.reduceLeDiff, Nat.reduceBEq, Int.reduceEq, Int.reduceLT, Int.reduceLE, Int.reduceToNat, Int.reduceNeg, Int.reduceAdd, Int.reduceSub, Int.reduceMul, Int.reduceMod, Int.reduceDiv, reduceCtorEq, Nat.reducePow, Int.reducePow, newB_all]
      · simp (config := { maxSteps := 2000000 }) (disch := (first | omega | (simp only [lens, lenm]; omega))) only [go_sem, ↓reduceIte, Nat.reduceAdd, Nat.reduceEqDiff, Nat.reduceSub, Nat.reduceMul, Nat.reduceLT, Nat.reduceLeDiff, Nat.reduceBEq, Int.reduceEq, Int.reduceLT, Int.reduceLE, Int.reduceToNat, Int.reduceNeg, Int.reduceAdd, Int.reduceSub, Int.reduceMul, Int.reduceMod, Int.reduceDiv, reduceCtorEq, Nat.reducePow, Int.reducePow, ac_ref8_New_L0, c0, c1, newB_length, h1, init_eq0, init_eq1, hf1, hf2]
        exact ⟨rfl, rfl⟩
  · rw [newBk_of h3, if_pos (by omega), if_neg (by omega)]
    simp (config := { maxSteps := 2000000 }) (disch := (first | omega | (simp only [lens, lenm]; omega))) only [go_sem, ↓reduceIte, Nat.reduceAdd, Nat.reduceEqDiff, Nat.reduceSub, Nat.reduceMul, Nat.reduceLT, Nat.reduceLeDiff, Nat.reduceBEq, Int.reduceEq, Int.reduceLT, Int.reduceLE, Int.reduceToNat, Int.reduceNeg, Int.reduceAdd, Int.reduceSub, Int.reduceMul, Int.reduceMod, Int.reduceDiv, reduceCtorEq, Nat.reducePow, Int.reducePow, ac_ref8_New, h4, hf1, hf2]
    refine loop_upto 2 (fun k => match k with | 0 => [(0, .t (.int .i64 s)), (2, .ref 4096 0 0), (3, .ref 8208 0 0), (4, .t (.int .i64 0))] | 1 => [(0, .t (.int .i64 s)), (2, .ref 4096 0 0), (3, .ref 8208 0 0), (4, .t (.int .i64 1))] | _ => [(0, .t (.int .i64 s)), (2, .ref 4096 0 0), (3, .ref 8208 0 0), (4, .t (.int .i64 2))]) (fun k => match k with | 0 => [(8208, .live 2 [.agg [.nil, .t (.int .i64 0)]] true true), (4096, .live 2 [.agg [.nil, .t (.int .i64 0)]] true true)] | 1 => [(8208, .live 2 [.agg [.sl 9000 0 1, .t (.int .i64 0)]] true true), (9000, .live 1 [.sl 9001 0 16] true false), (9001, .live 1 (((newB 0 : Bank).map bsT).map V.t) true false), (4096, .live 2 [.agg [.nil, .t (.int .i64 0)]] true true)] | _ => [(8208, .live 2 [.agg [.sl 9000 0 2, .t (.int .i64 0)]] true true), (9000, .live 1 [.sl 9001 0 16, .sl 9002 0 0] true false), (9001, .live 1 (((newB 0 : Bank).map bsT).map V.t) true false), (9002, .live 1 ((([] : Bank).map bsT).map V.t) true false), (4096, .live 2 [.agg [.nil, .t (.int .i64 0)]] true true)]) ?_ (fun k hk => ?_)
    · refine Weak.rd id ?_ ?_ rfl
      all_goals simp (config := { maxSteps := 2000000 }) (disch := (first | omega | (simp only [lens, lenm]; omega))) only [go_sem, ↓reduceIte, Nat.reduceAdd, Nat.reduceEqDiff, Nat.reduceSub, Nat.reduceMul, Nat.reduceLT, Nat.reduceLeDiff, Nat.reduceBEq, Int.reduceEq, Int.reduceLT, Int.reduceLE, Int.reduceToNat, Int.reduceNeg, Int.reduceAdd, Int.reduceSub, Int.reduceMul, Int.reduceMod, Int.reduceDiv, reduceCtorEq, Nat.reducePow, Int.reducePow, id]
    · rcases (show k = 0 ∨ k = 1 ∨ k = 2 by omega) with rfl | rfl | rfl
      · simp (config := { maxSteps := 2000000 }) (disch := (first | omega | (simp only [lens, lenm]; omega))) only [go_sem, ↓reduceIte, Nat.reduceAdd, Nat.reduceEqDiff, Nat.reduceSub, Nat.reduceMul, Nat.reduceLT, Nat.reduceLeDiff, Nat.reduceBEq, Int.reduceEq, Int.reduceLT, Int.reduceLE, Int.reduceToNat, Int.reduceNeg, Int.reduceAdd, Int.reduceSub, Int.reduceMul, Int.reduceMod, Int.reduceDiv, reduceCtorEq, Nat.reducePow, Int.reducePow, ac_ref8_New_L0, c0, c1, newB_length, h1, init_eq0, init_eq1, hf1, hf2]
        refine loop_upto 16 (fun i => [(0, .t (.int .i64 s)), (2, .ref 4096 0 0), (3, .ref 8208 0 0), (4, .t (.int .i64 0)), (5, .sl 9100 0 i), (6, .t (.int .i64 (i : Nat)))]) (fun i => [(9100, .live 1 ((((newB 0).take i).map bsT).map V.t) true false), (8208, .live 2 [.agg [.nil, .t (.int .i64 0)]] true true), (4096, .live 2 [.agg [.nil, .t (.int .i64 0)]] true true)]) ?_ (fun i hi => ?_)
        · refine Weak.cv0 (hv := [(9100, .live 1 [] true false)]) (ho := [(8208, .live 2 [.agg [.nil, .t (.int .i64 0)]] true true), (4096, .live 2 [.agg [.nil, .t (.int .i64 0)]] true true)]) id ?_ ?_ rfl rfl
          all_goals simp (config := { maxSteps := 2000000 }) (disch := (first | omega | (simp only [lens, lenm]; omega))) only [go_sem, ↓reduceIte, Nat.reduceAdd, Nat.reduceEqDiff, Nat.reduceSub, Nat.reduceMul, Nat.reduceLT, Nat.reduceLeDiff, Nat.reduceBEq, Int.reduceEq, Int.reduceLT, Int.reduceLE, Int.reduceToNat, Int.reduceNeg, Int.reduceAdd, Int.reduceSub, Int.reduceMul, Int.reduceMod, Int.reduceDiv, reduceCtorEq, Nat.reducePow, Int.reducePow, List.map_cons, List.map_nil, id]
        · by_cases hlt : i < 16
          · simp (config := { maxSteps := 2000000 }) (disch := (first | omega | (simp only [lens, lenm]; omega))) only [go_sem, ↓reduceIte, Nat.reduceAdd, Nat.reduceEqDiff, Nat.reduceSub, Nat.reduceMul, Nat.reduceLT, Nat.reduceLeDiff, Nat.reduceBEq, Int.reduceEq, Int.reduceLT, Int.reduceLE, Int.reduceToNat, Int.reduceNeg, Int.reduceAdd, Int.reduceSub, Int.reduceMul, Int.reduceMod, Int.reduceDiv, reduceCtorEq, Nat.reducePow, Int.reducePow, ac_ref8_New_L1, c0, c1, newB_length, h1, init_eq0, init_eq1, hf1, hf2]
            refine ⟨hlt, Weak.cv (hv := []) [49200] (fun j => if j = 9100 then 49232 else j) ?_ rfl⟩
            simp (config := { maxSteps := 2000000 }) (disch := (first | omega | (simp only [lens, lenm]; omega))) only [go_sem, ↓reduceIte, Nat.reduceAdd, Nat.reduceEqDiff, Nat.reduceSub, Nat.reduceMul, Nat.reduceLT, Nat.reduceLeDiff, Nat.reduceBEq, Int.reduceEq, Int.reduceLT, Int.reduceLE, Int.reduceToNat, Int.reduceNeg, Int.reduceAdd, Int.reduceSub, Int.reduceMul, Int.reduceMod, Int.reduceDiv, reduceCtorEq, Nat.reducePow, Int.reducePow, newB_take hlt, szA, List.take_replicate, Nat.min_self]
            rfl
          · have e : i = 16 := by omega
            subst e
            simp (config := { maxSteps := 2000000 }) (disch := (first | omega | (simp only [lens, lenm]; omega))) only [go_sem, ↓reduceIte, Nat.reduceAdd, Nat.reduceEqDiff, Nat.reduceSub, Nat.reduceMul, Nat.reduceLT, Nat.reduceLeDiff, Nat.reduceBEq, Int.reduceEq, Int.reduceLT, Int.reduceLE, Int.reduceToNat, Int.reduceNeg, Int.reduceAdd, Int.reduceSub, Int.reduceMul, Int.reduceMod, Int.reduceDiv, reduceCtorEq, Nat.reducePow, Int.reducePow, ac_ref8_New_L1, c0, c1, newB_length, h1, init_eq0, init_eq1, hf1, hf2]
            refine Weak.rd (fun j => if j = 9000 then 53312 else if j = 9001 then 9100 else j) ?_ ?_ rfl
            all_goals simp (config := { maxSteps := 2000000 }) (disch := (first | omega | (simp only [lens, lenm]; omega))) only [go_sem, ↓reduceIte, Nat.reduceAdd, Nat.reduceEqDiff, Nat.reduceSub, Nat.reduceMul, Nat.reduceLT, Nat.reduceLeDiff, Nat.reduceBEq, Int.reduceEq, Int.reduceLT, Int.reduceLE, Int.reduceToNat, Int.reduceNeg, Int.reduceAdd, Int.reduceSub, Int.reduceMul, Int.reduceMod, Int.reduceDiv, reduceCtorEq, Nat.reducePow, Int.reducePow, newB_all]
      · simp (config := { maxSteps := 2000000 }) (disch := (first | omega | (simp only [lens, lenm]; omega))) only [go_sem, ↓reduceIte, Nat.reduceAdd, Nat.reduceEqDiff, Nat.reduceSub, Nat.reduceMul, Nat.reduceLT, Nat.reduceLeDiff, Nat.reduceBEq, Int.reduceEq, Int.reduceLT, Int.reduceLE, Int.reduceToNat, Int.reduceNeg, Int.reduceAdd, Int.reduceSub, Int.reduceMul, Int.reduceMod, Int.reduceDiv, reduceCtorEq, Nat.reducePow, Int.reducePow, ac_ref8_New_L0, c0, c1, newB_length, h1, init_eq0, init_eq1, hf1, hf2]
        refine loop_fuel 1 ?_
        simp (config := { maxSteps := 2000000 }) (disch := (first | omega | (simp only [lens, lenm]; omega))) only [go_sem, ↓reduceIte, Nat.reduceAdd, Nat.reduceEqDiff, Nat.reduceSub, Nat.reduceMul, Nat.reduceLT, Nat.reduceLeDiff, Nat.reduceBEq, Int.reduceEq, Int.reduceLT, Int.reduceLE, Int.reduceToNat, Int.reduceNeg, Int.reduceAdd, Int.reduceSub, Int.reduceMul, Int.reduceMod, Int.reduceDiv, reduceCtorEq, Nat.reducePow, Int.reducePow, loopN_succ, ac_ref8_New_L1, c0, c1, newB_length, h1, init_eq0, init_eq1, hf1, hf2]
        refine Weak.trans (fs' := [(0, .t (.int .i64 s)), (2, .ref 4096 0 0), (3, .ref 8208 0 0), (4, .t (.int .i64 2))]) (Weak.cv0 (hv := [(9002, .live 1 [] true false)]) (ho := [(8208, .live 2 [.agg [.sl 9000 0 2, .t (.int .i64 0)]] true true), (9000, .live 1 [.sl 9001 0 16, .sl 9002 0 0] true false), (9001, .live 1 (((newB 0 : Bank).map bsT).map V.t) true false), (4096, .live 2 [.agg [.nil, .t (.int .i64 0)]] true true)]) (fun j => if j = 9000 then 53312 else j) ?_ ?_ rfl rfl) (Weak.rd id ?_ ?_ rfl)
        all_goals simp (config := { maxSteps := 2000000 }) (disch := (first | omega | (simp only [lens, lenm]; omega))) only [go_sem, ↓reduceIte, Nat.reduceAdd, Nat.reduceEqDiff, Nat.reduceSub, Nat.reduceMul, Nat.reduceLT, Nat.reduceLeDiff, Nat.reduceBEq, Int.reduceEq, Int.reduceLT, Int.reduceLE, Int.reduceToNat, Int.reduceNeg, Int.reduceAdd, Int.reduceSub, Int.reduceMul, Int.reduceMod, Int.reduceDiv, reduceCtorEq, Nat.reducePow, Int.reducePow, List.map_cons, List.map_nil, id]
      · simp (config := { maxSteps := 2000000 }) (disch := (first | omega | (simp only [lens, lenm]; omega))) only [go_sem, ↓reduceIte, Nat.reduceAdd, Nat.reduceEqDiff, Nat.reduceSub, Nat.reduceMul, Nat.reduceLT, Nat.reduceLeDiff, Nat.reduceBEq, Int.reduceEq, Int.reduceLT, Int.reduceLE, Int.reduceToNat, Int.reduceNeg, Int.reduceAdd, Int.reduceSub, Int.reduceMul, Int.reduceMod, Int.reduceDiv, reduceCtorEq, Nat.reducePow, Int.reducePow, ac_ref8_New_L0, c0, c1, newB_length, h1, init_eq0, init_eq1, hf1, hf2]
        exact ⟨rfl, rfl⟩
  · rw [newBk_of h3, if_pos (by omega), if_pos (by omega)]
    simp (config := { maxSteps := 2000000 }) (disch := (first | omega | (simp only [lens, lenm]; omega))) only [go_sem, ↓reduceIte, Nat.reduceAdd, Nat.reduceEqDiff, Nat.reduceSub, Nat.reduceMul, Nat.reduceLT, Nat.reduceLeDiff, Nat.reduceBEq, Int.reduceEq, Int.reduceLT, Int.reduceLE, Int.reduceToNat, Int.reduceNeg, Int.reduceAdd, Int.reduceSub, Int.reduceMul, Int.reduceMod, Int.reduceDiv, reduceCtorEq, Nat.reducePow, Int.reducePow, ac_ref8_New, h4, hf1, hf2]
    refine loop_upto 2 (fun k => match k with | 0 => [(0, .t (.int .i64 s)), (2, .ref 4096 0 0), (3, .ref 8208 0 0), (4, .t (.int .i64 0))] | 1 => [(0, .t (.int .i64 s)), (2, .ref 4096 0 0), (3, .ref 8208 0 0), (4, .t (.int .i64 1))] | _ => [(0, .t (.int .i64 s)), (2, .ref 4096 0 0), (3, .ref 8208 0 0), (4, .t (.int .i64 2))]) (fun k => match k with | 0 => [(8208, .live 2 [.agg [.nil, .t (.int .i64 0)]] true true), (4096, .live 2 [.agg [.nil, .t (.int .i64 0)]] true true)] | 1 => [(8208, .live 2 [.agg [.sl 9000 0 1, .t (.int .i64 0)]] true true), (9000, .live 1 [.sl 9001 0 16] true false), (9001, .live 1 (((newB 0 : Bank).map bsT).map V.t) true false), (4096, .live 2 [.agg [.nil, .t (.int .i64 0)]] true true)] | _ => [(8208, .live 2 [.agg [.sl 9000 0 2, .t (.int .i64 0)]] true true), (9000, .live 1 [.sl 9001 0 16, .sl 9002 0 16] true false), (9001, .live 1 (((newB 0 : Bank).map bsT).map V.t) true false), (9002, .live 1 (((newB 1 : Bank).map bsT).map V.t) true false), (4096, .live 2 [.agg [.nil, .t (.int .i64 0)]] true true)]) ?_ (fun k hk => ?_)
    · refine Weak.rd id ?_ ?_ rfl
      all_goals simp (config := { maxSteps := 2000000 }) (disch := (first | omega | (simp only [lens, lenm]; omega))) only [go_sem, ↓reduceIte, Nat.reduceAdd, Nat.reduceEqDiff, Nat.reduceSub, Nat.reduceMul, Nat.reduceLT, Nat.reduceLeDiff, Nat.reduceBEq, Int.reduceEq, Int.reduceLT, Int.reduceLE, Int.reduceToNat, Int.reduceNeg, Int.reduceAdd, Int.reduceSub, Int.reduceMul, Int.reduceMod, Int.reduceDiv, reduceCtorEq, Nat.reducePow, Int.reducePow, id]
    · rcases (show k = 0 ∨ k = 1 ∨ k = 2 by omega) with rfl | rfl | rfl
      · simp (config := { maxSteps := 2000000 }) (disch := (first | omega | (simp only [lens, lenm]; omega))) only [go_sem, ↓reduceIte, Nat.reduceAdd, Nat.reduceEqDiff, Nat.reduceSub, Nat.reduceMul, Nat.reduceLT, Nat.reduceLeDiff, Nat.reduceBEq, Int.reduceEq, Int.reduceLT, Int.reduceLE, Int.reduceToNat, Int.reduceNeg, Int.reduceAdd, Int.reduceSub, Int.reduceMul, Int.reduceMod, Int.reduceDiv, reduceCtorEq, Nat.reducePow, Int.reducePow, ac_ref8_New_L0, c0, c1, newB_length, h1, init_eq0, init_eq1, hf1, hf2]
        refine loop_upto 16 (fun i => [(0, .t (.int .i64 s)), (2, .ref 4096 0 0), (3, .ref 8208 0 0), (4, .t (.int .i64 0)), (5, .sl 9100 0 i), (6, .t (.int .i64 (i : Nat)))]) (fun i => [(9100, .live 1 ((((newB 0).take i).map bsT).map V.t) true false), (8208, .live 2 [.agg [.nil, .t (.int .i64 0)]] true true), (4096, .live 2 [.agg [.nil, .t (.int .i64 0)]] true true)]) ?_ (fun i hi => ?_)
        · refine Weak.cv0 (hv := [(9100, .live 1 [] true false)]) (ho := [(8208, .live 2 [.agg [.nil, .t (.int .i64 0)]] true true), (4096, .live 2 [.agg [.nil, .t (.int .i64 0)]] true true)]) id ?_ ?_ rfl rfl
          all_goals simp (config := { maxSteps := 2000000 }) (disch := (first | omega | (simp only [lens, lenm]; omega))) only [go_sem, ↓reduceIte, Nat.reduceAdd, Nat.reduceEqDiff, Nat.reduceSub, Nat.reduceMul, Nat.reduceLT, Nat.reduceLeDiff, Nat.reduceBEq, Int.reduceEq, Int.reduceLT, Int.reduceLE, Int.reduceToNat, Int.reduceNeg, Int.reduceAdd, Int.reduceSub, Int.reduceMul, Int.reduceMod, Int.reduceDiv, reduceCtorEq, Nat.reducePow, Int.reducePow, List.map_cons, List.map_nil, id]
        · by_cases hlt : i < 16
          · simp (config := { maxSteps := 2000000 }) (disch := (first | omega | (simp only [lens, lenm]; omega))) only [go_sem, ↓reduceIte, Nat.reduceAdd, Nat.reduceEqDiff, Nat.reduceSub, Nat.reduceMul, Nat.reduceLT, Nat.reduceLeDiff, Nat.reduceBEq, Int.reduceEq, Int.reduceLT, Int.reduceLE, Int.reduceToNat, Int.reduceNeg, Int.reduceAdd, Int.reduceSub, Int.reduceMul, Int.reduceMod, Int.reduceDiv, reduceCtorEq, Nat.reducePow, Int.reducePow, ac_ref8_New_L1, c0, c1, newB_length, h1, init_eq0, init_eq1, hf1, hf2]
            refine ⟨hlt, Weak.cv (hv := []) [49200] (fun j => if j = 9100 then 49232 else j) ?_ rfl⟩
            simp (config := { maxSteps := 2000000 }) (disch := (first | omega | (simp only [lens, lenm]; omega))) only [go_sem, ↓reduceIte, Nat.reduceAdd, Nat.reduceEqDiff, Nat.reduceSub, Nat.reduceMul, Nat.reduceLT, Nat.reduceLeDiff, Nat.reduceBEq, Int.reduceEq, Int.reduceLT, Int.reduceLE, Int.reduceToNat, Int.reduceNeg, Int.reduceAdd, Int.reduceSub, Int.reduceMul, Int.reduceMod, Int.reduceDiv, reduceCtorEq, Nat.reducePow, Int.reducePow, newB_take hlt, szA, List.take_replicate, Nat.min_self]
            rfl
          · have e : i = 16 := by omega
            subst e
            simp (config := { maxSteps := 2000000 }) (disch := (first | omega | (simp only [lens, lenm]; omega))) only [go_sem, ↓reduceIte, Nat.reduceAdd, Nat.reduceEqDiff, Nat.reduceSub, Nat.reduceMul, Nat.reduceLT, Nat.reduceLeDiff, Nat.reduceBEq, Int.reduceEq, Int.reduceLT, Int.reduceLE, Int.reduceToNat, Int.reduceNeg, Int.reduceAdd, Int.reduceSub, Int.reduceMul, Int.reduceMod, Int.reduceDiv, reduceCtorEq, Nat.reducePow, Int.reducePow, ac_ref8_New_L1, c0, c1, newB_length, h1, init_eq0, init_eq1, hf1, hf2]
            refine Weak.rd (fun j => if j = 9000 then 53312 else if j = 9001 then 9100 else j) ?_ ?_ rfl
            all_goals simp (config := { maxSteps := 2000000 }) (disch := (first | omega | (simp only [lens, lenm]; omega))) only [go_sem, ↓reduceIte, Nat.reduceAdd, Nat.reduceEqDiff, Nat.reduceSub, Nat.reduceMul, Nat.reduceLT, Nat.reduceLeDiff, Nat.reduceBEq, Int.reduceEq, Int.reduceLT, Int.reduceLE, Int.reduceToNat, Int.reduceNeg, Int.reduceAdd, Int.reduceSub, Int.reduceMul, Int.reduceMod, Int.reduceDiv, reduceCtorEq, Nat.reducePow, Int.reducePow, newB_all]
      · simp (config := { maxSteps := 2000000 }) (disch := (first | omega | (simp only [lens, lenm]; omega))) only [go_sem, ↓reduceIte, Nat.reduceAdd, Nat.reduceEqDiff, Nat.reduceSub, Nat.reduceMul, Nat.reduceLT, Nat.reduceLeDiff, Nat.reduceBEq, Int.reduceEq, Int.reduceLT, Int.reduceLE, Int.reduceToNat, Int.reduceNeg, Int.reduceAdd, Int.reduceSub, Int.reduceMul, Int.reduceMod, Int.reduceDiv, reduceCtorEq, Nat.reducePow, Int.reducePow, ac_ref8_New_L0, c0, c1, newB_length, h1, init_eq0, init_eq1, hf1, hf2]
        refine loop_upto 16 (fun i => [(0, .t (.int .i64 s)), (2, .ref 4096 0 0), (3, .ref 8208 0 0), (4, .t (.int .i64 1)), (5, .sl 9100 0 i), (6, .t (.int .i64 (i : Nat)))]) (fun i => [(9100, .live 1 ((((newB 1).take i).map bsT).map V.t) true false), (8208, .live 2 [.agg [.sl 9000 0 1, .t (.int .i64 0)]] true true), (9000, .live 1 [.sl 9001 0 16] true false), (9001, .live 1 (((newB 0 : Bank).map bsT).map V.t) true false), (4096, .live 2 [.agg [.nil, .t (.int .i64 0)]] true true)]) ?_ (fun i hi => ?_)
        · refine Weak.cv0 (hv := [(9100, .live 1 [] true false)]) (ho := [(8208, .live 2 [.agg [.sl 9000 0 1, .t (.int .i64 0)]] true true), (9000, .live 1 [.sl 9001 0 16] true false), (9001, .live 1 (((newB 0 : Bank).map bsT).map V.t) true false), (4096, .live 2 [.agg [.nil, .t (.int .i64 0)]] true true)]) id ?_ ?_ rfl rfl
          all_goals simp (config := { maxSteps := 2000000 }) (disch := (first | omega | (simp only [lens, lenm]; omega))) only [go_sem, ↓reduceIte, Nat.reduceAdd, Nat.reduceEqDiff, Nat.reduceSub, Nat.reduceMul, Nat.reduceLT, Nat.reduceLeDiff, Nat.reduceBEq, Int.reduceEq, Int.reduceLT, Int.reduceLE, Int.reduceToNat, Int.reduceNeg, Int.reduceAdd, Int.reduceSub, Int.reduceMul, Int.reduceMod, Int.reduceDiv, reduceCtorEq, Nat.reducePow, Int.reducePow, List.map_cons, List.map_nil, id]
        · by_cases hlt : i < 16
          · simp (config := { maxSteps := 2000000 }) (disch := (first | omega | (simp only [lens, lenm]; omega))) only [go_sem, ↓reduceIte, Nat.reduceAdd, Nat.reduceEqDiff, Nat.reduceSub, Nat.reduceMul, Nat.reduceLT, Nat.reduceLeDiff, Nat.reduceBEq, Int.reduceEq, Int.reduceLT, Int.reduceLE, Int.reduceToNat, Int.reduceNeg, Int.reduceAdd, Int.reduceSub, Int.reduceMul, Int.reduceMod, Int.reduceDiv, reduceCtorEq, Nat.reducePow, Int.reducePow, ac_ref8_New_L1, c0, c1, newB_length, h1, init_eq0, init_eq1, hf1, hf2]
            refine ⟨hlt, Weak.cv (hv := []) [49200] (fun j => if j = 9100 then 49232 else j) ?_ rfl⟩
            simp (config := { maxSteps := 2000000 }) (disch := (first | omega | (simp only [lens, lenm]; omega))) only [go_sem, ↓reduceIte, Nat.reduceAdd, Nat.reduceEqDiff, Nat.reduceSub, Nat.reduceMul, Nat.reduceLT, Nat.reduceLeDiff, Nat.reduceBEq, Int.reduceEq, Int.reduceLT, Int.reduceLE, Int.reduceToNat, Int.reduceNeg, Int.reduceAdd, Int.reduceSub, Int.reduceMul, Int.reduceMod, Int.reduceDiv, reduceCtorEq, Nat.reducePow, Int.reducePow, newB_take hlt, szA, List.take_replicate, Nat.min_self]
            rfl
          · have e : i = 16 := by omega
            subst e
            simp (config := { maxSteps := 2000000 }) (disch := (first | omega | (simp only [lens, lenm]; omega))) only [go_sem, ↓reduceIte, Nat.reduceAdd, Nat.reduceEqDiff, Nat.reduceSub, Nat.reduceMul, Nat.reduceLT, Nat.reduceLeDiff, Nat.reduceBEq, Int.reduceEq, Int.reduceLT, Int.reduceLE, Int.reduceToNat, Int.reduceNeg, Int.reduceAdd, Int.reduceSub, Int.reduceMul, Int.reduceMod, Int.reduceDiv, reduceCtorEq, Nat.reducePow, Int.reducePow, ac_ref8_New_L1, c0, c1, newB_length, h1, init_eq0, init_eq1, hf1, hf2]
            refine Weak.rd (fun j => if j = 9000 then 53312 else if j = 9002 then 9100 else j) ?_ ?_ rfl
            all_goals simp (config := { maxSteps := 2000000 }) (disch := (first | omega | (simp only [lens, lenm]; omega))) only [go_sem, ↓reduceIte, Nat.reduceAdd, Nat.reduceEqDiff, Nat.reduceSub, Nat.reduceMul, Nat.reduceLT, Nat.reduceLeDiff, Nat.reduceBEq, Int.reduceEq, Int.reduceLT, Int.reduceLE, Int.reduceToNat, Int.reduceNeg, Int.reduceAdd, Int.reduceSub, Int.reduceMul, Int.reduceMod, Int.reduceDiv, reduceCtorEq, Nat.reducePow, Int.reducePow, newB_all]
      · simp (config := { maxSteps := 2000000 }) (disch := (first | omega | (simp only [lens, lenm]; omega))) only [go_sem, ↓reduceIte, Nat.reduceAdd, Nat.reduceEqDiff, Nat.reduceSub, Nat.reduceMul, Nat.reduceLT, Nat.reduceLeDiff, Nat.reduceBEq, Int.reduceEq, Int.reduceLT, Int.reduceLE, Int.reduceToNat, Int.reduceNeg, Int.reduceAdd, Int.reduceSub, Int.reduceMul, Int.reduceMod, Int.reduceDiv, reduceCtorEq, Nat.reducePow, Int.reducePow, ac_ref8_New_L0, c0, c1, newB_length, h1, init_eq0, init_eq1, hf1, hf2]
        exact ⟨rfl, rfl⟩
end Go.Eng
end
section
set_option maxRecDepth 20000
set_option maxHeartbeats 16000000
namespace Go.Eng
def ct_index : Ct where
  α := Int
  as x := [.t (.int .i64 x)]
  ins _ := []
  pre _ := True
  r x := .t (.bool (decide ((0 : Int) ≤ x ∧ x < (16 : Int))))
  outs _ := []
  inj := by
    intro a b h _
    simp at h
    subst h; exact ⟨rfl, rfl⟩
theorem index_t {i : Int} (h : 0 ≤ i ∧ i < 16) : ct_index.fs [.t (.int .i64 i)] [] = some (.t (.bool true), []) := by
  refine (ct_index.eq i trivial).trans ?_
  simp [ct_index, h]
theorem index_f {i : Int} (h : ¬ (0 ≤ i ∧ i < 16)) : ct_index.fs [.t (.int .i64 i)] [] = some (.t (.bool false), []) := by
  refine (ct_index.eq i trivial).trans ?_
  simp only [ct_index, decide_eq_false h]
def ct_on : Ct where
  α := List Bank × Int × Nat
  as x := [.t (regT x.1 x.2.1), .t (.int .i64 x.2.2)]
  ins _ := []
  pre x := RK x.1 ∧ x.2.2 < 2
  r x := .t (.bool (onB x.1 x.2.2))
  outs _ := []
  inj := by
    rintro ⟨a, u, i⟩ ⟨b, v, j⟩ h _
    simp only [List.cons.injEq, V.t.injEq, T.int.injEq, true_and, and_true, Int.natCast_inj] at h
    obtain ⟨h1, rfl⟩ := h
    obtain ⟨rfl, rfl⟩ := regT_inj h1
    exact ⟨rfl, rfl⟩
theorem on_eq {bk : List Bank} {u : Int} {a : Nat} (hk : RK bk) (h : a < 2) : ct_on.fs [.t (.agg [.sl (bk.map bankT), .int .i64 u]), .t (.int .i64 a)] [] = some (.t (.bool (onB bk a)), []) := ct_on.eq (bk, u, a) ⟨hk, h⟩
theorem on_eq0 {b0 b1 : Bank} {u : Int} (hk : RK [b0, b1]) : ct_on.fs [.t (.agg [.sl [.sl (b0.map bsT), .sl (b1.map bsT)], .int .i64 u]), .t (.int .i64 0)] [] = some (.t (.bool (decide (b0.length = 16))), []) := ct_on.eq ([b0, b1], u, 0) ⟨hk, by show 0 < 2; omega⟩
theorem on_eq1 {b0 b1 : Bank} {u : Int} (hk : RK [b0, b1]) : ct_on.fs [.t (.agg [.sl [.sl (b0.map bsT), .sl (b1.map bsT)], .int .i64 u]), .t (.int .i64 1)] [] = some (.t (.bool (decide (b1.length = 16))), []) := ct_on.eq ([b0, b1], u, 1) ⟨hk, by show 1 < 2; omega⟩
theorem on_eqn {u : Int} {a : Nat} (h : a < 2) : ct_on.fs [.t (.agg [.sl [], .int .i64 u]), .t (.int .i64 a)] [] = some (.t (.bool false), []) := by
  refine (ct_on.eq ([], u, a) ⟨.nil, h⟩).trans ?_
  simp [ct_on, onB]
def ct_actv : Ct where
  α := List Bank × Int × Nat
  as x := [.t (regT x.1 x.2.1), .t (.int .i64 x.2.2)]
  ins _ := []
  pre x := RK x.1 ∧ x.2.2 < 1000000000
  r x := .t (.bool (actB x.1 x.2.2))
  outs _ := []
  inj := by
    rintro ⟨a, u, i⟩ ⟨b, v, j⟩ h _
    simp only [List.cons.injEq, V.t.injEq, T.int.injEq, true_and, and_true, Int.natCast_inj] at h
    obtain ⟨h1, rfl⟩ := h
    obtain ⟨rfl, rfl⟩ := regT_inj h1
    exact ⟨rfl, rfl⟩
theorem RK.on {bk : List Bank} (h : RK bk) (a : Nat) : actB bk a = onB bk a := by
  cases h with
  | nil => simp [actB, onB]
  | two b0 b1 h0 h1 =>
    have key : ∀ b : Bank, bkOk b → decide (0 < List.length b) = decide (List.length b = 16) := by
      intro b hb
      rcases hb with h | h <;> simp [h]
    match a with
    | 0 => simpa [actB, onB] using key b0 h0
    | 1 => simpa [actB, onB] using key b1 h1
    | a + 2 => simp [actB, onB]
theorem actv_eq {bk : List Bank} {u : Int} {a : Nat} (hk : RK bk) (h : a < 1000000000) : ct_actv.fs [.t (.agg [.sl (bk.map bankT), .int .i64 u]), .t (.int .i64 a)] [] = some (.t (.bool (onB bk a)), []) := by
  refine (ct_actv.eq (bk, u, a) ⟨hk, h⟩).trans ?_
  simp only [ct_actv, hk.on]
theorem actv_eq0 {b0 b1 : Bank} {u : Int} (hk : RK [b0, b1]) : ct_actv.fs [.t (.agg [.sl [.sl (b0.map bsT), .sl (b1.map bsT)], .int .i64 u]), .t (.int .i64 0)] [] = some (.t (.bool (decide (b0.length = 16))), []) := by
  refine (ct_actv.eq ([b0, b1], u, 0) ⟨hk, by show 0 < 1000000000; omega⟩).trans ?_
  simp only [ct_actv, hk.on]; rfl
theorem actv_eq1 {b0 b1 : Bank} {u : Int} (hk : RK [b0, b1]) : ct_actv.fs [.t (.agg [.sl [.sl (b0.map bsT), .sl (b1.map bsT)], .int .i64 u]), .t (.int .i64 1)] [] = some (.t (.bool (decide (b1.length = 16))), []) := by
  refine (ct_actv.eq ([b0, b1], u, 1) ⟨hk, by show 1 < 1000000000; omega⟩).trans ?_
  simp only [ct_actv, hk.on]; rfl
def valL (bk : List Bank) (a i : Nat) : List UInt8 := (bk.getD a []).getD i []
def badR (bank i : Int) : Prop := bank < 0 ∨ 2 ≤ bank ∨ i < 0 ∨ 16 ≤ i
instance (bank i : Int) : Decidable (badR bank i) := by unfold badR; infer_instance
def valR (bk : List Bank) (bank i : Int) : V := if badR bank i then .tup [.nil, .t (.int .i64 1)] else if onB bk bank.toNat then .tup [.sl 0 0 (valL bk bank.toNat i.toNat).length, .t (.int .i64 0)] else .tup [.nil, .t (.int .i64 27)]
def valO (bk : List Bank) (bank i : Int) : List Ob := if badR bank i then [] else if onB bk bank.toNat then [.live 1 (((valL bk bank.toNat i.toNat).map byteT).map V.t) true false] else []
theorem RM.val {bk : List Bank} (h : RM bk) (a i : Nat) : (valL bk a i).length < 1000000000 := by
  by_cases ha : a < bk.length
  · have e : bk.getD a [] = bk[a] := by simp [List.getD, ha]
    unfold valL
    rw [e]
    exact modL_get (h.2 _ (List.getElem_mem ha)) i
  · have e : bk.getD a [] = [] := by simp [List.getD, List.getElem?_eq_none (Nat.le_of_not_lt ha)]
    unfold valL
    rw [e]; simp
theorem RK.len {bk : List Bank} (h : RK bk) {a : Nat} (ho : onB bk a = true) : a < bk.length := by
  simp only [onB, decide_eq_true_eq] at ho
  rcases Nat.lt_or_ge a bk.length with h1 | h1
  · exact h1
  · rw [List.getD, List.getElem?_eq_none h1] at ho; simp at ho
theorem w_registers_Value (tab : Tab) (gl : Gl) (n1 n2 : Nat) (h1 : tab.look n1 = some ct_index.fs) (h2 : tab.look n2 = some ct_on.fs) (bk : List Bank) (u bank i : Int) (hk : RM bk) :
    (ac_registers_Value n1 n2).wp tab gl (zipF 0 [.t (regT bk u), .t (.int .i64 bank), .t (.int .i64 i)]) (zipF 0 []) (resF [] [(6, none), (7, none)] 0 (fun r o => r = valR bk bank i ∧ o = valO bk bank i)) := by
  by_cases hb : badR bank i
  · rw [valR, valO, if_pos hb, if_pos hb]
    by_cases b1 : bank < 0
    · simp (config := { maxSteps := 2000000 }) (disch := (first | omega | (simp only [lens, lenm]; omega))) only [go_sem, ↓reduceIte, Nat.reduceAdd, Nat.reduceEqDiff, Nat.reduceSub, Nat.reduceMul, Nat.reduceLT, Nat.reduceLeDiff, Nat.reduceBEq, Int.reduceEq, Int.reduceLT, Int.reduceLE, Int.reduceToNat, Int.reduceNeg, Int.reduceAdd, Int.reduceSub, Int.reduceMul, Int.reduceMod, Int.reduceDiv, reduceCtorEq, Nat.reducePow, Int.reducePow, ac_registers_Value, b1]
    · by_cases b2 : 2 ≤ bank
      · simp (config := { maxSteps := 2000000 }) (disch := (first | omega | (simp only [lens, lenm]; omega))) only [go_sem, ↓reduceIte, Nat.reduceAdd, Nat.reduceEqDiff, Nat.reduceSub, Nat.reduceMul, Nat.reduceLT, Nat.reduceLeDiff, Nat.reduceBEq, Int.reduceEq, Int.reduceLT, Int.reduceLE, Int.reduceToNat, Int.reduceNeg, Int.reduceAdd, Int.reduceSub, Int.reduceMul, Int.reduceMod, Int.reduceDiv, reduceCtorEq, Nat.reducePow, Int.reducePow, ac_registers_Value, b1]
      · have hi : ¬ (0 ≤ i ∧ i < 16) := by unfold badR at hb; omega
        simp (config := { maxSteps := 2000000 }) (disch := (first | omega | (simp only [lens, lenm]; omega))) only [go_sem, ↓reduceIte, Nat.reduceAdd, Nat.reduceEqDiff, Nat.reduceSub, Nat.reduceMul, Nat.reduceLT, Nat.reduceLeDiff, Nat.reduceBEq, Int.reduceEq, Int.reduceLT, Int.reduceLE, Int.reduceToNat, Int.reduceNeg, Int.reduceAdd, Int.reduceSub, Int.reduceMul, Int.reduceMod, Int.reduceDiv, reduceCtorEq, Nat.reducePow, Int.reducePow, ac_registers_Value, b1, h1, index_f]
  · rw [valR, valO, if_neg hb, if_neg hb]
    unfold badR at hb
    obtain ⟨a, rfl⟩ := Int.eq_ofNat_of_zero_le (show 0 ≤ bank by omega)
    obtain ⟨k, rfl⟩ := Int.eq_ofNat_of_zero_le (show 0 ≤ i by omega)
    have hon := on_eq (u := u) (a := a) hk.1 (by omega)
    by_cases ho : onB bk a = true
    · have hl := hk.1.len ho
      have hv := hk.val a k
      have hl2 : (bk.getD a []).length = 16 := by simpa [onB] using ho
      rw [ho] at hon
      unfold valL at hv
      simp (config := { maxSteps := 2000000 }) (disch := (first | omega | (simp only [lens, lenm]; omega))) only [go_sem, ↓reduceIte, Nat.reduceAdd, Nat.reduceEqDiff, Nat.reduceSub, Nat.reduceMul, Nat.reduceLT, Nat.reduceLeDiff, Nat.reduceBEq, Int.reduceEq, Int.reduceLT, Int.reduceLE, Int.reduceToNat, Int.reduceNeg, Int.reduceAdd, Int.reduceSub, Int.reduceMul, Int.reduceMod, Int.reduceDiv, reduceCtorEq, Nat.reducePow, Int.reducePow, ac_registers_Value, h1, h2, index_t, hon, ho, valL]
    · have ho' : onB bk a = false := by simpa using ho
      rw [ho'] at hon
      simp (config := { maxSteps := 2000000 }) (disch := (first | omega | (simp only [lens, lenm]; omega))) only [go_sem, ↓reduceIte, Nat.reduceAdd, Nat.reduceEqDiff, Nat.reduceSub, Nat.reduceMul, Nat.reduceLT, Nat.reduceLeDiff, Nat.reduceBEq, Int.reduceEq, Int.reduceLT, Int.reduceLE, Int.reduceToNat, Int.reduceNeg, Int.reduceAdd, Int.reduceSub, Int.reduceMul, Int.reduceMod, Int.reduceDiv, reduceCtorEq, Nat.reducePow, Int.reducePow, ac_registers_Value, h1, h2, index_t, hon, ho']
theorem w_ref8_Value (tab : Tab) (gl : Gl) (n1 n2 : Nat) (h1 : tab.look n1 = some ct_actv.fs) (h2 : tab.look n2 = some ct_copy.fs) (bk : List Bank) (u bank i : Int) (hk : RM bk) :
    (ac_ref8_Value n1 n2).wp tab gl (zipF 0 [.t (regT bk u), .t (.int .i64 bank), .t (.int .i64 i)]) (zipF 0 []) (resF [] [(6, none), (7, none)] 0 (fun r o => r = valR bk bank i ∧ o = valO bk bank i)) := by
  by_cases hb : badR bank i
  · rw [valR, valO, if_pos hb, if_pos hb]
    by_cases b1 : bank < 0
    · simp (config := { maxSteps := 2000000 }) (disch := (first | omega | (simp only [lens, lenm]; omega))) only [go_sem, ↓reduceIte, Nat.reduceAdd, Nat.reduceEqDiff, Nat.reduceSub, Nat.reduceMul, Nat.reduceLT, Nat.reduceLeDiff, Nat.reduceBEq, Int.reduceEq, Int.reduceLT, Int.reduceLE, Int.reduceToNat, Int.reduceNeg, Int.reduceAdd, Int.reduceSub, Int.reduceMul, Int.reduceMod, Int.reduceDiv, reduceCtorEq, Nat.reducePow, Int.reducePow, ac_ref8_Value, b1]
    · by_cases b2 : 2 ≤ bank
      · simp (config := { maxSteps := 2000000 }) (disch := (first | omega | (simp only [lens, lenm]; omega))) only [go_sem, ↓reduceIte, Nat.reduceAdd, Nat.reduceEqDiff, Nat.reduceSub, Nat.reduceMul, Nat.reduceLT, Nat.reduceLeDiff, Nat.reduceBEq, Int.reduceEq, Int.reduceLT, Int.reduceLE, Int.reduceToNat, Int.reduceNeg, Int.reduceAdd, Int.reduceSub, Int.reduceMul, Int.reduceMod, Int.reduceDiv, reduceCtorEq, Nat.reducePow, Int.reducePow, ac_ref8_Value, b1]
      · by_cases b3 : i < 0
        · simp (config := { maxSteps := 2000000 }) (disch := (first | omega | (simp only [lens, lenm]; omega))) only [go_sem, ↓reduceIte, Nat.reduceAdd, Nat.reduceEqDiff, Nat.reduceSub, Nat.reduceMul, Nat.reduceLT, Nat.reduceLeDiff, Nat.reduceBEq, Int.reduceEq, Int.reduceLT, Int.reduceLE, Int.reduceToNat, Int.reduceNeg, Int.reduceAdd, Int.reduceSub, Int.reduceMul, Int.reduceMod, Int.reduceDiv, reduceCtorEq, Nat.reducePow, Int.reducePow, ac_ref8_Value, b1]
        · have hi : 16 ≤ i := by unfold badR at hb; omega
          simp (config := { maxSteps := 2000000 }) (disch := (first | omega | (simp only [lens, lenm]; omega))) only [go_sem, ↓reduceIte, Nat.reduceAdd, Nat.reduceEqDiff, Nat.reduceSub, Nat.reduceMul, Nat.reduceLT, Nat.reduceLeDiff, Nat.reduceBEq, Int.reduceEq, Int.reduceLT, Int.reduceLE, Int.reduceToNat, Int.reduceNeg, Int.reduceAdd, Int.reduceSub, Int.reduceMul, Int.reduceMod, Int.reduceDiv, reduceCtorEq, Nat.reducePow, Int.reducePow, ac_ref8_Value, b1]
  · rw [valR, valO, if_neg hb, if_neg hb]
    unfold badR at hb
    obtain ⟨a, rfl⟩ := Int.eq_ofNat_of_zero_le (show 0 ≤ bank by omega)
    obtain ⟨k, rfl⟩ := Int.eq_ofNat_of_zero_le (show 0 ≤ i by omega)
    have hon := actv_eq (u := u) (a := a) hk.1 (by omega)
    by_cases ho : onB bk a = true
    · have hl := hk.1.len ho
      have hv := hk.val a k
      have hl2 : (bk.getD a []).length = 16 := by simpa [onB] using ho
      rw [ho] at hon
      unfold valL at hv
      simp (config := { maxSteps := 2000000 }) (disch := (first | omega | (simp only [lens, lenm]; omega))) only [go_sem, ↓reduceIte, Nat.reduceAdd, Nat.reduceEqDiff, Nat.reduceSub, Nat.reduceMul, Nat.reduceLT, Nat.reduceLeDiff, Nat.reduceBEq, Int.reduceEq, Int.reduceLT, Int.reduceLE, Int.reduceToNat, Int.reduceNeg, Int.reduceAdd, Int.reduceSub, Int.reduceMul, Int.reduceMod, Int.reduceDiv, reduceCtorEq, Nat.reducePow, Int.reducePow, ac_ref8_Value, h1, h2, hon, ho, valL, copy_eq]
    · have ho' : onB bk a = false := by simpa using ho
      rw [ho'] at hon
      simp (config := { maxSteps := 2000000 }) (disch := (first | omega | (simp only [lens, lenm]; omega))) only [go_sem, ↓reduceIte, Nat.reduceAdd, Nat.reduceEqDiff, Nat.reduceSub, Nat.reduceMul, Nat.reduceLT, Nat.reduceLeDiff, Nat.reduceBEq, Int.reduceEq, Int.reduceLT, Int.reduceLE, Int.reduceToNat, Int.reduceNeg, Int.reduceAdd, Int.reduceSub, Int.reduceMul, Int.reduceMod, Int.reduceDiv, reduceCtorEq, Nat.reducePow, Int.reducePow, ac_ref8_Value, h1, h2, hon, ho']
end Go.Eng
end
section
set_option maxRecDepth 20000
set_option maxHeartbeats 16000000
namespace Go.Eng
def ct_least : Ct where
  α := Int × Bool
  as x := [.t (.int .i64 x.1), .t (.bool x.2)]
  ins _ := []
  pre _ := True
  r x := .t (.int .i64 (leastI x.1 x.2))
  outs _ := []
  inj := by
    rintro ⟨a, b⟩ ⟨c, d⟩ h _
    simp at h
    obtain ⟨rfl, rfl⟩ := h; exact ⟨rfl, rfl⟩
theorem least_eq {i : Int} {rs : Bool} : ct_least.fs [.t (.int .i64 i), .t (.bool rs)] [] = some (.t (.int .i64 (leastI i rs)), []) := ct_least.eq (i, rs) trivial
def ct_rleast : Ct where
  α := Int × Bool
  as x := [.t (.int .i64 x.1), .t (.bool x.2)]
  ins _ := []
  pre _ := True
  r x := .t (.int .i64 (if leastI x.1 x.2 = 5 then -1 else leastI x.1 x.2))
  outs _ := []
  inj := by
    rintro ⟨a, b⟩ ⟨c, d⟩ h _
    simp at h
    obtain ⟨rfl, rfl⟩ := h; exact ⟨rfl, rfl⟩
theorem rleast_eq {i : Int} {rs : Bool} : ct_rleast.fs [.t (.int .i64 i), .t (.bool rs)] [] = some (.t (.int .i64 (if leastI i rs = 5 then -1 else leastI i rs)), []) := ct_rleast.eq (i, rs) trivial
def rstE (loc i : Int) : Int := if loc < 0 ∨ 4 < loc ∨ i < 0 ∨ 16 ≤ i then 1 else if loc < leastI i true then 13 else 0
def rst1 (a : Nat) (b : Bank) (i : Nat) : Bank := if List.length b = 16 then b.set i (List.replicate (szA a) 0) else b
def rstBk (bk : List Bank) (i : Nat) : List Bank := match bk with
  | [b0, b1] => [rst1 0 b0 i, rst1 1 b1 i]
  | bk => bk
def rstR (bk : List Bank) (u loc i : Int) : V := if rstE loc i = 0 then .tup [.t (regT (rstBk bk i.toNat) (u + 1)), .t (.int .i64 0)] else .tup [.t (regT [] 0), .t (.int .i64 (rstE loc i))]
theorem rst1_length {a : Nat} {b : Bank} {i : Nat} : List.length (rst1 a b i) = List.length b := by
  unfold rst1; split <;> simp
theorem w_registers_Reset_err (tab : Tab) (gl : Gl) (n1 n2 n3 n4 n5 n6 : Nat) (h1 : tab.look n1 = some ct_index.fs) (h2 : tab.look n2 = some ct_least.fs) (bk : List Bank) (u loc i : Int) (he : rstE loc i ≠ 0) : (ac_registers_Reset n1 n2 n3 n4 n5 n6).wp tab gl (zipF 0 [.t (regT bk u), .t (.int .i64 loc), .t (.int .i64 i)]) (zipF 0 []) (resW [(6, some (2, true)), (7, none)] 0 (fun r o => r = .tup [.t (regT [] 0), .t (.int .i64 (rstE loc i))] ∧ o = [])) := by
  unfold rstE at he ⊢
  by_cases a1 : loc < 0
  · simp (config := { maxSteps := 2000000 }) (disch := (first | omega | (simp only [lens, lenm]; omega))) only [go_sem, ↓reduceIte, Nat.reduceAdd, Nat.reduceEqDiff, Nat.reduceSub, Nat.reduceMul, Nat.reduceLT, Nat.reduceLeDiff, Nat.reduceBEq, Int.reduceEq, Int.reduceLT, Int.reduceLE, Int.reduceToNat, Int.reduceNeg, Int.reduceAdd, Int.reduceSub, Int.reduceMul, Int.reduceMod, Int.reduceDiv, reduceCtorEq, Nat.reducePow, Int.reducePow, ac_registers_Reset, a1, List.map_nil]
  · by_cases a2 : 4 < loc
    · simp (config := { maxSteps := 2000000 }) (disch := (first | omega | (simp only [lens, lenm]; omega))) only [go_sem, ↓reduceIte, Nat.reduceAdd, Nat.reduceEqDiff, Nat.reduceSub, Nat.reduceMul, Nat.reduceLT, Nat.reduceLeDiff, Nat.reduceBEq, Int.reduceEq, Int.reduceLT, Int.reduceLE, Int.reduceToNat, Int.reduceNeg, Int.reduceAdd, Int.reduceSub, Int.reduceMul, Int.reduceMod, Int.reduceDiv, reduceCtorEq, Nat.reducePow, Int.reducePow, ac_registers_Reset, a1, a2, List.map_nil]
    · by_cases a3 : i < 0
      · simp (config := { maxSteps := 2000000 }) (disch := (first | omega | (simp only [lens, lenm]; omega))) only [go_sem, ↓reduceIte, Nat.reduceAdd, Nat.reduceEqDiff, Nat.reduceSub, Nat.reduceMul, Nat.reduceLT, Nat.reduceLeDiff, Nat.reduceBEq, Int.reduceEq, Int.reduceLT, Int.reduceLE, Int.reduceToNat, Int.reduceNeg, Int.reduceAdd, Int.reduceSub, Int.reduceMul, Int.reduceMod, Int.reduceDiv, reduceCtorEq, Nat.reducePow, Int.reducePow, ac_registers_Reset, a1, a2, a3, h1, index_f, List.map_nil]
      · by_cases a4 : 16 ≤ i
        · simp (config := { maxSteps := 2000000 }) (disch := (first | omega | (simp only [lens, lenm]; omega))) only [go_sem, ↓reduceIte, Nat.reduceAdd, Nat.reduceEqDiff, Nat.reduceSub, Nat.reduceMul, Nat.reduceLT, Nat.reduceLeDiff, Nat.reduceBEq, Int.reduceEq, Int.reduceLT, Int.reduceLE, Int.reduceToNat, Int.reduceNeg, Int.reduceAdd, Int.reduceSub, Int.reduceMul, Int.reduceMod, Int.reduceDiv, reduceCtorEq, Nat.reducePow, Int.reducePow, ac_registers_Reset, a1, a2, a3, a4, h1, index_f, List.map_nil]
        · by_cases a5 : loc < leastI i true
          · simp (config := { maxSteps := 2000000 }) (disch := (first | omega | (simp only [lens, lenm]; omega))) only [go_sem, ↓reduceIte, Nat.reduceAdd, Nat.reduceEqDiff, Nat.reduceSub, Nat.reduceMul, Nat.reduceLT, Nat.reduceLeDiff, Nat.reduceBEq, Int.reduceEq, Int.reduceLT, Int.reduceLE, Int.reduceToNat, Int.reduceNeg, Int.reduceAdd, Int.reduceSub, Int.reduceMul, Int.reduceMod, Int.reduceDiv, reduceCtorEq, Nat.reducePow, Int.reducePow, ac_registers_Reset, a1, a2, a3, a4, a5, h1, index_t, h2, least_eq, List.map_nil]
          · simp [a1, a2, a3, a4, a5] at he
theorem w_ref8_Reset_err (tab : Tab) (gl : Gl) (n1 n2 n3 n4 n5 : Nat) (h1 : tab.look n1 = some ct_rleast.fs) (bk : List Bank) (u loc i : Int) (he : rstE loc i ≠ 0) : (ac_ref8_Reset n1 n2 n3 n4 n5).wp tab gl (zipF 0 [.t (regT bk u), .t (.int .i64 loc), .t (.int .i64 i)]) (zipF 0 []) (resW [(6, some (2, true)), (7, none)] 0 (fun r o => r = .tup [.t (regT [] 0), .t (.int .i64 (rstE loc i))] ∧ o = [])) := by
  unfold rstE at he ⊢
  by_cases a1 : loc < 0
  · simp (config := { maxSteps := 2000000 }) (disch := (first | omega | (simp only [lens, lenm]; omega))) only [go_sem, ↓reduceIte, Nat.reduceAdd, Nat.reduceEqDiff, Nat.reduceSub, Nat.reduceMul, Nat.reduceLT, Nat.reduceLeDiff, Nat.reduceBEq, Int.reduceEq, Int.reduceLT, Int.reduceLE, Int.reduceToNat, Int.reduceNeg, Int.reduceAdd, Int.reduceSub, Int.reduceMul, Int.reduceMod, Int.reduceDiv, reduceCtorEq, Nat.reducePow, Int.reducePow, ac_ref8_Reset, a1, List.map_nil]
  · by_cases a2 : 4 < loc
    · simp (config := { maxSteps := 2000000 }) (disch := (first | omega | (simp only [lens, lenm]; omega))) only [go_sem, ↓reduceIte, Nat.reduceAdd, Nat.reduceEqDiff, Nat.reduceSub, Nat.reduceMul, Nat.reduceLT, Nat.reduceLeDiff, Nat.reduceBEq, Int.reduceEq, Int.reduceLT, Int.reduceLE, Int.reduceToNat, Int.reduceNeg, Int.reduceAdd, Int.reduceSub, Int.reduceMul, Int.reduceMod, Int.reduceDiv, reduceCtorEq, Nat.reducePow, Int.reducePow, ac_ref8_Reset, a1, a2, List.map_nil]
    · by_cases a3 : i < 0
      · simp (config := { maxSteps := 2000000 }) (disch := (first | omega | (simp only [lens, lenm]; omega))) only [go_sem, ↓reduceIte, Nat.reduceAdd, Nat.reduceEqDiff, Nat.reduceSub, Nat.reduceMul, Nat.reduceLT, Nat.reduceLeDiff, Nat.reduceBEq, Int.reduceEq, Int.reduceLT, Int.reduceLE, Int.reduceToNat, Int.reduceNeg, Int.reduceAdd, Int.reduceSub, Int.reduceMul, Int.reduceMod, Int.reduceDiv, reduceCtorEq, Nat.reducePow, Int.reducePow, ac_ref8_Reset, a1, a2, a3, List.map_nil]
      · by_cases a4 : 16 ≤ i
        · simp (config := { maxSteps := 2000000 }) (disch := (first | omega | (simp only [lens, lenm]; omega))) only [go_sem, ↓reduceIte, Nat.reduceAdd, Nat.reduceEqDiff, Nat.reduceSub, Nat.reduceMul, Nat.reduceLT, Nat.reduceLeDiff, Nat.reduceBEq, Int.reduceEq, Int.reduceLT, Int.reduceLE, Int.reduceToNat, Int.reduceNeg, Int.reduceAdd, Int.reduceSub, Int.reduceMul, Int.reduceMod, Int.reduceDiv, reduceCtorEq, Nat.reducePow, Int.reducePow, ac_ref8_Reset, a1, a2, a3, a4, List.map_nil]
        · by_cases a5 : loc < leastI i true
          · by_cases a6 : leastI i true = 5
            · have a8 : loc < 5 := by omega
              simp (config := { maxSteps := 2000000 }) (disch := (first | omega | (simp only [lens, lenm]; omega))) only [go_sem, ↓reduceIte, Nat.reduceAdd, Nat.reduceEqDiff, Nat.reduceSub, Nat.reduceMul, Nat.reduceLT, Nat.reduceLeDiff, Nat.reduceBEq, Int.reduceEq, Int.reduceLT, Int.reduceLE, Int.reduceToNat, Int.reduceNeg, Int.reduceAdd, Int.reduceSub, Int.reduceMul, Int.reduceMod, Int.reduceDiv, reduceCtorEq, Nat.reducePow, Int.reducePow, ac_ref8_Reset, a1, a2, a3, a4, a6, a8, h1, rleast_eq, List.map_nil]
            · have a7 : 0 ≤ leastI i true := by unfold leastI; split <;> (try split) <;> (try split) <;> (try split) <;> omega
              simp (config := { maxSteps := 2000000 }) (disch := (first | omega | (simp only [lens, lenm]; omega))) only [go_sem, ↓reduceIte, Nat.reduceAdd, Nat.reduceEqDiff, Nat.reduceSub, Nat.reduceMul, Nat.reduceLT, Nat.reduceLeDiff, Nat.reduceBEq, Int.reduceEq, Int.reduceLT, Int.reduceLE, Int.reduceToNat, Int.reduceNeg, Int.reduceAdd, Int.reduceSub, Int.reduceMul, Int.reduceMod, Int.reduceDiv, reduceCtorEq, Nat.reducePow, Int.reducePow, ac_ref8_Reset, a1, a2, a3, a4, a5, a6, h1, rleast_eq, List.map_nil]
          · simp [a1, a2, a3, a4, a5] at he
theorem w_registers_Reset0 (tab : Tab) (gl : Gl) (n1 n2 n3 n4 n5 n6 : Nat) (h1 : tab.look n1 = some ct_index.fs) (h2 : tab.look n2 = some ct_least.fs) (h3 : tab.look n3 = some ct_twin.fs) (u loc i : Int) (hu : 0 ≤ u ∧ u < 1000000000) (he : rstE loc i = 0) : (ac_registers_Reset n1 n2 n3 n4 n5 n6).wp tab gl (zipF 0 [.t (regT [] u), .t (.int .i64 loc), .t (.int .i64 i)]) (zipF 0 []) (resW [(6, some (2, true)), (7, none)] 0 (fun r o => r = .tup [.t (regT [] (u + 1)), .t (.int .i64 0)] ∧ o = [])) := by
  unfold rstE at he
  split at he
  · omega
  · split at he
    · omega
    · rename_i e1 e2
      simp (config := { maxSteps := 2000000 }) (disch := (first | omega | (simp only [lens, lenm]; omega))) only [go_sem, ↓reduceIte, Nat.reduceAdd, Nat.reduceEqDiff, Nat.reduceSub, Nat.reduceMul, Nat.reduceLT, Nat.reduceLeDiff, Nat.reduceBEq, Int.reduceEq, Int.reduceLT, Int.reduceLE, Int.reduceToNat, Int.reduceNeg, Int.reduceAdd, Int.reduceSub, Int.reduceMul, Int.reduceMod, Int.reduceDiv, reduceCtorEq, Nat.reducePow, Int.reducePow, ac_registers_Reset, h1, index_t, h2, least_eq, h3, twin_eq0, List.map_nil]
      refine loop_fuel 1 ?_
      simp (config := { maxSteps := 2000000 }) (disch := (first | omega | (simp only [lens, lenm]; omega))) only [go_sem, ↓reduceIte, Nat.reduceAdd, Nat.reduceEqDiff, Nat.reduceSub, Nat.reduceMul, Nat.reduceLT, Nat.reduceLeDiff, Nat.reduceBEq, Int.reduceEq, Int.reduceLT, Int.reduceLE, Int.reduceToNat, Int.reduceNeg, Int.reduceAdd, Int.reduceSub, Int.reduceMul, Int.reduceMod, Int.reduceDiv, reduceCtorEq, Nat.reducePow, Int.reducePow, loopN_succ, ac_registers_Reset_L0]
theorem w_ref8_Reset0 (tab : Tab) (gl : Gl) (n1 n2 n3 n4 n5 : Nat) (h1 : tab.look n1 = some ct_rleast.fs) (h3 : tab.look n2 = some ct_twin.fs) (h4 : tab.look n3 = some ct_actv.fs) (u loc i : Int) (hu : 0 ≤ u ∧ u < 1000000000) (he : rstE loc i = 0) : (ac_ref8_Reset n1 n2 n3 n4 n5).wp tab gl (zipF 0 [.t (regT [] u), .t (.int .i64 loc), .t (.int .i64 i)]) (zipF 0 []) (resW [(6, some (2, true)), (7, none)] 0 (fun r o => r = .tup [.t (regT [] (u + 1)), .t (.int .i64 0)] ∧ o = [])) := by
  have c0 : ∀ a : Nat, a < 2 → ct_actv.fs [.t (.agg [.sl [], .int .i64 u]), .t (.int .i64 a)] [] = some (.t (.bool false), []) := fun a ha => (actv_eq (bk := []) .nil (by omega)).trans (by simp [onB])
  have c1 := c0 0 (by omega)
  have c2 := c0 1 (by omega)
  rw [show ((0 : Nat) : Int) = 0 from rfl] at c1
  rw [show ((1 : Nat) : Int) = 1 from rfl] at c2
  unfold rstE at he
  split at he
  · omega
  · split at he
    · omega
    · rename_i e1 e2
      have a7 : 0 ≤ leastI i true := by unfold leastI; split <;> (try split) <;> (try split) <;> (try split) <;> omega
      have a6 : ¬ leastI i true = 5 := by omega
      simp (config := { maxSteps := 2000000 }) (disch := (first | omega | (simp only [lens, lenm]; omega))) only [go_sem, ↓reduceIte, Nat.reduceAdd, Nat.reduceEqDiff, Nat.reduceSub, Nat.reduceMul, Nat.reduceLT, Nat.reduceLeDiff, Nat.reduceBEq, Int.reduceEq, Int.reduceLT, Int.reduceLE, Int.reduceToNat, Int.reduceNeg, Int.reduceAdd, Int.reduceSub, Int.reduceMul, Int.reduceMod, Int.reduceDiv, reduceCtorEq, Nat.reducePow, Int.reducePow, ac_ref8_Reset, h1, rleast_eq, h3, twin_eq0, List.map_nil, a6]
      refine loop_fuel 3 ?_
      simp (config := { maxSteps := 2000000 }) (disch := (first | omega | (simp only [lens, lenm]; omega))) only [go_sem, ↓reduceIte, Nat.reduceAdd, Nat.reduceEqDiff, Nat.reduceSub, Nat.reduceMul, Nat.reduceLT, Nat.reduceLeDiff, Nat.reduceBEq, Int.reduceEq, Int.reduceLT, Int.reduceLE, Int.reduceToNat, Int.reduceNeg, Int.reduceAdd, Int.reduceSub, Int.reduceMul, Int.reduceMod, Int.reduceDiv, reduceCtorEq, Nat.reducePow, Int.reducePow, loopN_succ, ac_ref8_Reset_L0, h4, c1, c2]
theorem w_registers_Reset2 (tab : Tab) (gl : Gl) (n1 n2 n3 n4 n5 n6 : Nat) (h1 : tab.look n1 = some ct_index.fs) (h2 : tab.look n2 = some ct_least.fs) (h3 : tab.look n3 = some ct_twin.fs) (h4 : tab.look n4 = some ct_on.fs) (h5 : tab.look n5 = some ct_size.fs) (h6 : tab.look n6 = some ct_fill.fs) (b0 b1 : Bank) (u loc i : Int) (hu : 0 ≤ u ∧ u < 1000000000) (hk : RM [b0, b1]) (he : rstE loc i = 0) :
    (ac_registers_Reset n1 n2 n3 n4 n5 n6).wp tab gl (zipF 0 [.t (regT [b0, b1] u), .t (.int .i64 loc), .t (.int .i64 i)]) (zipF 0 []) (resW [(6, some (2, true)), (7, none)] 0 (fun r o => r = .tup [.t (regT (rstBk [b0, b1] i.toNat) (u + 1)), .t (.int .i64 0)] ∧ o = [])) := by
  have gg : bkOk b0 ∧ bkOk b1 := by
    obtain ⟨hrk, _⟩ := hk
    cases hrk with
    | two _ _ h0 h1 => exact ⟨h0, h1⟩
  obtain ⟨g0, g1⟩ := gg
  unfold rstE at he
  split at he
  · omega
  · split at he
    · omega
    · rename_i e1 e2
      obtain ⟨n, rfl⟩ := Int.eq_ofNat_of_zero_le (show 0 ≤ i by omega)
      simp (config := { maxSteps := 2000000 }) (disch := (first | omega | (simp only [lens, lenm]; omega))) only [go_sem, ↓reduceIte, Nat.reduceAdd, Nat.reduceEqDiff, Nat.reduceSub, Nat.reduceMul, Nat.reduceLT, Nat.reduceLeDiff, Nat.reduceBEq, Int.reduceEq, Int.reduceLT, Int.reduceLE, Int.reduceToNat, Int.reduceNeg, Int.reduceAdd, Int.reduceSub, Int.reduceMul, Int.reduceMod, Int.reduceDiv, reduceCtorEq, Nat.reducePow, Int.reducePow, ac_registers_Reset, h1, index_t, h2, least_eq, h3, twin_eq2 hk, List.map_nil, List.map_cons]
      refine loop_upto 2 (fun k => match k with | 0 => [(2, .t (.int .i64 (n : Nat))), (3, .ref 4096 0 0), (6, .ref 4112 0 0), (8, .ref 24608 0 0), (31, .t (.int .i64 2)), (32, .t (.int .i64 0))] | 1 => [(2, .t (.int .i64 (n : Nat))), (3, .ref 4096 0 0), (6, .ref 4112 0 0), (8, .ref 24608 0 0), (31, .t (.int .i64 2)), (32, .t (.int .i64 1))] | _ => [(2, .t (.int .i64 (n : Nat))), (3, .ref 4096 0 0), (6, .ref 4112 0 0), (8, .ref 24608 0 0), (31, .t (.int .i64 2)), (32, .t (.int .i64 2))]) (fun k => match k with | 0 => [(24608, .live 2 [.agg [.sl 24592 0 2, .t (.int .i64 u)]] true true), (24594, .live 1 (((b1).map bsT).map V.t) true false), (24593, .live 1 (((b0).map bsT).map V.t) true false), (24592, .live 1 [.sl 24593 0 (List.length b0), .sl 24594 0 (List.length b1)] true false), (4112, .live 2 [.agg [.nil, .t (.int .i64 0)]] true true), (4096, .live 2 [.t (regT [b0, b1] u)] true true)] | 1 => [(24608, .live 2 [.agg [.sl 24592 0 2, .t (.int .i64 u)]] true true), (24594, .live 1 (((b1).map bsT).map V.t) true false), (24593, .live 1 (((rst1 0 b0 n).map bsT).map V.t) true false), (24592, .live 1 [.sl 24593 0 (List.length b0), .sl 24594 0 (List.length b1)] true false), (4112, .live 2 [.agg [.nil, .t (.int .i64 0)]] true true), (4096, .live 2 [.t (regT [b0, b1] u)] true true)] | _ => [(24608, .live 2 [.agg [.sl 24592 0 2, .t (.int .i64 u)]] true true), (24594, .live 1 (((rst1 1 b1 n).map bsT).map V.t) true false), (24593, .live 1 (((rst1 0 b0 n).map bsT).map V.t) true false), (24592, .live 1 [.sl 24593 0 (List.length b0), .sl 24594 0 (List.length b1)] true false), (4112, .live 2 [.agg [.nil, .t (.int .i64 0)]] true true), (4096, .live 2 [.t (regT [b0, b1] u)] true true)]) ?_ (fun k hk2 => ?_)
      · refine Weak.rd id ?_ ?_ rfl
        all_goals simp (config := { maxSteps := 2000000 }) (disch := (first | omega | (simp only [lens, lenm]; omega))) only [go_sem, ↓reduceIte, Nat.reduceAdd, Nat.reduceEqDiff, Nat.reduceSub, Nat.reduceMul, Nat.reduceLT, Nat.reduceLeDiff, Nat.reduceBEq, Int.reduceEq, Int.reduceLT, Int.reduceLE, Int.reduceToNat, Int.reduceNeg, Int.reduceAdd, Int.reduceSub, Int.reduceMul, Int.reduceMod, Int.reduceDiv, reduceCtorEq, Nat.reducePow, Int.reducePow, id]
      · rcases (show k = 0 ∨ k = 1 ∨ k = 2 by omega) with rfl | rfl | rfl
        · rcases g0 with z0 | z0
          · simp (config := { maxSteps := 2000000 }) (disch := (first | omega | (simp only [lens, lenm]; omega))) only [go_sem, ↓reduceIte, Nat.reduceAdd, Nat.reduceEqDiff, Nat.reduceSub, Nat.reduceMul, Nat.reduceLT, Nat.reduceLeDiff, Nat.reduceBEq, Int.reduceEq, Int.reduceLT, Int.reduceLE, Int.reduceToNat, Int.reduceNeg, Int.reduceAdd, Int.reduceSub, Int.reduceMul, Int.reduceMod, Int.reduceDiv, reduceCtorEq, Nat.reducePow, Int.reducePow, ac_registers_Reset_L0, z0, h5, h6, size_eq0, size_eq1, fill_eq20, fill_eq32, h4, on_eq0 hk.1, on_eq1 hk.1, rst1_length]
            refine Weak.rd id ?_ ?_ rfl
            all_goals simp (config := { maxSteps := 2000000 }) (disch := (first | omega | (simp only [lens, lenm]; omega))) only [go_sem, ↓reduceIte, Nat.reduceAdd, Nat.reduceEqDiff, Nat.reduceSub, Nat.reduceMul, Nat.reduceLT, Nat.reduceLeDiff, Nat.reduceBEq, Int.reduceEq, Int.reduceLT, Int.reduceLE, Int.reduceToNat, Int.reduceNeg, Int.reduceAdd, Int.reduceSub, Int.reduceMul, Int.reduceMod, Int.reduceDiv, reduceCtorEq, Nat.reducePow, Int.reducePow, id, rst1, z0, rst1_length]
          · simp (config := { maxSteps := 2000000 }) (disch := (first | omega | (simp only [lens, lenm]; omega))) only [go_sem, ↓reduceIte, Nat.reduceAdd, Nat.reduceEqDiff, Nat.reduceSub, Nat.reduceMul, Nat.reduceLT, Nat.reduceLeDiff, Nat.reduceBEq, Int.reduceEq, Int.reduceLT, Int.reduceLE, Int.reduceToNat, Int.reduceNeg, Int.reduceAdd, Int.reduceSub, Int.reduceMul, Int.reduceMod, Int.reduceDiv, reduceCtorEq, Nat.reducePow, Int.reducePow, ac_registers_Reset_L0, z0, h5, h6, size_eq0, size_eq1, fill_eq20, fill_eq32, h4, on_eq0 hk.1, on_eq1 hk.1, rst1_length]
            repeat refine And.intro rfl ?_
            refine Weak.cv (hv := []) [45184] id ?_ rfl
            simp (config := { maxSteps := 2000000 }) (disch := (first | omega | (simp only [lens, lenm]; omega))) only [go_sem, ↓reduceIte, Nat.reduceAdd, Nat.reduceEqDiff, Nat.reduceSub, Nat.reduceMul, Nat.reduceLT, Nat.reduceLeDiff, Nat.reduceBEq, Int.reduceEq, Int.reduceLT, Int.reduceLE, Int.reduceToNat, Int.reduceNeg, Int.reduceAdd, Int.reduceSub, Int.reduceMul, Int.reduceMod, Int.reduceDiv, reduceCtorEq, Nat.reducePow, Int.reducePow, id, rst1, z0, List.take_replicate, Nat.min_self, rst1_length, szA]
            all_goals rfl
        · rcases g1 with z1 | z1
          · simp (config := { maxSteps := 2000000 }) (disch := (first | omega | (simp only [lens, lenm]; omega))) only [go_sem, ↓reduceIte, Nat.reduceAdd, Nat.reduceEqDiff, Nat.reduceSub, Nat.reduceMul, Nat.reduceLT, Nat.reduceLeDiff, Nat.reduceBEq, Int.reduceEq, Int.reduceLT, Int.reduceLE, Int.reduceToNat, Int.reduceNeg, Int.reduceAdd, Int.reduceSub, Int.reduceMul, Int.reduceMod, Int.reduceDiv, reduceCtorEq, Nat.reducePow, Int.reducePow, ac_registers_Reset_L0, z1, h5, h6, size_eq0, size_eq1, fill_eq20, fill_eq32, h4, on_eq0 hk.1, on_eq1 hk.1, rst1_length]
            refine Weak.rd id ?_ ?_ rfl
            all_goals simp (config := { maxSteps := 2000000 }) (disch := (first | omega | (simp only [lens, lenm]; omega))) only [go_sem, ↓reduceIte, Nat.reduceAdd, Nat.reduceEqDiff, Nat.reduceSub, Nat.reduceMul, Nat.reduceLT, Nat.reduceLeDiff, Nat.reduceBEq, Int.reduceEq, Int.reduceLT, Int.reduceLE, Int.reduceToNat, Int.reduceNeg, Int.reduceAdd, Int.reduceSub, Int.reduceMul, Int.reduceMod, Int.reduceDiv, reduceCtorEq, Nat.reducePow, Int.reducePow, id, rst1, z1, rst1_length]
          · simp (config := { maxSteps := 2000000 }) (disch := (first | omega | (simp only [lens, lenm]; omega))) only [go_sem, ↓reduceIte, Nat.reduceAdd, Nat.reduceEqDiff, Nat.reduceSub, Nat.reduceMul, Nat.reduceLT, Nat.reduceLeDiff, Nat.reduceBEq, Int.reduceEq, Int.reduceLT, Int.reduceLE, Int.reduceToNat, Int.reduceNeg, Int.reduceAdd, Int.reduceSub, Int.reduceMul, Int.reduceMod, Int.reduceDiv, reduceCtorEq, Nat.reducePow, Int.reducePow, ac_registers_Reset_L0, z1, h5, h6, size_eq0, size_eq1, fill_eq20, fill_eq32, h4, on_eq0 hk.1, on_eq1 hk.1, rst1_length]
            repeat refine And.intro rfl ?_
            refine Weak.cv (hv := []) [45184] id ?_ rfl
            simp (config := { maxSteps := 2000000 }) (disch := (first | omega | (simp only [lens, lenm]; omega))) only [go_sem, ↓reduceIte, Nat.reduceAdd, Nat.reduceEqDiff, Nat.reduceSub, Nat.reduceMul, Nat.reduceLT, Nat.reduceLeDiff, Nat.reduceBEq, Int.reduceEq, Int.reduceLT, Int.reduceLE, Int.reduceToNat, Int.reduceNeg, Int.reduceAdd, Int.reduceSub, Int.reduceMul, Int.reduceMod, Int.reduceDiv, reduceCtorEq, Nat.reducePow, Int.reducePow, id, rst1, z1, List.take_replicate, Nat.min_self, rst1_length, szA]
            all_goals rfl
        · have t0 : List.take (List.length b0) (rst1 0 b0 n) = rst1 0 b0 n := List.take_of_length_le (by rw [rst1_length]; exact Nat.le_refl _)
          have t1 : List.take (List.length b1) (rst1 1 b1 n) = rst1 1 b1 n := List.take_of_length_le (by rw [rst1_length]; exact Nat.le_refl _)
          simp (config := { maxSteps := 2000000 }) (disch := (first | omega | (simp only [lens, lenm]; omega))) only [go_sem, ↓reduceIte, Nat.reduceAdd, Nat.reduceEqDiff, Nat.reduceSub, Nat.reduceMul, Nat.reduceLT, Nat.reduceLeDiff, Nat.reduceBEq, Int.reduceEq, Int.reduceLT, Int.reduceLE, Int.reduceToNat, Int.reduceNeg, Int.reduceAdd, Int.reduceSub, Int.reduceMul, Int.reduceMod, Int.reduceDiv, reduceCtorEq, Nat.reducePow, Int.reducePow, ac_registers_Reset_L0, rst1_length, t0, t1]
          rfl
theorem w_ref8_Reset2 (tab : Tab) (gl : Gl) (n1 n2 n3 n4 n5 : Nat) (h1 : tab.look n1 = some ct_rleast.fs) (h3 : tab.look n2 = some ct_twin.fs) (h4 : tab.look n3 = some ct_actv.fs) (h5 : tab.look n4 = some ct_size.fs) (h6 : tab.look n5 = some ct_fill.fs) (b0 b1 : Bank) (u loc i : Int) (hu : 0 ≤ u ∧ u < 1000000000) (hk : RM [b0, b1]) (he : rstE loc i = 0) :
    (ac_ref8_Reset n1 n2 n3 n4 n5).wp tab gl (zipF 0 [.t (regT [b0, b1] u), .t (.int .i64 loc), .t (.int .i64 i)]) (zipF 0 []) (resW [(6, some (2, true)), (7, none)] 0 (fun r o => r = .tup [.t (regT (rstBk [b0, b1] i.toNat) (u + 1)), .t (.int .i64 0)] ∧ o = [])) := by
  have gg : bkOk b0 ∧ bkOk b1 := by
    obtain ⟨hrk, _⟩ := hk
    cases hrk with
    | two _ _ h0 h1 => exact ⟨h0, h1⟩
  obtain ⟨g0, g1⟩ := gg
  unfold rstE at he
  split at he
  · omega
  · split at he
    · omega
    · rename_i e1 e2
      obtain ⟨n, rfl⟩ := Int.eq_ofNat_of_zero_le (show 0 ≤ i by omega)
      have a7 : 0 ≤ leastI (n : Int) true := by unfold leastI; split <;> (try split) <;> (try split) <;> (try split) <;> omega
      have a6 : ¬ leastI (n : Int) true = 5 := by omega
      simp (config := { maxSteps := 2000000 }) (disch := (first | omega | (simp only [lens, lenm]; omega))) only [go_sem, ↓reduceIte, Nat.reduceAdd, Nat.reduceEqDiff, Nat.reduceSub, Nat.reduceMul, Nat.reduceLT, Nat.reduceLeDiff, Nat.reduceBEq, Int.reduceEq, Int.reduceLT, Int.reduceLE, Int.reduceToNat, Int.reduceNeg, Int.reduceAdd, Int.reduceSub, Int.reduceMul, Int.reduceMod, Int.reduceDiv, reduceCtorEq, Nat.reducePow, Int.reducePow, ac_ref8_Reset, h1, rleast_eq, h3, twin_eq2 hk, List.map_nil, List.map_cons, a6]
      refine loop_upto 2 (fun k => match k with | 0 => [(2, .t (.int .i64 (n : Nat))), (3, .ref 4096 0 0), (6, .ref 4112 0 0), (9, .ref 28704 0 0), (10, .t (.int .i64 0))] | 1 => [(2, .t (.int .i64 (n : Nat))), (3, .ref 4096 0 0), (6, .ref 4112 0 0), (9, .ref 28704 0 0), (10, .t (.int .i64 1))] | _ => [(2, .t (.int .i64 (n : Nat))), (3, .ref 4096 0 0), (6, .ref 4112 0 0), (9, .ref 28704 0 0), (10, .t (.int .i64 2))]) (fun k => match k with | 0 => [(28704, .live 2 [.agg [.sl 28688 0 2, .t (.int .i64 u)]] true true), (28690, .live 1 (((b1).map bsT).map V.t) true false), (28689, .live 1 (((b0).map bsT).map V.t) true false), (28688, .live 1 [.sl 28689 0 (List.length b0), .sl 28690 0 (List.length b1)] true false), (4112, .live 2 [.agg [.nil, .t (.int .i64 0)]] true true), (4096, .live 2 [.t (regT [b0, b1] u)] true true)] | 1 => [(28704, .live 2 [.agg [.sl 28688 0 2, .t (.int .i64 u)]] true true), (28690, .live 1 (((b1).map bsT).map V.t) true false), (28689, .live 1 (((rst1 0 b0 n).map bsT).map V.t) true false), (28688, .live 1 [.sl 28689 0 (List.length b0), .sl 28690 0 (List.length b1)] true false), (4112, .live 2 [.agg [.nil, .t (.int .i64 0)]] true true), (4096, .live 2 [.t (regT [b0, b1] u)] true true)] | _ => [(28704, .live 2 [.agg [.sl 28688 0 2, .t (.int .i64 u)]] true true), (28690, .live 1 (((rst1 1 b1 n).map bsT).map V.t) true false), (28689, .live 1 (((rst1 0 b0 n).map bsT).map V.t) true false), (28688, .live 1 [.sl 28689 0 (List.length b0), .sl 28690 0 (List.length b1)] true false), (4112, .live 2 [.agg [.nil, .t (.int .i64 0)]] true true), (4096, .live 2 [.t (regT [b0, b1] u)] true true)]) ?_ (fun k hk2 => ?_)
      · refine Weak.rd id ?_ ?_ rfl
        all_goals simp (config := { maxSteps := 2000000 }) (disch := (first | omega | (simp only [lens, lenm]; omega))) only [go_sem, ↓reduceIte, Nat.reduceAdd, Nat.reduceEqDiff, Nat.reduceSub, Nat.reduceMul, Nat.reduceLT, Nat.reduceLeDiff, Nat.reduceBEq, Int.reduceEq, Int.reduceLT, Int.reduceLE, Int.reduceToNat, Int.reduceNeg, Int.reduceAdd, Int.reduceSub, Int.reduceMul, Int.reduceMod, Int.reduceDiv, reduceCtorEq, Nat.reducePow, Int.reducePow, id]
      · rcases (show k = 0 ∨ k = 1 ∨ k = 2 by omega) with rfl | rfl | rfl
        · rcases g0 with z0 | z0
          · simp (config := { maxSteps := 2000000 }) (disch := (first | omega | (simp only [lens, lenm]; omega))) only [go_sem, ↓reduceIte, Nat.reduceAdd, Nat.reduceEqDiff, Nat.reduceSub, Nat.reduceMul, Nat.reduceLT, Nat.reduceLeDiff, Nat.reduceBEq, Int.reduceEq, Int.reduceLT, Int.reduceLE, Int.reduceToNat, Int.reduceNeg, Int.reduceAdd, Int.reduceSub, Int.reduceMul, Int.reduceMod, Int.reduceDiv, reduceCtorEq, Nat.reducePow, Int.reducePow, ac_ref8_Reset_L0, z0, h5, h6, size_eq0, size_eq1, fill_eq20, fill_eq32, h4, actv_eq0 hk.1, actv_eq1 hk.1, rst1_length]
            refine Weak.rd id ?_ ?_ rfl
            all_goals simp (config := { maxSteps := 2000000 }) (disch := (first | omega | (simp only [lens, lenm]; omega))) only [go_sem, ↓reduceIte, Nat.reduceAdd, Nat.reduceEqDiff, Nat.reduceSub, Nat.reduceMul, Nat.reduceLT, Nat.reduceLeDiff, Nat.reduceBEq, Int.reduceEq, Int.reduceLT, Int.reduceLE, Int.reduceToNat, Int.reduceNeg, Int.reduceAdd, Int.reduceSub, Int.reduceMul, Int.reduceMod, Int.reduceDiv, reduceCtorEq, Nat.reducePow, Int.reducePow, id, rst1, z0, rst1_length]
          · simp (config := { maxSteps := 2000000 }) (disch := (first | omega | (simp only [lens, lenm]; omega))) only [go_sem, ↓reduceIte, Nat.reduceAdd, Nat.reduceEqDiff, Nat.reduceSub, Nat.reduceMul, Nat.reduceLT, Nat.reduceLeDiff, Nat.reduceBEq, Int.reduceEq, Int.reduceLT, Int.reduceLE, Int.reduceToNat, Int.reduceNeg, Int.reduceAdd, Int.reduceSub, Int.reduceMul, Int.reduceMod, Int.reduceDiv, reduceCtorEq, Nat.reducePow, Int.reducePow, ac_ref8_Reset_L0, z0, h5, h6, size_eq0, size_eq1, fill_eq20, fill_eq32, h4, actv_eq0 hk.1, actv_eq1 hk.1, rst1_length]
            repeat refine And.intro rfl ?_
            refine Weak.cv (hv := []) [49280] id ?_ rfl
            simp (config := { maxSteps := 2000000 }) (disch := (first | omega | (simp only [lens, lenm]; omega))) only [go_sem, ↓reduceIte, Nat.reduceAdd, Nat.reduceEqDiff, Nat.reduceSub, Nat.reduceMul, Nat.reduceLT, Nat.reduceLeDiff, Nat.reduceBEq, Int.reduceEq, Int.reduceLT, Int.reduceLE, Int.reduceToNat, Int.reduceNeg, Int.reduceAdd, Int.reduceSub, Int.reduceMul, Int.reduceMod, Int.reduceDiv, reduceCtorEq, Nat.reducePow, Int.reducePow, id, rst1, z0, List.take_replicate, Nat.min_self, rst1_length, szA]
            all_goals rfl
        · rcases g1 with z1 | z1
          · simp (config := { maxSteps := 2000000 }) (disch := (first | omega | (simp only [lens, lenm]; omega))) only [go_sem, ↓reduceIte, Nat.reduceAdd, Nat.reduceEqDiff, Nat.reduceSub, Nat.reduceMul, Nat.reduceLT, Nat.reduceLeDiff, Nat.reduceBEq, Int.reduceEq, Int.reduceLT, Int.reduceLE, Int.reduceToNat, Int.reduceNeg, Int.reduceAdd, Int.reduceSub, Int.reduceMul, Int.reduceMod, Int.reduceDiv, reduceCtorEq, Nat.reducePow, Int.reducePow, ac_ref8_Reset_L0, z1, h5, h6, size_eq0, size_eq1, fill_eq20, fill_eq32, h4, actv_eq0 hk.1, actv_eq1 hk.1, rst1_length]
            refine Weak.rd id ?_ ?_ rfl
            all_goals simp (config := { maxSteps := 2000000 }) (disch := (first | omega | (simp only [lens, lenm]; omega))) only [go_sem, ↓reduceIte, Nat.reduceAdd, Nat.reduceEqDiff, Nat.reduceSub, Nat.reduceMul, Nat.reduceLT, Nat.reduceLeDiff, Nat.reduceBEq, Int.reduceEq, Int.reduceLT, Int.reduceLE, Int.reduceToNat, Int.reduceNeg, Int.reduceAdd, Int.reduceSub, Int.reduceMul, Int.reduceMod, Int.reduceDiv, reduceCtorEq, Nat.reducePow, Int.reducePow, id, rst1, z1, rst1_length]
          · simp (config := { maxSteps := 2000000 }) (disch := (first | omega | (simp only [lens, lenm]; omega))) only [go_sem, ↓reduceIte, Nat.reduceAdd, Nat.reduceEqDiff, Nat.reduceSub, Nat.reduceMul, Nat.reduceLT, Nat.reduceLeDiff, Nat.reduceBEq, Int.reduceEq, Int.reduceLT, Int.reduceLE, Int.reduceToNat, Int.reduceNeg, Int.reduceAdd, Int.reduceSub, Int.reduceMul, Int.reduceMod, Int.reduceDiv, reduceCtorEq, Nat.reducePow, Int.reducePow, ac_ref8_Reset_L0, z1, h5, h6, size_eq0, size_eq1, fill_eq20, fill_eq32, h4, actv_eq0 hk.1, actv_eq1 hk.1, rst1_length]
            repeat refine And.intro rfl ?_
            refine Weak.cv (hv := []) [49280] id ?_ rfl
            simp (config := { maxSteps := 2000000 }) (disch := (first | omega | (simp only [lens, lenm]; omega))) only [go_sem, ↓reduceIte, Nat.reduceAdd, Nat.reduceEqDiff, Nat.reduceSub, Nat.reduceMul, Nat.reduceLT, Nat.reduceLeDiff, Nat.reduceBEq, Int.reduceEq, Int.reduceLT, Int.reduceLE, Int.reduceToNat, Int.reduceNeg, Int.reduceAdd, Int.reduceSub, Int.reduceMul, Int.reduceMod, Int.reduceDiv, reduceCtorEq, Nat.reducePow, Int.reducePow, id, rst1, z1, List.take_replicate, Nat.min_self, rst1_length, szA]
            all_goals rfl
        · have t0 : List.take (List.length b0) (rst1 0 b0 n) = rst1 0 b0 n := List.take_of_length_le (by rw [rst1_length]; exact Nat.le_refl _)
          have t1 : List.take (List.length b1) (rst1 1 b1 n) = rst1 1 b1 n := List.take_of_length_le (by rw [rst1_length]; exact Nat.le_refl _)
          simp (config := { maxSteps := 2000000 }) (disch := (first | omega | (simp only [lens, lenm]; omega))) only [go_sem, ↓reduceIte, Nat.reduceAdd, Nat.reduceEqDiff, Nat.reduceSub, Nat.reduceMul, Nat.reduceLT, Nat.reduceLeDiff, Nat.reduceBEq, Int.reduceEq, Int.reduceLT, Int.reduceLE, Int.reduceToNat, Int.reduceNeg, Int.reduceAdd, Int.reduceSub, Int.reduceMul, Int.reduceMod, Int.reduceDiv, reduceCtorEq, Nat.reducePow, Int.reducePow, ac_ref8_Reset_L0, rst1_length, t0, t1]
          rfl
end Go.Eng
end
section
set_option maxRecDepth 20000
set_option maxHeartbeats 64000000
namespace Go.Eng
def extE (l0 l1 : Nat) (loc i : Int) (nd k0 k1 : Nat) : Int :=
  if loc < 0 ∨ 4 < loc ∨ i < 0 ∨ 16 ≤ i ∨ nd ≠ 2 then 1 else if loc < leastI i false then 13
  else if (l0 ≠ 16 ∧ 0 < k0) ∨ (l1 ≠ 16 ∧ 0 < k1) then 27 else if (l0 = 16 ∧ k0 ≠ 20) ∨ (l1 = 16 ∧ k1 ≠ 32) then 24 else 0
def ext1 (a : Nat) (b : Bank) (i : Nat) (d : List UInt8) : Bank := if List.length b = 16 then b.set i (sumA a (b.getD i [] ++ d)) else b
theorem ext1_length {a : Nat} {b : Bank} {i : Nat} {d : List UInt8} : List.length (ext1 a b i d) = List.length b := by
  unfold ext1; split <;> simp
def extBk (bk : List Bank) (i : Nat) (ds : List (List UInt8)) : List Bank := match bk with
  | [b0, b1] => [ext1 0 b0 i (ds.getD 0 []), ext1 1 b1 i (ds.getD 1 [])]
  | bk => bk
def extEr (bk : List Bank) (loc i : Int) (ds : List (List UInt8)) : Int := extE (bk.getD 0 []).length (bk.getD 1 []).length loc i ds.length (ds.getD 0 []).length (ds.getD 1 []).length
def extR (bk : List Bank) (u loc i : Int) (ds : List (List UInt8)) : V :=
  if extE (bk.getD 0 []).length (bk.getD 1 []).length loc i ds.length (ds.getD 0 []).length (ds.getD 1 []).length = 0 then .tup [.t (regT (extBk bk i.toNat ds) (u + 1)), .t (.int .i64 0)]
  else .tup [.t (regT [] 0), .t (.int .i64 (extE (bk.getD 0 []).length (bk.getD 1 []).length loc i ds.length (ds.getD 0 []).length (ds.getD 1 []).length))]
theorem sumA0 {x : List UInt8} : sumA 0 x = sum1 x := rfl
theorem sumA1 {x : List UInt8} : sumA 1 x = sum256 x := rfl
theorem take_sum1 {x : List UInt8} : List.take 20 (sum1 x) = sum1 x := List.take_of_length_le (by rw [sum1_length]; exact Nat.le_refl _)
theorem take_sum256 {x : List UInt8} : List.take 32 (sum256 x) = sum256 x := List.take_of_length_le (by rw [sum256_length]; exact Nat.le_refl _)
theorem w_registers_Extend2 (tab : Tab) (gl : Gl) (n1 n2 n3 n4 n5 n6 : Nat) (h1 : tab.look n1 = some ct_index.fs) (h2 : tab.look n2 = some ct_least.fs) (h3 : tab.look n3 = some ct_on.fs) (h4 : tab.look n4 = some ct_size.fs) (h5 : tab.look n5 = some ct_twin.fs) (h6 : tab.look n6 = some ct_sumA.fs)
    (b0 b1 : Bank) (u loc : Int) (n : Nat) (d0 d1 : List UInt8) (hu : 0 ≤ u ∧ u < 1000000000) (hk : RM [b0, b1]) (hv0 : (b0.getD n []).length ≤ 64) (hv1 : (b1.getD n []).length ≤ 64) (hd : d0.length < 9223372036854775808 ∧ d1.length < 9223372036854775808) (e1 : ¬(loc < 0 ∨ 4 < loc ∨ 16 ≤ n)) (e2 : ¬ loc < leastI n false) :
    (ac_registers_Extend n1 n2 n3 n4 n5 n6).wp tab gl (zipF 0 [.t (regT [b0, b1] u), .t (.int .i64 loc), .t (.int .i64 n), .t (.sl [bsT d0, bsT d1])]) (zipF 0 []) (resW [(8, some (2, true)), (9, none)] 0 (fun r o => r = extR [b0, b1] u loc n [d0, d1] ∧ o = [])) := by
  have gg : bkOk b0 ∧ bkOk b1 := by
    obtain ⟨hrk, _⟩ := hk
    cases hrk with
    | two _ _ h0 h1 => exact ⟨h0, h1⟩
  obtain ⟨g0, g1⟩ := gg
  simp (config := { maxSteps := 2000000 }) (disch := (first | omega | (simp only [lens, lenm]; omega))) only [go_sem, ↓reduceIte, Nat.reduceAdd, Nat.reduceEqDiff, Nat.reduceSub, Nat.reduceMul, Nat.reduceLT, Nat.reduceLeDiff, Nat.reduceBEq, Int.reduceEq, Int.reduceLT, Int.reduceLE, Int.reduceToNat, Int.reduceNeg, Int.reduceAdd, Int.reduceSub, Int.reduceMul, Int.reduceMod, Int.reduceDiv, reduceCtorEq, Nat.reducePow, Int.reducePow, ac_registers_Extend, h1, index_t, h2, least_eq, List.map_nil, List.map_cons]
  refine loopW_weak (fs' := [(2, .t (.int .i64 (n : Nat))), (3, .t (.sl [bsT d0, bsT d1])), (4, .ref 4096 0 0), (8, .ref 4112 0 0), (38, .t (.sl [bsT d0, bsT d1])), (39, .t (.int .i64 2)), (40, .t (.int .i64 0))]) (hs' := [(4112, .live 2 [.agg [.nil, .t (.int .i64 0)]] true true), (4096, .live 2 [.t (regT [b0, b1] u)] true true)]) (Weak.rd id ?_ ?_ rfl) ?_
  · simp (config := { maxSteps := 2000000 }) (disch := (first | omega | (simp only [lens, lenm]; omega))) only [go_sem, ↓reduceIte, Nat.reduceAdd, Nat.reduceEqDiff, Nat.reduceSub, Nat.reduceMul, Nat.reduceLT, Nat.reduceLeDiff, Nat.reduceBEq, Int.reduceEq, Int.reduceLT, Int.reduceLE, Int.reduceToNat, Int.reduceNeg, Int.reduceAdd, Int.reduceSub, Int.reduceMul, Int.reduceMod, Int.reduceDiv, reduceCtorEq, Nat.reducePow, Int.reducePow, id]
  · simp (config := { maxSteps := 2000000 }) (disch := (first | omega | (simp only [lens, lenm]; omega))) only [go_sem, ↓reduceIte, Nat.reduceAdd, Nat.reduceEqDiff, Nat.reduceSub, Nat.reduceMul, Nat.reduceLT, Nat.reduceLeDiff, Nat.reduceBEq, Int.reduceEq, Int.reduceLT, Int.reduceLE, Int.reduceToNat, Int.reduceNeg, Int.reduceAdd, Int.reduceSub, Int.reduceMul, Int.reduceMod, Int.reduceDiv, reduceCtorEq, Nat.reducePow, Int.reducePow, id]
  rcases g0 with z0 | z0 <;> rcases g1 with z1 | z1
  · have zz : True := trivial
    by_cases p2 : 0 < d0.length
    · have zz : True := trivial
      have hE : extE 0 0 loc n 2 d0.length d1.length = 27 := by unfold extE; rw [if_neg (by omega), if_neg (by omega), if_pos (by omega)]
      refine loop_fuel 3 ?_
      simp (config := { maxSteps := 2000000 }) (disch := (first | omega | (simp only [lens, lenm]; omega))) only [go_sem, ↓reduceIte, Nat.reduceAdd, Nat.reduceEqDiff, Nat.reduceSub, Nat.reduceMul, Nat.reduceLT, Nat.reduceLeDiff, Nat.reduceBEq, Int.reduceEq, Int.reduceLT, Int.reduceLE, Int.reduceToNat, Int.reduceNeg, Int.reduceAdd, Int.reduceSub, Int.reduceMul, Int.reduceMod, Int.reduceDiv, reduceCtorEq, Nat.reducePow, Int.reducePow, loopN_succ, ac_registers_Extend_L0, h3, on_eq0 hk.1, on_eq1 hk.1, h4, size_eq0, size_eq1, h5, twin_eq2 hk, h6, sumA_eq0, sumA_eq1, z0, z1, hE, List.map_nil, extR, extEr, List.getD_cons_zero, List.getD_cons_succ, List.length_cons, List.length_nil]
      all_goals repeat refine And.intro rfl ?_
      all_goals rfl
    · have zz : True := trivial
      by_cases p1 : 0 < d1.length
      · have zz : True := trivial
        have hE : extE 0 0 loc n 2 d0.length d1.length = 27 := by unfold extE; rw [if_neg (by omega), if_neg (by omega), if_pos (by omega)]
        refine loop_fuel 3 ?_
        simp (config := { maxSteps := 2000000 }) (disch := (first | omega | (simp only [lens, lenm]; omega))) only [go_sem, ↓reduceIte, Nat.reduceAdd, Nat.reduceEqDiff, Nat.reduceSub, Nat.reduceMul, Nat.reduceLT, Nat.reduceLeDiff, Nat.reduceBEq, Int.reduceEq, Int.reduceLT, Int.reduceLE, Int.reduceToNat, Int.reduceNeg, Int.reduceAdd, Int.reduceSub, Int.reduceMul, Int.reduceMod, Int.reduceDiv, reduceCtorEq, Nat.reducePow, Int.reducePow, loopN_succ, ac_registers_Extend_L0, h3, on_eq0 hk.1, on_eq1 hk.1, h4, size_eq0, size_eq1, h5, twin_eq2 hk, h6, sumA_eq0, sumA_eq1, z0, z1, hE, List.map_nil, extR, extEr, List.getD_cons_zero, List.getD_cons_succ, List.length_cons, List.length_nil]
        all_goals repeat refine And.intro rfl ?_
        all_goals rfl
      · have zz : True := trivial
        refine loop_fuel 3 ?_
        simp (config := { maxSteps := 2000000 }) (disch := (first | omega | (simp only [lens, lenm]; omega))) only [go_sem, ↓reduceIte, Nat.reduceAdd, Nat.reduceEqDiff, Nat.reduceSub, Nat.reduceMul, Nat.reduceLT, Nat.reduceLeDiff, Nat.reduceBEq, Int.reduceEq, Int.reduceLT, Int.reduceLE, Int.reduceToNat, Int.reduceNeg, Int.reduceAdd, Int.reduceSub, Int.reduceMul, Int.reduceMod, Int.reduceDiv, reduceCtorEq, Nat.reducePow, Int.reducePow, loopN_succ, ac_registers_Extend_L0, h3, on_eq0 hk.1, on_eq1 hk.1, h4, size_eq0, size_eq1, h5, twin_eq2 hk, h6, sumA_eq0, sumA_eq1, z0, z1]
        all_goals repeat refine And.intro rfl ?_
        refine loopW_weak (fs' := [(2, .t (.int .i64 (n : Nat))), (3, .t (.sl [bsT d0, bsT d1])), (4, .ref 4096 0 0), (8, .ref 4112 0 0), (56, .t (.sl [bsT d0, bsT d1])), (57, .t (.int .i64 2)), (58, .t (.int .i64 0))]) (hs' := [(4112, .live 2 [.agg [.nil, .t (.int .i64 0)]] true true), (4096, .live 2 [.t (regT [b0, b1] u)] true true)]) (Weak.rd id ?_ ?_ rfl) ?_
        · simp (config := { maxSteps := 2000000 }) (disch := (first | omega | (simp only [lens, lenm]; omega))) only [go_sem, ↓reduceIte, Nat.reduceAdd, Nat.reduceEqDiff, Nat.reduceSub, Nat.reduceMul, Nat.reduceLT, Nat.reduceLeDiff, Nat.reduceBEq, Int.reduceEq, Int.reduceLT, Int.reduceLE, Int.reduceToNat, Int.reduceNeg, Int.reduceAdd, Int.reduceSub, Int.reduceMul, Int.reduceMod, Int.reduceDiv, reduceCtorEq, Nat.reducePow, Int.reducePow, id]
        · simp (config := { maxSteps := 2000000 }) (disch := (first | omega | (simp only [lens, lenm]; omega))) only [go_sem, ↓reduceIte, Nat.reduceAdd, Nat.reduceEqDiff, Nat.reduceSub, Nat.reduceMul, Nat.reduceLT, Nat.reduceLeDiff, Nat.reduceBEq, Int.reduceEq, Int.reduceLT, Int.reduceLE, Int.reduceToNat, Int.reduceNeg, Int.reduceAdd, Int.reduceSub, Int.reduceMul, Int.reduceMod, Int.reduceDiv, reduceCtorEq, Nat.reducePow, Int.reducePow, id]
        have hE : extE 0 0 loc n 2 d0.length d1.length = 0 := by unfold extE; rw [if_neg (by omega), if_neg (by omega), if_neg (by omega), if_neg (by omega)]
        refine loop_fuel 3 ?_
        simp (config := { maxSteps := 2000000 }) (disch := (first | omega | (simp only [lens, lenm]; omega))) only [go_sem, ↓reduceIte, Nat.reduceAdd, Nat.reduceEqDiff, Nat.reduceSub, Nat.reduceMul, Nat.reduceLT, Nat.reduceLeDiff, Nat.reduceBEq, Int.reduceEq, Int.reduceLT, Int.reduceLE, Int.reduceToNat, Int.reduceNeg, Int.reduceAdd, Int.reduceSub, Int.reduceMul, Int.reduceMod, Int.reduceDiv, reduceCtorEq, Nat.reducePow, Int.reducePow, loopN_succ, ac_registers_Extend_L1, h3, on_eq0 hk.1, on_eq1 hk.1, h4, size_eq0, size_eq1, h5, twin_eq2 hk, h6, sumA_eq0, sumA_eq1, z0, z1]
        all_goals repeat refine And.intro rfl ?_
        refine loop_upto 2 (fun k => match k with | 0 => [(2, .t (.int .i64 (n : Nat))), (3, .t (.sl [bsT d0, bsT d1])), (4, .ref 4096 0 0), (8, .ref 4112 0 0), (14, .ref 73760 0 0), (79, .t (.int .i64 2)), (80, .t (.int .i64 0))] | 1 => [(2, .t (.int .i64 (n : Nat))), (3, .t (.sl [bsT d0, bsT d1])), (4, .ref 4096 0 0), (8, .ref 4112 0 0), (14, .ref 73760 0 0), (79, .t (.int .i64 2)), (80, .t (.int .i64 1))] | _ => [(2, .t (.int .i64 (n : Nat))), (3, .t (.sl [bsT d0, bsT d1])), (4, .ref 4096 0 0), (8, .ref 4112 0 0), (14, .ref 73760 0 0), (79, .t (.int .i64 2)), (80, .t (.int .i64 2))]) (fun k => match k with | 0 => [(73760, .live 2 [.agg [.sl 73744 0 2, .t (.int .i64 u)]] true true), (73746, .live 1 (((b1).map bsT).map V.t) true false), (73745, .live 1 (((b0).map bsT).map V.t) true false), (73744, .live 1 [.sl 73745 0 0, .sl 73746 0 0] true false), (4112, .live 2 [.agg [.nil, .t (.int .i64 0)]] true true), (4096, .live 2 [.t (regT [b0, b1] u)] true true)] | 1 => [(73760, .live 2 [.agg [.sl 73744 0 2, .t (.int .i64 u)]] true true), (73746, .live 1 (((b1).map bsT).map V.t) true false), (73745, .live 1 (((ext1 0 b0 n d0).map bsT).map V.t) true false), (73744, .live 1 [.sl 73745 0 0, .sl 73746 0 0] true false), (4112, .live 2 [.agg [.nil, .t (.int .i64 0)]] true true), (4096, .live 2 [.t (regT [b0, b1] u)] true true)] | _ => [(73760, .live 2 [.agg [.sl 73744 0 2, .t (.int .i64 u)]] true true), (73746, .live 1 (((ext1 1 b1 n d1).map bsT).map V.t) true false), (73745, .live 1 (((ext1 0 b0 n d0).map bsT).map V.t) true false), (73744, .live 1 [.sl 73745 0 0, .sl 73746 0 0] true false), (4112, .live 2 [.agg [.nil, .t (.int .i64 0)]] true true), (4096, .live 2 [.t (regT [b0, b1] u)] true true)]) ?_ (fun k hk2 => ?_)
        · refine Weak.rd id ?_ ?_ rfl
          all_goals simp (config := { maxSteps := 2000000 }) (disch := (first | omega | (simp only [lens, lenm]; omega))) only [go_sem, ↓reduceIte, Nat.reduceAdd, Nat.reduceEqDiff, Nat.reduceSub, Nat.reduceMul, Nat.reduceLT, Nat.reduceLeDiff, Nat.reduceBEq, Int.reduceEq, Int.reduceLT, Int.reduceLE, Int.reduceToNat, Int.reduceNeg, Int.reduceAdd, Int.reduceSub, Int.reduceMul, Int.reduceMod, Int.reduceDiv, reduceCtorEq, Nat.reducePow, Int.reducePow, id, z0, z1]
        · rcases (show k = 0 ∨ k = 1 ∨ k = 2 by omega) with rfl | rfl | rfl
          · have q := List.take_of_length_le (show (b0.getD n [] ++ d0).length ≤ (List.getD b0 n []).length + d0.length by rw [List.length_append]; exact Nat.le_refl _)
            simp (config := { maxSteps := 2000000 }) (disch := (first | omega | (simp only [lens, lenm]; omega))) only [go_sem, ↓reduceIte, Nat.reduceAdd, Nat.reduceEqDiff, Nat.reduceSub, Nat.reduceMul, Nat.reduceLT, Nat.reduceLeDiff, Nat.reduceBEq, Int.reduceEq, Int.reduceLT, Int.reduceLE, Int.reduceToNat, Int.reduceNeg, Int.reduceAdd, Int.reduceSub, Int.reduceMul, Int.reduceMod, Int.reduceDiv, reduceCtorEq, Nat.reducePow, Int.reducePow, ac_registers_Extend_L2, h3, on_eq0 hk.1, on_eq1 hk.1, h4, size_eq0, size_eq1, h5, twin_eq2 hk, h6, sumA_eq0, sumA_eq1, z0, z1, ext1_length, q]
            refine Weak.rd id ?_ ?_ rfl
            all_goals simp (config := { maxSteps := 2000000 }) (disch := (first | omega | (simp only [lens, lenm]; omega))) only [go_sem, ↓reduceIte, Nat.reduceAdd, Nat.reduceEqDiff, Nat.reduceSub, Nat.reduceMul, Nat.reduceLT, Nat.reduceLeDiff, Nat.reduceBEq, Int.reduceEq, Int.reduceLT, Int.reduceLE, Int.reduceToNat, Int.reduceNeg, Int.reduceAdd, Int.reduceSub, Int.reduceMul, Int.reduceMod, Int.reduceDiv, reduceCtorEq, Nat.reducePow, Int.reducePow, id, ext1, z0, z1]
          · have q := List.take_of_length_le (show (b1.getD n [] ++ d1).length ≤ (List.getD b1 n []).length + d1.length by rw [List.length_append]; exact Nat.le_refl _)
            simp (config := { maxSteps := 2000000 }) (disch := (first | omega | (simp only [lens, lenm]; omega))) only [go_sem, ↓reduceIte, Nat.reduceAdd, Nat.reduceEqDiff, Nat.reduceSub, Nat.reduceMul, Nat.reduceLT, Nat.reduceLeDiff, Nat.reduceBEq, Int.reduceEq, Int.reduceLT, Int.reduceLE, Int.reduceToNat, Int.reduceNeg, Int.reduceAdd, Int.reduceSub, Int.reduceMul, Int.reduceMod, Int.reduceDiv, reduceCtorEq, Nat.reducePow, Int.reducePow, ac_registers_Extend_L2, h3, on_eq0 hk.1, on_eq1 hk.1, h4, size_eq0, size_eq1, h5, twin_eq2 hk, h6, sumA_eq0, sumA_eq1, z0, z1, ext1_length, q]
            refine Weak.rd id ?_ ?_ rfl
            all_goals simp (config := { maxSteps := 2000000 }) (disch := (first | omega | (simp only [lens, lenm]; omega))) only [go_sem, ↓reduceIte, Nat.reduceAdd, Nat.reduceEqDiff, Nat.reduceSub, Nat.reduceMul, Nat.reduceLT, Nat.reduceLeDiff, Nat.reduceBEq, Int.reduceEq, Int.reduceLT, Int.reduceLE, Int.reduceToNat, Int.reduceNeg, Int.reduceAdd, Int.reduceSub, Int.reduceMul, Int.reduceMod, Int.reduceDiv, reduceCtorEq, Nat.reducePow, Int.reducePow, id, ext1, z0, z1]
          · have t0 : List.take 0 (ext1 0 b0 n d0) = ext1 0 b0 n d0 := List.take_of_length_le (by rw [ext1_length, z0]; exact Nat.le_refl _)
            have t1 : List.take 0 (ext1 1 b1 n d1) = ext1 1 b1 n d1 := List.take_of_length_le (by rw [ext1_length, z1]; exact Nat.le_refl _)
            have y0 : ext1 0 b0 n d0 = [] := List.eq_nil_of_length_eq_zero (by rw [ext1_length, z0])
            have y1 : ext1 1 b1 n d1 = [] := List.eq_nil_of_length_eq_zero (by rw [ext1_length, z1])
            simp (config := { maxSteps := 2000000 }) (disch := (first | omega | (simp only [lens, lenm]; omega))) only [go_sem, ↓reduceIte, Nat.reduceAdd, Nat.reduceEqDiff, Nat.reduceSub, Nat.reduceMul, Nat.reduceLT, Nat.reduceLeDiff, Nat.reduceBEq, Int.reduceEq, Int.reduceLT, Int.reduceLE, Int.reduceToNat, Int.reduceNeg, Int.reduceAdd, Int.reduceSub, Int.reduceMul, Int.reduceMod, Int.reduceDiv, reduceCtorEq, Nat.reducePow, Int.reducePow, ac_registers_Extend_L2, ext1_length, t0, t1, z0, z1, hE, extBk, Int.toNat_natCast, List.map_cons, List.map_nil, y0, y1, extR, extEr, List.getD_cons_zero, List.getD_cons_succ, List.length_cons, List.length_nil]
  · have zz : True := trivial
    by_cases p1 : 0 < d0.length
    · have zz : True := trivial
      have hE : extE 0 16 loc n 2 d0.length d1.length = 27 := by unfold extE; rw [if_neg (by omega), if_neg (by omega), if_pos (by omega)]
      refine loop_fuel 3 ?_
      simp (config := { maxSteps := 2000000 }) (disch := (first | omega | (simp only [lens, lenm]; omega))) only [go_sem, ↓reduceIte, Nat.reduceAdd, Nat.reduceEqDiff, Nat.reduceSub, Nat.reduceMul, Nat.reduceLT, Nat.reduceLeDiff, Nat.reduceBEq, Int.reduceEq, Int.reduceLT, Int.reduceLE, Int.reduceToNat, Int.reduceNeg, Int.reduceAdd, Int.reduceSub, Int.reduceMul, Int.reduceMod, Int.reduceDiv, reduceCtorEq, Nat.reducePow, Int.reducePow, loopN_succ, ac_registers_Extend_L0, h3, on_eq0 hk.1, on_eq1 hk.1, h4, size_eq0, size_eq1, h5, twin_eq2 hk, h6, sumA_eq0, sumA_eq1, z0, z1, hE, List.map_nil, extR, extEr, List.getD_cons_zero, List.getD_cons_succ, List.length_cons, List.length_nil]
      all_goals repeat refine And.intro rfl ?_
      all_goals rfl
    · have zz : True := trivial
      refine loop_fuel 3 ?_
      simp (config := { maxSteps := 2000000 }) (disch := (first | omega | (simp only [lens, lenm]; omega))) only [go_sem, ↓reduceIte, Nat.reduceAdd, Nat.reduceEqDiff, Nat.reduceSub, Nat.reduceMul, Nat.reduceLT, Nat.reduceLeDiff, Nat.reduceBEq, Int.reduceEq, Int.reduceLT, Int.reduceLE, Int.reduceToNat, Int.reduceNeg, Int.reduceAdd, Int.reduceSub, Int.reduceMul, Int.reduceMod, Int.reduceDiv, reduceCtorEq, Nat.reducePow, Int.reducePow, loopN_succ, ac_registers_Extend_L0, h3, on_eq0 hk.1, on_eq1 hk.1, h4, size_eq0, size_eq1, h5, twin_eq2 hk, h6, sumA_eq0, sumA_eq1, z0, z1]
      all_goals repeat refine And.intro rfl ?_
      refine loopW_weak (fs' := [(2, .t (.int .i64 (n : Nat))), (3, .t (.sl [bsT d0, bsT d1])), (4, .ref 4096 0 0), (8, .ref 4112 0 0), (56, .t (.sl [bsT d0, bsT d1])), (57, .t (.int .i64 2)), (58, .t (.int .i64 0))]) (hs' := [(4112, .live 2 [.agg [.nil, .t (.int .i64 0)]] true true), (4096, .live 2 [.t (regT [b0, b1] u)] true true)]) (Weak.rd id ?_ ?_ rfl) ?_
      · simp (config := { maxSteps := 2000000 }) (disch := (first | omega | (simp only [lens, lenm]; omega))) only [go_sem, ↓reduceIte, Nat.reduceAdd, Nat.reduceEqDiff, Nat.reduceSub, Nat.reduceMul, Nat.reduceLT, Nat.reduceLeDiff, Nat.reduceBEq, Int.reduceEq, Int.reduceLT, Int.reduceLE, Int.reduceToNat, Int.reduceNeg, Int.reduceAdd, Int.reduceSub, Int.reduceMul, Int.reduceMod, Int.reduceDiv, reduceCtorEq, Nat.reducePow, Int.reducePow, id]
      · simp (config := { maxSteps := 2000000 }) (disch := (first | omega | (simp only [lens, lenm]; omega))) only [go_sem, ↓reduceIte, Nat.reduceAdd, Nat.reduceEqDiff, Nat.reduceSub, Nat.reduceMul, Nat.reduceLT, Nat.reduceLeDiff, Nat.reduceBEq, Int.reduceEq, Int.reduceLT, Int.reduceLE, Int.reduceToNat, Int.reduceNeg, Int.reduceAdd, Int.reduceSub, Int.reduceMul, Int.reduceMod, Int.reduceDiv, reduceCtorEq, Nat.reducePow, Int.reducePow, id]
      by_cases q1 : d1.length ≠ 32
      · have zz : True := trivial
        have hE : extE 0 16 loc n 2 d0.length d1.length = 24 := by unfold extE; rw [if_neg (by omega), if_neg (by omega), if_neg (by omega), if_pos (by omega)]
        refine loop_fuel 3 ?_
        simp (config := { maxSteps := 2000000 }) (disch := (first | omega | (simp only [lens, lenm]; omega))) only [go_sem, ↓reduceIte, Nat.reduceAdd, Nat.reduceEqDiff, Nat.reduceSub, Nat.reduceMul, Nat.reduceLT, Nat.reduceLeDiff, Nat.reduceBEq, Int.reduceEq, Int.reduceLT, Int.reduceLE, Int.reduceToNat, Int.reduceNeg, Int.reduceAdd, Int.reduceSub, Int.reduceMul, Int.reduceMod, Int.reduceDiv, reduceCtorEq, Nat.reducePow, Int.reducePow, loopN_succ, ac_registers_Extend_L1, h3, on_eq0 hk.1, on_eq1 hk.1, h4, size_eq0, size_eq1, h5, twin_eq2 hk, h6, sumA_eq0, sumA_eq1, z0, z1, hE, List.map_nil, extR, extEr, List.getD_cons_zero, List.getD_cons_succ, List.length_cons, List.length_nil]
        all_goals repeat refine And.intro rfl ?_
        all_goals rfl
      · have zz : True := trivial
        have hE : extE 0 16 loc n 2 d0.length d1.length = 0 := by unfold extE; rw [if_neg (by omega), if_neg (by omega), if_neg (by omega), if_neg (by omega)]
        refine loop_fuel 3 ?_
        simp (config := { maxSteps := 2000000 }) (disch := (first | omega | (simp only [lens, lenm]; omega))) only [go_sem, ↓reduceIte, Nat.reduceAdd, Nat.reduceEqDiff, Nat.reduceSub, Nat.reduceMul, Nat.reduceLT, Nat.reduceLeDiff, Nat.reduceBEq, Int.reduceEq, Int.reduceLT, Int.reduceLE, Int.reduceToNat, Int.reduceNeg, Int.reduceAdd, Int.reduceSub, Int.reduceMul, Int.reduceMod, Int.reduceDiv, reduceCtorEq, Nat.reducePow, Int.reducePow, loopN_succ, ac_registers_Extend_L1, h3, on_eq0 hk.1, on_eq1 hk.1, h4, size_eq0, size_eq1, h5, twin_eq2 hk, h6, sumA_eq0, sumA_eq1, z0, z1]
        all_goals repeat refine And.intro rfl ?_
        refine loop_upto 2 (fun k => match k with | 0 => [(2, .t (.int .i64 (n : Nat))), (3, .t (.sl [bsT d0, bsT d1])), (4, .ref 4096 0 0), (8, .ref 4112 0 0), (14, .ref 73760 0 0), (79, .t (.int .i64 2)), (80, .t (.int .i64 0))] | 1 => [(2, .t (.int .i64 (n : Nat))), (3, .t (.sl [bsT d0, bsT d1])), (4, .ref 4096 0 0), (8, .ref 4112 0 0), (14, .ref 73760 0 0), (79, .t (.int .i64 2)), (80, .t (.int .i64 1))] | _ => [(2, .t (.int .i64 (n : Nat))), (3, .t (.sl [bsT d0, bsT d1])), (4, .ref 4096 0 0), (8, .ref 4112 0 0), (14, .ref 73760 0 0), (79, .t (.int .i64 2)), (80, .t (.int .i64 2))]) (fun k => match k with | 0 => [(73760, .live 2 [.agg [.sl 73744 0 2, .t (.int .i64 u)]] true true), (73746, .live 1 (((b1).map bsT).map V.t) true false), (73745, .live 1 (((b0).map bsT).map V.t) true false), (73744, .live 1 [.sl 73745 0 0, .sl 73746 0 16] true false), (4112, .live 2 [.agg [.nil, .t (.int .i64 0)]] true true), (4096, .live 2 [.t (regT [b0, b1] u)] true true)] | 1 => [(73760, .live 2 [.agg [.sl 73744 0 2, .t (.int .i64 u)]] true true), (73746, .live 1 (((b1).map bsT).map V.t) true false), (73745, .live 1 (((ext1 0 b0 n d0).map bsT).map V.t) true false), (73744, .live 1 [.sl 73745 0 0, .sl 73746 0 16] true false), (4112, .live 2 [.agg [.nil, .t (.int .i64 0)]] true true), (4096, .live 2 [.t (regT [b0, b1] u)] true true)] | _ => [(73760, .live 2 [.agg [.sl 73744 0 2, .t (.int .i64 u)]] true true), (73746, .live 1 (((ext1 1 b1 n d1).map bsT).map V.t) true false), (73745, .live 1 (((ext1 0 b0 n d0).map bsT).map V.t) true false), (73744, .live 1 [.sl 73745 0 0, .sl 73746 0 16] true false), (4112, .live 2 [.agg [.nil, .t (.int .i64 0)]] true true), (4096, .live 2 [.t (regT [b0, b1] u)] true true)]) ?_ (fun k hk2 => ?_)
        · refine Weak.rd id ?_ ?_ rfl
          all_goals simp (config := { maxSteps := 2000000 }) (disch := (first | omega | (simp only [lens, lenm]; omega))) only [go_sem, ↓reduceIte, Nat.reduceAdd, Nat.reduceEqDiff, Nat.reduceSub, Nat.reduceMul, Nat.reduceLT, Nat.reduceLeDiff, Nat.reduceBEq, Int.reduceEq, Int.reduceLT, Int.reduceLE, Int.reduceToNat, Int.reduceNeg, Int.reduceAdd, Int.reduceSub, Int.reduceMul, Int.reduceMod, Int.reduceDiv, reduceCtorEq, Nat.reducePow, Int.reducePow, id, z0, z1]
        · rcases (show k = 0 ∨ k = 1 ∨ k = 2 by omega) with rfl | rfl | rfl
          · have q := List.take_of_length_le (show (b0.getD n [] ++ d0).length ≤ (List.getD b0 n []).length + d0.length by rw [List.length_append]; exact Nat.le_refl _)
            simp (config := { maxSteps := 2000000 }) (disch := (first | omega | (simp only [lens, lenm]; omega))) only [go_sem, ↓reduceIte, Nat.reduceAdd, Nat.reduceEqDiff, Nat.reduceSub, Nat.reduceMul, Nat.reduceLT, Nat.reduceLeDiff, Nat.reduceBEq, Int.reduceEq, Int.reduceLT, Int.reduceLE, Int.reduceToNat, Int.reduceNeg, Int.reduceAdd, Int.reduceSub, Int.reduceMul, Int.reduceMod, Int.reduceDiv, reduceCtorEq, Nat.reducePow, Int.reducePow, ac_registers_Extend_L2, h3, on_eq0 hk.1, on_eq1 hk.1, h4, size_eq0, size_eq1, h5, twin_eq2 hk, h6, sumA_eq0, sumA_eq1, z0, z1, ext1_length, q]
            refine Weak.rd id ?_ ?_ rfl
            all_goals simp (config := { maxSteps := 2000000 }) (disch := (first | omega | (simp only [lens, lenm]; omega))) only [go_sem, ↓reduceIte, Nat.reduceAdd, Nat.reduceEqDiff, Nat.reduceSub, Nat.reduceMul, Nat.reduceLT, Nat.reduceLeDiff, Nat.reduceBEq, Int.reduceEq, Int.reduceLT, Int.reduceLE, Int.reduceToNat, Int.reduceNeg, Int.reduceAdd, Int.reduceSub, Int.reduceMul, Int.reduceMod, Int.reduceDiv, reduceCtorEq, Nat.reducePow, Int.reducePow, id, ext1, z0, z1]
          · have q := List.take_of_length_le (show (b1.getD n [] ++ d1).length ≤ (List.getD b1 n []).length + d1.length by rw [List.length_append]; exact Nat.le_refl _)
            simp (config := { maxSteps := 2000000 }) (disch := (first | omega | (simp only [lens, lenm]; omega))) only [go_sem, ↓reduceIte, Nat.reduceAdd, Nat.reduceEqDiff, Nat.reduceSub, Nat.reduceMul, Nat.reduceLT, Nat.reduceLeDiff, Nat.reduceBEq, Int.reduceEq, Int.reduceLT, Int.reduceLE, Int.reduceToNat, Int.reduceNeg, Int.reduceAdd, Int.reduceSub, Int.reduceMul, Int.reduceMod, Int.reduceDiv, reduceCtorEq, Nat.reducePow, Int.reducePow, ac_registers_Extend_L2, h3, on_eq0 hk.1, on_eq1 hk.1, h4, size_eq0, size_eq1, h5, twin_eq2 hk, h6, sumA_eq0, sumA_eq1, z0, z1, ext1_length, q]
            repeat refine And.intro rfl ?_
            refine Weak.cv (hv := []) [94544] id ?_ rfl
            simp (config := { maxSteps := 2000000 }) (disch := (first | omega | (simp only [lens, lenm]; omega))) only [go_sem, ↓reduceIte, Nat.reduceAdd, Nat.reduceEqDiff, Nat.reduceSub, Nat.reduceMul, Nat.reduceLT, Nat.reduceLeDiff, Nat.reduceBEq, Int.reduceEq, Int.reduceLT, Int.reduceLE, Int.reduceToNat, Int.reduceNeg, Int.reduceAdd, Int.reduceSub, Int.reduceMul, Int.reduceMod, Int.reduceDiv, reduceCtorEq, Nat.reducePow, Int.reducePow, id, ext1, z0, z1, take_sum1, take_sum256, sumA0, sumA1, sum1_length, sum256_length]
            all_goals rfl
          · have t0 : List.take 0 (ext1 0 b0 n d0) = ext1 0 b0 n d0 := List.take_of_length_le (by rw [ext1_length, z0]; exact Nat.le_refl _)
            have t1 : List.take 16 (ext1 1 b1 n d1) = ext1 1 b1 n d1 := List.take_of_length_le (by rw [ext1_length, z1]; exact Nat.le_refl _)
            have y0 : ext1 0 b0 n d0 = [] := List.eq_nil_of_length_eq_zero (by rw [ext1_length, z0])
            simp (config := { maxSteps := 2000000 }) (disch := (first | omega | (simp only [lens, lenm]; omega))) only [go_sem, ↓reduceIte, Nat.reduceAdd, Nat.reduceEqDiff, Nat.reduceSub, Nat.reduceMul, Nat.reduceLT, Nat.reduceLeDiff, Nat.reduceBEq, Int.reduceEq, Int.reduceLT, Int.reduceLE, Int.reduceToNat, Int.reduceNeg, Int.reduceAdd, Int.reduceSub, Int.reduceMul, Int.reduceMod, Int.reduceDiv, reduceCtorEq, Nat.reducePow, Int.reducePow, ac_registers_Extend_L2, ext1_length, t0, t1, z0, z1, hE, extBk, Int.toNat_natCast, List.map_cons, List.map_nil, y0, extR, extEr, List.getD_cons_zero, List.getD_cons_succ, List.length_cons, List.length_nil]
  · have zz : True := trivial
    by_cases p1 : 0 < d1.length
    · have zz : True := trivial
      have hE : extE 16 0 loc n 2 d0.length d1.length = 27 := by unfold extE; rw [if_neg (by omega), if_neg (by omega), if_pos (by omega)]
      refine loop_fuel 3 ?_
      simp (config := { maxSteps := 2000000 }) (disch := (first | omega | (simp only [lens, lenm]; omega))) only [go_sem, ↓reduceIte, Nat.reduceAdd, Nat.reduceEqDiff, Nat.reduceSub, Nat.reduceMul, Nat.reduceLT, Nat.reduceLeDiff, Nat.reduceBEq, Int.reduceEq, Int.reduceLT, Int.reduceLE, Int.reduceToNat, Int.reduceNeg, Int.reduceAdd, Int.reduceSub, Int.reduceMul, Int.reduceMod, Int.reduceDiv, reduceCtorEq, Nat.reducePow, Int.reducePow, loopN_succ, ac_registers_Extend_L0, h3, on_eq0 hk.1, on_eq1 hk.1, h4, size_eq0, size_eq1, h5, twin_eq2 hk, h6, sumA_eq0, sumA_eq1, z0, z1, hE, List.map_nil, extR, extEr, List.getD_cons_zero, List.getD_cons_succ, List.length_cons, List.length_nil]
      all_goals repeat refine And.intro rfl ?_
      all_goals rfl
    · have zz : True := trivial
      refine loop_fuel 3 ?_
      simp (config := { maxSteps := 2000000 }) (disch := (first | omega | (simp only [lens, lenm]; omega))) only [go_sem, ↓reduceIte, Nat.reduceAdd, Nat.reduceEqDiff, Nat.reduceSub, Nat.reduceMul, Nat.reduceLT, Nat.reduceLeDiff, Nat.reduceBEq, Int.reduceEq, Int.reduceLT, Int.reduceLE, Int.reduceToNat, Int.reduceNeg, Int.reduceAdd, Int.reduceSub, Int.reduceMul, Int.reduceMod, Int.reduceDiv, reduceCtorEq, Nat.reducePow, Int.reducePow, loopN_succ, ac_registers_Extend_L0, h3, on_eq0 hk.1, on_eq1 hk.1, h4, size_eq0, size_eq1, h5, twin_eq2 hk, h6, sumA_eq0, sumA_eq1, z0, z1]
      all_goals repeat refine And.intro rfl ?_
      refine loopW_weak (fs' := [(2, .t (.int .i64 (n : Nat))), (3, .t (.sl [bsT d0, bsT d1])), (4, .ref 4096 0 0), (8, .ref 4112 0 0), (56, .t (.sl [bsT d0, bsT d1])), (57, .t (.int .i64 2)), (58, .t (.int .i64 0))]) (hs' := [(4112, .live 2 [.agg [.nil, .t (.int .i64 0)]] true true), (4096, .live 2 [.t (regT [b0, b1] u)] true true)]) (Weak.rd id ?_ ?_ rfl) ?_
      · simp (config := { maxSteps := 2000000 }) (disch := (first | omega | (simp only [lens, lenm]; omega))) only [go_sem, ↓reduceIte, Nat.reduceAdd, Nat.reduceEqDiff, Nat.reduceSub, Nat.reduceMul, Nat.reduceLT, Nat.reduceLeDiff, Nat.reduceBEq, Int.reduceEq, Int.reduceLT, Int.reduceLE, Int.reduceToNat, Int.reduceNeg, Int.reduceAdd, Int.reduceSub, Int.reduceMul, Int.reduceMod, Int.reduceDiv, reduceCtorEq, Nat.reducePow, Int.reducePow, id]
      · simp (config := { maxSteps := 2000000 }) (disch := (first | omega | (simp only [lens, lenm]; omega))) only [go_sem, ↓reduceIte, Nat.reduceAdd, Nat.reduceEqDiff, Nat.reduceSub, Nat.reduceMul, Nat.reduceLT, Nat.reduceLeDiff, Nat.reduceBEq, Int.reduceEq, Int.reduceLT, Int.reduceLE, Int.reduceToNat, Int.reduceNeg, Int.reduceAdd, Int.reduceSub, Int.reduceMul, Int.reduceMod, Int.reduceDiv, reduceCtorEq, Nat.reducePow, Int.reducePow, id]
      by_cases q1 : d0.length ≠ 20
      · have zz : True := trivial
        have hE : extE 16 0 loc n 2 d0.length d1.length = 24 := by unfold extE; rw [if_neg (by omega), if_neg (by omega), if_neg (by omega), if_pos (by omega)]
        refine loop_fuel 3 ?_
        simp (config := { maxSteps := 2000000 }) (disch := (first | omega | (simp only [lens, lenm]; omega))) only [go_sem, ↓reduceIte, Nat.reduceAdd, Nat.reduceEqDiff, Nat.reduceSub, Nat.reduceMul, Nat.reduceLT, Nat.reduceLeDiff, Nat.reduceBEq, Int.reduceEq, Int.reduceLT, Int.reduceLE, Int.reduceToNat, Int.reduceNeg, Int.reduceAdd, Int.reduceSub, Int.reduceMul, Int.reduceMod, Int.reduceDiv, reduceCtorEq, Nat.reducePow, Int.reducePow, loopN_succ, ac_registers_Extend_L1, h3, on_eq0 hk.1, on_eq1 hk.1, h4, size_eq0, size_eq1, h5, twin_eq2 hk, h6, sumA_eq0, sumA_eq1, z0, z1, hE, List.map_nil, extR, extEr, List.getD_cons_zero, List.getD_cons_succ, List.length_cons, List.length_nil]
        all_goals repeat refine And.intro rfl ?_
        all_goals rfl
      · have zz : True := trivial
        have hE : extE 16 0 loc n 2 d0.length d1.length = 0 := by unfold extE; rw [if_neg (by omega), if_neg (by omega), if_neg (by omega), if_neg (by omega)]
        refine loop_fuel 3 ?_
        simp (config := { maxSteps := 2000000 }) (disch := (first | omega | (simp only [lens, lenm]; omega))) only [go_sem, ↓reduceIte, Nat.reduceAdd, Nat.reduceEqDiff, Nat.reduceSub, Nat.reduceMul, Nat.reduceLT, Nat.reduceLeDiff, Nat.reduceBEq, Int.reduceEq, Int.reduceLT, Int.reduceLE, Int.reduceToNat, Int.reduceNeg, Int.reduceAdd, Int.reduceSub, Int.reduceMul, Int.reduceMod, Int.reduceDiv, reduceCtorEq, Nat.reducePow, Int.reducePow, loopN_succ, ac_registers_Extend_L1, h3, on_eq0 hk.1, on_eq1 hk.1, h4, size_eq0, size_eq1, h5, twin_eq2 hk, h6, sumA_eq0, sumA_eq1, z0, z1]
        all_goals repeat refine And.intro rfl ?_
        refine loop_upto 2 (fun k => match k with | 0 => [(2, .t (.int .i64 (n : Nat))), (3, .t (.sl [bsT d0, bsT d1])), (4, .ref 4096 0 0), (8, .ref 4112 0 0), (14, .ref 73760 0 0), (79, .t (.int .i64 2)), (80, .t (.int .i64 0))] | 1 => [(2, .t (.int .i64 (n : Nat))), (3, .t (.sl [bsT d0, bsT d1])), (4, .ref 4096 0 0), (8, .ref 4112 0 0), (14, .ref 73760 0 0), (79, .t (.int .i64 2)), (80, .t (.int .i64 1))] | _ => [(2, .t (.int .i64 (n : Nat))), (3, .t (.sl [bsT d0, bsT d1])), (4, .ref 4096 0 0), (8, .ref 4112 0 0), (14, .ref 73760 0 0), (79, .t (.int .i64 2)), (80, .t (.int .i64 2))]) (fun k => match k with | 0 => [(73760, .live 2 [.agg [.sl 73744 0 2, .t (.int .i64 u)]] true true), (73746, .live 1 (((b1).map bsT).map V.t) true false), (73745, .live 1 (((b0).map bsT).map V.t) true false), (73744, .live 1 [.sl 73745 0 16, .sl 73746 0 0] true false), (4112, .live 2 [.agg [.nil, .t (.int .i64 0)]] true true), (4096, .live 2 [.t (regT [b0, b1] u)] true true)] | 1 => [(73760, .live 2 [.agg [.sl 73744 0 2, .t (.int .i64 u)]] true true), (73746, .live 1 (((b1).map bsT).map V.t) true false), (73745, .live 1 (((ext1 0 b0 n d0).map bsT).map V.t) true false), (73744, .live 1 [.sl 73745 0 16, .sl 73746 0 0] true false), (4112, .live 2 [.agg [.nil, .t (.int .i64 0)]] true true), (4096, .live 2 [.t (regT [b0, b1] u)] true true)] | _ => [(73760, .live 2 [.agg [.sl 73744 0 2, .t (.int .i64 u)]] true true), (73746, .live 1 (((ext1 1 b1 n d1).map bsT).map V.t) true false), (73745, .live 1 (((ext1 0 b0 n d0).map bsT).map V.t) true false), (73744, .live 1 [.sl 73745 0 16, .sl 73746 0 0] true false), (4112, .live 2 [.agg [.nil, .t (.int .i64 0)]] true true), (4096, .live 2 [.t (regT [b0, b1] u)] true true)]) ?_ (fun k hk2 => ?_)
        · refine Weak.rd id ?_ ?_ rfl
          all_goals simp (config := { maxSteps := 2000000 }) (disch := (first | omega | (simp only [lens, lenm]; omega))) only [go_sem, ↓reduceIte, Nat.reduceAdd, Nat.reduceEqDiff, Nat.reduceSub, Nat.reduceMul, Nat.reduceLT, Nat.reduceLeDiff, Nat.reduceBEq, Int.reduceEq, Int.reduceLT, Int.reduceLE, Int.reduceToNat, Int.reduceNeg, Int.reduceAdd, Int.reduceSub, Int.reduceMul, Int.reduceMod, Int.reduceDiv, reduceCtorEq, Nat.reducePow, Int.reducePow, id, z0, z1]
        · rcases (show k = 0 ∨ k = 1 ∨ k = 2 by omega) with rfl | rfl | rfl
          · have q := List.take_of_length_le (show (b0.getD n [] ++ d0).length ≤ (List.getD b0 n []).length + d0.length by rw [List.length_append]; exact Nat.le_refl _)
            simp (config := { maxSteps := 2000000 }) (disch := (first | omega | (simp only [lens, lenm]; omega))) only [go_sem, ↓reduceIte, Nat.reduceAdd, Nat.reduceEqDiff, Nat.reduceSub, Nat.reduceMul, Nat.reduceLT, Nat.reduceLeDiff, Nat.reduceBEq, Int.reduceEq, Int.reduceLT, Int.reduceLE, Int.reduceToNat, Int.reduceNeg, Int.reduceAdd, Int.reduceSub, Int.reduceMul, Int.reduceMod, Int.reduceDiv, reduceCtorEq, Nat.reducePow, Int.reducePow, ac_registers_Extend_L2, h3, on_eq0 hk.1, on_eq1 hk.1, h4, size_eq0, size_eq1, h5, twin_eq2 hk, h6, sumA_eq0, sumA_eq1, z0, z1, ext1_length, q]
            repeat refine And.intro rfl ?_
            refine Weak.cv (hv := []) [94544] id ?_ rfl
            simp (config := { maxSteps := 2000000 }) (disch := (first | omega | (simp only [lens, lenm]; omega))) only [go_sem, ↓reduceIte, Nat.reduceAdd, Nat.reduceEqDiff, Nat.reduceSub, Nat.reduceMul, Nat.reduceLT, Nat.reduceLeDiff, Nat.reduceBEq, Int.reduceEq, Int.reduceLT, Int.reduceLE, Int.reduceToNat, Int.reduceNeg, Int.reduceAdd, Int.reduceSub, Int.reduceMul, Int.reduceMod, Int.reduceDiv, reduceCtorEq, Nat.reducePow, Int.reducePow, id, ext1, z0, z1, take_sum1, take_sum256, sumA0, sumA1, sum1_length, sum256_length]
            all_goals rfl
          · have q := List.take_of_length_le (show (b1.getD n [] ++ d1).length ≤ (List.getD b1 n []).length + d1.length by rw [List.length_append]; exact Nat.le_refl _)
            simp (config := { maxSteps := 2000000 }) (disch := (first | omega | (simp only [lens, lenm]; omega))) only [go_sem, ↓reduceIte, Nat.reduceAdd, Nat.reduceEqDiff, Nat.reduceSub, Nat.reduceMul, Nat.reduceLT, Nat.reduceLeDiff, Nat.reduceBEq, Int.reduceEq, Int.reduceLT, Int.reduceLE, Int.reduceToNat, Int.reduceNeg, Int.reduceAdd, Int.reduceSub, Int.reduceMul, Int.reduceMod, Int.reduceDiv, reduceCtorEq, Nat.reducePow, Int.reducePow, ac_registers_Extend_L2, h3, on_eq0 hk.1, on_eq1 hk.1, h4, size_eq0, size_eq1, h5, twin_eq2 hk, h6, sumA_eq0, sumA_eq1, z0, z1, ext1_length, q]
            refine Weak.rd id ?_ ?_ rfl
            all_goals simp (config := { maxSteps := 2000000 }) (disch := (first | omega | (simp only [lens, lenm]; omega))) only [go_sem, ↓reduceIte, Nat.reduceAdd, Nat.reduceEqDiff, Nat.reduceSub, Nat.reduceMul, Nat.reduceLT, Nat.reduceLeDiff, Nat.reduceBEq, Int.reduceEq, Int.reduceLT, Int.reduceLE, Int.reduceToNat, Int.reduceNeg, Int.reduceAdd, Int.reduceSub, Int.reduceMul, Int.reduceMod, Int.reduceDiv, reduceCtorEq, Nat.reducePow, Int.reducePow, id, ext1, z0, z1]
          · have t0 : List.take 16 (ext1 0 b0 n d0) = ext1 0 b0 n d0 := List.take_of_length_le (by rw [ext1_length, z0]; exact Nat.le_refl _)
            have t1 : List.take 0 (ext1 1 b1 n d1) = ext1 1 b1 n d1 := List.take_of_length_le (by rw [ext1_length, z1]; exact Nat.le_refl _)
            have y1 : ext1 1 b1 n d1 = [] := List.eq_nil_of_length_eq_zero (by rw [ext1_length, z1])
            simp (config := { maxSteps := 2000000 }) (disch := (first | omega | (simp only [lens, lenm]; omega))) only [go_sem, ↓reduceIte, Nat.reduceAdd, Nat.reduceEqDiff, Nat.reduceSub, Nat.reduceMul, Nat.reduceLT, Nat.reduceLeDiff, Nat.reduceBEq, Int.reduceEq, Int.reduceLT, Int.reduceLE, Int.reduceToNat, Int.reduceNeg, Int.reduceAdd, Int.reduceSub, Int.reduceMul, Int.reduceMod, Int.reduceDiv, reduceCtorEq, Nat.reducePow, Int.reducePow, ac_registers_Extend_L2, ext1_length, t0, t1, z0, z1, hE, extBk, Int.toNat_natCast, List.map_cons, List.map_nil, y1, extR, extEr, List.getD_cons_zero, List.getD_cons_succ, List.length_cons, List.length_nil]
  · have zz : True := trivial
    refine loop_fuel 3 ?_
    simp (config := { maxSteps := 2000000 }) (disch := (first | omega | (simp only [lens, lenm]; omega))) only [go_sem, ↓reduceIte, Nat.reduceAdd, Nat.reduceEqDiff, Nat.reduceSub, Nat.reduceMul, Nat.reduceLT, Nat.reduceLeDiff, Nat.reduceBEq, Int.reduceEq, Int.reduceLT, Int.reduceLE, Int.reduceToNat, Int.reduceNeg, Int.reduceAdd, Int.reduceSub, Int.reduceMul, Int.reduceMod, Int.reduceDiv, reduceCtorEq, Nat.reducePow, Int.reducePow, loopN_succ, ac_registers_Extend_L0, h3, on_eq0 hk.1, on_eq1 hk.1, h4, size_eq0, size_eq1, h5, twin_eq2 hk, h6, sumA_eq0, sumA_eq1, z0, z1]
    all_goals repeat refine And.intro rfl ?_
    refine loopW_weak (fs' := [(2, .t (.int .i64 (n : Nat))), (3, .t (.sl [bsT d0, bsT d1])), (4, .ref 4096 0 0), (8, .ref 4112 0 0), (56, .t (.sl [bsT d0, bsT d1])), (57, .t (.int .i64 2)), (58, .t (.int .i64 0))]) (hs' := [(4112, .live 2 [.agg [.nil, .t (.int .i64 0)]] true true), (4096, .live 2 [.t (regT [b0, b1] u)] true true)]) (Weak.rd id ?_ ?_ rfl) ?_
    · simp (config := { maxSteps := 2000000 }) (disch := (first | omega | (simp only [lens, lenm]; omega))) only [go_sem, ↓reduceIte, Nat.reduceAdd, Nat.reduceEqDiff, Nat.reduceSub, Nat.reduceMul, Nat.reduceLT, Nat.reduceLeDiff, Nat.reduceBEq, Int.reduceEq, Int.reduceLT, Int.reduceLE, Int.reduceToNat, Int.reduceNeg, Int.reduceAdd, Int.reduceSub, Int.reduceMul, Int.reduceMod, Int.reduceDiv, reduceCtorEq, Nat.reducePow, Int.reducePow, id]
    · simp (config := { maxSteps := 2000000 }) (disch := (first | omega | (simp only [lens, lenm]; omega))) only [go_sem, ↓reduceIte, Nat.reduceAdd, Nat.reduceEqDiff, Nat.reduceSub, Nat.reduceMul, Nat.reduceLT, Nat.reduceLeDiff, Nat.reduceBEq, Int.reduceEq, Int.reduceLT, Int.reduceLE, Int.reduceToNat, Int.reduceNeg, Int.reduceAdd, Int.reduceSub, Int.reduceMul, Int.reduceMod, Int.reduceDiv, reduceCtorEq, Nat.reducePow, Int.reducePow, id]
    by_cases q2 : d0.length ≠ 20
    · have zz : True := trivial
      have hE : extE 16 16 loc n 2 d0.length d1.length = 24 := by unfold extE; rw [if_neg (by omega), if_neg (by omega), if_neg (by omega), if_pos (by omega)]
      refine loop_fuel 3 ?_
      simp (config := { maxSteps := 2000000 }) (disch := (first | omega | (simp only [lens, lenm]; omega))) only [go_sem, ↓reduceIte, Nat.reduceAdd, Nat.reduceEqDiff, Nat.reduceSub, Nat.reduceMul, Nat.reduceLT, Nat.reduceLeDiff, Nat.reduceBEq, Int.reduceEq, Int.reduceLT, Int.reduceLE, Int.reduceToNat, Int.reduceNeg, Int.reduceAdd, Int.reduceSub, Int.reduceMul, Int.reduceMod, Int.reduceDiv, reduceCtorEq, Nat.reducePow, Int.reducePow, loopN_succ, ac_registers_Extend_L1, h3, on_eq0 hk.1, on_eq1 hk.1, h4, size_eq0, size_eq1, h5, twin_eq2 hk, h6, sumA_eq0, sumA_eq1, z0, z1, hE, List.map_nil, extR, extEr, List.getD_cons_zero, List.getD_cons_succ, List.length_cons, List.length_nil]
      all_goals repeat refine And.intro rfl ?_
      all_goals rfl
    · have zz : True := trivial
      by_cases q1 : d1.length ≠ 32
      · have zz : True := trivial
        have hE : extE 16 16 loc n 2 d0.length d1.length = 24 := by unfold extE; rw [if_neg (by omega), if_neg (by omega), if_neg (by omega), if_pos (by omega)]
        refine loop_fuel 3 ?_
        simp (config := { maxSteps := 2000000 }) (disch := (first | omega | (simp only [lens, lenm]; omega))) only [go_sem, ↓reduceIte, Nat.reduceAdd, Nat.reduceEqDiff, Nat.reduceSub, Nat.reduceMul, Nat.reduceLT, Nat.reduceLeDiff, Nat.reduceBEq, Int.reduceEq, Int.reduceLT, Int.reduceLE, Int.reduceToNat, Int.reduceNeg, Int.reduceAdd, Int.reduceSub, Int.reduceMul, Int.reduceMod, Int.reduceDiv, reduceCtorEq, Nat.reducePow, Int.reducePow, loopN_succ, ac_registers_Extend_L1, h3, on_eq0 hk.1, on_eq1 hk.1, h4, size_eq0, size_eq1, h5, twin_eq2 hk, h6, sumA_eq0, sumA_eq1, z0, z1, hE, List.map_nil, extR, extEr, List.getD_cons_zero, List.getD_cons_succ, List.length_cons, List.length_nil]
        all_goals repeat refine And.intro rfl ?_
        all_goals rfl
      · have zz : True := trivial
        have hE : extE 16 16 loc n 2 d0.length d1.length = 0 := by unfold extE; rw [if_neg (by omega), if_neg (by omega), if_neg (by omega), if_neg (by omega)]
        refine loop_fuel 3 ?_
        simp (config := { maxSteps := 2000000 }) (disch := (first | omega | (simp only [lens, lenm]; omega))) only [go_sem, ↓reduceIte, Nat.reduceAdd, Nat.reduceEqDiff, Nat.reduceSub, Nat.reduceMul, Nat.reduceLT, Nat.reduceLeDiff, Nat.reduceBEq, Int.reduceEq, Int.reduceLT, Int.reduceLE, Int.reduceToNat, Int.reduceNeg, Int.reduceAdd, Int.reduceSub, Int.reduceMul, Int.reduceMod, Int.reduceDiv, reduceCtorEq, Nat.reducePow, Int.reducePow, loopN_succ, ac_registers_Extend_L1, h3, on_eq0 hk.1, on_eq1 hk.1, h4, size_eq0, size_eq1, h5, twin_eq2 hk, h6, sumA_eq0, sumA_eq1, z0, z1]
        all_goals repeat refine And.intro rfl ?_
        refine loop_upto 2 (fun k => match k with | 0 => [(2, .t (.int .i64 (n : Nat))), (3, .t (.sl [bsT d0, bsT d1])), (4, .ref 4096 0 0), (8, .ref 4112 0 0), (14, .ref 73760 0 0), (79, .t (.int .i64 2)), (80, .t (.int .i64 0))] | 1 => [(2, .t (.int .i64 (n : Nat))), (3, .t (.sl [bsT d0, bsT d1])), (4, .ref 4096 0 0), (8, .ref 4112 0 0), (14, .ref 73760 0 0), (79, .t (.int .i64 2)), (80, .t (.int .i64 1))] | _ => [(2, .t (.int .i64 (n : Nat))), (3, .t (.sl [bsT d0, bsT d1])), (4, .ref 4096 0 0), (8, .ref 4112 0 0), (14, .ref 73760 0 0), (79, .t (.int .i64 2)), (80, .t (.int .i64 2))]) (fun k => match k with | 0 => [(73760, .live 2 [.agg [.sl 73744 0 2, .t (.int .i64 u)]] true true), (73746, .live 1 (((b1).map bsT).map V.t) true false), (73745, .live 1 (((b0).map bsT).map V.t) true false), (73744, .live 1 [.sl 73745 0 16, .sl 73746 0 16] true false), (4112, .live 2 [.agg [.nil, .t (.int .i64 0)]] true true), (4096, .live 2 [.t (regT [b0, b1] u)] true true)] | 1 => [(73760, .live 2 [.agg [.sl 73744 0 2, .t (.int .i64 u)]] true true), (73746, .live 1 (((b1).map bsT).map V.t) true false), (73745, .live 1 (((ext1 0 b0 n d0).map bsT).map V.t) true false), (73744, .live 1 [.sl 73745 0 16, .sl 73746 0 16] true false), (4112, .live 2 [.agg [.nil, .t (.int .i64 0)]] true true), (4096, .live 2 [.t (regT [b0, b1] u)] true true)] | _ => [(73760, .live 2 [.agg [.sl 73744 0 2, .t (.int .i64 u)]] true true), (73746, .live 1 (((ext1 1 b1 n d1).map bsT).map V.t) true false), (73745, .live 1 (((ext1 0 b0 n d0).map bsT).map V.t) true false), (73744, .live 1 [.sl 73745 0 16, .sl 73746 0 16] true false), (4112, .live 2 [.agg [.nil, .t (.int .i64 0)]] true true), (4096, .live 2 [.t (regT [b0, b1] u)] true true)]) ?_ (fun k hk2 => ?_)
        · refine Weak.rd id ?_ ?_ rfl
          all_goals simp (config := { maxSteps := 2000000 }) (disch := (first | omega | (simp only [lens, lenm]; omega))) only [go_sem, ↓reduceIte, Nat.reduceAdd, Nat.reduceEqDiff, Nat.reduceSub, Nat.reduceMul, Nat.reduceLT, Nat.reduceLeDiff, Nat.reduceBEq, Int.reduceEq, Int.reduceLT, Int.reduceLE, Int.reduceToNat, Int.reduceNeg, Int.reduceAdd, Int.reduceSub, Int.reduceMul, Int.reduceMod, Int.reduceDiv, reduceCtorEq, Nat.reducePow, Int.reducePow, id, z0, z1]
        · rcases (show k = 0 ∨ k = 1 ∨ k = 2 by omega) with rfl | rfl | rfl
          · have q := List.take_of_length_le (show (b0.getD n [] ++ d0).length ≤ (List.getD b0 n []).length + d0.length by rw [List.length_append]; exact Nat.le_refl _)
            simp (config := { maxSteps := 2000000 }) (disch := (first | omega | (simp only [lens, lenm]; omega))) only [go_sem, ↓reduceIte, Nat.reduceAdd, Nat.reduceEqDiff, Nat.reduceSub, Nat.reduceMul, Nat.reduceLT, Nat.reduceLeDiff, Nat.reduceBEq, Int.reduceEq, Int.reduceLT, Int.reduceLE, Int.reduceToNat, Int.reduceNeg, Int.reduceAdd, Int.reduceSub, Int.reduceMul, Int.reduceMod, Int.reduceDiv, reduceCtorEq, Nat.reducePow, Int.reducePow, ac_registers_Extend_L2, h3, on_eq0 hk.1, on_eq1 hk.1, h4, size_eq0, size_eq1, h5, twin_eq2 hk, h6, sumA_eq0, sumA_eq1, z0, z1, ext1_length, q]
            repeat refine And.intro rfl ?_
            refine Weak.cv (hv := []) [94544] id ?_ rfl
            simp (config := { maxSteps := 2000000 }) (disch := (first | omega | (simp only [lens, lenm]; omega))) only [go_sem, ↓reduceIte, Nat.reduceAdd, Nat.reduceEqDiff, Nat.reduceSub, Nat.reduceMul, Nat.reduceLT, Nat.reduceLeDiff, Nat.reduceBEq, Int.reduceEq, Int.reduceLT, Int.reduceLE, Int.reduceToNat, Int.reduceNeg, Int.reduceAdd, Int.reduceSub, Int.reduceMul, Int.reduceMod, Int.reduceDiv, reduceCtorEq, Nat.reducePow, Int.reducePow, id, ext1, z0, z1, take_sum1, take_sum256, sumA0, sumA1, sum1_length, sum256_length]
            all_goals rfl
          · have q := List.take_of_length_le (show (b1.getD n [] ++ d1).length ≤ (List.getD b1 n []).length + d1.length by rw [List.length_append]; exact Nat.le_refl _)
            simp (config := { maxSteps := 2000000 }) (disch := (first | omega | (simp only [lens, lenm]; omega))) only [go_sem, ↓reduceIte, Nat.reduceAdd, Nat.reduceEqDiff, Nat.reduceSub, Nat.reduceMul, Nat.reduceLT, Nat.reduceLeDiff, Nat.reduceBEq, Int.reduceEq, Int.reduceLT, Int.reduceLE, Int.reduceToNat, Int.reduceNeg, Int.reduceAdd, Int.reduceSub, Int.reduceMul, Int.reduceMod, Int.reduceDiv, reduceCtorEq, Nat.reducePow, Int.reducePow, ac_registers_Extend_L2, h3, on_eq0 hk.1, on_eq1 hk.1, h4, size_eq0, size_eq1, h5, twin_eq2 hk, h6, sumA_eq0, sumA_eq1, z0, z1, ext1_length, q]
            repeat refine And.intro rfl ?_
            refine Weak.cv (hv := []) [94544] id ?_ rfl
            simp (config := { maxSteps := 2000000 }) (disch := (first | omega | (simp only [lens, lenm]; omega))) only [go_sem, ↓reduceIte, Nat.reduceAdd, Nat.reduceEqDiff, Nat.reduceSub, Nat.reduceMul, Nat.reduceLT, Nat.reduceLeDiff, Nat.reduceBEq, Int.reduceEq, Int.reduceLT, Int.reduceLE, Int.reduceToNat, Int.reduceNeg, Int.reduceAdd, Int.reduceSub, Int.reduceMul, Int.reduceMod, Int.reduceDiv, reduceCtorEq, Nat.reducePow, Int.reducePow, id, ext1, z0, z1, take_sum1, take_sum256, sumA0, sumA1, sum1_length, sum256_length]
            all_goals rfl
          · have t0 : List.take 16 (ext1 0 b0 n d0) = ext1 0 b0 n d0 := List.take_of_length_le (by rw [ext1_length, z0]; exact Nat.le_refl _)
            have t1 : List.take 16 (ext1 1 b1 n d1) = ext1 1 b1 n d1 := List.take_of_length_le (by rw [ext1_length, z1]; exact Nat.le_refl _)
            simp (config := { maxSteps := 2000000 }) (disch := (first | omega | (simp only [lens, lenm]; omega))) only [go_sem, ↓reduceIte, Nat.reduceAdd, Nat.reduceEqDiff, Nat.reduceSub, Nat.reduceMul, Nat.reduceLT, Nat.reduceLeDiff, Nat.reduceBEq, Int.reduceEq, Int.reduceLT, Int.reduceLE, Int.reduceToNat, Int.reduceNeg, Int.reduceAdd, Int.reduceSub, Int.reduceMul, Int.reduceMod, Int.reduceDiv, reduceCtorEq, Nat.reducePow, Int.reducePow, ac_registers_Extend_L2, ext1_length, t0, t1, z0, z1, hE, extBk, Int.toNat_natCast, List.map_cons, List.map_nil, extR, extEr, List.getD_cons_zero, List.getD_cons_succ, List.length_cons, List.length_nil]
end Go.Eng
end
section
set_option maxRecDepth 20000
set_option maxHeartbeats 64000000
namespace Go.Eng
theorem w_ref8_Extend2 (tab : Tab) (gl : Gl) (n1 n2 n3 n4 n5 n6 : Nat) (h2 : tab.look n1 = some ct_rleast.fs) (h3 : tab.look n2 = some ct_actv.fs) (h4 : tab.look n3 = some ct_size.fs) (h5 : tab.look n4 = some ct_twin.fs) (h7 : tab.look n5 = some ct_copy.fs) (h6 : tab.look n6 = some ct_sumA.fs)
    (b0 b1 : Bank) (u loc : Int) (n : Nat) (d0 d1 : List UInt8) (hu : 0 ≤ u ∧ u < 1000000000) (hk : RM [b0, b1]) (hv0 : (b0.getD n []).length ≤ 64) (hv1 : (b1.getD n []).length ≤ 64) (hd : d0.length < 9223372036854775808 ∧ d1.length < 9223372036854775808) (e1 : ¬(loc < 0 ∨ 4 < loc ∨ 16 ≤ n)) (e2 : ¬ loc < leastI n false) :
    (ac_ref8_Extend n1 n2 n3 n4 n5 n6).wp tab gl (zipF 0 [.t (regT [b0, b1] u), .t (.int .i64 loc), .t (.int .i64 n), .t (.sl [bsT d0, bsT d1])]) (zipF 0 []) (resW [(8, some (2, true)), (9, none)] 0 (fun r o => r = extR [b0, b1] u loc n [d0, d1] ∧ o = [])) := by
  have gg : bkOk b0 ∧ bkOk b1 := by
    obtain ⟨hrk, _⟩ := hk
    cases hrk with
    | two _ _ h0 h1 => exact ⟨h0, h1⟩
  obtain ⟨g0, g1⟩ := gg
  have a6 : ¬ leastI (n : Int) false = 5 := by unfold leastI; split <;> (try split) <;> (try split) <;> simp_all
  simp (config := { maxSteps := 2000000 }) (disch := (first | omega | (simp only [lens, lenm]; omega))) only [go_sem, ↓reduceIte, Nat.reduceAdd, Nat.reduceEqDiff, Nat.reduceSub, Nat.reduceMul, Nat.reduceLT, Nat.reduceLeDiff, Nat.reduceBEq, Int.reduceEq, Int.reduceLT, Int.reduceLE, Int.reduceToNat, Int.reduceNeg, Int.reduceAdd, Int.reduceSub, Int.reduceMul, Int.reduceMod, Int.reduceDiv, reduceCtorEq, Nat.reducePow, Int.reducePow, ac_ref8_Extend, h2, rleast_eq, a6, List.map_nil, List.map_cons]
  refine loopW_weak (fs' := [(2, .t (.int .i64 (n : Nat))), (3, .t (.sl [bsT d0, bsT d1])), (4, .ref 4096 0 0), (8, .ref 4112 0 0), (10, .t (.int .i64 0))]) (hs' := [(4112, .live 2 [.agg [.nil, .t (.int .i64 0)]] true true), (4096, .live 2 [.t (regT [b0, b1] u)] true true)]) (Weak.rd id ?_ ?_ rfl) ?_
  · simp (config := { maxSteps := 2000000 }) (disch := (first | omega | (simp only [lens, lenm]; omega))) only [go_sem, ↓reduceIte, Nat.reduceAdd, Nat.reduceEqDiff, Nat.reduceSub, Nat.reduceMul, Nat.reduceLT, Nat.reduceLeDiff, Nat.reduceBEq, Int.reduceEq, Int.reduceLT, Int.reduceLE, Int.reduceToNat, Int.reduceNeg, Int.reduceAdd, Int.reduceSub, Int.reduceMul, Int.reduceMod, Int.reduceDiv, reduceCtorEq, Nat.reducePow, Int.reducePow, id]
  · simp (config := { maxSteps := 2000000 }) (disch := (first | omega | (simp only [lens, lenm]; omega))) only [go_sem, ↓reduceIte, Nat.reduceAdd, Nat.reduceEqDiff, Nat.reduceSub, Nat.reduceMul, Nat.reduceLT, Nat.reduceLeDiff, Nat.reduceBEq, Int.reduceEq, Int.reduceLT, Int.reduceLE, Int.reduceToNat, Int.reduceNeg, Int.reduceAdd, Int.reduceSub, Int.reduceMul, Int.reduceMod, Int.reduceDiv, reduceCtorEq, Nat.reducePow, Int.reducePow, id]
  rcases g0 with z0 | z0 <;> rcases g1 with z1 | z1
  · have zz : True := trivial
    by_cases p2 : 0 < d0.length
    · have zz : True := trivial
      have hE : extE 0 0 loc n 2 d0.length d1.length = 27 := by unfold extE; rw [if_neg (by omega), if_neg (by omega), if_pos (by omega)]
      refine loop_fuel 3 ?_
      simp (config := { maxSteps := 2000000 }) (disch := (first | omega | (simp only [lens, lenm]; omega))) only [go_sem, ↓reduceIte, Nat.reduceAdd, Nat.reduceEqDiff, Nat.reduceSub, Nat.reduceMul, Nat.reduceLT, Nat.reduceLeDiff, Nat.reduceBEq, Int.reduceEq, Int.reduceLT, Int.reduceLE, Int.reduceToNat, Int.reduceNeg, Int.reduceAdd, Int.reduceSub, Int.reduceMul, Int.reduceMod, Int.reduceDiv, reduceCtorEq, Nat.reducePow, Int.reducePow, loopN_succ, ac_ref8_Extend_L0, h3, actv_eq0 hk.1, actv_eq1 hk.1, h4, size_eq0, size_eq1, h5, twin_eq2 hk, h7, copy_eq, h6, sumA_eq0, sumA_eq1, z0, z1, hE, List.map_nil, extR, extEr, List.getD_cons_zero, List.getD_cons_succ, List.length_cons, List.length_nil]
      all_goals repeat refine And.intro rfl ?_
      all_goals rfl
    · have zz : True := trivial
      by_cases p1 : 0 < d1.length
      · have zz : True := trivial
        have hE : extE 0 0 loc n 2 d0.length d1.length = 27 := by unfold extE; rw [if_neg (by omega), if_neg (by omega), if_pos (by omega)]
        refine loop_fuel 3 ?_
        simp (config := { maxSteps := 2000000 }) (disch := (first | omega | (simp only [lens, lenm]; omega))) only [go_sem, ↓reduceIte, Nat.reduceAdd, Nat.reduceEqDiff, Nat.reduceSub, Nat.reduceMul, Nat.reduceLT, Nat.reduceLeDiff, Nat.reduceBEq, Int.reduceEq, Int.reduceLT, Int.reduceLE, Int.reduceToNat, Int.reduceNeg, Int.reduceAdd, Int.reduceSub, Int.reduceMul, Int.reduceMod, Int.reduceDiv, reduceCtorEq, Nat.reducePow, Int.reducePow, loopN_succ, ac_ref8_Extend_L0, h3, actv_eq0 hk.1, actv_eq1 hk.1, h4, size_eq0, size_eq1, h5, twin_eq2 hk, h7, copy_eq, h6, sumA_eq0, sumA_eq1, z0, z1, hE, List.map_nil, extR, extEr, List.getD_cons_zero, List.getD_cons_succ, List.length_cons, List.length_nil]
        all_goals repeat refine And.intro rfl ?_
        all_goals rfl
      · have zz : True := trivial
        refine loop_fuel 3 ?_
        simp (config := { maxSteps := 2000000 }) (disch := (first | omega | (simp only [lens, lenm]; omega))) only [go_sem, ↓reduceIte, Nat.reduceAdd, Nat.reduceEqDiff, Nat.reduceSub, Nat.reduceMul, Nat.reduceLT, Nat.reduceLeDiff, Nat.reduceBEq, Int.reduceEq, Int.reduceLT, Int.reduceLE, Int.reduceToNat, Int.reduceNeg, Int.reduceAdd, Int.reduceSub, Int.reduceMul, Int.reduceMod, Int.reduceDiv, reduceCtorEq, Nat.reducePow, Int.reducePow, loopN_succ, ac_ref8_Extend_L0, h3, actv_eq0 hk.1, actv_eq1 hk.1, h4, size_eq0, size_eq1, h5, twin_eq2 hk, h7, copy_eq, h6, sumA_eq0, sumA_eq1, z0, z1]
        all_goals repeat refine And.intro rfl ?_
        refine loopW_weak (fs' := [(2, .t (.int .i64 (n : Nat))), (3, .t (.sl [bsT d0, bsT d1])), (4, .ref 4096 0 0), (8, .ref 4112 0 0), (11, .t (.int .i64 0))]) (hs' := [(4112, .live 2 [.agg [.nil, .t (.int .i64 0)]] true true), (4096, .live 2 [.t (regT [b0, b1] u)] true true)]) (Weak.rd id ?_ ?_ rfl) ?_
        · simp (config := { maxSteps := 2000000 }) (disch := (first | omega | (simp only [lens, lenm]; omega))) only [go_sem, ↓reduceIte, Nat.reduceAdd, Nat.reduceEqDiff, Nat.reduceSub, Nat.reduceMul, Nat.reduceLT, Nat.reduceLeDiff, Nat.reduceBEq, Int.reduceEq, Int.reduceLT, Int.reduceLE, Int.reduceToNat, Int.reduceNeg, Int.reduceAdd, Int.reduceSub, Int.reduceMul, Int.reduceMod, Int.reduceDiv, reduceCtorEq, Nat.reducePow, Int.reducePow, id]
        · simp (config := { maxSteps := 2000000 }) (disch := (first | omega | (simp only [lens, lenm]; omega))) only [go_sem, ↓reduceIte, Nat.reduceAdd, Nat.reduceEqDiff, Nat.reduceSub, Nat.reduceMul, Nat.reduceLT, Nat.reduceLeDiff, Nat.reduceBEq, Int.reduceEq, Int.reduceLT, Int.reduceLE, Int.reduceToNat, Int.reduceNeg, Int.reduceAdd, Int.reduceSub, Int.reduceMul, Int.reduceMod, Int.reduceDiv, reduceCtorEq, Nat.reducePow, Int.reducePow, id]
        have hE : extE 0 0 loc n 2 d0.length d1.length = 0 := by unfold extE; rw [if_neg (by omega), if_neg (by omega), if_neg (by omega), if_neg (by omega)]
        refine loop_fuel 3 ?_
        simp (config := { maxSteps := 2000000 }) (disch := (first | omega | (simp only [lens, lenm]; omega))) only [go_sem, ↓reduceIte, Nat.reduceAdd, Nat.reduceEqDiff, Nat.reduceSub, Nat.reduceMul, Nat.reduceLT, Nat.reduceLeDiff, Nat.reduceBEq, Int.reduceEq, Int.reduceLT, Int.reduceLE, Int.reduceToNat, Int.reduceNeg, Int.reduceAdd, Int.reduceSub, Int.reduceMul, Int.reduceMod, Int.reduceDiv, reduceCtorEq, Nat.reducePow, Int.reducePow, loopN_succ, ac_ref8_Extend_L1, h3, actv_eq0 hk.1, actv_eq1 hk.1, h4, size_eq0, size_eq1, h5, twin_eq2 hk, h7, copy_eq, h6, sumA_eq0, sumA_eq1, z0, z1]
        all_goals repeat refine And.intro rfl ?_
        refine loop_upto 2 (fun k => match k with | 0 => [(2, .t (.int .i64 (n : Nat))), (3, .t (.sl [bsT d0, bsT d1])), (4, .ref 4096 0 0), (8, .ref 4112 0 0), (12, .ref 65568 0 0), (13, .t (.int .i64 0))] | 1 => [(2, .t (.int .i64 (n : Nat))), (3, .t (.sl [bsT d0, bsT d1])), (4, .ref 4096 0 0), (8, .ref 4112 0 0), (12, .ref 65568 0 0), (13, .t (.int .i64 1))] | _ => [(2, .t (.int .i64 (n : Nat))), (3, .t (.sl [bsT d0, bsT d1])), (4, .ref 4096 0 0), (8, .ref 4112 0 0), (12, .ref 65568 0 0), (13, .t (.int .i64 2))]) (fun k => match k with | 0 => [(65568, .live 2 [.agg [.sl 65552 0 2, .t (.int .i64 u)]] true true), (65554, .live 1 (((b1).map bsT).map V.t) true false), (65553, .live 1 (((b0).map bsT).map V.t) true false), (65552, .live 1 [.sl 65553 0 0, .sl 65554 0 0] true false), (4112, .live 2 [.agg [.nil, .t (.int .i64 0)]] true true), (4096, .live 2 [.t (regT [b0, b1] u)] true true)] | 1 => [(65568, .live 2 [.agg [.sl 65552 0 2, .t (.int .i64 u)]] true true), (65554, .live 1 (((b1).map bsT).map V.t) true false), (65553, .live 1 (((ext1 0 b0 n d0).map bsT).map V.t) true false), (65552, .live 1 [.sl 65553 0 0, .sl 65554 0 0] true false), (4112, .live 2 [.agg [.nil, .t (.int .i64 0)]] true true), (4096, .live 2 [.t (regT [b0, b1] u)] true true)] | _ => [(65568, .live 2 [.agg [.sl 65552 0 2, .t (.int .i64 u)]] true true), (65554, .live 1 (((ext1 1 b1 n d1).map bsT).map V.t) true false), (65553, .live 1 (((ext1 0 b0 n d0).map bsT).map V.t) true false), (65552, .live 1 [.sl 65553 0 0, .sl 65554 0 0] true false), (4112, .live 2 [.agg [.nil, .t (.int .i64 0)]] true true), (4096, .live 2 [.t (regT [b0, b1] u)] true true)]) ?_ (fun k hk2 => ?_)
        · refine Weak.rd id ?_ ?_ rfl
          all_goals simp (config := { maxSteps := 2000000 }) (disch := (first | omega | (simp only [lens, lenm]; omega))) only [go_sem, ↓reduceIte, Nat.reduceAdd, Nat.reduceEqDiff, Nat.reduceSub, Nat.reduceMul, Nat.reduceLT, Nat.reduceLeDiff, Nat.reduceBEq, Int.reduceEq, Int.reduceLT, Int.reduceLE, Int.reduceToNat, Int.reduceNeg, Int.reduceAdd, Int.reduceSub, Int.reduceMul, Int.reduceMod, Int.reduceDiv, reduceCtorEq, Nat.reducePow, Int.reducePow, id, z0, z1]
        · rcases (show k = 0 ∨ k = 1 ∨ k = 2 by omega) with rfl | rfl | rfl
          · have q := List.take_of_length_le (show (b0.getD n [] ++ d0).length ≤ (List.getD b0 n []).length + d0.length by rw [List.length_append]; exact Nat.le_refl _)
            simp (config := { maxSteps := 2000000 }) (disch := (first | omega | (simp only [lens, lenm]; omega))) only [go_sem, ↓reduceIte, Nat.reduceAdd, Nat.reduceEqDiff, Nat.reduceSub, Nat.reduceMul, Nat.reduceLT, Nat.reduceLeDiff, Nat.reduceBEq, Int.reduceEq, Int.reduceLT, Int.reduceLE, Int.reduceToNat, Int.reduceNeg, Int.reduceAdd, Int.reduceSub, Int.reduceMul, Int.reduceMod, Int.reduceDiv, reduceCtorEq, Nat.reducePow, Int.reducePow, ac_ref8_Extend_L2, h3, actv_eq0 hk.1, actv_eq1 hk.1, h4, size_eq0, size_eq1, h5, twin_eq2 hk, h7, copy_eq, h6, sumA_eq0, sumA_eq1, z0, z1, ext1_length, q]
            refine Weak.rd id ?_ ?_ rfl
            all_goals simp (config := { maxSteps := 2000000 }) (disch := (first | omega | (simp only [lens, lenm]; omega))) only [go_sem, ↓reduceIte, Nat.reduceAdd, Nat.reduceEqDiff, Nat.reduceSub, Nat.reduceMul, Nat.reduceLT, Nat.reduceLeDiff, Nat.reduceBEq, Int.reduceEq, Int.reduceLT, Int.reduceLE, Int.reduceToNat, Int.reduceNeg, Int.reduceAdd, Int.reduceSub, Int.reduceMul, Int.reduceMod, Int.reduceDiv, reduceCtorEq, Nat.reducePow, Int.reducePow, id, ext1, z0, z1]
          · have q := List.take_of_length_le (show (b1.getD n [] ++ d1).length ≤ (List.getD b1 n []).length + d1.length by rw [List.length_append]; exact Nat.le_refl _)
            simp (config := { maxSteps := 2000000 }) (disch := (first | omega | (simp only [lens, lenm]; omega))) only [go_sem, ↓reduceIte, Nat.reduceAdd, Nat.reduceEqDiff, Nat.reduceSub, Nat.reduceMul, Nat.reduceLT, Nat.reduceLeDiff, Nat.reduceBEq, Int.reduceEq, Int.reduceLT, Int.reduceLE, Int.reduceToNat, Int.reduceNeg, Int.reduceAdd, Int.reduceSub, Int.reduceMul, Int.reduceMod, Int.reduceDiv, reduceCtorEq, Nat.reducePow, Int.reducePow, ac_ref8_Extend_L2, h3, actv_eq0 hk.1, actv_eq1 hk.1, h4, size_eq0, size_eq1, h5, twin_eq2 hk, h7, copy_eq, h6, sumA_eq0, sumA_eq1, z0, z1, ext1_length, q]
            refine Weak.rd id ?_ ?_ rfl
            all_goals simp (config := { maxSteps := 2000000 }) (disch := (first | omega | (simp only [lens, lenm]; omega))) only [go_sem, ↓reduceIte, Nat.reduceAdd, Nat.reduceEqDiff, Nat.reduceSub, Nat.reduceMul, Nat.reduceLT, Nat.reduceLeDiff, Nat.reduceBEq, Int.reduceEq, Int.reduceLT, Int.reduceLE, Int.reduceToNat, Int.reduceNeg, Int.reduceAdd, Int.reduceSub, Int.reduceMul, Int.reduceMod, Int.reduceDiv, reduceCtorEq, Nat.reducePow, Int.reducePow, id, ext1, z0, z1]
          · have t0 : List.take 0 (ext1 0 b0 n d0) = ext1 0 b0 n d0 := List.take_of_length_le (by rw [ext1_length, z0]; exact Nat.le_refl _)
            have t1 : List.take 0 (ext1 1 b1 n d1) = ext1 1 b1 n d1 := List.take_of_length_le (by rw [ext1_length, z1]; exact Nat.le_refl _)
            have y0 : ext1 0 b0 n d0 = [] := List.eq_nil_of_length_eq_zero (by rw [ext1_length, z0])
            have y1 : ext1 1 b1 n d1 = [] := List.eq_nil_of_length_eq_zero (by rw [ext1_length, z1])
            simp (config := { maxSteps := 2000000 }) (disch := (first | omega | (simp only [lens, lenm]; omega))) only [go_sem, ↓reduceIte, Nat.reduceAdd, Nat.reduceEqDiff, Nat.reduceSub, Nat.reduceMul, Nat.reduceLT, Nat.reduceLeDiff, Nat.reduceBEq, Int.reduceEq, Int.reduceLT, Int.reduceLE, Int.reduceToNat, Int.reduceNeg, Int.reduceAdd, Int.reduceSub, Int.reduceMul, Int.reduceMod, Int.reduceDiv, reduceCtorEq, Nat.reducePow, Int.reducePow, ac_ref8_Extend_L2, ext1_length, t0, t1, z0, z1, hE, extBk, Int.toNat_natCast, List.map_cons, List.map_nil, y0, y1, extR, extEr, List.getD_cons_zero, List.getD_cons_succ, List.length_cons, List.length_nil]
  · have zz : True := trivial
    by_cases p1 : 0 < d0.length
    · have zz : True := trivial
      have hE : extE 0 16 loc n 2 d0.length d1.length = 27 := by unfold extE; rw [if_neg (by omega), if_neg (by omega), if_pos (by omega)]
      refine loop_fuel 3 ?_
      simp (config := { maxSteps := 2000000 }) (disch := (first | omega | (simp only [lens, lenm]; omega))) only [go_sem, ↓reduceIte, Nat.reduceAdd, Nat.reduceEqDiff, Nat.reduceSub, Nat.reduceMul, Nat.reduceLT, Nat.reduceLeDiff, Nat.reduceBEq, Int.reduceEq, Int.reduceLT, Int.reduceLE, Int.reduceToNat, Int.reduceNeg, Int.reduceAdd, Int.reduceSub, Int.reduceMul, Int.reduceMod, Int.reduceDiv, reduceCtorEq, Nat.reducePow, Int.reducePow, loopN_succ, ac_ref8_Extend_L0, h3, actv_eq0 hk.1, actv_eq1 hk.1, h4, size_eq0, size_eq1, h5, twin_eq2 hk, h7, copy_eq, h6, sumA_eq0, sumA_eq1, z0, z1, hE, List.map_nil, extR, extEr, List.getD_cons_zero, List.getD_cons_succ, List.length_cons, List.length_nil]
      all_goals repeat refine And.intro rfl ?_
      all_goals rfl
    · have zz : True := trivial
      refine loop_fuel 3 ?_
      simp (config := { maxSteps := 2000000 }) (disch := (first | omega | (simp only [lens, lenm]; omega))) only [go_sem, ↓reduceIte, Nat.reduceAdd, Nat.reduceEqDiff, Nat.reduceSub, Nat.reduceMul, Nat.reduceLT, Nat.reduceLeDiff, Nat.reduceBEq, Int.reduceEq, Int.reduceLT, Int.reduceLE, Int.reduceToNat, Int.reduceNeg, Int.reduceAdd, Int.reduceSub, Int.reduceMul, Int.reduceMod, Int.reduceDiv, reduceCtorEq, Nat.reducePow, Int.reducePow, loopN_succ, ac_ref8_Extend_L0, h3, actv_eq0 hk.1, actv_eq1 hk.1, h4, size_eq0, size_eq1, h5, twin_eq2 hk, h7, copy_eq, h6, sumA_eq0, sumA_eq1, z0, z1]
      all_goals repeat refine And.intro rfl ?_
      refine loopW_weak (fs' := [(2, .t (.int .i64 (n : Nat))), (3, .t (.sl [bsT d0, bsT d1])), (4, .ref 4096 0 0), (8, .ref 4112 0 0), (11, .t (.int .i64 0))]) (hs' := [(4112, .live 2 [.agg [.nil, .t (.int .i64 0)]] true true), (4096, .live 2 [.t (regT [b0, b1] u)] true true)]) (Weak.rd id ?_ ?_ rfl) ?_
      · simp (config := { maxSteps := 2000000 }) (disch := (first | omega | (simp only [lens, lenm]; omega))) only [go_sem, ↓reduceIte, Nat.reduceAdd, Nat.reduceEqDiff, Nat.reduceSub, Nat.reduceMul, Nat.reduceLT, Nat.reduceLeDiff, Nat.reduceBEq, Int.reduceEq, Int.reduceLT, Int.reduceLE, Int.reduceToNat, Int.reduceNeg, Int.reduceAdd, Int.reduceSub, Int.reduceMul, Int.reduceMod, Int.reduceDiv, reduceCtorEq, Nat.reducePow, Int.reducePow, id]
      · simp (config := { maxSteps := 2000000 }) (disch := (first | omega | (simp only [lens, lenm]; omega))) only [go_sem, ↓reduceIte, Nat.reduceAdd, Nat.reduceEqDiff, Nat.reduceSub, Nat.reduceMul, Nat.reduceLT, Nat.reduceLeDiff, Nat.reduceBEq, Int.reduceEq, Int.reduceLT, Int.reduceLE, Int.reduceToNat, Int.reduceNeg, Int.reduceAdd, Int.reduceSub, Int.reduceMul, Int.reduceMod, Int.reduceDiv, reduceCtorEq, Nat.reducePow, Int.reducePow, id]
      by_cases q1 : d1.length ≠ 32
      · have zz : True := trivial
        have hE : extE 0 16 loc n 2 d0.length d1.length = 24 := by unfold extE; rw [if_neg (by omega), if_neg (by omega), if_neg (by omega), if_pos (by omega)]
        refine loop_fuel 3 ?_
        simp (config := { maxSteps := 2000000 }) (disch := (first | omega | (simp only [lens, lenm]; omega))) only [go_sem, ↓reduceIte, Nat.reduceAdd, Nat.reduceEqDiff, Nat.reduceSub, Nat.reduceMul, Nat.reduceLT, Nat.reduceLeDiff, Nat.reduceBEq, Int.reduceEq, Int.reduceLT, Int.reduceLE, Int.reduceToNat, Int.reduceNeg, Int.reduceAdd, Int.reduceSub, Int.reduceMul, Int.reduceMod, Int.reduceDiv, reduceCtorEq, Nat.reducePow, Int.reducePow, loopN_succ, ac_ref8_Extend_L1, h3, actv_eq0 hk.1, actv_eq1 hk.1, h4, size_eq0, size_eq1, h5, twin_eq2 hk, h7, copy_eq, h6, sumA_eq0, sumA_eq1, z0, z1, hE, List.map_nil, extR, extEr, List.getD_cons_zero, List.getD_cons_succ, List.length_cons, List.length_nil]
        all_goals repeat refine And.intro rfl ?_
        all_goals rfl
      · have zz : True := trivial
        have hE : extE 0 16 loc n 2 d0.length d1.length = 0 := by unfold extE; rw [if_neg (by omega), if_neg (by omega), if_neg (by omega), if_neg (by omega)]
        refine loop_fuel 3 ?_
        simp (config := { maxSteps := 2000000 }) (disch := (first | omega | (simp only [lens, lenm]; omega))) only [go_sem, ↓reduceIte, Nat.reduceAdd, Nat.reduceEqDiff, Nat.reduceSub, Nat.reduceMul, Nat.reduceLT, Nat.reduceLeDiff, Nat.reduceBEq, Int.reduceEq, Int.reduceLT, Int.reduceLE, Int.reduceToNat, Int.reduceNeg, Int.reduceAdd, Int.reduceSub, Int.reduceMul, Int.reduceMod, Int.reduceDiv, reduceCtorEq, Nat.reducePow, Int.reducePow, loopN_succ, ac_ref8_Extend_L1, h3, actv_eq0 hk.1, actv_eq1 hk.1, h4, size_eq0, size_eq1, h5, twin_eq2 hk, h7, copy_eq, h6, sumA_eq0, sumA_eq1, z0, z1]
        all_goals repeat refine And.intro rfl ?_
        refine loop_upto 2 (fun k => match k with | 0 => [(2, .t (.int .i64 (n : Nat))), (3, .t (.sl [bsT d0, bsT d1])), (4, .ref 4096 0 0), (8, .ref 4112 0 0), (12, .ref 65568 0 0), (13, .t (.int .i64 0))] | 1 => [(2, .t (.int .i64 (n : Nat))), (3, .t (.sl [bsT d0, bsT d1])), (4, .ref 4096 0 0), (8, .ref 4112 0 0), (12, .ref 65568 0 0), (13, .t (.int .i64 1))] | _ => [(2, .t (.int .i64 (n : Nat))), (3, .t (.sl [bsT d0, bsT d1])), (4, .ref 4096 0 0), (8, .ref 4112 0 0), (12, .ref 65568 0 0), (13, .t (.int .i64 2))]) (fun k => match k with | 0 => [(65568, .live 2 [.agg [.sl 65552 0 2, .t (.int .i64 u)]] true true), (65554, .live 1 (((b1).map bsT).map V.t) true false), (65553, .live 1 (((b0).map bsT).map V.t) true false), (65552, .live 1 [.sl 65553 0 0, .sl 65554 0 16] true false), (4112, .live 2 [.agg [.nil, .t (.int .i64 0)]] true true), (4096, .live 2 [.t (regT [b0, b1] u)] true true)] | 1 => [(65568, .live 2 [.agg [.sl 65552 0 2, .t (.int .i64 u)]] true true), (65554, .live 1 (((b1).map bsT).map V.t) true false), (65553, .live 1 (((ext1 0 b0 n d0).map bsT).map V.t) true false), (65552, .live 1 [.sl 65553 0 0, .sl 65554 0 16] true false), (4112, .live 2 [.agg [.nil, .t (.int .i64 0)]] true true), (4096, .live 2 [.t (regT [b0, b1] u)] true true)] | _ => [(65568, .live 2 [.agg [.sl 65552 0 2, .t (.int .i64 u)]] true true), (65554, .live 1 (((ext1 1 b1 n d1).map bsT).map V.t) true false), (65553, .live 1 (((ext1 0 b0 n d0).map bsT).map V.t) true false), (65552, .live 1 [.sl 65553 0 0, .sl 65554 0 16] true false), (4112, .live 2 [.agg [.nil, .t (.int .i64 0)]] true true), (4096, .live 2 [.t (regT [b0, b1] u)] true true)]) ?_ (fun k hk2 => ?_)
        · refine Weak.rd id ?_ ?_ rfl
          all_goals simp (config := { maxSteps := 2000000 }) (disch := (first | omega | (simp only [lens, lenm]; omega))) only [go_sem, ↓reduceIte, Nat.reduceAdd, Nat.reduceEqDiff, Nat.reduceSub, Nat.reduceMul, Nat.reduceLT, Nat.reduceLeDiff, Nat.reduceBEq, Int.reduceEq, Int.reduceLT, Int.reduceLE, Int.reduceToNat, Int.reduceNeg, Int.reduceAdd, Int.reduceSub, Int.reduceMul, Int.reduceMod, Int.reduceDiv, reduceCtorEq, Nat.reducePow, Int.reducePow, id, z0, z1]
        · rcases (show k = 0 ∨ k = 1 ∨ k = 2 by omega) with rfl | rfl | rfl
          · have q := List.take_of_length_le (show (b0.getD n [] ++ d0).length ≤ (List.getD b0 n []).length + d0.length by rw [List.length_append]; exact Nat.le_refl _)
            simp (config := { maxSteps := 2000000 }) (disch := (first | omega | (simp only [lens, lenm]; omega))) only [go_sem, ↓reduceIte, Nat.reduceAdd, Nat.reduceEqDiff, Nat.reduceSub, Nat.reduceMul, Nat.reduceLT, Nat.reduceLeDiff, Nat.reduceBEq, Int.reduceEq, Int.reduceLT, Int.reduceLE, Int.reduceToNat, Int.reduceNeg, Int.reduceAdd, Int.reduceSub, Int.reduceMul, Int.reduceMod, Int.reduceDiv, reduceCtorEq, Nat.reducePow, Int.reducePow, ac_ref8_Extend_L2, h3, actv_eq0 hk.1, actv_eq1 hk.1, h4, size_eq0, size_eq1, h5, twin_eq2 hk, h7, copy_eq, h6, sumA_eq0, sumA_eq1, z0, z1, ext1_length, q]
            refine Weak.rd id ?_ ?_ rfl
            all_goals simp (config := { maxSteps := 2000000 }) (disch := (first | omega | (simp only [lens, lenm]; omega))) only [go_sem, ↓reduceIte, Nat.reduceAdd, Nat.reduceEqDiff, Nat.reduceSub, Nat.reduceMul, Nat.reduceLT, Nat.reduceLeDiff, Nat.reduceBEq, Int.reduceEq, Int.reduceLT, Int.reduceLE, Int.reduceToNat, Int.reduceNeg, Int.reduceAdd, Int.reduceSub, Int.reduceMul, Int.reduceMod, Int.reduceDiv, reduceCtorEq, Nat.reducePow, Int.reducePow, id, ext1, z0, z1]
          · have q := List.take_of_length_le (show (b1.getD n [] ++ d1).length ≤ (List.getD b1 n []).length + d1.length by rw [List.length_append]; exact Nat.le_refl _)
            simp (config := { maxSteps := 2000000 }) (disch := (first | omega | (simp only [lens, lenm]; omega))) only [go_sem, ↓reduceIte, Nat.reduceAdd, Nat.reduceEqDiff, Nat.reduceSub, Nat.reduceMul, Nat.reduceLT, Nat.reduceLeDiff, Nat.reduceBEq, Int.reduceEq, Int.reduceLT, Int.reduceLE, Int.reduceToNat, Int.reduceNeg, Int.reduceAdd, Int.reduceSub, Int.reduceMul, Int.reduceMod, Int.reduceDiv, reduceCtorEq, Nat.reducePow, Int.reducePow, ac_ref8_Extend_L2, h3, actv_eq0 hk.1, actv_eq1 hk.1, h4, size_eq0, size_eq1, h5, twin_eq2 hk, h7, copy_eq, h6, sumA_eq0, sumA_eq1, z0, z1, ext1_length, q]
            repeat refine And.intro rfl ?_
            refine Weak.cv (hv := []) [86352] id ?_ rfl
            simp (config := { maxSteps := 2000000 }) (disch := (first | omega | (simp only [lens, lenm]; omega))) only [go_sem, ↓reduceIte, Nat.reduceAdd, Nat.reduceEqDiff, Nat.reduceSub, Nat.reduceMul, Nat.reduceLT, Nat.reduceLeDiff, Nat.reduceBEq, Int.reduceEq, Int.reduceLT, Int.reduceLE, Int.reduceToNat, Int.reduceNeg, Int.reduceAdd, Int.reduceSub, Int.reduceMul, Int.reduceMod, Int.reduceDiv, reduceCtorEq, Nat.reducePow, Int.reducePow, id, ext1, z0, z1, take_sum1, take_sum256, sumA0, sumA1, sum1_length, sum256_length]
            all_goals rfl
          · have t0 : List.take 0 (ext1 0 b0 n d0) = ext1 0 b0 n d0 := List.take_of_length_le (by rw [ext1_length, z0]; exact Nat.le_refl _)
            have t1 : List.take 16 (ext1 1 b1 n d1) = ext1 1 b1 n d1 := List.take_of_length_le (by rw [ext1_length, z1]; exact Nat.le_refl _)
            have y0 : ext1 0 b0 n d0 = [] := List.eq_nil_of_length_eq_zero (by rw [ext1_length, z0])
            simp (config := { maxSteps := 2000000 }) (disch := (first | omega | (simp only [lens, lenm]; omega))) only [go_sem, ↓reduceIte, Nat.reduceAdd, Nat.reduceEqDiff, Nat.reduceSub, Nat.reduceMul, Nat.reduceLT, Nat.reduceLeDiff, Nat.reduceBEq, Int.reduceEq, Int.reduceLT, Int.reduceLE, Int.reduceToNat, Int.reduceNeg, Int.reduceAdd, Int.reduceSub, Int.reduceMul, Int.reduceMod, Int.reduceDiv, reduceCtorEq, Nat.reducePow, Int.reducePow, ac_ref8_Extend_L2, ext1_length, t0, t1, z0, z1, hE, extBk, Int.toNat_natCast, List.map_cons, List.map_nil, y0, extR, extEr, List.getD_cons_zero, List.getD_cons_succ, List.length_cons, List.length_nil]
  · have zz : True := trivial
    by_cases p1 : 0 < d1.length
    · have zz : True := trivial
      have hE : extE 16 0 loc n 2 d0.length d1.length = 27 := by unfold extE; rw [if_neg (by omega), if_neg (by omega), if_pos (by omega)]
      refine loop_fuel 3 ?_
      simp (config := { maxSteps := 2000000 }) (disch := (first | omega | (simp only [lens, lenm]; omega))) only [go_sem, ↓reduceIte, Nat.reduceAdd, Nat.reduceEqDiff, Nat.reduceSub, Nat.reduceMul, Nat.reduceLT, Nat.reduceLeDiff, Nat.reduceBEq, Int.reduceEq, Int.reduceLT, Int.reduceLE, Int.reduceToNat, Int.reduceNeg, Int.reduceAdd, Int.reduceSub, Int.reduceMul, Int.reduceMod, Int.reduceDiv, reduceCtorEq, Nat.reducePow, Int.reducePow, loopN_succ, ac_ref8_Extend_L0, h3, actv_eq0 hk.1, actv_eq1 hk.1, h4, size_eq0, size_eq1, h5, twin_eq2 hk, h7, copy_eq, h6, sumA_eq0, sumA_eq1, z0, z1, hE, List.map_nil, extR, extEr, List.getD_cons_zero, List.getD_cons_succ, List.length_cons, List.length_nil]
      all_goals repeat refine And.intro rfl ?_
      all_goals rfl
    · have zz : True := trivial
      refine loop_fuel 3 ?_
      simp (config := { maxSteps := 2000000 }) (disch := (first | omega | (simp only [lens, lenm]; omega))) only [go_sem, ↓reduceIte, Nat.reduceAdd, Nat.reduceEqDiff, Nat.reduceSub, Nat.reduceMul, Nat.reduceLT, Nat.reduceLeDiff, Nat.reduceBEq, Int.reduceEq, Int.reduceLT, Int.reduceLE, Int.reduceToNat, Int.reduceNeg, Int.reduceAdd, Int.reduceSub, Int.reduceMul, Int.reduceMod, Int.reduceDiv, reduceCtorEq, Nat.reducePow, Int.reducePow, loopN_succ, ac_ref8_Extend_L0, h3, actv_eq0 hk.1, actv_eq1 hk.1, h4, size_eq0, size_eq1, h5, twin_eq2 hk, h7, copy_eq, h6, sumA_eq0, sumA_eq1, z0, z1]
      all_goals repeat refine And.intro rfl ?_
      refine loopW_weak (fs' := [(2, .t (.int .i64 (n : Nat))), (3, .t (.sl [bsT d0, bsT d1])), (4, .ref 4096 0 0), (8, .ref 4112 0 0), (11, .t (.int .i64 0))]) (hs' := [(4112, .live 2 [.agg [.nil, .t (.int .i64 0)]] true true), (4096, .live 2 [.t (regT [b0, b1] u)] true true)]) (Weak.rd id ?_ ?_ rfl) ?_
      · simp (config := { maxSteps := 2000000 }) (disch := (first | omega | (simp only [lens, lenm]; omega))) only [go_sem, ↓reduceIte, Nat.reduceAdd, Nat.reduceEqDiff, Nat.reduceSub, Nat.reduceMul, Nat.reduceLT, Nat.reduceLeDiff, Nat.reduceBEq, Int.reduceEq, Int.reduceLT, Int.reduceLE, Int.reduceToNat, Int.reduceNeg, Int.reduceAdd, Int.reduceSub, Int.reduceMul, Int.reduceMod, Int.reduceDiv, reduceCtorEq, Nat.reducePow, Int.reducePow, id]
      · simp (config := { maxSteps := 2000000 }) (disch := (first | omega | (simp only [lens, lenm]; omega))) only [go_sem, ↓reduceIte, Nat.reduceAdd, Nat.reduceEqDiff, Nat.reduceSub, Nat.reduceMul, Nat.reduceLT, Nat.reduceLeDiff, Nat.reduceBEq, Int.reduceEq, Int.reduceLT, Int.reduceLE, Int.reduceToNat, Int.reduceNeg, Int.reduceAdd, Int.reduceSub, Int.reduceMul, Int.reduceMod, Int.reduceDiv, reduceCtorEq, Nat.reducePow, Int.reducePow, id]
      by_cases q1 : d0.length ≠ 20
      · have zz : True := trivial
        have hE : extE 16 0 loc n 2 d0.length d1.length = 24 := by unfold extE; rw [if_neg (by omega), if_neg (by omega), if_neg (by omega), if_pos (by omega)]
        refine loop_fuel 3 ?_
        simp (config := { maxSteps := 2000000 }) (disch := (first | omega | (simp only [lens, lenm]; omega))) only [go_sem, ↓reduceIte, Nat.reduceAdd, Nat.reduceEqDiff, Nat.reduceSub, Nat.reduceMul, Nat.reduceLT, Nat.reduceLeDiff, Nat.reduceBEq, Int.reduceEq, Int.reduceLT, Int.reduceLE, Int.reduceToNat, Int.reduceNeg, Int.reduceAdd, Int.reduceSub, Int.reduceMul, Int.reduceMod, Int.reduceDiv, reduceCtorEq, Nat.reducePow, Int.reducePow, loopN_succ, ac_ref8_Extend_L1, h3, actv_eq0 hk.1, actv_eq1 hk.1, h4, size_eq0, size_eq1, h5, twin_eq2 hk, h7, copy_eq, h6, sumA_eq0, sumA_eq1, z0, z1, hE, List.map_nil, extR, extEr, List.getD_cons_zero, List.getD_cons_succ, List.length_cons, List.length_nil]
        all_goals repeat refine And.intro rfl ?_
        all_goals rfl
      · have zz : True := trivial
        have hE : extE 16 0 loc n 2 d0.length d1.length = 0 := by unfold extE; rw [if_neg (by omega), if_neg (by omega), if_neg (by omega), if_neg (by omega)]
        refine loop_fuel 3 ?_
        simp (config := { maxSteps := 2000000 }) (disch := (first | omega | (simp only [lens, lenm]; omega))) only [go_sem, ↓reduceIte, Nat.reduceAdd, Nat.reduceEqDiff, Nat.reduceSub, Nat.reduceMul, Nat.reduceLT, Nat.reduceLeDiff, Nat.reduceBEq, Int.reduceEq, Int.reduceLT, Int.reduceLE, Int.reduceToNat, Int.reduceNeg, Int.reduceAdd, Int.reduceSub, Int.reduceMul, Int.reduceMod, Int.reduceDiv, reduceCtorEq, Nat.reducePow, Int.reducePow, loopN_succ, ac_ref8_Extend_L1, h3, actv_eq0 hk.1, actv_eq1 hk.1, h4, size_eq0, size_eq1, h5, twin_eq2 hk, h7, copy_eq, h6, sumA_eq0, sumA_eq1, z0, z1]
        all_goals repeat refine And.intro rfl ?_
        refine loop_upto 2 (fun k => match k with | 0 => [(2, .t (.int .i64 (n : Nat))), (3, .t (.sl [bsT d0, bsT d1])), (4, .ref 4096 0 0), (8, .ref 4112 0 0), (12, .ref 65568 0 0), (13, .t (.int .i64 0))] | 1 => [(2, .t (.int .i64 (n : Nat))), (3, .t (.sl [bsT d0, bsT d1])), (4, .ref 4096 0 0), (8, .ref 4112 0 0), (12, .ref 65568 0 0), (13, .t (.int .i64 1))] | _ => [(2, .t (.int .i64 (n : Nat))), (3, .t (.sl [bsT d0, bsT d1])), (4, .ref 4096 0 0), (8, .ref 4112 0 0), (12, .ref 65568 0 0), (13, .t (.int .i64 2))]) (fun k => match k with | 0 => [(65568, .live 2 [.agg [.sl 65552 0 2, .t (.int .i64 u)]] true true), (65554, .live 1 (((b1).map bsT).map V.t) true false), (65553, .live 1 (((b0).map bsT).map V.t) true false), (65552, .live 1 [.sl 65553 0 16, .sl 65554 0 0] true false), (4112, .live 2 [.agg [.nil, .t (.int .i64 0)]] true true), (4096, .live 2 [.t (regT [b0, b1] u)] true true)] | 1 => [(65568, .live 2 [.agg [.sl 65552 0 2, .t (.int .i64 u)]] true true), (65554, .live 1 (((b1).map bsT).map V.t) true false), (65553, .live 1 (((ext1 0 b0 n d0).map bsT).map V.t) true false), (65552, .live 1 [.sl 65553 0 16, .sl 65554 0 0] true false), (4112, .live 2 [.agg [.nil, .t (.int .i64 0)]] true true), (4096, .live 2 [.t (regT [b0, b1] u)] true true)] | _ => [(65568, .live 2 [.agg [.sl 65552 0 2, .t (.int .i64 u)]] true true), (65554, .live 1 (((ext1 1 b1 n d1).map bsT).map V.t) true false), (65553, .live 1 (((ext1 0 b0 n d0).map bsT).map V.t) true false), (65552, .live 1 [.sl 65553 0 16, .sl 65554 0 0] true false), (4112, .live 2 [.agg [.nil, .t (.int .i64 0)]] true true), (4096, .live 2 [.t (regT [b0, b1] u)] true true)]) ?_ (fun k hk2 => ?_)
        · refine Weak.rd id ?_ ?_ rfl
          all_goals simp (config := { maxSteps := 2000000 }) (disch := (first | omega | (simp only [lens, lenm]; omega))) only [go_sem, ↓reduceIte, Nat.reduceAdd, Nat.reduceEqDiff, Nat.reduceSub, Nat.reduceMul, Nat.reduceLT, Nat.reduceLeDiff, Nat.reduceBEq, Int.reduceEq, Int.reduceLT, Int.reduceLE, Int.reduceToNat, Int.reduceNeg, Int.reduceAdd, Int.reduceSub, Int.reduceMul, Int.reduceMod, Int.reduceDiv, reduceCtorEq, Nat.reducePow, Int.reducePow, id, z0, z1]
        · rcases (show k = 0 ∨ k = 1 ∨ k = 2 by omega) with rfl | rfl | rfl
          · have q := List.take_of_length_le (show (b0.getD n [] ++ d0).length ≤ (List.getD b0 n []).length + d0.length by rw [List.length_append]; exact Nat.le_refl _)
            simp (config := { maxSteps := 2000000 }) (disch := (first | omega | (simp only [lens, lenm]; omega))) only [go_sem, ↓reduceIte, Nat.reduceAdd, Nat.reduceEqDiff, Nat.reduceSub, Nat.reduceMul, Nat.reduceLT, Nat.reduceLeDiff, Nat.reduceBEq, Int.reduceEq, Int.reduceLT, Int.reduceLE, Int.reduceToNat, Int.reduceNeg, Int.reduceAdd, Int.reduceSub, Int.reduceMul, Int.reduceMod, Int.reduceDiv, reduceCtorEq, Nat.reducePow, Int.reducePow, ac_ref8_Extend_L2, h3, actv_eq0 hk.1, actv_eq1 hk.1, h4, size_eq0, size_eq1, h5, twin_eq2 hk, h7, copy_eq, h6, sumA_eq0, sumA_eq1, z0, z1, ext1_length, q]
            repeat refine And.intro rfl ?_
            refine Weak.cv (hv := []) [86352] id ?_ rfl
            simp (config := { maxSteps := 2000000 }) (disch := (first | omega | (simp only [lens, lenm]; omega))) only [go_sem, ↓reduceIte, Nat.reduceAdd, Nat.reduceEqDiff, Nat.reduceSub, Nat.reduceMul, Nat.reduceLT, Nat.reduceLeDiff, Nat.reduceBEq, Int.reduceEq, Int.reduceLT, Int.reduceLE, Int.reduceToNat, Int.reduceNeg, Int.reduceAdd, Int.reduceSub, Int.reduceMul, Int.reduceMod, Int.reduceDiv, reduceCtorEq, Nat.reducePow, Int.reducePow, id, ext1, z0, z1, take_sum1, take_sum256, sumA0, sumA1, sum1_length, sum256_length]
            all_goals rfl
          · have q := List.take_of_length_le (show (b1.getD n [] ++ d1).length ≤ (List.getD b1 n []).length + d1.length by rw [List.length_append]; exact Nat.le_refl _)
            simp (config := { maxSteps := 2000000 }) (disch := (first | omega | (simp only [lens, lenm]; omega))) only [go_sem, ↓reduceIte, Nat.reduceAdd, Nat.reduceEqDiff, Nat.reduceSub, Nat.reduceMul, Nat.reduceLT, Nat.reduceLeDiff, Nat.reduceBEq, Int.reduceEq, Int.reduceLT, Int.reduceLE, Int.reduceToNat, Int.reduceNeg, Int.reduceAdd, Int.reduceSub, Int.reduceMul, Int.reduceMod, Int.reduceDiv, reduceCtorEq, Nat.reducePow, Int.reducePow, ac_ref8_Extend_L2, h3, actv_eq0 hk.1, actv_eq1 hk.1, h4, size_eq0, size_eq1, h5, twin_eq2 hk, h7, copy_eq, h6, sumA_eq0, sumA_eq1, z0, z1, ext1_length, q]
            refine Weak.rd id ?_ ?_ rfl
            all_goals simp (config := { maxSteps := 2000000 }) (disch := (first | omega | (simp only [lens, lenm]; omega))) only [go_sem, ↓reduceIte, Nat.reduceAdd, Nat.reduceEqDiff, Nat.reduceSub, Nat.reduceMul, Nat.reduceLT, Nat.reduceLeDiff, Nat.reduceBEq, Int.reduceEq, Int.reduceLT, Int.reduceLE, Int.reduceToNat, Int.reduceNeg, Int.reduceAdd, Int.reduceSub, Int.reduceMul, Int.reduceMod, Int.reduceDiv, reduceCtorEq, Nat.reducePow, Int.reducePow, id, ext1, z0, z1]
          · have t0 : List.take 16 (ext1 0 b0 n d0) = ext1 0 b0 n d0 := List.take_of_length_le (by rw [ext1_length, z0]; exact Nat.le_refl _)
            have t1 : List.take 0 (ext1 1 b1 n d1) = ext1 1 b1 n d1 := List.take_of_length_le (by rw [ext1_length, z1]; exact Nat.le_refl _)
            have y1 : ext1 1 b1 n d1 = [] := List.eq_nil_of_length_eq_zero (by rw [ext1_length, z1])
            simp (config := { maxSteps := 2000000 }) (disch := (first | omega | (simp only [lens, lenm]; omega))) only [go_sem, ↓reduceIte, Nat.reduceAdd, Nat.reduceEqDiff, Nat.reduceSub, Nat.reduceMul, Nat.reduceLT, Nat.reduceLeDiff, Nat.reduceBEq, Int.reduceEq, Int.reduceLT, Int.reduceLE, Int.reduceToNat, Int.reduceNeg, Int.reduceAdd, Int.reduceSub, Int.reduceMul, Int.reduceMod, Int.reduceDiv, reduceCtorEq, Nat.reducePow, Int.reducePow, ac_ref8_Extend_L2, ext1_length, t0, t1, z0, z1, hE, extBk, Int.toNat_natCast, List.map_cons, List.map_nil, y1, extR, extEr, List.getD_cons_zero, List.getD_cons_succ, List.length_cons, List.length_nil]
  · have zz : True := trivial
    refine loop_fuel 3 ?_
    simp (config := { maxSteps := 2000000 }) (disch := (first | omega | (simp only [lens, lenm]; omega))) only [go_sem, ↓reduceIte, Nat.reduceAdd, Nat.reduceEqDiff, Nat.reduceSub, Nat.reduceMul, Nat.reduceLT, Nat.reduceLeDiff, Nat.reduceBEq, Int.reduceEq, Int.reduceLT, Int.reduceLE, Int.reduceToNat, Int.reduceNeg, Int.reduceAdd, Int.reduceSub, Int.reduceMul, Int.reduceMod, Int.reduceDiv, reduceCtorEq, Nat.reducePow, Int.reducePow, loopN_succ, ac_ref8_Extend_L0, h3, actv_eq0 hk.1, actv_eq1 hk.1, h4, size_eq0, size_eq1, h5, twin_eq2 hk, h7, copy_eq, h6, sumA_eq0, sumA_eq1, z0, z1]
    all_goals repeat refine And.intro rfl ?_
    refine loopW_weak (fs' := [(2, .t (.int .i64 (n : Nat))), (3, .t (.sl [bsT d0, bsT d1])), (4, .ref 4096 0 0), (8, .ref 4112 0 0), (11, .t (.int .i64 0))]) (hs' := [(4112, .live 2 [.agg [.nil, .t (.int .i64 0)]] true true), (4096, .live 2 [.t (regT [b0, b1] u)] true true)]) (Weak.rd id ?_ ?_ rfl) ?_
    · simp (config := { maxSteps := 2000000 }) (disch := (first | omega | (simp only [lens, lenm]; omega))) only [go_sem, ↓reduceIte, Nat.reduceAdd, Nat.reduceEqDiff, Nat.reduceSub, Nat.reduceMul, Nat.reduceLT, Nat.reduceLeDiff, Nat.reduceBEq, Int.reduceEq, Int.reduceLT, Int.reduceLE, Int.reduceToNat, Int.reduceNeg, Int.reduceAdd, Int.reduceSub, Int.reduceMul, Int.reduceMod, Int.reduceDiv, reduceCtorEq, Nat.reducePow, Int.reducePow, id]
    · simp (config := { maxSteps := 2000000 }) (disch := (first | omega | (simp only [lens, lenm]; omega))) only [go_sem, ↓reduceIte, Nat.reduceAdd, Nat.reduceEqDiff, Nat.reduceSub, Nat.reduceMul, Nat.reduceLT, Nat.reduceLeDiff, Nat.reduceBEq, Int.reduceEq, Int.reduceLT, Int.reduceLE, Int.reduceToNat, Int.reduceNeg, Int.reduceAdd, Int.reduceSub, Int.reduceMul, Int.reduceMod, Int.reduceDiv, reduceCtorEq, Nat.reducePow, Int.reducePow, id]
    by_cases q2 : d0.length ≠ 20
    · have zz : True := trivial
      have hE : extE 16 16 loc n 2 d0.length d1.length = 24 := by unfold extE; rw [if_neg (by omega), if_neg (by omega), if_neg (by omega), if_pos (by omega)]
      refine loop_fuel 3 ?_
      simp (config := { maxSteps := 2000000 }) (disch := (first | omega | (simp only [lens, lenm]; omega))) only [go_sem, ↓reduceIte, Nat.reduceAdd, Nat.reduceEqDiff, Nat.reduceSub, Nat.reduceMul, Nat.reduceLT, Nat.reduceLeDiff, Nat.reduceBEq, Int.reduceEq, Int.reduceLT, Int.reduceLE, Int.reduceToNat, Int.reduceNeg, Int.reduceAdd, Int.reduceSub, Int.reduceMul, Int.reduceMod, Int.reduceDiv, reduceCtorEq, Nat.reducePow, Int.reducePow, loopN_succ, ac_ref8_Extend_L1, h3, actv_eq0 hk.1, actv_eq1 hk.1, h4, size_eq0, size_eq1, h5, twin_eq2 hk, h7, copy_eq, h6, sumA_eq0, sumA_eq1, z0, z1, hE, List.map_nil, extR, extEr, List.getD_cons_zero, List.getD_cons_succ, List.length_cons, List.length_nil]
      all_goals repeat refine And.intro rfl ?_
      all_goals rfl
    · have zz : True := trivial
      by_cases q1 : d1.length ≠ 32
      · have zz : True := trivial
        have hE : extE 16 16 loc n 2 d0.length d1.length = 24 := by unfold extE; rw [if_neg (by omega), if_neg (by omega), if_neg (by omega), if_pos (by omega)]
        refine loop_fuel 3 ?_
        simp (config := { maxSteps := 2000000 }) (disch := (first | omega | (simp only [lens, lenm]; omega))) only [go_sem, ↓reduceIte, Nat.reduceAdd, Nat.reduceEqDiff, Nat.reduceSub, Nat.reduceMul, Nat.reduceLT, Nat.reduceLeDiff, Nat.reduceBEq, Int.reduceEq, Int.reduceLT, Int.reduceLE, Int.reduceToNat, Int.reduceNeg, Int.reduceAdd, Int.reduceSub, Int.reduceMul, Int.reduceMod, Int.reduceDiv, reduceCtorEq, Nat.reducePow, Int.reducePow, loopN_succ, ac_ref8_Extend_L1, h3, actv_eq0 hk.1, actv_eq1 hk.1, h4, size_eq0, size_eq1, h5, twin_eq2 hk, h7, copy_eq, h6, sumA_eq0, sumA_eq1, z0, z1, hE, List.map_nil, extR, extEr, List.getD_cons_zero, List.getD_cons_succ, List.length_cons, List.length_nil]
        all_goals repeat refine And.intro rfl ?_
        all_goals rfl
      · have zz : True := trivial
        have hE : extE 16 16 loc n 2 d0.length d1.length = 0 := by unfold extE; rw [if_neg (by omega), if_neg (by omega), if_neg (by omega), if_neg (by omega)]
        refine loop_fuel 3 ?_
        simp (config := { maxSteps := 2000000 }) (disch := (first | omega | (simp only [lens, lenm]; omega))) only [go_sem, ↓reduceIte, Nat.reduceAdd, Nat.reduceEqDiff, Nat.reduceSub, Nat.reduceMul, Nat.reduceLT, Nat.reduceLeDiff, Nat.reduceBEq, Int.reduceEq, Int.reduceLT, Int.reduceLE, Int.reduceToNat, Int.reduceNeg, Int.reduceAdd, Int.reduceSub, Int.reduceMul, Int.reduceMod, Int.reduceDiv, reduceCtorEq, Nat.reducePow, Int.reducePow, loopN_succ, ac_ref8_Extend_L1, h3, actv_eq0 hk.1, actv_eq1 hk.1, h4, size_eq0, size_eq1, h5, twin_eq2 hk, h7, copy_eq, h6, sumA_eq0, sumA_eq1, z0, z1]
        all_goals repeat refine And.intro rfl ?_
        refine loop_upto 2 (fun k => match k with | 0 => [(2, .t (.int .i64 (n : Nat))), (3, .t (.sl [bsT d0, bsT d1])), (4, .ref 4096 0 0), (8, .ref 4112 0 0), (12, .ref 65568 0 0), (13, .t (.int .i64 0))] | 1 => [(2, .t (.int .i64 (n : Nat))), (3, .t (.sl [bsT d0, bsT d1])), (4, .ref 4096 0 0), (8, .ref 4112 0 0), (12, .ref 65568 0 0), (13, .t (.int .i64 1))] | _ => [(2, .t (.int .i64 (n : Nat))), (3, .t (.sl [bsT d0, bsT d1])), (4, .ref 4096 0 0), (8, .ref 4112 0 0), (12, .ref 65568 0 0), (13, .t (.int .i64 2))]) (fun k => match k with | 0 => [(65568, .live 2 [.agg [.sl 65552 0 2, .t (.int .i64 u)]] true true), (65554, .live 1 (((b1).map bsT).map V.t) true false), (65553, .live 1 (((b0).map bsT).map V.t) true false), (65552, .live 1 [.sl 65553 0 16, .sl 65554 0 16] true false), (4112, .live 2 [.agg [.nil, .t (.int .i64 0)]] true true), (4096, .live 2 [.t (regT [b0, b1] u)] true true)] | 1 => [(65568, .live 2 [.agg [.sl 65552 0 2, .t (.int .i64 u)]] true true), (65554, .live 1 (((b1).map bsT).map V.t) true false), (65553, .live 1 (((ext1 0 b0 n d0).map bsT).map V.t) true false), (65552, .live 1 [.sl 65553 0 16, .sl 65554 0 16] true false), (4112, .live 2 [.agg [.nil, .t (.int .i64 0)]] true true), (4096, .live 2 [.t (regT [b0, b1] u)] true true)] | _ => [(65568, .live 2 [.agg [.sl 65552 0 2, .t (.int .i64 u)]] true true), (65554, .live 1 (((ext1 1 b1 n d1).map bsT).map V.t) true false), (65553, .live 1 (((ext1 0 b0 n d0).map bsT).map V.t) true false), (65552, .live 1 [.sl 65553 0 16, .sl 65554 0 16] true false), (4112, .live 2 [.agg [.nil, .t (.int .i64 0)]] true true), (4096, .live 2 [.t (regT [b0, b1] u)] true true)]) ?_ (fun k hk2 => ?_)
        · refine Weak.rd id ?_ ?_ rfl
          all_goals simp (config := { maxSteps := 2000000 }) (disch := (first | omega | (simp only [lens, lenm]; omega))) only [go_sem, ↓reduceIte, Nat.reduceAdd, Nat.reduceEqDiff, Nat.reduceSub, Nat.reduceMul, Nat.reduceLT, Nat.reduceLeDiff, Nat.reduceBEq, Int.reduceEq, Int.reduceLT, Int.reduceLE, Int.reduceToNat, Int.reduceNeg, Int.reduceAdd, Int.reduceSub, Int.reduceMul, Int.reduceMod, Int.reduceDiv, reduceCtorEq, Nat.reducePow, Int.reducePow, id, z0, z1]
        · rcases (show k = 0 ∨ k = 1 ∨ k = 2 by omega) with rfl | rfl | rfl
          · have q := List.take_of_length_le (show (b0.getD n [] ++ d0).length ≤ (List.getD b0 n []).length + d0.length by rw [List.length_append]; exact Nat.le_refl _)
            simp (config := { maxSteps := 2000000 }) (disch := (first | omega | (simp only [lens, lenm]; omega))) only [go_sem, ↓reduceIte, Nat.reduceAdd, Nat.reduceEqDiff, Nat.reduceSub, Nat.reduceMul, Nat.reduceLT, Nat.reduceLeDiff, Nat.reduceBEq, Int.reduceEq, Int.reduceLT, Int.reduceLE, Int.reduceToNat, Int.reduceNeg, Int.reduceAdd, Int.reduceSub, Int.reduceMul, Int.reduceMod, Int.reduceDiv, reduceCtorEq, Nat.reducePow, Int.reducePow, ac_ref8_Extend_L2, h3, actv_eq0 hk.1, actv_eq1 hk.1, h4, size_eq0, size_eq1, h5, twin_eq2 hk, h7, copy_eq, h6, sumA_eq0, sumA_eq1, z0, z1, ext1_length, q]
            repeat refine And.intro rfl ?_
            refine Weak.cv (hv := []) [86352] id ?_ rfl
            simp (config := { maxSteps := 2000000 }) (disch := (first | omega | (simp only [lens, lenm]; omega))) only [go_sem, ↓reduceIte, Nat.reduceAdd, Nat.reduceEqDiff, Nat.reduceSub, Nat.reduceMul, Nat.reduceLT, Nat.reduceLeDiff, Nat.reduceBEq, Int.reduceEq, Int.reduceLT, Int.reduceLE, Int.reduceToNat, Int.reduceNeg, Int.reduceAdd, Int.reduceSub, Int.reduceMul, Int.reduceMod, Int.reduceDiv, reduceCtorEq, Nat.reducePow, Int.reducePow, id, ext1, z0, z1, take_sum1, take_sum256, sumA0, sumA1, sum1_length, sum256_length]
            all_goals rfl
          · have q := List.take_of_length_le (show (b1.getD n [] ++ d1).length ≤ (List.getD b1 n []).length + d1.length by rw [List.length_append]; exact Nat.le_refl _)
            simp (config := { maxSteps := 2000000 }) (disch := (first | omega | (simp only [lens, lenm]; omega))) only [go_sem, ↓reduceIte, Nat.reduceAdd, Nat.reduceEqDiff, Nat.reduceSub, Nat.reduceMul, Nat.reduceLT, Nat.reduceLeDiff, Nat.reduceBEq, Int.reduceEq, Int.reduceLT, Int.reduceLE, Int.reduceToNat, Int.reduceNeg, Int.reduceAdd, Int.reduceSub, Int.reduceMul, Int.reduceMod, Int.reduceDiv, reduceCtorEq, Nat.reducePow, Int.reducePow, ac_ref8_Extend_L2, h3, actv_eq0 hk.1, actv_eq1 hk.1, h4, size_eq0, size_eq1, h5, twin_eq2 hk, h7, copy_eq, h6, sumA_eq0, sumA_eq1, z0, z1, ext1_length, q]
            repeat refine And.intro rfl ?_
            refine Weak.cv (hv := []) [86352] id ?_ rfl
            simp (config := { maxSteps := 2000000 }) (disch := (first | omega | (simp only [lens, lenm]; omega))) only [go_sem, ↓reduceIte, Nat.reduceAdd, Nat.reduceEqDiff, Nat.reduceSub, Nat.reduceMul, Nat.reduceLT, Nat.reduceLeDiff, Nat.reduceBEq, Int.reduceEq, Int.reduceLT, Int.reduceLE, Int.reduceToNat, Int.reduceNeg, Int.reduceAdd, Int.reduceSub, Int.reduceMul, Int.reduceMod, Int.reduceDiv, reduceCtorEq, Nat.reducePow, Int.reducePow, id, ext1, z0, z1, take_sum1, take_sum256, sumA0, sumA1, sum1_length, sum256_length]
            all_goals rfl
          · have t0 : List.take 16 (ext1 0 b0 n d0) = ext1 0 b0 n d0 := List.take_of_length_le (by rw [ext1_length, z0]; exact Nat.le_refl _)
            have t1 : List.take 16 (ext1 1 b1 n d1) = ext1 1 b1 n d1 := List.take_of_length_le (by rw [ext1_length, z1]; exact Nat.le_refl _)
            simp (config := { maxSteps := 2000000 }) (disch := (first | omega | (simp only [lens, lenm]; omega))) only [go_sem, ↓reduceIte, Nat.reduceAdd, Nat.reduceEqDiff, Nat.reduceSub, Nat.reduceMul, Nat.reduceLT, Nat.reduceLeDiff, Nat.reduceBEq, Int.reduceEq, Int.reduceLT, Int.reduceLE, Int.reduceToNat, Int.reduceNeg, Int.reduceAdd, Int.reduceSub, Int.reduceMul, Int.reduceMod, Int.reduceDiv, reduceCtorEq, Nat.reducePow, Int.reducePow, ac_ref8_Extend_L2, ext1_length, t0, t1, z0, z1, hE, extBk, Int.toNat_natCast, List.map_cons, List.map_nil, extR, extEr, List.getD_cons_zero, List.getD_cons_succ, List.length_cons, List.length_nil]
end Go.Eng
end
section
set_option maxRecDepth 20000
set_option maxHeartbeats 64000000
namespace Go.Eng
theorem w_registers_Extend_bad (tab : Tab) (gl : Gl) (n1 n2 n3 n4 n5 n6 : Nat) (h1 : tab.look n1 = some ct_index.fs) (h2 : tab.look n2 = some ct_least.fs) (bk : List Bank) (u loc i : Int) (ds : List (List UInt8)) (hd : ds.length < 1000000000)
    (hb : (loc < 0 ∨ 4 < loc ∨ i < 0 ∨ 16 ≤ i ∨ ds.length ≠ 2) ∨ loc < leastI i false) :
    (ac_registers_Extend n1 n2 n3 n4 n5 n6).wp tab gl (zipF 0 [.t (regT bk u), .t (.int .i64 loc), .t (.int .i64 i), .t (.sl (ds.map bsT))]) (zipF 0 []) (resW [(8, some (2, true)), (9, none)] 0 (fun r o => r = .tup [.t (regT [] 0), .t (.int .i64 (if loc < 0 ∨ 4 < loc ∨ i < 0 ∨ 16 ≤ i ∨ ds.length ≠ 2 then 1 else 13))] ∧ o = [])) := by
  by_cases a1 : loc < 0
  · simp (config := { maxSteps := 2000000 }) (disch := (first | omega | (simp only [lens, lenm]; omega))) only [go_sem, ↓reduceIte, Nat.reduceAdd, Nat.reduceEqDiff, Nat.reduceSub, Nat.reduceMul, Nat.reduceLT, Nat.reduceLeDiff, Nat.reduceBEq, Int.reduceEq, Int.reduceLT, Int.reduceLE, Int.reduceToNat, Int.reduceNeg, Int.reduceAdd, Int.reduceSub, Int.reduceMul, Int.reduceMod, Int.reduceDiv, reduceCtorEq, Nat.reducePow, Int.reducePow, ac_registers_Extend, a1, List.map_nil]
  · by_cases a2 : 4 < loc
    · simp (config := { maxSteps := 2000000 }) (disch := (first | omega | (simp only [lens, lenm]; omega))) only [go_sem, ↓reduceIte, Nat.reduceAdd, Nat.reduceEqDiff, Nat.reduceSub, Nat.reduceMul, Nat.reduceLT, Nat.reduceLeDiff, Nat.reduceBEq, Int.reduceEq, Int.reduceLT, Int.reduceLE, Int.reduceToNat, Int.reduceNeg, Int.reduceAdd, Int.reduceSub, Int.reduceMul, Int.reduceMod, Int.reduceDiv, reduceCtorEq, Nat.reducePow, Int.reducePow, ac_registers_Extend, a1, a2, List.map_nil]
    · by_cases a3 : i < 0
      · simp (config := { maxSteps := 2000000 }) (disch := (first | omega | (simp only [lens, lenm]; omega))) only [go_sem, ↓reduceIte, Nat.reduceAdd, Nat.reduceEqDiff, Nat.reduceSub, Nat.reduceMul, Nat.reduceLT, Nat.reduceLeDiff, Nat.reduceBEq, Int.reduceEq, Int.reduceLT, Int.reduceLE, Int.reduceToNat, Int.reduceNeg, Int.reduceAdd, Int.reduceSub, Int.reduceMul, Int.reduceMod, Int.reduceDiv, reduceCtorEq, Nat.reducePow, Int.reducePow, ac_registers_Extend, a1, a2, a3, h1, index_f, List.map_nil]
      · by_cases a4 : 16 ≤ i
        · simp (config := { maxSteps := 2000000 }) (disch := (first | omega | (simp only [lens, lenm]; omega))) only [go_sem, ↓reduceIte, Nat.reduceAdd, Nat.reduceEqDiff, Nat.reduceSub, Nat.reduceMul, Nat.reduceLT, Nat.reduceLeDiff, Nat.reduceBEq, Int.reduceEq, Int.reduceLT, Int.reduceLE, Int.reduceToNat, Int.reduceNeg, Int.reduceAdd, Int.reduceSub, Int.reduceMul, Int.reduceMod, Int.reduceDiv, reduceCtorEq, Nat.reducePow, Int.reducePow, ac_registers_Extend, a1, a2, a3, a4, h1, index_f, List.map_nil]
        · by_cases a5 : ds.length = 2
          · have a6 : loc < leastI i false := by rcases hb with h | h; · omega
                                                 · exact h
            simp (config := { maxSteps := 2000000 }) (disch := (first | omega | (simp only [lens, lenm]; omega))) only [go_sem, ↓reduceIte, Nat.reduceAdd, Nat.reduceEqDiff, Nat.reduceSub, Nat.reduceMul, Nat.reduceLT, Nat.reduceLeDiff, Nat.reduceBEq, Int.reduceEq, Int.reduceLT, Int.reduceLE, Int.reduceToNat, Int.reduceNeg, Int.reduceAdd, Int.reduceSub, Int.reduceMul, Int.reduceMod, Int.reduceDiv, reduceCtorEq, Nat.reducePow, Int.reducePow, ac_registers_Extend, a1, a2, a3, a4, a5, a6, h1, index_t, h2, least_eq, List.map_nil, ne_eq]
          · simp (config := { maxSteps := 2000000 }) (disch := (first | omega | (simp only [lens, lenm]; omega))) only [go_sem, ↓reduceIte, Nat.reduceAdd, Nat.reduceEqDiff, Nat.reduceSub, Nat.reduceMul, Nat.reduceLT, Nat.reduceLeDiff, Nat.reduceBEq, Int.reduceEq, Int.reduceLT, Int.reduceLE, Int.reduceToNat, Int.reduceNeg, Int.reduceAdd, Int.reduceSub, Int.reduceMul, Int.reduceMod, Int.reduceDiv, reduceCtorEq, Nat.reducePow, Int.reducePow, ac_registers_Extend, a1, a2, a3, a4, a5, h1, index_t, List.map_nil, ne_eq]
theorem w_ref8_Extend_bad (tab : Tab) (gl : Gl) (n1 n2 n3 n4 n5 n6 : Nat) (h2 : tab.look n1 = some ct_rleast.fs) (bk : List Bank) (u loc i : Int) (ds : List (List UInt8)) (hd : ds.length < 1000000000)
    (hb : (loc < 0 ∨ 4 < loc ∨ i < 0 ∨ 16 ≤ i ∨ ds.length ≠ 2) ∨ loc < leastI i false) :
    (ac_ref8_Extend n1 n2 n3 n4 n5 n6).wp tab gl (zipF 0 [.t (regT bk u), .t (.int .i64 loc), .t (.int .i64 i), .t (.sl (ds.map bsT))]) (zipF 0 []) (resW [(8, some (2, true)), (9, none)] 0 (fun r o => r = .tup [.t (regT [] 0), .t (.int .i64 (if loc < 0 ∨ 4 < loc ∨ i < 0 ∨ 16 ≤ i ∨ ds.length ≠ 2 then 1 else 13))] ∧ o = [])) := by
  have a7 : ¬ leastI i false = 5 := by unfold leastI; split <;> (try split) <;> (try split) <;> simp_all
  by_cases a1 : loc < 0
  · simp (config := { maxSteps := 2000000 }) (disch := (first | omega | (simp only [lens, lenm]; omega))) only [go_sem, ↓reduceIte, Nat.reduceAdd, Nat.reduceEqDiff, Nat.reduceSub, Nat.reduceMul, Nat.reduceLT, Nat.reduceLeDiff, Nat.reduceBEq, Int.reduceEq, Int.reduceLT, Int.reduceLE, Int.reduceToNat, Int.reduceNeg, Int.reduceAdd, Int.reduceSub, Int.reduceMul, Int.reduceMod, Int.reduceDiv, reduceCtorEq, Nat.reducePow, Int.reducePow, ac_ref8_Extend, a1, List.map_nil]
  · by_cases a2 : 4 < loc
    · simp (config := { maxSteps := 2000000 }) (disch := (first | omega | (simp only [lens, lenm]; omega))) only [go_sem, ↓reduceIte, Nat.reduceAdd, Nat.reduceEqDiff, Nat.reduceSub, Nat.reduceMul, Nat.reduceLT, Nat.reduceLeDiff, Nat.reduceBEq, Int.reduceEq, Int.reduceLT, Int.reduceLE, Int.reduceToNat, Int.reduceNeg, Int.reduceAdd, Int.reduceSub, Int.reduceMul, Int.reduceMod, Int.reduceDiv, reduceCtorEq, Nat.reducePow, Int.reducePow, ac_ref8_Extend, a1, a2, List.map_nil]
    · by_cases a3 : i < 0
      · simp (config := { maxSteps := 2000000 }) (disch := (first | omega | (simp only [lens, lenm]; omega))) only [go_sem, ↓reduceIte, Nat.reduceAdd, Nat.reduceEqDiff, Nat.reduceSub, Nat.reduceMul, Nat.reduceLT, Nat.reduceLeDiff, Nat.reduceBEq, Int.reduceEq, Int.reduceLT, Int.reduceLE, Int.reduceToNat, Int.reduceNeg, Int.reduceAdd, Int.reduceSub, Int.reduceMul, Int.reduceMod, Int.reduceDiv, reduceCtorEq, Nat.reducePow, Int.reducePow, ac_ref8_Extend, a1, a2, a3, List.map_nil]
      · by_cases a4 : 16 ≤ i
        · simp (config := { maxSteps := 2000000 }) (disch := (first | omega | (simp only [lens, lenm]; omega))) only [go_sem, ↓reduceIte, Nat.reduceAdd, Nat.reduceEqDiff, Nat.reduceSub, Nat.reduceMul, Nat.reduceLT, Nat.reduceLeDiff, Nat.reduceBEq, Int.reduceEq, Int.reduceLT, Int.reduceLE, Int.reduceToNat, Int.reduceNeg, Int.reduceAdd, Int.reduceSub, Int.reduceMul, Int.reduceMod, Int.reduceDiv, reduceCtorEq, Nat.reducePow, Int.reducePow, ac_ref8_Extend, a1, a2, a3, a4, List.map_nil]
        · by_cases a5 : ds.length = 2
          · have a6 : loc < leastI i false := by rcases hb with h | h; · omega
                                                 · exact h
            simp (config := { maxSteps := 2000000 }) (disch := (first | omega | (simp only [lens, lenm]; omega))) only [go_sem, ↓reduceIte, Nat.reduceAdd, Nat.reduceEqDiff, Nat.reduceSub, Nat.reduceMul, Nat.reduceLT, Nat.reduceLeDiff, Nat.reduceBEq, Int.reduceEq, Int.reduceLT, Int.reduceLE, Int.reduceToNat, Int.reduceNeg, Int.reduceAdd, Int.reduceSub, Int.reduceMul, Int.reduceMod, Int.reduceDiv, reduceCtorEq, Nat.reducePow, Int.reducePow, ac_ref8_Extend, a1, a2, a3, a4, a5, a6, a7, h2, rleast_eq, List.map_nil, ne_eq]
          · simp (config := { maxSteps := 2000000 }) (disch := (first | omega | (simp only [lens, lenm]; omega))) only [go_sem, ↓reduceIte, Nat.reduceAdd, Nat.reduceEqDiff, Nat.reduceSub, Nat.reduceMul, Nat.reduceLT, Nat.reduceLeDiff, Nat.reduceBEq, Int.reduceEq, Int.reduceLT, Int.reduceLE, Int.reduceToNat, Int.reduceNeg, Int.reduceAdd, Int.reduceSub, Int.reduceMul, Int.reduceMod, Int.reduceDiv, reduceCtorEq, Nat.reducePow, Int.reducePow, ac_ref8_Extend, a1, a2, a3, a4, a5, List.map_nil, ne_eq]
theorem actv_eqn {u : Int} {a : Nat} (ha : a < 2) : ct_actv.fs [.t (.agg [.sl [], .int .i64 u]), .t (.int .i64 a)] [] = some (.t (.bool false), []) := (actv_eq (bk := []) .nil (by omega)).trans (by simp [onB])
theorem w_registers_Extend0 (tab : Tab) (gl : Gl) (n1 n2 n3 n4 n5 n6 : Nat) (h1 : tab.look n1 = some ct_index.fs) (h2 : tab.look n2 = some ct_least.fs) (h3 : tab.look n3 = some ct_on.fs) (h5 : tab.look n5 = some ct_twin.fs)
    (u loc : Int) (n : Nat) (d0 d1 : List UInt8) (hu : 0 ≤ u ∧ u < 1000000000) (hd : d0.length < 9223372036854775808 ∧ d1.length < 9223372036854775808) (e1 : ¬(loc < 0 ∨ 4 < loc ∨ 16 ≤ n)) (e2 : ¬ loc < leastI n false) :
    (ac_registers_Extend n1 n2 n3 n4 n5 n6).wp tab gl (zipF 0 [.t (regT [] u), .t (.int .i64 loc), .t (.int .i64 n), .t (.sl [bsT d0, bsT d1])]) (zipF 0 []) (resW [(8, some (2, true)), (9, none)] 0 (fun r o => r = extR [] u loc n [d0, d1] ∧ o = [])) := by
  have c0 := on_eqn (u := u) (a := 0) (by omega)
  have c1 := on_eqn (u := u) (a := 1) (by omega)
  rw [show ((0 : Nat) : Int) = 0 from rfl] at c0
  rw [show ((1 : Nat) : Int) = 1 from rfl] at c1
  simp (config := { maxSteps := 2000000 }) (disch := (first | omega | (simp only [lens, lenm]; omega))) only [go_sem, ↓reduceIte, Nat.reduceAdd, Nat.reduceEqDiff, Nat.reduceSub, Nat.reduceMul, Nat.reduceLT, Nat.reduceLeDiff, Nat.reduceBEq, Int.reduceEq, Int.reduceLT, Int.reduceLE, Int.reduceToNat, Int.reduceNeg, Int.reduceAdd, Int.reduceSub, Int.reduceMul, Int.reduceMod, Int.reduceDiv, reduceCtorEq, Nat.reducePow, Int.reducePow, ac_registers_Extend, h1, index_t, h2, least_eq, List.map_nil, List.map_cons]
  refine loopW_weak (fs' := [(2, .t (.int .i64 (n : Nat))), (3, .t (.sl [bsT d0, bsT d1])), (4, .ref 4096 0 0), (8, .ref 4112 0 0), (38, .t (.sl [bsT d0, bsT d1])), (39, .t (.int .i64 2)), (40, .t (.int .i64 0))]) (hs' := [(4112, .live 2 [.agg [.nil, .t (.int .i64 0)]] true true), (4096, .live 2 [.t (regT [] u)] true true)]) (Weak.rd id ?_ ?_ rfl) ?_
  · simp (config := { maxSteps := 2000000 }) (disch := (first | omega | (simp only [lens, lenm]; omega))) only [go_sem, ↓reduceIte, Nat.reduceAdd, Nat.reduceEqDiff, Nat.reduceSub, Nat.reduceMul, Nat.reduceLT, Nat.reduceLeDiff, Nat.reduceBEq, Int.reduceEq, Int.reduceLT, Int.reduceLE, Int.reduceToNat, Int.reduceNeg, Int.reduceAdd, Int.reduceSub, Int.reduceMul, Int.reduceMod, Int.reduceDiv, reduceCtorEq, Nat.reducePow, Int.reducePow, id]
  · simp (config := { maxSteps := 2000000 }) (disch := (first | omega | (simp only [lens, lenm]; omega))) only [go_sem, ↓reduceIte, Nat.reduceAdd, Nat.reduceEqDiff, Nat.reduceSub, Nat.reduceMul, Nat.reduceLT, Nat.reduceLeDiff, Nat.reduceBEq, Int.reduceEq, Int.reduceLT, Int.reduceLE, Int.reduceToNat, Int.reduceNeg, Int.reduceAdd, Int.reduceSub, Int.reduceMul, Int.reduceMod, Int.reduceDiv, reduceCtorEq, Nat.reducePow, Int.reducePow, id, List.map_nil]
  by_cases p : 0 < d0.length ∨ 0 < d1.length
  · have hE : extE 0 0 loc n 2 d0.length d1.length = 27 := by unfold extE; rw [if_neg (by omega), if_neg (by omega), if_pos (by omega)]
    by_cases p0 : 0 < d0.length
    · refine loop_fuel 3 ?_
      simp (config := { maxSteps := 2000000 }) (disch := (first | omega | (simp only [lens, lenm]; omega))) only [go_sem, ↓reduceIte, Nat.reduceAdd, Nat.reduceEqDiff, Nat.reduceSub, Nat.reduceMul, Nat.reduceLT, Nat.reduceLeDiff, Nat.reduceBEq, Int.reduceEq, Int.reduceLT, Int.reduceLE, Int.reduceToNat, Int.reduceNeg, Int.reduceAdd, Int.reduceSub, Int.reduceMul, Int.reduceMod, Int.reduceDiv, reduceCtorEq, Nat.reducePow, Int.reducePow, loopN_succ, ac_registers_Extend_L0, h3, c0, c1, hE, List.map_nil, extR, extEr, List.getD_nil, List.getD_cons_zero, List.getD_cons_succ, List.length_cons, List.length_nil]
    · refine loop_fuel 3 ?_
      simp (config := { maxSteps := 2000000 }) (disch := (first | omega | (simp only [lens, lenm]; omega))) only [go_sem, ↓reduceIte, Nat.reduceAdd, Nat.reduceEqDiff, Nat.reduceSub, Nat.reduceMul, Nat.reduceLT, Nat.reduceLeDiff, Nat.reduceBEq, Int.reduceEq, Int.reduceLT, Int.reduceLE, Int.reduceToNat, Int.reduceNeg, Int.reduceAdd, Int.reduceSub, Int.reduceMul, Int.reduceMod, Int.reduceDiv, reduceCtorEq, Nat.reducePow, Int.reducePow, loopN_succ, ac_registers_Extend_L0, h3, c0, c1, hE, List.map_nil, extR, extEr, List.getD_nil, List.getD_cons_zero, List.getD_cons_succ, List.length_cons, List.length_nil]
  · have hE : extE 0 0 loc n 2 d0.length d1.length = 0 := by unfold extE; rw [if_neg (by omega), if_neg (by omega), if_neg (by omega), if_neg (by omega)]
    refine loop_fuel 3 ?_
    simp (config := { maxSteps := 2000000 }) (disch := (first | omega | (simp only [lens, lenm]; omega))) only [go_sem, ↓reduceIte, Nat.reduceAdd, Nat.reduceEqDiff, Nat.reduceSub, Nat.reduceMul, Nat.reduceLT, Nat.reduceLeDiff, Nat.reduceBEq, Int.reduceEq, Int.reduceLT, Int.reduceLE, Int.reduceToNat, Int.reduceNeg, Int.reduceAdd, Int.reduceSub, Int.reduceMul, Int.reduceMod, Int.reduceDiv, reduceCtorEq, Nat.reducePow, Int.reducePow, loopN_succ, ac_registers_Extend_L0, h3, c0, c1, List.map_nil]
    refine loop_fuel 3 ?_
    simp (config := { maxSteps := 2000000 }) (disch := (first | omega | (simp only [lens, lenm]; omega))) only [go_sem, ↓reduceIte, Nat.reduceAdd, Nat.reduceEqDiff, Nat.reduceSub, Nat.reduceMul, Nat.reduceLT, Nat.reduceLeDiff, Nat.reduceBEq, Int.reduceEq, Int.reduceLT, Int.reduceLE, Int.reduceToNat, Int.reduceNeg, Int.reduceAdd, Int.reduceSub, Int.reduceMul, Int.reduceMod, Int.reduceDiv, reduceCtorEq, Nat.reducePow, Int.reducePow, loopN_succ, ac_registers_Extend_L1, h3, c0, c1, h5, twin_eq0, List.map_nil]
    refine loop_fuel 1 ?_
    simp (config := { maxSteps := 2000000 }) (disch := (first | omega | (simp only [lens, lenm]; omega))) only [go_sem, ↓reduceIte, Nat.reduceAdd, Nat.reduceEqDiff, Nat.reduceSub, Nat.reduceMul, Nat.reduceLT, Nat.reduceLeDiff, Nat.reduceBEq, Int.reduceEq, Int.reduceLT, Int.reduceLE, Int.reduceToNat, Int.reduceNeg, Int.reduceAdd, Int.reduceSub, Int.reduceMul, Int.reduceMod, Int.reduceDiv, reduceCtorEq, Nat.reducePow, Int.reducePow, loopN_succ, ac_registers_Extend_L2, hE, List.map_nil, extR, extEr, extBk, List.getD_nil, List.getD_cons_zero, List.getD_cons_succ, List.length_cons, List.length_nil]
theorem w_ref8_Extend0 (tab : Tab) (gl : Gl) (n1 n2 n3 n4 n5 n6 : Nat) (h2 : tab.look n1 = some ct_rleast.fs) (h3 : tab.look n2 = some ct_actv.fs) (h5 : tab.look n4 = some ct_twin.fs)
    (u loc : Int) (n : Nat) (d0 d1 : List UInt8) (hu : 0 ≤ u ∧ u < 1000000000) (hd : d0.length < 9223372036854775808 ∧ d1.length < 9223372036854775808) (e1 : ¬(loc < 0 ∨ 4 < loc ∨ 16 ≤ n)) (e2 : ¬ loc < leastI n false) :
    (ac_ref8_Extend n1 n2 n3 n4 n5 n6).wp tab gl (zipF 0 [.t (regT [] u), .t (.int .i64 loc), .t (.int .i64 n), .t (.sl [bsT d0, bsT d1])]) (zipF 0 []) (resW [(8, some (2, true)), (9, none)] 0 (fun r o => r = extR [] u loc n [d0, d1] ∧ o = [])) := by
  have a6 : ¬ leastI (n : Int) false = 5 := by unfold leastI; split <;> (try split) <;> (try split) <;> simp_all
  have c0 := actv_eqn (u := u) (a := 0) (by omega)
  have c1 := actv_eqn (u := u) (a := 1) (by omega)
  rw [show ((0 : Nat) : Int) = 0 from rfl] at c0
  rw [show ((1 : Nat) : Int) = 1 from rfl] at c1
  simp (config := { maxSteps := 2000000 }) (disch := (first | omega | (simp only [lens, lenm]; omega))) only [go_sem, ↓reduceIte, Nat.reduceAdd, Nat.reduceEqDiff, Nat.reduceSub, Nat.reduceMul, Nat.reduceLT, Nat.reduceLeDiff, Nat.reduceBEq, Int.reduceEq, Int.reduceLT, Int.reduceLE, Int.reduceToNat, Int.reduceNeg, Int.reduceAdd, Int.reduceSub, Int.reduceMul, Int.reduceMod, Int.reduceDiv, reduceCtorEq, Nat.reducePow, Int.reducePow, ac_ref8_Extend, h2, rleast_eq, a6, List.map_nil, List.map_cons]
  refine loopW_weak (fs' := [(2, .t (.int .i64 (n : Nat))), (3, .t (.sl [bsT d0, bsT d1])), (4, .ref 4096 0 0), (8, .ref 4112 0 0), (10, .t (.int .i64 0))]) (hs' := [(4112, .live 2 [.agg [.nil, .t (.int .i64 0)]] true true), (4096, .live 2 [.t (regT [] u)] true true)]) (Weak.rd id ?_ ?_ rfl) ?_
  · simp (config := { maxSteps := 2000000 }) (disch := (first | omega | (simp only [lens, lenm]; omega))) only [go_sem, ↓reduceIte, Nat.reduceAdd, Nat.reduceEqDiff, Nat.reduceSub, Nat.reduceMul, Nat.reduceLT, Nat.reduceLeDiff, Nat.reduceBEq, Int.reduceEq, Int.reduceLT, Int.reduceLE, Int.reduceToNat, Int.reduceNeg, Int.reduceAdd, Int.reduceSub, Int.reduceMul, Int.reduceMod, Int.reduceDiv, reduceCtorEq, Nat.reducePow, Int.reducePow, id]
  · simp (config := { maxSteps := 2000000 }) (disch := (first | omega | (simp only [lens, lenm]; omega))) only [go_sem, ↓reduceIte, Nat.reduceAdd, Nat.reduceEqDiff, Nat.reduceSub, Nat.reduceMul, Nat.reduceLT, Nat.reduceLeDiff, Nat.reduceBEq, Int.reduceEq, Int.reduceLT, Int.reduceLE, Int.reduceToNat, Int.reduceNeg, Int.reduceAdd, Int.reduceSub, Int.reduceMul, Int.reduceMod, Int.reduceDiv, reduceCtorEq, Nat.reducePow, Int.reducePow, id, List.map_nil]
  by_cases p : 0 < d0.length ∨ 0 < d1.length
  · have hE : extE 0 0 loc n 2 d0.length d1.length = 27 := by unfold extE; rw [if_neg (by omega), if_neg (by omega), if_pos (by omega)]
    by_cases p0 : 0 < d0.length
    · refine loop_fuel 3 ?_
      simp (config := { maxSteps := 2000000 }) (disch := (first | omega | (simp only [lens, lenm]; omega))) only [go_sem, ↓reduceIte, Nat.reduceAdd, Nat.reduceEqDiff, Nat.reduceSub, Nat.reduceMul, Nat.reduceLT, Nat.reduceLeDiff, Nat.reduceBEq, Int.reduceEq, Int.reduceLT, Int.reduceLE, Int.reduceToNat, Int.reduceNeg, Int.reduceAdd, Int.reduceSub, Int.reduceMul, Int.reduceMod, Int.reduceDiv, reduceCtorEq, Nat.reducePow, Int.reducePow, loopN_succ, ac_ref8_Extend_L0, h3, c0, c1, hE, List.map_nil, extR, extEr, List.getD_nil, List.getD_cons_zero, List.getD_cons_succ, List.length_cons, List.length_nil]
      all_goals repeat refine And.intro rfl ?_
      all_goals rfl
    · refine loop_fuel 3 ?_
      simp (config := { maxSteps := 2000000 }) (disch := (first | omega | (simp only [lens, lenm]; omega))) only [go_sem, ↓reduceIte, Nat.reduceAdd, Nat.reduceEqDiff, Nat.reduceSub, Nat.reduceMul, Nat.reduceLT, Nat.reduceLeDiff, Nat.reduceBEq, Int.reduceEq, Int.reduceLT, Int.reduceLE, Int.reduceToNat, Int.reduceNeg, Int.reduceAdd, Int.reduceSub, Int.reduceMul, Int.reduceMod, Int.reduceDiv, reduceCtorEq, Nat.reducePow, Int.reducePow, loopN_succ, ac_ref8_Extend_L0, h3, c0, c1, hE, List.map_nil, extR, extEr, List.getD_nil, List.getD_cons_zero, List.getD_cons_succ, List.length_cons, List.length_nil]
      all_goals repeat refine And.intro rfl ?_
      all_goals rfl
  · have hE : extE 0 0 loc n 2 d0.length d1.length = 0 := by unfold extE; rw [if_neg (by omega), if_neg (by omega), if_neg (by omega), if_neg (by omega)]
    refine loop_fuel 3 ?_
    simp (config := { maxSteps := 2000000 }) (disch := (first | omega | (simp only [lens, lenm]; omega))) only [go_sem, ↓reduceIte, Nat.reduceAdd, Nat.reduceEqDiff, Nat.reduceSub, Nat.reduceMul, Nat.reduceLT, Nat.reduceLeDiff, Nat.reduceBEq, Int.reduceEq, Int.reduceLT, Int.reduceLE, Int.reduceToNat, Int.reduceNeg, Int.reduceAdd, Int.reduceSub, Int.reduceMul, Int.reduceMod, Int.reduceDiv, reduceCtorEq, Nat.reducePow, Int.reducePow, loopN_succ, ac_ref8_Extend_L0, h3, c0, c1, List.map_nil]
    all_goals repeat refine And.intro rfl ?_
    refine loop_fuel 3 ?_
    simp (config := { maxSteps := 2000000 }) (disch := (first | omega | (simp only [lens, lenm]; omega))) only [go_sem, ↓reduceIte, Nat.reduceAdd, Nat.reduceEqDiff, Nat.reduceSub, Nat.reduceMul, Nat.reduceLT, Nat.reduceLeDiff, Nat.reduceBEq, Int.reduceEq, Int.reduceLT, Int.reduceLE, Int.reduceToNat, Int.reduceNeg, Int.reduceAdd, Int.reduceSub, Int.reduceMul, Int.reduceMod, Int.reduceDiv, reduceCtorEq, Nat.reducePow, Int.reducePow, loopN_succ, ac_ref8_Extend_L1, h3, c0, c1, h5, twin_eq0, List.map_nil]
    all_goals repeat refine And.intro rfl ?_
    refine loop_fuel 3 ?_
    simp (config := { maxSteps := 2000000 }) (disch := (first | omega | (simp only [lens, lenm]; omega))) only [go_sem, ↓reduceIte, Nat.reduceAdd, Nat.reduceEqDiff, Nat.reduceSub, Nat.reduceMul, Nat.reduceLT, Nat.reduceLeDiff, Nat.reduceBEq, Int.reduceEq, Int.reduceLT, Int.reduceLE, Int.reduceToNat, Int.reduceNeg, Int.reduceAdd, Int.reduceSub, Int.reduceMul, Int.reduceMod, Int.reduceDiv, reduceCtorEq, Nat.reducePow, Int.reducePow, loopN_succ, ac_ref8_Extend_L2, h3, c0, c1, hE, List.map_nil, extR, extEr, extBk, List.getD_nil, List.getD_cons_zero, List.getD_cons_succ, List.length_cons, List.length_nil]
end Go.Eng
end
