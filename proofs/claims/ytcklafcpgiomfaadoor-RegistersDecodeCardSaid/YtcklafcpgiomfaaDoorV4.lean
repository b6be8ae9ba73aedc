/- My own text: an abstract machine, its walks over the functions reached, and their tie to the program. -/
import Derived.Test.YtcklafcpgiomfaaDoorV3
set_option linter.unusedSimpArgs false
set_option linter.unusedVariables false
section
set_option maxRecDepth 20000
set_option maxHeartbeats 16000000
namespace Go.Eng
def newV (i : Nat) : UInt8 := if 12 ≤ i then 255 else 0
theorem newV_a {i : Nat} (h : i < 12) : newV i = 0 := if_neg (by omega)
theorem newV_b {i : Nat} (h : ¬ i < 12) : newV i = 255 := if_pos (by omega)
def newB (a : Nat) : Bank := (List.range 16).map fun i => List.replicate (szA a) (newV i)
theorem newB_take {a i : Nat} (h : i < 16) : (newB a).take (i + 1) = (newB a).take i ++ [List.replicate (szA a) (newV i)] := by
  rw [take_s (d := []) (by simp [newB]; omega)]
  congr 2
  simp [newB, List.getD, h]
theorem newB_all {a : Nat} : (newB a).take 16 = newB a := List.take_of_length_le (by simp [newB])
theorem newB_length {a : Nat} : List.length (newB a) = 16 := by simp [newB]
def newBk (s : Int) : List Bank := if s % 4 = 0 then [] else [if s % 2 = 1 then newB 0 else [], if s / 2 % 2 = 1 then newB 1 else []]
theorem newBk_of {s : Int} (h : ¬ s % 4 = 0) : newBk s = [if s % 2 = 1 then newB 0 else [], if s / 2 % 2 = 1 then newB 1 else []] := if_neg h
def ct_size : Ct where
  α := Int
  as x := [.t (.int .i64 x)]
  ins _ := []
  pre _ := True
  r x := .t (.int .i64 (if x = 0 then 20 else if x = 1 then 32 else 0))
  outs _ := []
  inj := by
    intro a b h _
    simp at h
    subst h; exact ⟨rfl, rfl⟩
theorem size_eq0 : ct_size.fs [.t (.int .i64 0)] [] = some (.t (.int .i64 20), []) := ct_size.eq (0 : Int) trivial
theorem size_eq1 : ct_size.fs [.t (.int .i64 1)] [] = some (.t (.int .i64 32), []) := ct_size.eq (1 : Int) trivial
def ct_fill : Ct where
  α := Nat × UInt8
  as x := [.t (.int .i64 x.1), .t (byteT x.2)]
  ins _ := []
  pre x := x.1 = 20 ∨ x.1 = 32
  r x := .sl 0 0 x.1
  outs x := [.live 1 (((List.replicate x.1 x.2).map byteT).map V.t) true false]
  inj := by
    rintro ⟨a, b⟩ ⟨c, d⟩ h _
    simp [byteT_eq, Int.natCast_inj] at h
    obtain ⟨rfl, rfl⟩ := h
    exact ⟨rfl, rfl⟩
theorem fill_eq20 {x : UInt8} : ct_fill.fs [.t (.int .i64 20), .t (byteT x)] [] = some (.sl 0 0 20, [.live 1 (((List.replicate 20 x).map byteT).map V.t) true false]) := ct_fill.eq (20, x) (.inl rfl)
theorem fill_eq32 {x : UInt8} : ct_fill.fs [.t (.int .i64 32), .t (byteT x)] [] = some (.sl 0 0 32, [.live 1 (((List.replicate 32 x).map byteT).map V.t) true false]) := ct_fill.eq (32, x) (.inr rfl)
theorem w_ref8_initial (tab : Tab) (gl : Gl) (n1 n2 : Nat) (h1 : tab.look n1 = some ct_size.fs) (h2 : tab.look n2 = some ct_fill.fs) (a : Nat) (ha : a < 2) (i : Nat) : (ac_ref8_initial n1 n2).wp tab gl (zipF 0 [.t (.int .i64 a), .t (.int .i64 i)]) (zipF 0 []) (resF [] [(4, none)] 0 (fun r o => r = .sl 0 0 (szA a) ∧ o = [.live 1 (((List.replicate (szA a) (newV i)).map byteT).map V.t) true false])) := by
  rcases (show a = 0 ∨ a = 1 by omega) with rfl | rfl <;> by_cases hi : i < 12
  all_goals simp (disch := omega) only [go_sem, ↓reduceIte, Nat.reduceAdd, Nat.reduceEqDiff, Nat.reduceLeDiff, reduceCtorEq, ac_ref8_initial, h1, h2, size_eq0, size_eq1, fill_eq20, fill_eq32, szA]
  all_goals first | rw [newV_a hi] | rw [newV_b hi]
def ct_init : Ct where
  α := Nat × Nat
  as x := [.t (.int .i64 x.1), .t (.int .i64 x.2)]
  ins _ := []
  pre x := x.1 < 2
  r x := .sl 0 0 (szA x.1)
  outs x := [.live 1 (((List.replicate (szA x.1) (newV x.2)).map byteT).map V.t) true false]
  inj := by
    rintro ⟨a, b⟩ ⟨c, d⟩ h _
    simp [Int.natCast_inj] at h
    obtain ⟨rfl, rfl⟩ := h
    exact ⟨rfl, rfl⟩
theorem init_eq0 {i : Nat} : ct_init.fs [.t (.int .i64 0), .t (.int .i64 i)] [] = some (.sl 0 0 20, [.live 1 (((List.replicate 20 (newV i)).map byteT).map V.t) true false]) := ct_init.eq (0, i) (by simp [ct_init])
theorem init_eq1 {i : Nat} : ct_init.fs [.t (.int .i64 1), .t (.int .i64 i)] [] = some (.sl 0 0 32, [.live 1 (((List.replicate 32 (newV i)).map byteT).map V.t) true false]) := ct_init.eq (1, i) (by simp [ct_init])
theorem w_registers_New0 (tab : Tab) (gl : Gl) (n1 n2 : Nat) (s : Int) (h3 : s % 4 = 0) : (ac_registers_New n1 n2).wp tab gl (zipF 0 [.t (.int .i64 s)]) (zipF 0 []) (resF [] [(2, some (2, true))] 0 (fun r o => r = .agg [.nil, .t (.int .i64 0)] ∧ o = [])) := by
  simp (disch := omega) only [go_sem, ↓reduceIte, Nat.reduceAdd, Nat.reduceEqDiff, Nat.reduceLeDiff, reduceCtorEq, ac_registers_New, h3]
theorem w_ref8_New0 (tab : Tab) (gl : Gl) (n1 : Nat) (s : Int) (h3 : s % 4 = 0) : (ac_ref8_New n1).wp tab gl (zipF 0 [.t (.int .i64 s)]) (zipF 0 []) (resF [] [(2, some (2, true))] 0 (fun r o => r = .agg [.nil, .t (.int .i64 0)] ∧ o = [])) := by
  simp (disch := omega) only [go_sem, ↓reduceIte, Nat.reduceAdd, Nat.reduceEqDiff, Nat.reduceLeDiff, reduceCtorEq, ac_ref8_New, h3]
theorem w_registers_New (tab : Tab) (gl : Gl) (n1 n2 : Nat) (h1 : tab.look n1 = some ct_size.fs) (h2 : tab.look n2 = some ct_fill.fs) (s : Int) (h3 : ¬ s % 4 = 0) : (ac_registers_New n1 n2).wp tab gl (zipF 0 [.t (.int .i64 s)]) (zipF 0 []) (resF [] [(2, some (2, true))] 0 (fun r o => r = twR (newBk s) 0 ∧ o = twO (newBk s))) := by
  have h4 : (s % 4 == 0) = false := by simpa using h3
  have hf1 : s.fdiv 1 = s := Int.fdiv_one s
  have hf2 : s.fdiv 2 = s / 2 := Int.fdiv_eq_ediv_of_nonneg s (by omega)
  have hc0 : s % 2 = 0 ∨ s % 2 = 1 := by omega
  have hc1 : s / 2 % 2 = 0 ∨ s / 2 % 2 = 1 := by omega
  rcases hc0 with c0 | c0 <;> rcases hc1 with c1 | c1
  · exact absurd (by omega) h3
  · rw [newBk_of h3, if_neg (by omega), if_pos (by omega)]
    simp (disch := omega) only [go_sem, ↓reduceIte, Nat.reduceAdd, Nat.reduceEqDiff, reduceCtorEq, ac_registers_New, h4, hf1, hf2]
    refine loop_upto 2 (fun k => match k with | 0 => [(0, .t (.int .i64 s)), (2, .ref 4096 0 0), (3, .ref 16384 0 0), (12, .t (.int .i64 0))] | 1 => [(0, .t (.int .i64 s)), (2, .ref 4096 0 0), (3, .ref 16384 0 0), (12, .t (.int .i64 1))] | _ => [(0, .t (.int .i64 s)), (2, .ref 4096 0 0), (3, .ref 16384 0 0), (12, .t (.int .i64 2))]) (fun k => match k with | 0 => [(16384, .live 2 [.agg [.nil, .t (.int .i64 0)]] true true), (4096, .live 2 [.agg [.nil, .t (.int .i64 0)]] true true)] | 1 => [(16384, .live 2 [.agg [.sl 9000 0 1, .t (.int .i64 0)]] true true), (9000, .live 1 [.sl 9001 0 0] true false), (9001, .live 1 ((([] : Bank).map bsT).map V.t) true false), (4096, .live 2 [.agg [.nil, .t (.int .i64 0)]] true true)] | _ => [(16384, .live 2 [.agg [.sl 9000 0 2, .t (.int .i64 0)]] true true), (9000, .live 1 [.sl 9001 0 0, .sl 9002 0 16] true false), (9001, .live 1 ((([] : Bank).map bsT).map V.t) true false), (9002, .live 1 (((newB 1 : Bank).map bsT).map V.t) true false), (4096, .live 2 [.agg [.nil, .t (.int .i64 0)]] true true)]) ?_ (fun k hk => ?_)
    · refine Weak.rd id ?_ ?_ rfl
      all_goals simp (disch := omega) only [go_sem, ↓reduceIte, Nat.reduceEqDiff, Nat.reduceBEq, reduceCtorEq, id]
    · rcases (show k = 0 ∨ k = 1 ∨ k = 2 by omega) with rfl | rfl | rfl
      · simp (disch := omega) only [go_sem, ↓reduceIte, Nat.reduceAdd, Nat.reduceEqDiff, Int.reduceLT, reduceCtorEq, ac_registers_New_L0, c0, c1, newB_length, h1, h2, size_eq0, size_eq1, fill_eq20, fill_eq32, hf1, hf2]
        refine loop_fuel 1 ?_
        simp (disch := omega) only [go_sem, ↓reduceIte, Nat.reduceAdd, Nat.reduceEqDiff, Nat.reduceLT, Nat.reduceLeDiff, Int.reduceLT, Int.reduceAdd, reduceCtorEq, Int.reducePow, loopN_succ, ac_registers_New_L1, c0, c1, newB_length, h1, h2, size_eq0, size_eq1, fill_eq20, fill_eq32, hf1, hf2]
        refine Weak.trans (fs' := [(0, .t (.int .i64 s)), (2, .ref 4096 0 0), (3, .ref 16384 0 0), (12, .t (.int .i64 1))]) (Weak.cv0 (hv := [(9001, .live 1 [] true false)]) (ho := [(16384, .live 2 [.agg [.sl 9000 0 1, .t (.int .i64 0)]] true true), (9000, .live 1 [.sl 9001 0 0] true false), (4096, .live 2 [.agg [.nil, .t (.int .i64 0)]] true true)]) (fun j => if j = 9000 then 65600 else j) ?_ ?_ rfl rfl) (Weak.rd id ?_ ?_ rfl)
        all_goals simp (disch := omega) only [go_sem, ↓reduceIte, Nat.reduceAdd, Nat.reduceEqDiff, Nat.reduceBEq, reduceCtorEq, List.map_cons, List.map_nil, id]
      · simp (disch := omega) only [go_sem, ↓reduceIte, Nat.reduceAdd, Nat.reduceEqDiff, Int.reduceLT, reduceCtorEq, ac_registers_New_L0, c0, c1, newB_length, h1, h2, size_eq0, size_eq1, fill_eq20, fill_eq32, hf1, hf2]
        refine loop_upto 16 (fun i => [(0, .t (.int .i64 s)), (2, .ref 4096 0 0), (3, .ref 16384 0 0), (12, .t (.int .i64 1)), (4, .t (.int .i64 1)), (5, .sl 9100 0 i), (6, .t (.int .i64 (i : Nat)))]) (fun i => [(9100, .live 1 ((((newB 1).take i).map bsT).map V.t) true false), (16384, .live 2 [.agg [.sl 9000 0 1, .t (.int .i64 0)]] true true), (9000, .live 1 [.sl 9001 0 0] true false), (9001, .live 1 ((([] : Bank).map bsT).map V.t) true false), (4096, .live 2 [.agg [.nil, .t (.int .i64 0)]] true true)]) ?_ (fun i hi => ?_)
        · refine Weak.cv0 (hv := [(9100, .live 1 [] true false)]) (ho := [(16384, .live 2 [.agg [.sl 9000 0 1, .t (.int .i64 0)]] true true), (9000, .live 1 [.sl 9001 0 0] true false), (9001, .live 1 ((([] : Bank).map bsT).map V.t) true false), (4096, .live 2 [.agg [.nil, .t (.int .i64 0)]] true true)]) id ?_ ?_ rfl rfl
          all_goals simp (disch := omega) only [go_sem, ↓reduceIte, Nat.reduceAdd, Nat.reduceEqDiff, Nat.reduceBEq, reduceCtorEq, List.map_cons, List.map_nil, id]
        · by_cases hlt : i < 16
          · by_cases h12 : i < 12
            · simp (disch := omega) only [go_sem, ↓reduceIte, Nat.reduceAdd, Nat.reduceEqDiff, Nat.reduceLT, Nat.reduceLeDiff, Int.reduceLT, reduceCtorEq, Int.reducePow, ac_registers_New_L1, c0, c1, newB_length, h1, h2, size_eq0, size_eq1, fill_eq20, fill_eq32, hf1, hf2]
              refine ⟨hlt, Weak.cv (hv := []) [61504] (fun j => if j = 9100 then 61536 else j) ?_ rfl⟩
              simp (disch := omega) only [go_sem, ↓reduceIte, Nat.reduceAdd, Nat.reduceEqDiff, Nat.reduceLeDiff, Nat.reduceBEq, reduceCtorEq, newB_take hlt, szA, List.take_replicate, Nat.min_self, newV_a h12]
              rfl
            · simp (disch := omega) only [go_sem, ↓reduceIte, Nat.reduceAdd, Nat.reduceEqDiff, Nat.reduceLT, Nat.reduceLeDiff, Int.reduceLT, reduceCtorEq, Int.reducePow, ac_registers_New_L1, c0, c1, newB_length, h1, h2, size_eq0, size_eq1, fill_eq20, fill_eq32, hf1, hf2]
              refine ⟨hlt, Weak.cv (hv := []) [61504] (fun j => if j = 9100 then 61536 else j) ?_ rfl⟩
              simp (disch := omega) only [go_sem, ↓reduceIte, Nat.reduceAdd, Nat.reduceEqDiff, Nat.reduceLeDiff, Nat.reduceBEq, reduceCtorEq, newB_take hlt, szA, List.take_replicate, Nat.min_self, newV_b h12]
              rfl
          · have e : i = 16 := by omega
            subst e
            simp (disch := omega) only [go_sem, ↓reduceIte, Nat.reduceAdd, Nat.reduceEqDiff, Nat.reduceMul, Nat.reduceLT, Nat.reduceLeDiff, Int.reduceLT, Int.reduceAdd, reduceCtorEq, ac_registers_New_L1, c0, c1, newB_length, h1, h2, size_eq0, size_eq1, fill_eq20, fill_eq32, hf1, hf2]
            refine Weak.rd (fun j => if j = 9000 then 65600 else if j = 9002 then 9100 else j) ?_ ?_ rfl
            all_goals simp (disch := omega) only [go_sem, ↓reduceIte, Nat.reduceAdd, Nat.reduceEqDiff, Nat.reduceBEq, reduceCtorEq, newB_all]
      · simp (disch := omega) only [go_sem, ↓reduceIte, Nat.reduceAdd, Nat.reduceEqDiff, Nat.reduceLeDiff, Nat.reduceBEq, Int.reduceLT, reduceCtorEq, ac_registers_New_L0, c0, c1, newB_length, h1, h2, size_eq0, size_eq1, fill_eq20, fill_eq32, hf1, hf2]
        exact ⟨rfl, rfl⟩
  · rw [newBk_of h3, if_pos (by omega), if_neg (by omega)]
    simp (disch := omega) only [go_sem, ↓reduceIte, Nat.reduceAdd, Nat.reduceEqDiff, reduceCtorEq, ac_registers_New, h4, hf1, hf2]
    refine loop_upto 2 (fun k => match k with | 0 => [(0, .t (.int .i64 s)), (2, .ref 4096 0 0), (3, .ref 16384 0 0), (12, .t (.int .i64 0))] | 1 => [(0, .t (.int .i64 s)), (2, .ref 4096 0 0), (3, .ref 16384 0 0), (12, .t (.int .i64 1))] | _ => [(0, .t (.int .i64 s)), (2, .ref 4096 0 0), (3, .ref 16384 0 0), (12, .t (.int .i64 2))]) (fun k => match k with | 0 => [(16384, .live 2 [.agg [.nil, .t (.int .i64 0)]] true true), (4096, .live 2 [.agg [.nil, .t (.int .i64 0)]] true true)] | 1 => [(16384, .live 2 [.agg [.sl 9000 0 1, .t (.int .i64 0)]] true true), (9000, .live 1 [.sl 9001 0 16] true false), (9001, .live 1 (((newB 0 : Bank).map bsT).map V.t) true false), (4096, .live 2 [.agg [.nil, .t (.int .i64 0)]] true true)] | _ => [(16384, .live 2 [.agg [.sl 9000 0 2, .t (.int .i64 0)]] true true), (9000, .live 1 [.sl 9001 0 16, .sl 9002 0 0] true false), (9001, .live 1 (((newB 0 : Bank).map bsT).map V.t) true false), (9002, .live 1 ((([] : Bank).map bsT).map V.t) true false), (4096, .live 2 [.agg [.nil, .t (.int .i64 0)]] true true)]) ?_ (fun k hk => ?_)
    · refine Weak.rd id ?_ ?_ rfl
      all_goals simp (disch := omega) only [go_sem, ↓reduceIte, Nat.reduceEqDiff, Nat.reduceBEq, reduceCtorEq, id]
    · rcases (show k = 0 ∨ k = 1 ∨ k = 2 by omega) with rfl | rfl | rfl
      · simp (disch := omega) only [go_sem, ↓reduceIte, Nat.reduceAdd, Nat.reduceEqDiff, Int.reduceLT, reduceCtorEq, ac_registers_New_L0, c0, c1, newB_length, h1, h2, size_eq0, size_eq1, fill_eq20, fill_eq32, hf1, hf2]
        refine loop_upto 16 (fun i => [(0, .t (.int .i64 s)), (2, .ref 4096 0 0), (3, .ref 16384 0 0), (12, .t (.int .i64 0)), (4, .t (.int .i64 0)), (5, .sl 9100 0 i), (6, .t (.int .i64 (i : Nat)))]) (fun i => [(9100, .live 1 ((((newB 0).take i).map bsT).map V.t) true false), (16384, .live 2 [.agg [.nil, .t (.int .i64 0)]] true true), (4096, .live 2 [.agg [.nil, .t (.int .i64 0)]] true true)]) ?_ (fun i hi => ?_)
        · refine Weak.cv0 (hv := [(9100, .live 1 [] true false)]) (ho := [(16384, .live 2 [.agg [.nil, .t (.int .i64 0)]] true true), (4096, .live 2 [.agg [.nil, .t (.int .i64 0)]] true true)]) id ?_ ?_ rfl rfl
          all_goals simp (disch := omega) only [go_sem, ↓reduceIte, Nat.reduceEqDiff, Nat.reduceBEq, reduceCtorEq, List.map_cons, List.map_nil, id]
        · by_cases hlt : i < 16
          · by_cases h12 : i < 12
            · simp (disch := omega) only [go_sem, ↓reduceIte, Nat.reduceAdd, Nat.reduceEqDiff, Nat.reduceLT, Nat.reduceLeDiff, Int.reduceLT, reduceCtorEq, Int.reducePow, ac_registers_New_L1, c0, c1, newB_length, h1, h2, size_eq0, size_eq1, fill_eq20, fill_eq32, hf1, hf2]
              refine ⟨hlt, Weak.cv (hv := []) [61504] (fun j => if j = 9100 then 61536 else j) ?_ rfl⟩
              simp (disch := omega) only [go_sem, ↓reduceIte, Nat.reduceAdd, Nat.reduceEqDiff, Nat.reduceLeDiff, Nat.reduceBEq, reduceCtorEq, newB_take hlt, szA, List.take_replicate, Nat.min_self, newV_a h12]
              rfl
            · simp (disch := omega) only [go_sem, ↓reduceIte, Nat.reduceAdd, Nat.reduceEqDiff, Nat.reduceLT, Nat.reduceLeDiff, Int.reduceLT, reduceCtorEq, Int.reducePow, ac_registers_New_L1, c0, c1, newB_length, h1, h2, size_eq0, size_eq1, fill_eq20, fill_eq32, hf1, hf2]
              refine ⟨hlt, Weak.cv (hv := []) [61504] (fun j => if j = 9100 then 61536 else j) ?_ rfl⟩
              simp (disch := omega) only [go_sem, ↓reduceIte, Nat.reduceAdd, Nat.reduceEqDiff, Nat.reduceLeDiff, Nat.reduceBEq, reduceCtorEq, newB_take hlt, szA, List.take_replicate, Nat.min_self, newV_b h12]
              rfl
          · have e : i = 16 := by omega
            subst e
            simp (disch := omega) only [go_sem, ↓reduceIte, Nat.reduceAdd, Nat.reduceEqDiff, Nat.reduceLT, Nat.reduceLeDiff, Int.reduceLT, Int.reduceAdd, reduceCtorEq, ac_registers_New_L1, c0, c1, newB_length, h1, h2, size_eq0, size_eq1, fill_eq20, fill_eq32, hf1, hf2]
            refine Weak.rd (fun j => if j = 9000 then 65600 else if j = 9001 then 9100 else j) ?_ ?_ rfl
            all_goals simp (disch := omega) only [go_sem, ↓reduceIte, Nat.reduceAdd, Nat.reduceEqDiff, Nat.reduceBEq, reduceCtorEq, newB_all]
      · simp (disch := omega) only [go_sem, ↓reduceIte, Nat.reduceAdd, Nat.reduceEqDiff, Int.reduceLT, reduceCtorEq, ac_registers_New_L0, c0, c1, newB_length, h1, h2, size_eq0, size_eq1, fill_eq20, fill_eq32, hf1, hf2]
        refine loop_fuel 1 ?_
        simp (disch := omega) only [go_sem, ↓reduceIte, Nat.reduceAdd, Nat.reduceEqDiff, Nat.reduceMul, Nat.reduceLT, Nat.reduceLeDiff, Int.reduceLT, Int.reduceAdd, reduceCtorEq, Int.reducePow, loopN_succ, ac_registers_New_L1, c0, c1, newB_length, h1, h2, size_eq0, size_eq1, fill_eq20, fill_eq32, hf1, hf2]
        refine Weak.trans (fs' := [(0, .t (.int .i64 s)), (2, .ref 4096 0 0), (3, .ref 16384 0 0), (12, .t (.int .i64 2))]) (Weak.cv0 (hv := [(9002, .live 1 [] true false)]) (ho := [(16384, .live 2 [.agg [.sl 9000 0 2, .t (.int .i64 0)]] true true), (9000, .live 1 [.sl 9001 0 16, .sl 9002 0 0] true false), (9001, .live 1 (((newB 0 : Bank).map bsT).map V.t) true false), (4096, .live 2 [.agg [.nil, .t (.int .i64 0)]] true true)]) (fun j => if j = 9000 then 65600 else j) ?_ ?_ rfl rfl) (Weak.rd id ?_ ?_ rfl)
        all_goals simp (disch := omega) only [go_sem, ↓reduceIte, Nat.reduceAdd, Nat.reduceEqDiff, Nat.reduceBEq, reduceCtorEq, List.map_cons, List.map_nil, id]
      · simp (disch := omega) only [go_sem, ↓reduceIte, Nat.reduceAdd, Nat.reduceEqDiff, Nat.reduceLeDiff, Nat.reduceBEq, Int.reduceLT, reduceCtorEq, ac_registers_New_L0, c0, c1, newB_length, h1, h2, size_eq0, size_eq1, fill_eq20, fill_eq32, hf1, hf2]
        exact ⟨rfl, rfl⟩
  · rw [newBk_of h3, if_pos (by omega), if_pos (by omega)]
    simp (disch := omega) only [go_sem, ↓reduceIte, Nat.reduceAdd, Nat.reduceEqDiff, reduceCtorEq, ac_registers_New, h4, hf1, hf2]
    refine loop_upto 2 (fun k => match k with | 0 => [(0, .t (.int .i64 s)), (2, .ref 4096 0 0), (3, .ref 16384 0 0), (12, .t (.int .i64 0))] | 1 => [(0, .t (.int .i64 s)), (2, .ref 4096 0 0), (3, .ref 16384 0 0), (12, .t (.int .i64 1))] | _ => [(0, .t (.int .i64 s)), (2, .ref 4096 0 0), (3, .ref 16384 0 0), (12, .t (.int .i64 2))]) (fun k => match k with | 0 => [(16384, .live 2 [.agg [.nil, .t (.int .i64 0)]] true true), (4096, .live 2 [.agg [.nil, .t (.int .i64 0)]] true true)] | 1 => [(16384, .live 2 [.agg [.sl 9000 0 1, .t (.int .i64 0)]] true true), (9000, .live 1 [.sl 9001 0 16] true false), (9001, .live 1 (((newB 0 : Bank).map bsT).map V.t) true false), (4096, .live 2 [.agg [.nil, .t (.int .i64 0)]] true true)] | _ => [(16384, .live 2 [.agg [.sl 9000 0 2, .t (.int .i64 0)]] true true), (9000, .live 1 [.sl 9001 0 16, .sl 9002 0 16] true false), (9001, .live 1 (((newB 0 : Bank).map bsT).map V.t) true false), (9002, .live 1 (((newB 1 : Bank).map bsT).map V.t) true false), (4096, .live 2 [.agg [.nil, .t (.int .i64 0)]] true true)]) ?_ (fun k hk => ?_)
    · refine Weak.rd id ?_ ?_ rfl
      all_goals simp (disch := omega) only [go_sem, ↓reduceIte, Nat.reduceEqDiff, Nat.reduceBEq, reduceCtorEq, id]
    · rcases (show k = 0 ∨ k = 1 ∨ k = 2 by omega) with rfl | rfl | rfl
      · simp (disch := omega) only [go_sem, ↓reduceIte, Nat.reduceAdd, Nat.reduceEqDiff, Int.reduceLT, reduceCtorEq, ac_registers_New_L0, c0, c1, newB_length, h1, h2, size_eq0, size_eq1, fill_eq20, fill_eq32, hf1, hf2]
        refine loop_upto 16 (fun i => [(0, .t (.int .i64 s)), (2, .ref 4096 0 0), (3, .ref 16384 0 0), (12, .t (.int .i64 0)), (4, .t (.int .i64 0)), (5, .sl 9100 0 i), (6, .t (.int .i64 (i : Nat)))]) (fun i => [(9100, .live 1 ((((newB 0).take i).map bsT).map V.t) true false), (16384, .live 2 [.agg [.nil, .t (.int .i64 0)]] true true), (4096, .live 2 [.agg [.nil, .t (.int .i64 0)]] true true)]) ?_ (fun i hi => ?_)
        · refine Weak.cv0 (hv := [(9100, .live 1 [] true false)]) (ho := [(16384, .live 2 [.agg [.nil, .t (.int .i64 0)]] true true), (4096, .live 2 [.agg [.nil, .t (.int .i64 0)]] true true)]) id ?_ ?_ rfl rfl
          all_goals simp (disch := omega) only [go_sem, ↓reduceIte, Nat.reduceEqDiff, Nat.reduceBEq, reduceCtorEq, List.map_cons, List.map_nil, id]
        · by_cases hlt : i < 16
          · by_cases h12 : i < 12
            · simp (disch := omega) only [go_sem, ↓reduceIte, Nat.reduceAdd, Nat.reduceEqDiff, Nat.reduceLT, Nat.reduceLeDiff, Int.reduceLT, reduceCtorEq, Int.reducePow, ac_registers_New_L1, c0, c1, newB_length, h1, h2, size_eq0, size_eq1, fill_eq20, fill_eq32, hf1, hf2]
              refine ⟨hlt, Weak.cv (hv := []) [61504] (fun j => if j = 9100 then 61536 else j) ?_ rfl⟩
              simp (disch := omega) only [go_sem, ↓reduceIte, Nat.reduceAdd, Nat.reduceEqDiff, Nat.reduceLeDiff, Nat.reduceBEq, reduceCtorEq, newB_take hlt, szA, List.take_replicate, Nat.min_self, newV_a h12]
              rfl
            · simp (disch := omega) only [go_sem, ↓reduceIte, Nat.reduceAdd, Nat.reduceEqDiff, Nat.reduceLT, Nat.reduceLeDiff, Int.reduceLT, reduceCtorEq, Int.reducePow, ac_registers_New_L1, c0, c1, newB_length, h1, h2, size_eq0, size_eq1, fill_eq20, fill_eq32, hf1, hf2]
              refine ⟨hlt, Weak.cv (hv := []) [61504] (fun j => if j = 9100 then 61536 else j) ?_ rfl⟩
              simp (disch := omega) only [go_sem, ↓reduceIte, Nat.reduceAdd, Nat.reduceEqDiff, Nat.reduceLeDiff, Nat.reduceBEq, reduceCtorEq, newB_take hlt, szA, List.take_replicate, Nat.min_self, newV_b h12]
              rfl
          · have e : i = 16 := by omega
            subst e
            simp (disch := omega) only [go_sem, ↓reduceIte, Nat.reduceAdd, Nat.reduceEqDiff, Nat.reduceLT, Nat.reduceLeDiff, Int.reduceLT, Int.reduceAdd, reduceCtorEq, ac_registers_New_L1, c0, c1, newB_length, h1, h2, size_eq0, size_eq1, fill_eq20, fill_eq32, hf1, hf2]
            refine Weak.rd (fun j => if j = 9000 then 65600 else if j = 9001 then 9100 else j) ?_ ?_ rfl
            all_goals simp (disch := omega) only [go_sem, ↓reduceIte, Nat.reduceAdd, Nat.reduceEqDiff, Nat.reduceBEq, reduceCtorEq, newB_all]
      · simp (disch := omega) only [go_sem, ↓reduceIte, Nat.reduceAdd, Nat.reduceEqDiff, Int.reduceLT, reduceCtorEq, ac_registers_New_L0, c0, c1, newB_length, h1, h2, size_eq0, size_eq1, fill_eq20, fill_eq32, hf1, hf2]
        refine loop_upto 16 (fun i => [(0, .t (.int .i64 s)), (2, .ref 4096 0 0), (3, .ref 16384 0 0), (12, .t (.int .i64 1)), (4, .t (.int .i64 1)), (5, .sl 9100 0 i), (6, .t (.int .i64 (i : Nat)))]) (fun i => [(9100, .live 1 ((((newB 1).take i).map bsT).map V.t) true false), (16384, .live 2 [.agg [.sl 9000 0 1, .t (.int .i64 0)]] true true), (9000, .live 1 [.sl 9001 0 16] true false), (9001, .live 1 (((newB 0 : Bank).map bsT).map V.t) true false), (4096, .live 2 [.agg [.nil, .t (.int .i64 0)]] true true)]) ?_ (fun i hi => ?_)
        · refine Weak.cv0 (hv := [(9100, .live 1 [] true false)]) (ho := [(16384, .live 2 [.agg [.sl 9000 0 1, .t (.int .i64 0)]] true true), (9000, .live 1 [.sl 9001 0 16] true false), (9001, .live 1 (((newB 0 : Bank).map bsT).map V.t) true false), (4096, .live 2 [.agg [.nil, .t (.int .i64 0)]] true true)]) id ?_ ?_ rfl rfl
          all_goals simp (disch := omega) only [go_sem, ↓reduceIte, Nat.reduceAdd, Nat.reduceEqDiff, Nat.reduceBEq, reduceCtorEq, List.map_cons, List.map_nil, id]
        · by_cases hlt : i < 16
          · by_cases h12 : i < 12
            · simp (disch := omega) only [go_sem, ↓reduceIte, Nat.reduceAdd, Nat.reduceEqDiff, Nat.reduceLT, Nat.reduceLeDiff, Int.reduceLT, reduceCtorEq, Int.reducePow, ac_registers_New_L1, c0, c1, newB_length, h1, h2, size_eq0, size_eq1, fill_eq20, fill_eq32, hf1, hf2]
              refine ⟨hlt, Weak.cv (hv := []) [61504] (fun j => if j = 9100 then 61536 else j) ?_ rfl⟩
              simp (disch := omega) only [go_sem, ↓reduceIte, Nat.reduceAdd, Nat.reduceEqDiff, Nat.reduceLeDiff, Nat.reduceBEq, reduceCtorEq, newB_take hlt, szA, List.take_replicate, Nat.min_self, newV_a h12]
              rfl
            · simp (disch := omega) only [go_sem, ↓reduceIte, Nat.reduceAdd, Nat.reduceEqDiff, Nat.reduceLT, Nat.reduceLeDiff, Int.reduceLT, reduceCtorEq, Int.reducePow, ac_registers_New_L1, c0, c1, newB_length, h1, h2, size_eq0, size_eq1, fill_eq20, fill_eq32, hf1, hf2]
              refine ⟨hlt, Weak.cv (hv := []) [61504] (fun j => if j = 9100 then 61536 else j) ?_ rfl⟩
              simp (disch := omega) only [go_sem, ↓reduceIte, Nat.reduceAdd, Nat.reduceEqDiff, Nat.reduceLeDiff, Nat.reduceBEq, reduceCtorEq, newB_take hlt, szA, List.take_replicate, Nat.min_self, newV_b h12]
              rfl
          · have e : i = 16 := by omega
            subst e
            simp (disch := omega) only [go_sem, ↓reduceIte, Nat.reduceAdd, Nat.reduceEqDiff, Nat.reduceMul, Nat.reduceLT, Nat.reduceLeDiff, Int.reduceLT, Int.reduceAdd, reduceCtorEq, ac_registers_New_L1, c0, c1, newB_length, h1, h2, size_eq0, size_eq1, fill_eq20, fill_eq32, hf1, hf2]
            refine Weak.rd (fun j => if j = 9000 then 65600 else if j = 9002 then 9100 else j) ?_ ?_ rfl
            all_goals simp (disch := omega) only [go_sem, ↓reduceIte, Nat.reduceAdd, Nat.reduceEqDiff, Nat.reduceBEq, reduceCtorEq, newB_all]
      · simp (disch := omega) only [go_sem, ↓reduceIte, Nat.reduceAdd, Nat.reduceEqDiff, Nat.reduceLeDiff, Nat.reduceBEq, Int.reduceLT, reduceCtorEq, ac_registers_New_L0, c0, c1, newB_length, h1, h2, size_eq0, size_eq1, fill_eq20, fill_eq32, hf1, hf2]
        exact ⟨rfl, rfl⟩
theorem w_ref8_New (tab : Tab) (gl : Gl) (n1 : Nat) (h1 : tab.look n1 = some ct_init.fs) (s : Int) (h3 : ¬ s % 4 = 0) : (ac_ref8_New n1).wp tab gl (zipF 0 [.t (.int .i64 s)]) (zipF 0 []) (resF [] [(2, some (2, true))] 0 (fun r o => r = twR (newBk s) 0 ∧ o = twO (newBk s))) := by
  have h4 : (s % 4 == 0) = false := by simpa using h3
  have hf1 : s.fdiv 1 = s := Int.fdiv_one s
  have hf2 : s.fdiv 2 = s / 2 := Int.fdiv_eq_ediv_of_nonneg s (by omega)
  have hc0 : s % 2 = 0 ∨ s % 2 = 1 := by omega
  have hc1 : s / 2 % 2 = 0 ∨ s / 2 % 2 = 1 := by omega
  rcases hc0 with c0 | c0 <;> rcases hc1 with c1 | c1
  · exact absurd (by omega) h3
  · rw [newBk_of h3, if_neg (by omega), if_pos (by omega)]
    simp (disch := omega) only [go_sem, ↓reduceIte, Nat.reduceAdd, Nat.reduceEqDiff, Nat.reduceLeDiff, reduceCtorEq, ac_ref8_New, h4, hf1, hf2]
    refine loop_upto 2 (fun k => match k with | 0 => [(0, .t (.int .i64 s)), (2, .ref 4096 0 0), (3, .ref 8208 0 0), (4, .t (.int .i64 0))] | 1 => [(0, .t (.int .i64 s)), (2, .ref 4096 0 0), (3, .ref 8208 0 0), (4, .t (.int .i64 1))] | _ => [(0, .t (.int .i64 s)), (2, .ref 4096 0 0), (3, .ref 8208 0 0), (4, .t (.int .i64 2))]) (fun k => match k with | 0 => [(8208, .live 2 [.agg [.nil, .t (.int .i64 0)]] true true), (4096, .live 2 [.agg [.nil, .t (.int .i64 0)]] true true)] | 1 => [(8208, .live 2 [.agg [.sl 9000 0 1, .t (.int .i64 0)]] true true), (9000, .live 1 [.sl 9001 0 0] true false), (9001, .live 1 ((([] : Bank).map bsT).map V.t) true false), (4096, .live 2 [.agg [.nil, .t (.int .i64 0)]] true true)] | _ => [(8208, .live 2 [.agg [.sl 9000 0 2, .t (.int .i64 0)]] true true), (9000, .live 1 [.sl 9001 0 0, .sl 9002 0 16] true false), (9001, .live 1 ((([] : Bank).map bsT).map V.t) true false), (9002, .live 1 (((newB 1 : Bank).map bsT).map V.t) true false), (4096, .live 2 [.agg [.nil, .t (.int .i64 0)]] true true)]) ?_ (fun k hk => ?_)
    · refine Weak.rd id ?_ ?_ rfl
      all_goals simp (disch := omega) only [go_sem, ↓reduceIte, Nat.reduceEqDiff, Nat.reduceBEq, reduceCtorEq, id]
    · rcases (show k = 0 ∨ k = 1 ∨ k = 2 by omega) with rfl | rfl | rfl
      · simp (disch := omega) only [go_sem, ↓reduceIte, Nat.reduceAdd, Nat.reduceEqDiff, Int.reduceLT, reduceCtorEq, ac_ref8_New_L0, c0, c1, newB_length, h1, init_eq0, init_eq1, hf1, hf2]
        refine loop_fuel 1 ?_
        simp (disch := omega) only [go_sem, ↓reduceIte, Nat.reduceAdd, Nat.reduceEqDiff, Nat.reduceLT, Nat.reduceLeDiff, Int.reduceLT, Int.reduceAdd, reduceCtorEq, Int.reducePow, loopN_succ, ac_ref8_New_L1, c0, c1, newB_length, h1, init_eq0, init_eq1, hf1, hf2]
        refine Weak.trans (fs' := [(0, .t (.int .i64 s)), (2, .ref 4096 0 0), (3, .ref 8208 0 0), (4, .t (.int .i64 1))]) (Weak.cv0 (hv := [(9001, .live 1 [] true false)]) (ho := [(8208, .live 2 [.agg [.sl 9000 0 1, .t (.int .i64 0)]] true true), (9000, .live 1 [.sl 9001 0 0] true false), (4096, .live 2 [.agg [.nil, .t (.int .i64 0)]] true true)]) (fun j => if j = 9000 then 53312 else j) ?_ ?_ rfl rfl) (Weak.rd id ?_ ?_ rfl)
        all_goals simp (disch := omega) only [go_sem, ↓reduceIte, Nat.reduceAdd, Nat.reduceEqDiff, Nat.reduceBEq, reduceCtorEq, List.map_cons, List.map_nil, id]
      · simp (disch := omega) only [go_sem, ↓reduceIte, Nat.reduceAdd, Nat.reduceEqDiff, Int.reduceLT, reduceCtorEq, ac_ref8_New_L0, c0, c1, newB_length, h1, init_eq0, init_eq1, hf1, hf2]
        refine loop_upto 16 (fun i => [(0, .t (.int .i64 s)), (2, .ref 4096 0 0), (3, .ref 8208 0 0), (4, .t (.int .i64 1)), (5, .sl 9100 0 i), (6, .t (.int .i64 (i : Nat)))]) (fun i => [(9100, .live 1 ((((newB 1).take i).map bsT).map V.t) true false), (8208, .live 2 [.agg [.sl 9000 0 1, .t (.int .i64 0)]] true true), (9000, .live 1 [.sl 9001 0 0] true false), (9001, .live 1 ((([] : Bank).map bsT).map V.t) true false), (4096, .live 2 [.agg [.nil, .t (.int .i64 0)]] true true)]) ?_ (fun i hi => ?_)
        · refine Weak.cv0 (hv := [(9100, .live 1 [] true false)]) (ho := [(8208, .live 2 [.agg [.sl 9000 0 1, .t (.int .i64 0)]] true true), (9000, .live 1 [.sl 9001 0 0] true false), (9001, .live 1 ((([] : Bank).map bsT).map V.t) true false), (4096, .live 2 [.agg [.nil, .t (.int .i64 0)]] true true)]) id ?_ ?_ rfl rfl
          all_goals simp (disch := omega) only [go_sem, ↓reduceIte, Nat.reduceAdd, Nat.reduceEqDiff, Nat.reduceBEq, reduceCtorEq, List.map_cons, List.map_nil, id]
        · by_cases hlt : i < 16
          · simp (disch := omega) only [go_sem, ↓reduceIte, Nat.reduceAdd, Nat.reduceEqDiff, Nat.reduceLT, Nat.reduceLeDiff, Int.reduceLT, reduceCtorEq, Int.reducePow, ac_ref8_New_L1, c0, c1, newB_length, h1, init_eq0, init_eq1, hf1, hf2]
            refine ⟨hlt, Weak.cv (hv := []) [49200] (fun j => if j = 9100 then 49232 else j) ?_ rfl⟩
            simp (disch := omega) only [go_sem, ↓reduceIte, Nat.reduceAdd, Nat.reduceEqDiff, Nat.reduceLeDiff, Nat.reduceBEq, reduceCtorEq, newB_take hlt, szA, List.take_replicate, Nat.min_self]
            rfl
          · have e : i = 16 := by omega
            subst e
            simp (disch := omega) only [go_sem, ↓reduceIte, Nat.reduceAdd, Nat.reduceEqDiff, Nat.reduceMul, Nat.reduceLT, Nat.reduceLeDiff, Int.reduceLT, Int.reduceAdd, reduceCtorEq, ac_ref8_New_L1, c0, c1, newB_length, h1, init_eq0, init_eq1, hf1, hf2]
            refine Weak.rd (fun j => if j = 9000 then 53312 else if j = 9002 then 9100 else j) ?_ ?_ rfl
            all_goals simp (disch := omega) only [go_sem, ↓reduceIte, Nat.reduceAdd, Nat.reduceEqDiff, Nat.reduceBEq, reduceCtorEq, newB_all]
      · simp (disch := omega) only [go_sem, ↓reduceIte, Nat.reduceAdd, Nat.reduceEqDiff, Nat.reduceLeDiff, Nat.reduceBEq, Int.reduceLT, reduceCtorEq, ac_ref8_New_L0, c0, c1, newB_length, h1, init_eq0, init_eq1, hf1, hf2]
        exact ⟨rfl, rfl⟩
  · rw [newBk_of h3, if_pos (by omega), if_neg (by omega)]
    simp (disch := omega) only [go_sem, ↓reduceIte, Nat.reduceAdd, Nat.reduceEqDiff, Nat.reduceLeDiff, reduceCtorEq, ac_ref8_New, h4, hf1, hf2]
    refine loop_upto 2 (fun k => match k with | 0 => [(0, .t (.int .i64 s)), (2, .ref 4096 0 0), (3, .ref 8208 0 0), (4, .t (.int .i64 0))] | 1 => [(0, .t (.int .i64 s)), (2, .ref 4096 0 0), (3, .ref 8208 0 0), (4, .t (.int .i64 1))] | _ => [(0, .t (.int .i64 s)), (2, .ref 4096 0 0), (3, .ref 8208 0 0), (4, .t (.int .i64 2))]) (fun k => match k with | 0 => [(8208, .live 2 [.agg [.nil, .t (.int .i64 0)]] true true), (4096, .live 2 [.agg [.nil, .t (.int .i64 0)]] true true)] | 1 => [(8208, .live 2 [.agg [.sl 9000 0 1, .t (.int .i64 0)]] true true), (9000, .live 1 [.sl 9001 0 16] true false), (9001, .live 1 (((newB 0 : Bank).map bsT).map V.t) true false), (4096, .live 2 [.agg [.nil, .t (.int .i64 0)]] true true)] | _ => [(8208, .live 2 [.agg [.sl 9000 0 2, .t (.int .i64 0)]] true true), (9000, .live 1 [.sl 9001 0 16, .sl 9002 0 0] true false), (9001, .live 1 (((newB 0 : Bank).map bsT).map V.t) true false), (9002, .live 1 ((([] : Bank).map bsT).map V.t) true false), (4096, .live 2 [.agg [.nil, .t (.int .i64 0)]] true true)]) ?_ (fun k hk => ?_)
    · refine Weak.rd id ?_ ?_ rfl
      all_goals simp (disch := omega) only [go_sem, ↓reduceIte, Nat.reduceEqDiff, Nat.reduceBEq, reduceCtorEq, id]
    · rcases (show k = 0 ∨ k = 1 ∨ k = 2 by omega) with rfl | rfl | rfl
      · simp (disch := omega) only [go_sem, ↓reduceIte, Nat.reduceAdd, Nat.reduceEqDiff, Int.reduceLT, reduceCtorEq, ac_ref8_New_L0, c0, c1, newB_length, h1, init_eq0, init_eq1, hf1, hf2]
        refine loop_upto 16 (fun i => [(0, .t (.int .i64 s)), (2, .ref 4096 0 0), (3, .ref 8208 0 0), (4, .t (.int .i64 0)), (5, .sl 9100 0 i), (6, .t (.int .i64 (i : Nat)))]) (fun i => [(9100, .live 1 ((((newB 0).take i).map bsT).map V.t) true false), (8208, .live 2 [.agg [.nil, .t (.int .i64 0)]] true true), (4096, .live 2 [.agg [.nil, .t (.int .i64 0)]] true true)]) ?_ (fun i hi => ?_)
        · refine Weak.cv0 (hv := [(9100, .live 1 [] true false)]) (ho := [(8208, .live 2 [.agg [.nil, .t (.int .i64 0)]] true true), (4096, .live 2 [.agg [.nil, .t (.int .i64 0)]] true true)]) id ?_ ?_ rfl rfl
          all_goals simp (disch := omega) only [go_sem, ↓reduceIte, Nat.reduceEqDiff, Nat.reduceBEq, reduceCtorEq, List.map_cons, List.map_nil, id]
        · by_cases hlt : i < 16
          · simp (disch := omega) only [go_sem, ↓reduceIte, Nat.reduceAdd, Nat.reduceEqDiff, Nat.reduceLT, Nat.reduceLeDiff, Int.reduceLT, reduceCtorEq, Int.reducePow, ac_ref8_New_L1, c0, c1, newB_length, h1, init_eq0, init_eq1, hf1, hf2]
            refine ⟨hlt, Weak.cv (hv := []) [49200] (fun j => if j = 9100 then 49232 else j) ?_ rfl⟩
            simp (disch := omega) only [go_sem, ↓reduceIte, Nat.reduceAdd, Nat.reduceEqDiff, Nat.reduceLeDiff, Nat.reduceBEq, reduceCtorEq, newB_take hlt, szA, List.take_replicate, Nat.min_self]
            rfl
          · have e : i = 16 := by omega
            subst e
            simp (disch := omega) only [go_sem, ↓reduceIte, Nat.reduceAdd, Nat.reduceEqDiff, Nat.reduceLT, Nat.reduceLeDiff, Int.reduceLT, Int.reduceAdd, reduceCtorEq, ac_ref8_New_L1, c0, c1, newB_length, h1, init_eq0, init_eq1, hf1, hf2]
            refine Weak.rd (fun j => if j = 9000 then 53312 else if j = 9001 then 9100 else j) ?_ ?_ rfl
            all_goals simp (disch := omega) only [go_sem, ↓reduceIte, Nat.reduceAdd, Nat.reduceEqDiff, Nat.reduceBEq, reduceCtorEq, newB_all]
      · simp (disch := omega) only [go_sem, ↓reduceIte, Nat.reduceAdd, Nat.reduceEqDiff, Int.reduceLT, reduceCtorEq, ac_ref8_New_L0, c0, c1, newB_length, h1, init_eq0, init_eq1, hf1, hf2]
        refine loop_fuel 1 ?_
        simp (disch := omega) only [go_sem, ↓reduceIte, Nat.reduceAdd, Nat.reduceEqDiff, Nat.reduceMul, Nat.reduceLT, Nat.reduceLeDiff, Int.reduceLT, Int.reduceAdd, reduceCtorEq, Int.reducePow, loopN_succ, ac_ref8_New_L1, c0, c1, newB_length, h1, init_eq0, init_eq1, hf1, hf2]
        refine Weak.trans (fs' := [(0, .t (.int .i64 s)), (2, .ref 4096 0 0), (3, .ref 8208 0 0), (4, .t (.int .i64 2))]) (Weak.cv0 (hv := [(9002, .live 1 [] true false)]) (ho := [(8208, .live 2 [.agg [.sl 9000 0 2, .t (.int .i64 0)]] true true), (9000, .live 1 [.sl 9001 0 16, .sl 9002 0 0] true false), (9001, .live 1 (((newB 0 : Bank).map bsT).map V.t) true false), (4096, .live 2 [.agg [.nil, .t (.int .i64 0)]] true true)]) (fun j => if j = 9000 then 53312 else j) ?_ ?_ rfl rfl) (Weak.rd id ?_ ?_ rfl)
        all_goals simp (disch := omega) only [go_sem, ↓reduceIte, Nat.reduceAdd, Nat.reduceEqDiff, Nat.reduceBEq, reduceCtorEq, List.map_cons, List.map_nil, id]
      · simp (disch := omega) only [go_sem, ↓reduceIte, Nat.reduceAdd, Nat.reduceEqDiff, Nat.reduceLeDiff, Nat.reduceBEq, Int.reduceLT, reduceCtorEq, ac_ref8_New_L0, c0, c1, newB_length, h1, init_eq0, init_eq1, hf1, hf2]
        exact ⟨rfl, rfl⟩
  · rw [newBk_of h3, if_pos (by omega), if_pos (by omega)]
    simp (disch := omega) only [go_sem, ↓reduceIte, Nat.reduceAdd, Nat.reduceEqDiff, Nat.reduceLeDiff, reduceCtorEq, ac_ref8_New, h4, hf1, hf2]
    refine loop_upto 2 (fun k => match k with | 0 => [(0, .t (.int .i64 s)), (2, .ref 4096 0 0), (3, .ref 8208 0 0), (4, .t (.int .i64 0))] | 1 => [(0, .t (.int .i64 s)), (2, .ref 4096 0 0), (3, .ref 8208 0 0), (4, .t (.int .i64 1))] | _ => [(0, .t (.int .i64 s)), (2, .ref 4096 0 0), (3, .ref 8208 0 0), (4, .t (.int .i64 2))]) (fun k => match k with | 0 => [(8208, .live 2 [.agg [.nil, .t (.int .i64 0)]] true true), (4096, .live 2 [.agg [.nil, .t (.int .i64 0)]] true true)] | 1 => [(8208, .live 2 [.agg [.sl 9000 0 1, .t (.int .i64 0)]] true true), (9000, .live 1 [.sl 9001 0 16] true false), (9001, .live 1 (((newB 0 : Bank).map bsT).map V.t) true false), (4096, .live 2 [.agg [.nil, .t (.int .i64 0)]] true true)] | _ => [(8208, .live 2 [.agg [.sl 9000 0 2, .t (.int .i64 0)]] true true), (9000, .live 1 [.sl 9001 0 16, .sl 9002 0 16] true false), (9001, .live 1 (((newB 0 : Bank).map bsT).map V.t) true false), (9002, .live 1 (((newB 1 : Bank).map bsT).map V.t) true false), (4096, .live 2 [.agg [.nil, .t (.int .i64 0)]] true true)]) ?_ (fun k hk => ?_)
    · refine Weak.rd id ?_ ?_ rfl
      all_goals simp (disch := omega) only [go_sem, ↓reduceIte, Nat.reduceEqDiff, Nat.reduceBEq, reduceCtorEq, id]
    · rcases (show k = 0 ∨ k = 1 ∨ k = 2 by omega) with rfl | rfl | rfl
      · simp (disch := omega) only [go_sem, ↓reduceIte, Nat.reduceAdd, Nat.reduceEqDiff, Int.reduceLT, reduceCtorEq, ac_ref8_New_L0, c0, c1, newB_length, h1, init_eq0, init_eq1, hf1, hf2]
        refine loop_upto 16 (fun i => [(0, .t (.int .i64 s)), (2, .ref 4096 0 0), (3, .ref 8208 0 0), (4, .t (.int .i64 0)), (5, .sl 9100 0 i), (6, .t (.int .i64 (i : Nat)))]) (fun i => [(9100, .live 1 ((((newB 0).take i).map bsT).map V.t) true false), (8208, .live 2 [.agg [.nil, .t (.int .i64 0)]] true true), (4096, .live 2 [.agg [.nil, .t (.int .i64 0)]] true true)]) ?_ (fun i hi => ?_)
        · refine Weak.cv0 (hv := [(9100, .live 1 [] true false)]) (ho := [(8208, .live 2 [.agg [.nil, .t (.int .i64 0)]] true true), (4096, .live 2 [.agg [.nil, .t (.int .i64 0)]] true true)]) id ?_ ?_ rfl rfl
          all_goals simp (disch := omega) only [go_sem, ↓reduceIte, Nat.reduceEqDiff, Nat.reduceBEq, reduceCtorEq, List.map_cons, List.map_nil, id]
        · by_cases hlt : i < 16
          · simp (disch := omega) only [go_sem, ↓reduceIte, Nat.reduceAdd, Nat.reduceEqDiff, Nat.reduceLT, Nat.reduceLeDiff, Int.reduceLT, reduceCtorEq, Int.reducePow, ac_ref8_New_L1, c0, c1, newB_length, h1, init_eq0, init_eq1, hf1, hf2]
            refine ⟨hlt, Weak.cv (hv := []) [49200] (fun j => if j = 9100 then 49232 else j) ?_ rfl⟩
            simp (disch := omega) only [go_sem, ↓reduceIte, Nat.reduceAdd, Nat.reduceEqDiff, Nat.reduceLeDiff, Nat.reduceBEq, reduceCtorEq, newB_take hlt, szA, List.take_replicate, Nat.min_self]
            rfl
          · have e : i = 16 := by omega
            subst e
            simp (disch := omega) only [go_sem, ↓reduceIte, Nat.reduceAdd, Nat.reduceEqDiff, Nat.reduceLT, Nat.reduceLeDiff, Int.reduceLT, Int.reduceAdd, reduceCtorEq, ac_ref8_New_L1, c0, c1, newB_length, h1, init_eq0, init_eq1, hf1, hf2]
            refine Weak.rd (fun j => if j = 9000 then 53312 else if j = 9001 then 9100 else j) ?_ ?_ rfl
            all_goals simp (disch := omega) only [go_sem, ↓reduceIte, Nat.reduceAdd, Nat.reduceEqDiff, Nat.reduceBEq, reduceCtorEq, newB_all]
      · simp (disch := omega) only [go_sem, ↓reduceIte, Nat.reduceAdd, Nat.reduceEqDiff, Int.reduceLT, reduceCtorEq, ac_ref8_New_L0, c0, c1, newB_length, h1, init_eq0, init_eq1, hf1, hf2]
        refine loop_upto 16 (fun i => [(0, .t (.int .i64 s)), (2, .ref 4096 0 0), (3, .ref 8208 0 0), (4, .t (.int .i64 1)), (5, .sl 9100 0 i), (6, .t (.int .i64 (i : Nat)))]) (fun i => [(9100, .live 1 ((((newB 1).take i).map bsT).map V.t) true false), (8208, .live 2 [.agg [.sl 9000 0 1, .t (.int .i64 0)]] true true), (9000, .live 1 [.sl 9001 0 16] true false), (9001, .live 1 (((newB 0 : Bank).map bsT).map V.t) true false), (4096, .live 2 [.agg [.nil, .t (.int .i64 0)]] true true)]) ?_ (fun i hi => ?_)
        · refine Weak.cv0 (hv := [(9100, .live 1 [] true false)]) (ho := [(8208, .live 2 [.agg [.sl 9000 0 1, .t (.int .i64 0)]] true true), (9000, .live 1 [.sl 9001 0 16] true false), (9001, .live 1 (((newB 0 : Bank).map bsT).map V.t) true false), (4096, .live 2 [.agg [.nil, .t (.int .i64 0)]] true true)]) id ?_ ?_ rfl rfl
          all_goals simp (disch := omega) only [go_sem, ↓reduceIte, Nat.reduceAdd, Nat.reduceEqDiff, Nat.reduceBEq, reduceCtorEq, List.map_cons, List.map_nil, id]
        · by_cases hlt : i < 16
          · simp (disch := omega) only [go_sem, ↓reduceIte, Nat.reduceAdd, Nat.reduceEqDiff, Nat.reduceLT, Nat.reduceLeDiff, Int.reduceLT, reduceCtorEq, Int.reducePow, ac_ref8_New_L1, c0, c1, newB_length, h1, init_eq0, init_eq1, hf1, hf2]
            refine ⟨hlt, Weak.cv (hv := []) [49200] (fun j => if j = 9100 then 49232 else j) ?_ rfl⟩
            simp (disch := omega) only [go_sem, ↓reduceIte, Nat.reduceAdd, Nat.reduceEqDiff, Nat.reduceLeDiff, Nat.reduceBEq, reduceCtorEq, newB_take hlt, szA, List.take_replicate, Nat.min_self]
            rfl
          · have e : i = 16 := by omega
            subst e
            simp (disch := omega) only [go_sem, ↓reduceIte, Nat.reduceAdd, Nat.reduceEqDiff, Nat.reduceMul, Nat.reduceLT, Nat.reduceLeDiff, Int.reduceLT, Int.reduceAdd, reduceCtorEq, ac_ref8_New_L1, c0, c1, newB_length, h1, init_eq0, init_eq1, hf1, hf2]
            refine Weak.rd (fun j => if j = 9000 then 53312 else if j = 9002 then 9100 else j) ?_ ?_ rfl
            all_goals simp (disch := omega) only [go_sem, ↓reduceIte, Nat.reduceAdd, Nat.reduceEqDiff, Nat.reduceBEq, reduceCtorEq, newB_all]
      · simp (disch := omega) only [go_sem, ↓reduceIte, Nat.reduceAdd, Nat.reduceEqDiff, Nat.reduceLeDiff, Nat.reduceBEq, Int.reduceLT, reduceCtorEq, ac_ref8_New_L0, c0, c1, newB_length, h1, init_eq0, init_eq1, hf1, hf2]
        exact ⟨rfl, rfl⟩
end Go.Eng
end
section
set_option maxRecDepth 20000
set_option maxHeartbeats 16000000
namespace Go.Eng
def ct_index : Ct where
  α := Int
  as x := [.t (.int .i64 x)]
  ins _ := []
  pre _ := True
  r x := .t (.bool (decide ((0 : Int) ≤ x ∧ x < (16 : Int))))
  outs _ := []
  inj := by
    intro a b h _
    simp at h
    subst h; exact ⟨rfl, rfl⟩
theorem index_t {i : Int} (h : 0 ≤ i ∧ i < 16) : ct_index.fs [.t (.int .i64 i)] [] = some (.t (.bool true), []) := by
  refine (ct_index.eq i trivial).trans ?_
  simp [ct_index, h]
theorem index_f {i : Int} (h : ¬ (0 ≤ i ∧ i < 16)) : ct_index.fs [.t (.int .i64 i)] [] = some (.t (.bool false), []) := by
  refine (ct_index.eq i trivial).trans ?_
  simp only [ct_index, decide_eq_false h]
def ct_on : Ct where
  α := List Bank × Int × Nat
  as x := [.t (regT x.1 x.2.1), .t (.int .i64 x.2.2)]
  ins _ := []
  pre x := RK x.1 ∧ x.2.2 < 2
  r x := .t (.bool (onB x.1 x.2.2))
  outs _ := []
  inj := by
    rintro ⟨a, u, i⟩ ⟨b, v, j⟩ h _
    simp only [List.cons.injEq, V.t.injEq, T.int.injEq, true_and, and_true, Int.natCast_inj] at h
    obtain ⟨h1, rfl⟩ := h
    obtain ⟨rfl, rfl⟩ := regT_inj h1
    exact ⟨rfl, rfl⟩
theorem on_eq {bk : List Bank} {u : Int} {a : Nat} (hk : RK bk) (h : a < 2) : ct_on.fs [.t (.agg [.sl (bk.map bankT), .int .i64 u]), .t (.int .i64 a)] [] = some (.t (.bool (onB bk a)), []) := ct_on.eq (bk, u, a) ⟨hk, h⟩
theorem on_eq0 {b0 b1 : Bank} {u : Int} (hk : RK [b0, b1]) : ct_on.fs [.t (.agg [.sl [.sl (b0.map bsT), .sl (b1.map bsT)], .int .i64 u]), .t (.int .i64 0)] [] = some (.t (.bool (decide (b0.length = 16))), []) := ct_on.eq ([b0, b1], u, 0) ⟨hk, by show 0 < 2; omega⟩
theorem on_eq1 {b0 b1 : Bank} {u : Int} (hk : RK [b0, b1]) : ct_on.fs [.t (.agg [.sl [.sl (b0.map bsT), .sl (b1.map bsT)], .int .i64 u]), .t (.int .i64 1)] [] = some (.t (.bool (decide (b1.length = 16))), []) := ct_on.eq ([b0, b1], u, 1) ⟨hk, by show 1 < 2; omega⟩
theorem on_eqn {u : Int} {a : Nat} (h : a < 2) : ct_on.fs [.t (.agg [.sl [], .int .i64 u]), .t (.int .i64 a)] [] = some (.t (.bool false), []) := by
  refine (ct_on.eq ([], u, a) ⟨.nil, h⟩).trans ?_
  simp [ct_on, onB]
def ct_actv : Ct where
  α := List Bank × Int × Nat
  as x := [.t (regT x.1 x.2.1), .t (.int .i64 x.2.2)]
  ins _ := []
  pre x := RK x.1 ∧ x.2.2 < 1000000000
  r x := .t (.bool (actB x.1 x.2.2))
  outs _ := []
  inj := by
    rintro ⟨a, u, i⟩ ⟨b, v, j⟩ h _
    simp only [List.cons.injEq, V.t.injEq, T.int.injEq, true_and, and_true, Int.natCast_inj] at h
    obtain ⟨h1, rfl⟩ := h
    obtain ⟨rfl, rfl⟩ := regT_inj h1
    exact ⟨rfl, rfl⟩
theorem RK.on {bk : List Bank} (h : RK bk) (a : Nat) : actB bk a = onB bk a := by
  cases h with
  | nil => simp [actB, onB]
  | two b0 b1 h0 h1 =>
    have key : ∀ b : Bank, bkOk b → decide (0 < List.length b) = decide (List.length b = 16) := by
      intro b hb
      rcases hb with h | h <;> simp [h]
    match a with
    | 0 => simpa [actB, onB] using key b0 h0
    | 1 => simpa [actB, onB] using key b1 h1
    | a + 2 => simp [actB, onB]
theorem actv_eq {bk : List Bank} {u : Int} {a : Nat} (hk : RK bk) (h : a < 1000000000) : ct_actv.fs [.t (.agg [.sl (bk.map bankT), .int .i64 u]), .t (.int .i64 a)] [] = some (.t (.bool (onB bk a)), []) := by
  refine (ct_actv.eq (bk, u, a) ⟨hk, h⟩).trans ?_
  simp only [ct_actv, hk.on]
theorem actv_eq0 {b0 b1 : Bank} {u : Int} (hk : RK [b0, b1]) : ct_actv.fs [.t (.agg [.sl [.sl (b0.map bsT), .sl (b1.map bsT)], .int .i64 u]), .t (.int .i64 0)] [] = some (.t (.bool (decide (b0.length = 16))), []) := by
  refine (ct_actv.eq ([b0, b1], u, 0) ⟨hk, by show 0 < 1000000000; omega⟩).trans ?_
  simp only [ct_actv, hk.on]; rfl
theorem actv_eq1 {b0 b1 : Bank} {u : Int} (hk : RK [b0, b1]) : ct_actv.fs [.t (.agg [.sl [.sl (b0.map bsT), .sl (b1.map bsT)], .int .i64 u]), .t (.int .i64 1)] [] = some (.t (.bool (decide (b1.length = 16))), []) := by
  refine (ct_actv.eq ([b0, b1], u, 1) ⟨hk, by show 1 < 1000000000; omega⟩).trans ?_
  simp only [ct_actv, hk.on]; rfl
def valL (bk : List Bank) (a i : Nat) : List UInt8 := (bk.getD a []).getD i []
def badR (bank i : Int) : Prop := bank < 0 ∨ 2 ≤ bank ∨ i < 0 ∨ 16 ≤ i
instance (bank i : Int) : Decidable (badR bank i) := by unfold badR; infer_instance
def valR (bk : List Bank) (bank i : Int) : V := if badR bank i then .tup [.nil, .t (.int .i64 1)] else if onB bk bank.toNat then .tup [.sl 0 0 (valL bk bank.toNat i.toNat).length, .t (.int .i64 0)] else .tup [.nil, .t (.int .i64 27)]
def valO (bk : List Bank) (bank i : Int) : List Ob := if badR bank i then [] else if onB bk bank.toNat then [.live 1 (((valL bk bank.toNat i.toNat).map byteT).map V.t) true false] else []
theorem RM.val {bk : List Bank} (h : RM bk) (a i : Nat) : (valL bk a i).length < 1000000000 := by
  by_cases ha : a < bk.length
  · have e : bk.getD a [] = bk[a] := by simp [List.getD, ha]
    unfold valL
    rw [e]
    exact modL_get (h.2 _ (List.getElem_mem ha)) i
  · have e : bk.getD a [] = [] := by simp [List.getD, List.getElem?_eq_none (Nat.le_of_not_lt ha)]
    unfold valL
    rw [e]; simp
theorem RK.len {bk : List Bank} (h : RK bk) {a : Nat} (ho : onB bk a = true) : a < bk.length := by
  simp only [onB, decide_eq_true_eq] at ho
  rcases Nat.lt_or_ge a bk.length with h1 | h1
  · exact h1
  · rw [List.getD, List.getElem?_eq_none h1] at ho; simp at ho
theorem w_registers_Value (tab : Tab) (gl : Gl) (n1 n2 : Nat) (h1 : tab.look n1 = some ct_index.fs) (h2 : tab.look n2 = some ct_on.fs) (bk : List Bank) (u bank i : Int) (hk : RM bk) :
    (ac_registers_Value n1 n2).wp tab gl (zipF 0 [.t (regT bk u), .t (.int .i64 bank), .t (.int .i64 i)]) (zipF 0 []) (resF [] [(6, none), (7, none)] 0 (fun r o => r = valR bk bank i ∧ o = valO bk bank i)) := by
  by_cases hb : badR bank i
  · rw [valR, valO, if_pos hb, if_pos hb]
    by_cases b1 : bank < 0
    · simp (disch := omega) only [go_sem, ↓reduceIte, Nat.reduceAdd, Nat.reduceEqDiff, reduceCtorEq, ac_registers_Value, b1]
    · by_cases b2 : 2 ≤ bank
      · simp (disch := omega) only [go_sem, ↓reduceIte, Nat.reduceAdd, Nat.reduceEqDiff, reduceCtorEq, ac_registers_Value, b1]
      · have hi : ¬ (0 ≤ i ∧ i < 16) := by unfold badR at hb; omega
        simp (disch := omega) only [go_sem, ↓reduceIte, Nat.reduceAdd, Nat.reduceEqDiff, Nat.reduceLeDiff, reduceCtorEq, ac_registers_Value, b1, h1, index_f]
  · rw [valR, valO, if_neg hb, if_neg hb]
    unfold badR at hb
    obtain ⟨a, rfl⟩ := Int.eq_ofNat_of_zero_le (show 0 ≤ bank by omega)
    obtain ⟨k, rfl⟩ := Int.eq_ofNat_of_zero_le (show 0 ≤ i by omega)
    have hon := on_eq (u := u) (a := a) hk.1 (by omega)
    by_cases ho : onB bk a = true
    · have hl := hk.1.len ho
      have hv := hk.val a k
      have hl2 : (bk.getD a []).length = 16 := by simpa [onB] using ho
      rw [ho] at hon
      unfold valL at hv
      simp (disch := omega) only [go_sem, ↓reduceIte, Nat.reduceAdd, Nat.reduceEqDiff, Nat.reduceLeDiff, reduceCtorEq, ac_registers_Value, h1, h2, index_t, hon, ho, valL]
    · have ho' : onB bk a = false := by simpa using ho
      rw [ho'] at hon
      simp (disch := omega) only [go_sem, ↓reduceIte, Nat.reduceAdd, Nat.reduceEqDiff, Nat.reduceLeDiff, reduceCtorEq, ac_registers_Value, h1, h2, index_t, hon, ho']
end Go.Eng
end
section
set_option maxRecDepth 20000
set_option maxHeartbeats 16000000
namespace Go.Eng
def ct_least : Ct where
  α := Int × Bool
  as x := [.t (.int .i64 x.1), .t (.bool x.2)]
  ins _ := []
  pre _ := True
  r x := .t (.int .i64 (leastI x.1 x.2))
  outs _ := []
  inj := by
    rintro ⟨a, b⟩ ⟨c, d⟩ h _
    simp at h
    obtain ⟨rfl, rfl⟩ := h; exact ⟨rfl, rfl⟩
theorem least_eq {i : Int} {rs : Bool} : ct_least.fs [.t (.int .i64 i), .t (.bool rs)] [] = some (.t (.int .i64 (leastI i rs)), []) := ct_least.eq (i, rs) trivial
def ct_rleast : Ct where
  α := Int × Bool
  as x := [.t (.int .i64 x.1), .t (.bool x.2)]
  ins _ := []
  pre _ := True
  r x := .t (.int .i64 (if leastI x.1 x.2 = 5 then -1 else leastI x.1 x.2))
  outs _ := []
  inj := by
    rintro ⟨a, b⟩ ⟨c, d⟩ h _
    simp at h
    obtain ⟨rfl, rfl⟩ := h; exact ⟨rfl, rfl⟩
theorem rleast_eq {i : Int} {rs : Bool} : ct_rleast.fs [.t (.int .i64 i), .t (.bool rs)] [] = some (.t (.int .i64 (if leastI i rs = 5 then -1 else leastI i rs)), []) := ct_rleast.eq (i, rs) trivial
def rstE (loc i : Int) : Int := if loc < 0 ∨ 4 < loc ∨ i < 0 ∨ 16 ≤ i then 1 else if loc < leastI i true then 13 else 0
def rst1 (a : Nat) (b : Bank) (i : Nat) : Bank := if List.length b = 16 then b.set i (List.replicate (szA a) 0) else b
def rstBk (bk : List Bank) (i : Nat) : List Bank := match bk with
  | [b0, b1] => [rst1 0 b0 i, rst1 1 b1 i]
  | bk => bk
def rstR (bk : List Bank) (u loc i : Int) : V := if rstE loc i = 0 then .tup [.t (regT (rstBk bk i.toNat) (u + 1)), .t (.int .i64 0)] else .tup [.t (regT [] 0), .t (.int .i64 (rstE loc i))]
theorem rst1_length {a : Nat} {b : Bank} {i : Nat} : List.length (rst1 a b i) = List.length b := by
  unfold rst1; split <;> simp
theorem w_ref8_Reset_err (tab : Tab) (gl : Gl) (n1 n2 n3 n4 n5 : Nat) (h1 : tab.look n1 = some ct_rleast.fs) (bk : List Bank) (u loc i : Int) (he : rstE loc i ≠ 0) : (ac_ref8_Reset n1 n2 n3 n4 n5).wp tab gl (zipF 0 [.t (regT bk u), .t (.int .i64 loc), .t (.int .i64 i)]) (zipF 0 []) (resW [(6, some (2, true)), (7, none)] 0 (fun r o => r = .tup [.t (regT [] 0), .t (.int .i64 (rstE loc i))] ∧ o = [])) := by
  unfold rstE at he ⊢
  by_cases a1 : loc < 0
  · simp (disch := omega) only [go_sem, ↓reduceIte, Nat.reduceAdd, Nat.reduceEqDiff, Nat.reduceLeDiff, reduceCtorEq, ac_ref8_Reset, a1, List.map_nil]
  · by_cases a2 : 4 < loc
    · simp (disch := omega) only [go_sem, ↓reduceIte, Nat.reduceAdd, Nat.reduceEqDiff, Nat.reduceLeDiff, reduceCtorEq, ac_ref8_Reset, a1, a2, List.map_nil]
    · by_cases a3 : i < 0
      · simp (disch := omega) only [go_sem, ↓reduceIte, Nat.reduceAdd, Nat.reduceEqDiff, Nat.reduceLeDiff, reduceCtorEq, ac_ref8_Reset, a1, a2, a3, List.map_nil]
      · by_cases a4 : 16 ≤ i
        · simp (disch := omega) only [go_sem, ↓reduceIte, Nat.reduceAdd, Nat.reduceEqDiff, Nat.reduceLeDiff, reduceCtorEq, ac_ref8_Reset, a1, a2, a3, a4, List.map_nil]
        · by_cases a5 : loc < leastI i true
          · by_cases a6 : leastI i true = 5
            · have a8 : loc < 5 := by omega
              simp (disch := omega) only [go_sem, ↓reduceIte, Nat.reduceAdd, Nat.reduceEqDiff, Nat.reduceLeDiff, Int.reduceLT, Int.reduceNeg, reduceCtorEq, ac_ref8_Reset, a1, a2, a3, a4, a6, a8, h1, rleast_eq, List.map_nil]
            · have a7 : 0 ≤ leastI i true := by unfold leastI; split <;> (try split) <;> (try split) <;> (try split) <;> omega
              simp (disch := omega) only [go_sem, ↓reduceIte, Nat.reduceAdd, Nat.reduceEqDiff, Nat.reduceLeDiff, reduceCtorEq, ac_ref8_Reset, a1, a2, a3, a4, a5, a6, h1, rleast_eq, List.map_nil]
          · simp [a1, a2, a3, a4, a5] at he
theorem w_ref8_Reset0 (tab : Tab) (gl : Gl) (n1 n2 n3 n4 n5 : Nat) (h1 : tab.look n1 = some ct_rleast.fs) (h3 : tab.look n2 = some ct_twin.fs) (h4 : tab.look n3 = some ct_actv.fs) (u loc i : Int) (hu : 0 ≤ u ∧ u < 1000000000) (he : rstE loc i = 0) : (ac_ref8_Reset n1 n2 n3 n4 n5).wp tab gl (zipF 0 [.t (regT [] u), .t (.int .i64 loc), .t (.int .i64 i)]) (zipF 0 []) (resW [(6, some (2, true)), (7, none)] 0 (fun r o => r = .tup [.t (regT [] (u + 1)), .t (.int .i64 0)] ∧ o = [])) := by
  have c0 : ∀ a : Nat, a < 2 → ct_actv.fs [.t (.agg [.sl [], .int .i64 u]), .t (.int .i64 a)] [] = some (.t (.bool false), []) := fun a ha => (actv_eq (bk := []) .nil (by omega)).trans (by simp [onB])
  have c1 := c0 0 (by omega)
  have c2 := c0 1 (by omega)
  rw [show ((0 : Nat) : Int) = 0 from rfl] at c1
  rw [show ((1 : Nat) : Int) = 1 from rfl] at c2
  unfold rstE at he
  split at he
  · omega
  · split at he
    · omega
    · rename_i e1 e2
      have a7 : 0 ≤ leastI i true := by unfold leastI; split <;> (try split) <;> (try split) <;> (try split) <;> omega
      have a6 : ¬ leastI i true = 5 := by omega
      simp (disch := omega) only [go_sem, ↓reduceIte, Nat.reduceAdd, Nat.reduceEqDiff, Nat.reduceLeDiff, reduceCtorEq, ac_ref8_Reset, h1, rleast_eq, h3, twin_eq0, List.map_nil, a6]
      refine loop_fuel 3 ?_
      simp (disch := omega) only [go_sem, ↓reduceIte, Nat.reduceAdd, Nat.reduceEqDiff, Nat.reduceLeDiff, Int.reduceLT, Int.reduceAdd, reduceCtorEq, loopN_succ, ac_ref8_Reset_L0, h4, c1, c2]
theorem w_ref8_Reset2 (tab : Tab) (gl : Gl) (n1 n2 n3 n4 n5 : Nat) (h1 : tab.look n1 = some ct_rleast.fs) (h3 : tab.look n2 = some ct_twin.fs) (h4 : tab.look n3 = some ct_actv.fs) (h5 : tab.look n4 = some ct_size.fs) (h6 : tab.look n5 = some ct_fill.fs) (b0 b1 : Bank) (u loc i : Int) (hu : 0 ≤ u ∧ u < 1000000000) (hk : RM [b0, b1]) (he : rstE loc i = 0) :
    (ac_ref8_Reset n1 n2 n3 n4 n5).wp tab gl (zipF 0 [.t (regT [b0, b1] u), .t (.int .i64 loc), .t (.int .i64 i)]) (zipF 0 []) (resW [(6, some (2, true)), (7, none)] 0 (fun r o => r = .tup [.t (regT (rstBk [b0, b1] i.toNat) (u + 1)), .t (.int .i64 0)] ∧ o = [])) := by
  have gg : bkOk b0 ∧ bkOk b1 := by
    obtain ⟨hrk, _⟩ := hk
    cases hrk with
    | two _ _ h0 h1 => exact ⟨h0, h1⟩
  obtain ⟨g0, g1⟩ := gg
  unfold rstE at he
  split at he
  · omega
  · split at he
    · omega
    · rename_i e1 e2
      obtain ⟨n, rfl⟩ := Int.eq_ofNat_of_zero_le (show 0 ≤ i by omega)
      have a7 : 0 ≤ leastI (n : Int) true := by unfold leastI; split <;> (try split) <;> (try split) <;> (try split) <;> omega
      have a6 : ¬ leastI (n : Int) true = 5 := by omega
      simp (disch := omega) only [go_sem, ↓reduceIte, Nat.reduceAdd, Nat.reduceEqDiff, Nat.reduceLeDiff, reduceCtorEq, ac_ref8_Reset, h1, rleast_eq, h3, twin_eq2 hk, List.map_nil, List.map_cons, a6]
      refine loop_upto 2 (fun k => match k with | 0 => [(2, .t (.int .i64 (n : Nat))), (3, .ref 4096 0 0), (6, .ref 4112 0 0), (9, .ref 28704 0 0), (10, .t (.int .i64 0))] | 1 => [(2, .t (.int .i64 (n : Nat))), (3, .ref 4096 0 0), (6, .ref 4112 0 0), (9, .ref 28704 0 0), (10, .t (.int .i64 1))] | _ => [(2, .t (.int .i64 (n : Nat))), (3, .ref 4096 0 0), (6, .ref 4112 0 0), (9, .ref 28704 0 0), (10, .t (.int .i64 2))]) (fun k => match k with | 0 => [(28704, .live 2 [.agg [.sl 28688 0 2, .t (.int .i64 u)]] true true), (28690, .live 1 (((b1).map bsT).map V.t) true false), (28689, .live 1 (((b0).map bsT).map V.t) true false), (28688, .live 1 [.sl 28689 0 (List.length b0), .sl 28690 0 (List.length b1)] true false), (4112, .live 2 [.agg [.nil, .t (.int .i64 0)]] true true), (4096, .live 2 [.t (regT [b0, b1] u)] true true)] | 1 => [(28704, .live 2 [.agg [.sl 28688 0 2, .t (.int .i64 u)]] true true), (28690, .live 1 (((b1).map bsT).map V.t) true false), (28689, .live 1 (((rst1 0 b0 n).map bsT).map V.t) true false), (28688, .live 1 [.sl 28689 0 (List.length b0), .sl 28690 0 (List.length b1)] true false), (4112, .live 2 [.agg [.nil, .t (.int .i64 0)]] true true), (4096, .live 2 [.t (regT [b0, b1] u)] true true)] | _ => [(28704, .live 2 [.agg [.sl 28688 0 2, .t (.int .i64 u)]] true true), (28690, .live 1 (((rst1 1 b1 n).map bsT).map V.t) true false), (28689, .live 1 (((rst1 0 b0 n).map bsT).map V.t) true false), (28688, .live 1 [.sl 28689 0 (List.length b0), .sl 28690 0 (List.length b1)] true false), (4112, .live 2 [.agg [.nil, .t (.int .i64 0)]] true true), (4096, .live 2 [.t (regT [b0, b1] u)] true true)]) ?_ (fun k hk2 => ?_)
      · refine Weak.rd id ?_ ?_ rfl
        all_goals simp (disch := omega) only [go_sem, ↓reduceIte, Nat.reduceAdd, Nat.reduceEqDiff, Nat.reduceBEq, reduceCtorEq, id]
      · rcases (show k = 0 ∨ k = 1 ∨ k = 2 by omega) with rfl | rfl | rfl
        · rcases g0 with z0 | z0
          · simp (disch := omega) only [go_sem, ↓reduceIte, Nat.reduceAdd, Nat.reduceEqDiff, Nat.reduceLT, Nat.reduceLeDiff, Int.reduceLT, Int.reduceAdd, reduceCtorEq, ac_ref8_Reset_L0, z0, h5, h6, size_eq0, size_eq1, fill_eq20, fill_eq32, h4, actv_eq0 hk.1, actv_eq1 hk.1, rst1_length]
            refine Weak.rd id ?_ ?_ rfl
            all_goals simp (disch := omega) only [go_sem, ↓reduceIte, Nat.reduceAdd, Nat.reduceEqDiff, Nat.reduceBEq, reduceCtorEq, id, rst1, z0, rst1_length]
          · simp (disch := omega) only [go_sem, ↓reduceIte, Nat.reduceAdd, Nat.reduceEqDiff, Nat.reduceLT, Nat.reduceLeDiff, Int.reduceLT, Int.reduceLE, Int.reduceAdd, ac_ref8_Reset_L0, z0, h5, h6, size_eq0, size_eq1, fill_eq20, fill_eq32, h4, actv_eq0 hk.1, actv_eq1 hk.1, rst1_length]
            repeat refine And.intro rfl ?_
            refine Weak.cv (hv := []) [49280] id ?_ rfl
            simp (config := { maxSteps := 2000000 }) (disch := (first | omega | (simp only [lens, lenm]; omega))) only [go_sem, ↓reduceIte, Nat.reduceAdd, Nat.reduceEqDiff, Nat.reduceLeDiff, Nat.reduceBEq, id, rst1, z0, List.take_replicate, Nat.min_self, rst1_length, szA]
            all_goals rfl
        · rcases g1 with z1 | z1
          · simp (disch := omega) only [go_sem, ↓reduceIte, Nat.reduceAdd, Nat.reduceEqDiff, Nat.reduceLT, Nat.reduceLeDiff, Int.reduceLT, Int.reduceAdd, reduceCtorEq, ac_ref8_Reset_L0, z1, h5, h6, size_eq0, size_eq1, fill_eq20, fill_eq32, h4, actv_eq0 hk.1, actv_eq1 hk.1, rst1_length]
            refine Weak.rd id ?_ ?_ rfl
            all_goals simp (disch := omega) only [go_sem, ↓reduceIte, Nat.reduceAdd, Nat.reduceEqDiff, Nat.reduceBEq, reduceCtorEq, id, rst1, z1, rst1_length]
          · simp (disch := omega) only [go_sem, ↓reduceIte, Nat.reduceAdd, Nat.reduceEqDiff, Nat.reduceLT, Nat.reduceLeDiff, Int.reduceLT, Int.reduceLE, Int.reduceAdd, ac_ref8_Reset_L0, z1, h5, h6, size_eq0, size_eq1, fill_eq20, fill_eq32, h4, actv_eq0 hk.1, actv_eq1 hk.1, rst1_length]
            repeat refine And.intro rfl ?_
            refine Weak.cv (hv := []) [49280] id ?_ rfl
            simp (config := { maxSteps := 2000000 }) (disch := (first | omega | (simp only [lens, lenm]; omega))) only [go_sem, ↓reduceIte, Nat.reduceAdd, Nat.reduceEqDiff, Nat.reduceLeDiff, Nat.reduceBEq, reduceCtorEq, id, rst1, z1, List.take_replicate, Nat.min_self, rst1_length, szA]
            all_goals rfl
        · have t0 : List.take (List.length b0) (rst1 0 b0 n) = rst1 0 b0 n := List.take_of_length_le (by rw [rst1_length]; exact Nat.le_refl _)
          have t1 : List.take (List.length b1) (rst1 1 b1 n) = rst1 1 b1 n := List.take_of_length_le (by rw [rst1_length]; exact Nat.le_refl _)
          simp (disch := omega) only [go_sem, ↓reduceIte, Nat.reduceAdd, Nat.reduceEqDiff, Nat.reduceLeDiff, Int.reduceLT, reduceCtorEq, ac_ref8_Reset_L0, rst1_length, t0, t1]
          rfl
end Go.Eng
end
section
set_option maxRecDepth 20000
set_option maxHeartbeats 64000000
namespace Go.Eng
def extE (l0 l1 : Nat) (loc i : Int) (nd k0 k1 : Nat) : Int :=
  if loc < 0 ∨ 4 < loc ∨ i < 0 ∨ 16 ≤ i ∨ nd ≠ 2 then 1 else if loc < leastI i false then 13
  else if (l0 ≠ 16 ∧ 0 < k0) ∨ (l1 ≠ 16 ∧ 0 < k1) then 27 else if (l0 = 16 ∧ k0 ≠ 20) ∨ (l1 = 16 ∧ k1 ≠ 32) then 24 else 0
def ext1 (a : Nat) (b : Bank) (i : Nat) (d : List UInt8) : Bank := if List.length b = 16 then b.set i (sumA a (b.getD i [] ++ d)) else b
theorem ext1_length {a : Nat} {b : Bank} {i : Nat} {d : List UInt8} : List.length (ext1 a b i d) = List.length b := by
  unfold ext1; split <;> simp
def extBk (bk : List Bank) (i : Nat) (ds : List (List UInt8)) : List Bank := match bk with
  | [b0, b1] => [ext1 0 b0 i (ds.getD 0 []), ext1 1 b1 i (ds.getD 1 [])]
  | bk => bk
def extEr (bk : List Bank) (loc i : Int) (ds : List (List UInt8)) : Int := extE (bk.getD 0 []).length (bk.getD 1 []).length loc i ds.length (ds.getD 0 []).length (ds.getD 1 []).length
def extR (bk : List Bank) (u loc i : Int) (ds : List (List UInt8)) : V :=
  if extE (bk.getD 0 []).length (bk.getD 1 []).length loc i ds.length (ds.getD 0 []).length (ds.getD 1 []).length = 0 then .tup [.t (regT (extBk bk i.toNat ds) (u + 1)), .t (.int .i64 0)]
  else .tup [.t (regT [] 0), .t (.int .i64 (extE (bk.getD 0 []).length (bk.getD 1 []).length loc i ds.length (ds.getD 0 []).length (ds.getD 1 []).length))]
theorem sumA0 {x : List UInt8} : sumA 0 x = sum1 x := rfl
theorem sumA1 {x : List UInt8} : sumA 1 x = sum256 x := rfl
theorem take_sum1 {x : List UInt8} : List.take 20 (sum1 x) = sum1 x := List.take_of_length_le (by rw [sum1_length]; exact Nat.le_refl _)
theorem take_sum256 {x : List UInt8} : List.take 32 (sum256 x) = sum256 x := List.take_of_length_le (by rw [sum256_length]; exact Nat.le_refl _)
theorem w_registers_Extend2 (tab : Tab) (gl : Gl) (n1 n2 n3 n4 n5 n6 : Nat) (h1 : tab.look n1 = some ct_index.fs) (h2 : tab.look n2 = some ct_least.fs) (h3 : tab.look n3 = some ct_on.fs) (h4 : tab.look n4 = some ct_size.fs) (h5 : tab.look n5 = some ct_twin.fs) (h6 : tab.look n6 = some ct_sumA.fs)
    (b0 b1 : Bank) (u loc : Int) (n : Nat) (d0 d1 : List UInt8) (hu : 0 ≤ u ∧ u < 1000000000) (hk : RM [b0, b1]) (hv0 : (b0.getD n []).length ≤ 64) (hv1 : (b1.getD n []).length ≤ 64) (hd : d0.length < 9223372036854775808 ∧ d1.length < 9223372036854775808) (e1 : ¬(loc < 0 ∨ 4 < loc ∨ 16 ≤ n)) (e2 : ¬ loc < leastI n false) :
    (ac_registers_Extend n1 n2 n3 n4 n5 n6).wp tab gl (zipF 0 [.t (regT [b0, b1] u), .t (.int .i64 loc), .t (.int .i64 n), .t (.sl [bsT d0, bsT d1])]) (zipF 0 []) (resW [(8, some (2, true)), (9, none)] 0 (fun r o => r = extR [b0, b1] u loc n [d0, d1] ∧ o = [])) := by
  have gg : bkOk b0 ∧ bkOk b1 := by
    obtain ⟨hrk, _⟩ := hk
    cases hrk with
    | two _ _ h0 h1 => exact ⟨h0, h1⟩
  obtain ⟨g0, g1⟩ := gg
  simp (disch := omega) only [go_sem, ↓reduceIte, Nat.reduceAdd, Nat.reduceEqDiff, Nat.reduceLeDiff, reduceCtorEq, ac_registers_Extend, h1, index_t, h2, least_eq, List.map_nil, List.map_cons]
  refine loopW_weak (fs' := [(2, .t (.int .i64 (n : Nat))), (3, .t (.sl [bsT d0, bsT d1])), (4, .ref 4096 0 0), (8, .ref 4112 0 0), (38, .t (.sl [bsT d0, bsT d1])), (39, .t (.int .i64 2)), (40, .t (.int .i64 0))]) (hs' := [(4112, .live 2 [.agg [.nil, .t (.int .i64 0)]] true true), (4096, .live 2 [.t (regT [b0, b1] u)] true true)]) (Weak.rd id ?_ ?_ rfl) ?_
  · simp (disch := omega) only [go_sem, ↓reduceIte, Nat.reduceEqDiff, Nat.reduceBEq, reduceCtorEq, id]
  · simp (disch := omega) only [go_sem, ↓reduceIte, Nat.reduceEqDiff, id]
  rcases g0 with z0 | z0 <;> rcases g1 with z1 | z1
  · have zz : True := trivial
    by_cases p2 : 0 < d0.length
    · have zz : True := trivial
      have hE : extE 0 0 loc n 2 d0.length d1.length = 27 := by unfold extE; rw [if_neg (by omega), if_neg (by omega), if_pos (by omega)]
      refine loop_fuel 3 ?_
      simp (disch := omega) only [go_sem, ↓reduceIte, Nat.reduceAdd, Nat.reduceEqDiff, Nat.reduceLeDiff, Int.reduceEq, Int.reduceLT, Int.reduceLE, reduceCtorEq, loopN_succ, ac_registers_Extend_L0, h3, on_eq0 hk.1, on_eq1 hk.1, h4, size_eq0, size_eq1, h5, twin_eq2 hk, h6, sumA_eq0, sumA_eq1, z0, z1, hE, List.map_nil, extR, extEr, List.getD_cons_zero, List.getD_cons_succ, List.length_cons, List.length_nil]
      all_goals repeat refine And.intro rfl ?_
      all_goals rfl
    · have zz : True := trivial
      by_cases p1 : 0 < d1.length
      · have zz : True := trivial
        have hE : extE 0 0 loc n 2 d0.length d1.length = 27 := by unfold extE; rw [if_neg (by omega), if_neg (by omega), if_pos (by omega)]
        refine loop_fuel 3 ?_
        simp (disch := omega) only [go_sem, ↓reduceIte, Nat.reduceAdd, Nat.reduceEqDiff, Nat.reduceLeDiff, Int.reduceEq, Int.reduceLT, Int.reduceLE, Int.reduceAdd, reduceCtorEq, loopN_succ, ac_registers_Extend_L0, h3, on_eq0 hk.1, on_eq1 hk.1, h4, size_eq0, size_eq1, h5, twin_eq2 hk, h6, sumA_eq0, sumA_eq1, z0, z1, hE, List.map_nil, extR, extEr, List.getD_cons_zero, List.getD_cons_succ, List.length_cons, List.length_nil]
        all_goals repeat refine And.intro rfl ?_
        all_goals rfl
      · have zz : True := trivial
        refine loop_fuel 3 ?_
        simp (disch := omega) only [go_sem, ↓reduceIte, Nat.reduceAdd, Nat.reduceEqDiff, Nat.reduceLeDiff, Int.reduceLT, Int.reduceLE, Int.reduceAdd, reduceCtorEq, loopN_succ, ac_registers_Extend_L0, h3, on_eq0 hk.1, on_eq1 hk.1, h4, size_eq0, size_eq1, h5, twin_eq2 hk, h6, sumA_eq0, sumA_eq1, z0, z1]
        all_goals repeat refine And.intro rfl ?_
        refine loopW_weak (fs' := [(2, .t (.int .i64 (n : Nat))), (3, .t (.sl [bsT d0, bsT d1])), (4, .ref 4096 0 0), (8, .ref 4112 0 0), (56, .t (.sl [bsT d0, bsT d1])), (57, .t (.int .i64 2)), (58, .t (.int .i64 0))]) (hs' := [(4112, .live 2 [.agg [.nil, .t (.int .i64 0)]] true true), (4096, .live 2 [.t (regT [b0, b1] u)] true true)]) (Weak.rd id ?_ ?_ rfl) ?_
        · simp (disch := omega) only [go_sem, ↓reduceIte, Nat.reduceEqDiff, Nat.reduceBEq, id]
        · simp (disch := omega) only [go_sem, ↓reduceIte, Nat.reduceEqDiff, id]
        have hE : extE 0 0 loc n 2 d0.length d1.length = 0 := by unfold extE; rw [if_neg (by omega), if_neg (by omega), if_neg (by omega), if_neg (by omega)]
        refine loop_fuel 3 ?_
        simp (disch := omega) only [go_sem, ↓reduceIte, Nat.reduceAdd, Nat.reduceEqDiff, Nat.reduceLeDiff, Int.reduceLT, Int.reduceLE, Int.reduceAdd, reduceCtorEq, loopN_succ, ac_registers_Extend_L1, h3, on_eq0 hk.1, on_eq1 hk.1, h4, size_eq0, size_eq1, h5, twin_eq2 hk, h6, sumA_eq0, sumA_eq1, z0, z1]
        all_goals repeat refine And.intro rfl ?_
        refine loop_upto 2 (fun k => match k with | 0 => [(2, .t (.int .i64 (n : Nat))), (3, .t (.sl [bsT d0, bsT d1])), (4, .ref 4096 0 0), (8, .ref 4112 0 0), (14, .ref 73760 0 0), (79, .t (.int .i64 2)), (80, .t (.int .i64 0))] | 1 => [(2, .t (.int .i64 (n : Nat))), (3, .t (.sl [bsT d0, bsT d1])), (4, .ref 4096 0 0), (8, .ref 4112 0 0), (14, .ref 73760 0 0), (79, .t (.int .i64 2)), (80, .t (.int .i64 1))] | _ => [(2, .t (.int .i64 (n : Nat))), (3, .t (.sl [bsT d0, bsT d1])), (4, .ref 4096 0 0), (8, .ref 4112 0 0), (14, .ref 73760 0 0), (79, .t (.int .i64 2)), (80, .t (.int .i64 2))]) (fun k => match k with | 0 => [(73760, .live 2 [.agg [.sl 73744 0 2, .t (.int .i64 u)]] true true), (73746, .live 1 (((b1).map bsT).map V.t) true false), (73745, .live 1 (((b0).map bsT).map V.t) true false), (73744, .live 1 [.sl 73745 0 0, .sl 73746 0 0] true false), (4112, .live 2 [.agg [.nil, .t (.int .i64 0)]] true true), (4096, .live 2 [.t (regT [b0, b1] u)] true true)] | 1 => [(73760, .live 2 [.agg [.sl 73744 0 2, .t (.int .i64 u)]] true true), (73746, .live 1 (((b1).map bsT).map V.t) true false), (73745, .live 1 (((ext1 0 b0 n d0).map bsT).map V.t) true false), (73744, .live 1 [.sl 73745 0 0, .sl 73746 0 0] true false), (4112, .live 2 [.agg [.nil, .t (.int .i64 0)]] true true), (4096, .live 2 [.t (regT [b0, b1] u)] true true)] | _ => [(73760, .live 2 [.agg [.sl 73744 0 2, .t (.int .i64 u)]] true true), (73746, .live 1 (((ext1 1 b1 n d1).map bsT).map V.t) true false), (73745, .live 1 (((ext1 0 b0 n d0).map bsT).map V.t) true false), (73744, .live 1 [.sl 73745 0 0, .sl 73746 0 0] true false), (4112, .live 2 [.agg [.nil, .t (.int .i64 0)]] true true), (4096, .live 2 [.t (regT [b0, b1] u)] true true)]) ?_ (fun k hk2 => ?_)
        · refine Weak.rd id ?_ ?_ rfl
          all_goals simp (disch := omega) only [go_sem, ↓reduceIte, Nat.reduceAdd, Nat.reduceEqDiff, Nat.reduceBEq, id, z0, z1]
        · rcases (show k = 0 ∨ k = 1 ∨ k = 2 by omega) with rfl | rfl | rfl
          · have q := List.take_of_length_le (show (b0.getD n [] ++ d0).length ≤ (List.getD b0 n []).length + d0.length by rw [List.length_append]; exact Nat.le_refl _)
            simp (disch := omega) only [go_sem, ↓reduceIte, Nat.reduceAdd, Nat.reduceEqDiff, Nat.reduceLT, Nat.reduceLeDiff, Int.reduceLT, Int.reduceAdd, reduceCtorEq, ac_registers_Extend_L2, h3, on_eq0 hk.1, on_eq1 hk.1, h4, size_eq0, size_eq1, h5, twin_eq2 hk, h6, sumA_eq0, sumA_eq1, z0, z1, ext1_length, q]
            refine Weak.rd id ?_ ?_ rfl
            all_goals simp (disch := omega) only [go_sem, ↓reduceIte, Nat.reduceAdd, Nat.reduceEqDiff, Nat.reduceBEq, reduceCtorEq, id, ext1, z0, z1]
          · have q := List.take_of_length_le (show (b1.getD n [] ++ d1).length ≤ (List.getD b1 n []).length + d1.length by rw [List.length_append]; exact Nat.le_refl _)
            simp (disch := omega) only [go_sem, ↓reduceIte, Nat.reduceAdd, Nat.reduceEqDiff, Nat.reduceLT, Nat.reduceLeDiff, Int.reduceLT, Int.reduceAdd, reduceCtorEq, ac_registers_Extend_L2, h3, on_eq0 hk.1, on_eq1 hk.1, h4, size_eq0, size_eq1, h5, twin_eq2 hk, h6, sumA_eq0, sumA_eq1, z0, z1, ext1_length, q]
            refine Weak.rd id ?_ ?_ rfl
            all_goals simp (disch := omega) only [go_sem, ↓reduceIte, Nat.reduceAdd, Nat.reduceEqDiff, Nat.reduceBEq, reduceCtorEq, id, ext1, z0, z1]
          · have t0 : List.take 0 (ext1 0 b0 n d0) = ext1 0 b0 n d0 := List.take_of_length_le (by rw [ext1_length, z0]; exact Nat.le_refl _)
            have t1 : List.take 0 (ext1 1 b1 n d1) = ext1 1 b1 n d1 := List.take_of_length_le (by rw [ext1_length, z1]; exact Nat.le_refl _)
            have y0 : ext1 0 b0 n d0 = [] := List.eq_nil_of_length_eq_zero (by rw [ext1_length, z0])
            have y1 : ext1 1 b1 n d1 = [] := List.eq_nil_of_length_eq_zero (by rw [ext1_length, z1])
            simp (disch := omega) only [go_sem, ↓reduceIte, Nat.reduceAdd, Nat.reduceEqDiff, Nat.reduceLeDiff, Int.reduceLT, reduceCtorEq, ac_registers_Extend_L2, ext1_length, t0, t1, z0, z1, hE, extBk, Int.toNat_natCast, List.map_cons, List.map_nil, y0, y1, extR, extEr, List.getD_cons_zero, List.getD_cons_succ, List.length_cons, List.length_nil]
  · have zz : True := trivial
    by_cases p1 : 0 < d0.length
    · have zz : True := trivial
      have hE : extE 0 16 loc n 2 d0.length d1.length = 27 := by unfold extE; rw [if_neg (by omega), if_neg (by omega), if_pos (by omega)]
      refine loop_fuel 3 ?_
      simp (disch := omega) only [go_sem, ↓reduceIte, Nat.reduceAdd, Nat.reduceEqDiff, Nat.reduceLeDiff, Int.reduceEq, Int.reduceLT, Int.reduceLE, reduceCtorEq, loopN_succ, ac_registers_Extend_L0, h3, on_eq0 hk.1, on_eq1 hk.1, h4, size_eq0, size_eq1, h5, twin_eq2 hk, h6, sumA_eq0, sumA_eq1, z0, z1, hE, List.map_nil, extR, extEr, List.getD_cons_zero, List.getD_cons_succ, List.length_cons, List.length_nil]
      all_goals repeat refine And.intro rfl ?_
      all_goals rfl
    · have zz : True := trivial
      refine loop_fuel 3 ?_
      simp (disch := omega) only [go_sem, ↓reduceIte, Nat.reduceAdd, Nat.reduceEqDiff, Nat.reduceLeDiff, Int.reduceLT, Int.reduceLE, Int.reduceAdd, reduceCtorEq, loopN_succ, ac_registers_Extend_L0, h3, on_eq0 hk.1, on_eq1 hk.1, h4, size_eq0, size_eq1, h5, twin_eq2 hk, h6, sumA_eq0, sumA_eq1, z0, z1]
      all_goals repeat refine And.intro rfl ?_
      refine loopW_weak (fs' := [(2, .t (.int .i64 (n : Nat))), (3, .t (.sl [bsT d0, bsT d1])), (4, .ref 4096 0 0), (8, .ref 4112 0 0), (56, .t (.sl [bsT d0, bsT d1])), (57, .t (.int .i64 2)), (58, .t (.int .i64 0))]) (hs' := [(4112, .live 2 [.agg [.nil, .t (.int .i64 0)]] true true), (4096, .live 2 [.t (regT [b0, b1] u)] true true)]) (Weak.rd id ?_ ?_ rfl) ?_
      · simp (disch := omega) only [go_sem, ↓reduceIte, Nat.reduceEqDiff, Nat.reduceBEq, id]
      · simp (disch := omega) only [go_sem, ↓reduceIte, Nat.reduceEqDiff, id]
      by_cases q1 : d1.length ≠ 32
      · have zz : True := trivial
        have hE : extE 0 16 loc n 2 d0.length d1.length = 24 := by unfold extE; rw [if_neg (by omega), if_neg (by omega), if_neg (by omega), if_pos (by omega)]
        refine loop_fuel 3 ?_
        simp (disch := omega) only [go_sem, ↓reduceIte, Nat.reduceAdd, Nat.reduceEqDiff, Nat.reduceLeDiff, Int.reduceEq, Int.reduceLT, Int.reduceLE, Int.reduceAdd, reduceCtorEq, loopN_succ, ac_registers_Extend_L1, h3, on_eq0 hk.1, on_eq1 hk.1, h4, size_eq0, size_eq1, h5, twin_eq2 hk, h6, sumA_eq0, sumA_eq1, z0, z1, hE, List.map_nil, extR, extEr, List.getD_cons_zero, List.getD_cons_succ, List.length_cons, List.length_nil]
        all_goals repeat refine And.intro rfl ?_
        all_goals rfl
      · have zz : True := trivial
        have hE : extE 0 16 loc n 2 d0.length d1.length = 0 := by unfold extE; rw [if_neg (by omega), if_neg (by omega), if_neg (by omega), if_neg (by omega)]
        refine loop_fuel 3 ?_
        simp (disch := omega) only [go_sem, ↓reduceIte, Nat.reduceAdd, Nat.reduceEqDiff, Nat.reduceLeDiff, Int.reduceLT, Int.reduceLE, Int.reduceAdd, reduceCtorEq, loopN_succ, ac_registers_Extend_L1, h3, on_eq0 hk.1, on_eq1 hk.1, h4, size_eq0, size_eq1, h5, twin_eq2 hk, h6, sumA_eq0, sumA_eq1, z0, z1]
        all_goals repeat refine And.intro rfl ?_
        refine loop_upto 2 (fun k => match k with | 0 => [(2, .t (.int .i64 (n : Nat))), (3, .t (.sl [bsT d0, bsT d1])), (4, .ref 4096 0 0), (8, .ref 4112 0 0), (14, .ref 73760 0 0), (79, .t (.int .i64 2)), (80, .t (.int .i64 0))] | 1 => [(2, .t (.int .i64 (n : Nat))), (3, .t (.sl [bsT d0, bsT d1])), (4, .ref 4096 0 0), (8, .ref 4112 0 0), (14, .ref 73760 0 0), (79, .t (.int .i64 2)), (80, .t (.int .i64 1))] | _ => [(2, .t (.int .i64 (n : Nat))), (3, .t (.sl [bsT d0, bsT d1])), (4, .ref 4096 0 0), (8, .ref 4112 0 0), (14, .ref 73760 0 0), (79, .t (.int .i64 2)), (80, .t (.int .i64 2))]) (fun k => match k with | 0 => [(73760, .live 2 [.agg [.sl 73744 0 2, .t (.int .i64 u)]] true true), (73746, .live 1 (((b1).map bsT).map V.t) true false), (73745, .live 1 (((b0).map bsT).map V.t) true false), (73744, .live 1 [.sl 73745 0 0, .sl 73746 0 16] true false), (4112, .live 2 [.agg [.nil, .t (.int .i64 0)]] true true), (4096, .live 2 [.t (regT [b0, b1] u)] true true)] | 1 => [(73760, .live 2 [.agg [.sl 73744 0 2, .t (.int .i64 u)]] true true), (73746, .live 1 (((b1).map bsT).map V.t) true false), (73745, .live 1 (((ext1 0 b0 n d0).map bsT).map V.t) true false), (73744, .live 1 [.sl 73745 0 0, .sl 73746 0 16] true false), (4112, .live 2 [.agg [.nil, .t (.int .i64 0)]] true true), (4096, .live 2 [.t (regT [b0, b1] u)] true true)] | _ => [(73760, .live 2 [.agg [.sl 73744 0 2, .t (.int .i64 u)]] true true), (73746, .live 1 (((ext1 1 b1 n d1).map bsT).map V.t) true false), (73745, .live 1 (((ext1 0 b0 n d0).map bsT).map V.t) true false), (73744, .live 1 [.sl 73745 0 0, .sl 73746 0 16] true false), (4112, .live 2 [.agg [.nil, .t (.int .i64 0)]] true true), (4096, .live 2 [.t (regT [b0, b1] u)] true true)]) ?_ (fun k hk2 => ?_)
        · refine Weak.rd id ?_ ?_ rfl
          all_goals simp (disch := omega) only [go_sem, ↓reduceIte, Nat.reduceAdd, Nat.reduceEqDiff, Nat.reduceBEq, id, z0, z1]
        · rcases (show k = 0 ∨ k = 1 ∨ k = 2 by omega) with rfl | rfl | rfl
          · have q := List.take_of_length_le (show (b0.getD n [] ++ d0).length ≤ (List.getD b0 n []).length + d0.length by rw [List.length_append]; exact Nat.le_refl _)
            simp (disch := omega) only [go_sem, ↓reduceIte, Nat.reduceAdd, Nat.reduceEqDiff, Nat.reduceLT, Nat.reduceLeDiff, Int.reduceLT, Int.reduceAdd, reduceCtorEq, ac_registers_Extend_L2, h3, on_eq0 hk.1, on_eq1 hk.1, h4, size_eq0, size_eq1, h5, twin_eq2 hk, h6, sumA_eq0, sumA_eq1, z0, z1, ext1_length, q]
            refine Weak.rd id ?_ ?_ rfl
            all_goals simp (disch := omega) only [go_sem, ↓reduceIte, Nat.reduceAdd, Nat.reduceEqDiff, Nat.reduceBEq, reduceCtorEq, id, ext1, z0, z1]
          · have q := List.take_of_length_le (show (b1.getD n [] ++ d1).length ≤ (List.getD b1 n []).length + d1.length by rw [List.length_append]; exact Nat.le_refl _)
            simp (config := { maxSteps := 2000000 }) (disch := (first | omega | (simp only [lens, lenm]; omega))) only [go_sem, ↓reduceIte, Nat.reduceAdd, Nat.reduceEqDiff, Nat.reduceLT, Nat.reduceLeDiff, Int.reduceLT, Int.reduceLE, Int.reduceAdd, ac_registers_Extend_L2, h3, on_eq0 hk.1, on_eq1 hk.1, h4, size_eq0, size_eq1, h5, twin_eq2 hk, h6, sumA_eq0, sumA_eq1, z0, z1, ext1_length, q]
            repeat refine And.intro rfl ?_
            refine Weak.cv (hv := []) [94544] id ?_ rfl
            simp (config := { maxSteps := 2000000 }) (disch := (first | omega | (simp only [lens, lenm]; omega))) only [go_sem, ↓reduceIte, Nat.reduceAdd, Nat.reduceEqDiff, Nat.reduceLeDiff, Nat.reduceBEq, reduceCtorEq, id, ext1, z0, z1, take_sum1, take_sum256, sumA0, sumA1, sum1_length, sum256_length]
            all_goals rfl
          · have t0 : List.take 0 (ext1 0 b0 n d0) = ext1 0 b0 n d0 := List.take_of_length_le (by rw [ext1_length, z0]; exact Nat.le_refl _)
            have t1 : List.take 16 (ext1 1 b1 n d1) = ext1 1 b1 n d1 := List.take_of_length_le (by rw [ext1_length, z1]; exact Nat.le_refl _)
            have y0 : ext1 0 b0 n d0 = [] := List.eq_nil_of_length_eq_zero (by rw [ext1_length, z0])
            simp (disch := omega) only [go_sem, ↓reduceIte, Nat.reduceAdd, Nat.reduceEqDiff, Nat.reduceLeDiff, Int.reduceLT, reduceCtorEq, ac_registers_Extend_L2, ext1_length, t0, t1, z0, z1, hE, extBk, Int.toNat_natCast, List.map_cons, List.map_nil, y0, extR, extEr, List.getD_cons_zero, List.getD_cons_succ, List.length_cons, List.length_nil]
  · have zz : True := trivial
    by_cases p1 : 0 < d1.length
    · have zz : True := trivial
      have hE : extE 16 0 loc n 2 d0.length d1.length = 27 := by unfold extE; rw [if_neg (by omega), if_neg (by omega), if_pos (by omega)]
      refine loop_fuel 3 ?_
      simp (disch := omega) only [go_sem, ↓reduceIte, Nat.reduceAdd, Nat.reduceEqDiff, Nat.reduceLeDiff, Int.reduceEq, Int.reduceLT, Int.reduceLE, Int.reduceAdd, reduceCtorEq, loopN_succ, ac_registers_Extend_L0, h3, on_eq0 hk.1, on_eq1 hk.1, h4, size_eq0, size_eq1, h5, twin_eq2 hk, h6, sumA_eq0, sumA_eq1, z0, z1, hE, List.map_nil, extR, extEr, List.getD_cons_zero, List.getD_cons_succ, List.length_cons, List.length_nil]
      all_goals repeat refine And.intro rfl ?_
      all_goals rfl
    · have zz : True := trivial
      refine loop_fuel 3 ?_
      simp (disch := omega) only [go_sem, ↓reduceIte, Nat.reduceAdd, Nat.reduceEqDiff, Nat.reduceLeDiff, Int.reduceLT, Int.reduceLE, Int.reduceAdd, reduceCtorEq, loopN_succ, ac_registers_Extend_L0, h3, on_eq0 hk.1, on_eq1 hk.1, h4, size_eq0, size_eq1, h5, twin_eq2 hk, h6, sumA_eq0, sumA_eq1, z0, z1]
      all_goals repeat refine And.intro rfl ?_
      refine loopW_weak (fs' := [(2, .t (.int .i64 (n : Nat))), (3, .t (.sl [bsT d0, bsT d1])), (4, .ref 4096 0 0), (8, .ref 4112 0 0), (56, .t (.sl [bsT d0, bsT d1])), (57, .t (.int .i64 2)), (58, .t (.int .i64 0))]) (hs' := [(4112, .live 2 [.agg [.nil, .t (.int .i64 0)]] true true), (4096, .live 2 [.t (regT [b0, b1] u)] true true)]) (Weak.rd id ?_ ?_ rfl) ?_
      · simp (disch := omega) only [go_sem, ↓reduceIte, Nat.reduceEqDiff, Nat.reduceBEq, id]
      · simp (disch := omega) only [go_sem, ↓reduceIte, Nat.reduceEqDiff, id]
      by_cases q1 : d0.length ≠ 20
      · have zz : True := trivial
        have hE : extE 16 0 loc n 2 d0.length d1.length = 24 := by unfold extE; rw [if_neg (by omega), if_neg (by omega), if_neg (by omega), if_pos (by omega)]
        refine loop_fuel 3 ?_
        simp (disch := omega) only [go_sem, ↓reduceIte, Nat.reduceAdd, Nat.reduceEqDiff, Nat.reduceLeDiff, Int.reduceEq, Int.reduceLT, Int.reduceLE, loopN_succ, ac_registers_Extend_L1, h3, on_eq0 hk.1, on_eq1 hk.1, h4, size_eq0, size_eq1, h5, twin_eq2 hk, h6, sumA_eq0, sumA_eq1, z0, z1, hE, List.map_nil, extR, extEr, List.getD_cons_zero, List.getD_cons_succ, List.length_cons, List.length_nil]
        all_goals repeat refine And.intro rfl ?_
        all_goals rfl
      · have zz : True := trivial
        have hE : extE 16 0 loc n 2 d0.length d1.length = 0 := by unfold extE; rw [if_neg (by omega), if_neg (by omega), if_neg (by omega), if_neg (by omega)]
        refine loop_fuel 3 ?_
        simp (disch := omega) only [go_sem, ↓reduceIte, Nat.reduceAdd, Nat.reduceEqDiff, Nat.reduceLeDiff, Int.reduceLT, Int.reduceLE, Int.reduceAdd, reduceCtorEq, loopN_succ, ac_registers_Extend_L1, h3, on_eq0 hk.1, on_eq1 hk.1, h4, size_eq0, size_eq1, h5, twin_eq2 hk, h6, sumA_eq0, sumA_eq1, z0, z1]
        all_goals repeat refine And.intro rfl ?_
        refine loop_upto 2 (fun k => match k with | 0 => [(2, .t (.int .i64 (n : Nat))), (3, .t (.sl [bsT d0, bsT d1])), (4, .ref 4096 0 0), (8, .ref 4112 0 0), (14, .ref 73760 0 0), (79, .t (.int .i64 2)), (80, .t (.int .i64 0))] | 1 => [(2, .t (.int .i64 (n : Nat))), (3, .t (.sl [bsT d0, bsT d1])), (4, .ref 4096 0 0), (8, .ref 4112 0 0), (14, .ref 73760 0 0), (79, .t (.int .i64 2)), (80, .t (.int .i64 1))] | _ => [(2, .t (.int .i64 (n : Nat))), (3, .t (.sl [bsT d0, bsT d1])), (4, .ref 4096 0 0), (8, .ref 4112 0 0), (14, .ref 73760 0 0), (79, .t (.int .i64 2)), (80, .t (.int .i64 2))]) (fun k => match k with | 0 => [(73760, .live 2 [.agg [.sl 73744 0 2, .t (.int .i64 u)]] true true), (73746, .live 1 (((b1).map bsT).map V.t) true false), (73745, .live 1 (((b0).map bsT).map V.t) true false), (73744, .live 1 [.sl 73745 0 16, .sl 73746 0 0] true false), (4112, .live 2 [.agg [.nil, .t (.int .i64 0)]] true true), (4096, .live 2 [.t (regT [b0, b1] u)] true true)] | 1 => [(73760, .live 2 [.agg [.sl 73744 0 2, .t (.int .i64 u)]] true true), (73746, .live 1 (((b1).map bsT).map V.t) true false), (73745, .live 1 (((ext1 0 b0 n d0).map bsT).map V.t) true false), (73744, .live 1 [.sl 73745 0 16, .sl 73746 0 0] true false), (4112, .live 2 [.agg [.nil, .t (.int .i64 0)]] true true), (4096, .live 2 [.t (regT [b0, b1] u)] true true)] | _ => [(73760, .live 2 [.agg [.sl 73744 0 2, .t (.int .i64 u)]] true true), (73746, .live 1 (((ext1 1 b1 n d1).map bsT).map V.t) true false), (73745, .live 1 (((ext1 0 b0 n d0).map bsT).map V.t) true false), (73744, .live 1 [.sl 73745 0 16, .sl 73746 0 0] true false), (4112, .live 2 [.agg [.nil, .t (.int .i64 0)]] true true), (4096, .live 2 [.t (regT [b0, b1] u)] true true)]) ?_ (fun k hk2 => ?_)
        · refine Weak.rd id ?_ ?_ rfl
          all_goals simp (disch := omega) only [go_sem, ↓reduceIte, Nat.reduceAdd, Nat.reduceEqDiff, Nat.reduceBEq, id, z0, z1]
        · rcases (show k = 0 ∨ k = 1 ∨ k = 2 by omega) with rfl | rfl | rfl
          · have q := List.take_of_length_le (show (b0.getD n [] ++ d0).length ≤ (List.getD b0 n []).length + d0.length by rw [List.length_append]; exact Nat.le_refl _)
            simp (config := { maxSteps := 2000000 }) (disch := (first | omega | (simp only [lens, lenm]; omega))) only [go_sem, ↓reduceIte, Nat.reduceAdd, Nat.reduceEqDiff, Nat.reduceLT, Nat.reduceLeDiff, Int.reduceLT, Int.reduceLE, Int.reduceAdd, ac_registers_Extend_L2, h3, on_eq0 hk.1, on_eq1 hk.1, h4, size_eq0, size_eq1, h5, twin_eq2 hk, h6, sumA_eq0, sumA_eq1, z0, z1, ext1_length, q]
            repeat refine And.intro rfl ?_
            refine Weak.cv (hv := []) [94544] id ?_ rfl
            simp (config := { maxSteps := 2000000 }) (disch := (first | omega | (simp only [lens, lenm]; omega))) only [go_sem, ↓reduceIte, Nat.reduceAdd, Nat.reduceEqDiff, Nat.reduceLeDiff, Nat.reduceBEq, id, ext1, z0, z1, take_sum1, take_sum256, sumA0, sumA1, sum1_length, sum256_length]
            all_goals rfl
          · have q := List.take_of_length_le (show (b1.getD n [] ++ d1).length ≤ (List.getD b1 n []).length + d1.length by rw [List.length_append]; exact Nat.le_refl _)
            simp (disch := omega) only [go_sem, ↓reduceIte, Nat.reduceAdd, Nat.reduceEqDiff, Nat.reduceLT, Nat.reduceLeDiff, Int.reduceLT, Int.reduceAdd, reduceCtorEq, ac_registers_Extend_L2, h3, on_eq0 hk.1, on_eq1 hk.1, h4, size_eq0, size_eq1, h5, twin_eq2 hk, h6, sumA_eq0, sumA_eq1, z0, z1, ext1_length, q]
            refine Weak.rd id ?_ ?_ rfl
            all_goals simp (disch := omega) only [go_sem, ↓reduceIte, Nat.reduceAdd, Nat.reduceEqDiff, Nat.reduceBEq, reduceCtorEq, id, ext1, z0, z1]
          · have t0 : List.take 16 (ext1 0 b0 n d0) = ext1 0 b0 n d0 := List.take_of_length_le (by rw [ext1_length, z0]; exact Nat.le_refl _)
            have t1 : List.take 0 (ext1 1 b1 n d1) = ext1 1 b1 n d1 := List.take_of_length_le (by rw [ext1_length, z1]; exact Nat.le_refl _)
            have y1 : ext1 1 b1 n d1 = [] := List.eq_nil_of_length_eq_zero (by rw [ext1_length, z1])
            simp (disch := omega) only [go_sem, ↓reduceIte, Nat.reduceAdd, Nat.reduceEqDiff, Nat.reduceLeDiff, Int.reduceLT, reduceCtorEq, ac_registers_Extend_L2, ext1_length, t0, t1, z0, z1, hE, extBk, Int.toNat_natCast, List.map_cons, List.map_nil, y1, extR, extEr, List.getD_cons_zero, List.getD_cons_succ, List.length_cons, List.length_nil]
  · have zz : True := trivial
    refine loop_fuel 3 ?_
    simp (disch := omega) only [go_sem, ↓reduceIte, Nat.reduceAdd, Nat.reduceEqDiff, Nat.reduceLeDiff, Int.reduceLT, Int.reduceLE, Int.reduceAdd, loopN_succ, ac_registers_Extend_L0, h3, on_eq0 hk.1, on_eq1 hk.1, h4, size_eq0, size_eq1, h5, twin_eq2 hk, h6, sumA_eq0, sumA_eq1, z0, z1]
    all_goals repeat refine And.intro rfl ?_
    refine loopW_weak (fs' := [(2, .t (.int .i64 (n : Nat))), (3, .t (.sl [bsT d0, bsT d1])), (4, .ref 4096 0 0), (8, .ref 4112 0 0), (56, .t (.sl [bsT d0, bsT d1])), (57, .t (.int .i64 2)), (58, .t (.int .i64 0))]) (hs' := [(4112, .live 2 [.agg [.nil, .t (.int .i64 0)]] true true), (4096, .live 2 [.t (regT [b0, b1] u)] true true)]) (Weak.rd id ?_ ?_ rfl) ?_
    · simp (disch := omega) only [go_sem, ↓reduceIte, Nat.reduceEqDiff, Nat.reduceBEq, id]
    · simp (disch := omega) only [go_sem, ↓reduceIte, Nat.reduceEqDiff, id]
    by_cases q2 : d0.length ≠ 20
    · have zz : True := trivial
      have hE : extE 16 16 loc n 2 d0.length d1.length = 24 := by unfold extE; rw [if_neg (by omega), if_neg (by omega), if_neg (by omega), if_pos (by omega)]
      refine loop_fuel 3 ?_
      simp (disch := omega) only [go_sem, ↓reduceIte, Nat.reduceAdd, Nat.reduceEqDiff, Nat.reduceLeDiff, Int.reduceEq, Int.reduceLT, Int.reduceLE, loopN_succ, ac_registers_Extend_L1, h3, on_eq0 hk.1, on_eq1 hk.1, h4, size_eq0, size_eq1, h5, twin_eq2 hk, h6, sumA_eq0, sumA_eq1, z0, z1, hE, List.map_nil, extR, extEr, List.getD_cons_zero, List.getD_cons_succ, List.length_cons, List.length_nil]
      all_goals repeat refine And.intro rfl ?_
      all_goals rfl
    · have zz : True := trivial
      by_cases q1 : d1.length ≠ 32
      · have zz : True := trivial
        have hE : extE 16 16 loc n 2 d0.length d1.length = 24 := by unfold extE; rw [if_neg (by omega), if_neg (by omega), if_neg (by omega), if_pos (by omega)]
        refine loop_fuel 3 ?_
        simp (disch := omega) only [go_sem, ↓reduceIte, Nat.reduceAdd, Nat.reduceEqDiff, Nat.reduceLeDiff, Int.reduceEq, Int.reduceLT, Int.reduceLE, Int.reduceAdd, loopN_succ, ac_registers_Extend_L1, h3, on_eq0 hk.1, on_eq1 hk.1, h4, size_eq0, size_eq1, h5, twin_eq2 hk, h6, sumA_eq0, sumA_eq1, z0, z1, hE, List.map_nil, extR, extEr, List.getD_cons_zero, List.getD_cons_succ, List.length_cons, List.length_nil]
        all_goals repeat refine And.intro rfl ?_
        all_goals rfl
      · have zz : True := trivial
        have hE : extE 16 16 loc n 2 d0.length d1.length = 0 := by unfold extE; rw [if_neg (by omega), if_neg (by omega), if_neg (by omega), if_neg (by omega)]
        refine loop_fuel 3 ?_
        simp (disch := omega) only [go_sem, ↓reduceIte, Nat.reduceAdd, Nat.reduceEqDiff, Nat.reduceLeDiff, Int.reduceLT, Int.reduceLE, Int.reduceAdd, loopN_succ, ac_registers_Extend_L1, h3, on_eq0 hk.1, on_eq1 hk.1, h4, size_eq0, size_eq1, h5, twin_eq2 hk, h6, sumA_eq0, sumA_eq1, z0, z1]
        all_goals repeat refine And.intro rfl ?_
        refine loop_upto 2 (fun k => match k with | 0 => [(2, .t (.int .i64 (n : Nat))), (3, .t (.sl [bsT d0, bsT d1])), (4, .ref 4096 0 0), (8, .ref 4112 0 0), (14, .ref 73760 0 0), (79, .t (.int .i64 2)), (80, .t (.int .i64 0))] | 1 => [(2, .t (.int .i64 (n : Nat))), (3, .t (.sl [bsT d0, bsT d1])), (4, .ref 4096 0 0), (8, .ref 4112 0 0), (14, .ref 73760 0 0), (79, .t (.int .i64 2)), (80, .t (.int .i64 1))] | _ => [(2, .t (.int .i64 (n : Nat))), (3, .t (.sl [bsT d0, bsT d1])), (4, .ref 4096 0 0), (8, .ref 4112 0 0), (14, .ref 73760 0 0), (79, .t (.int .i64 2)), (80, .t (.int .i64 2))]) (fun k => match k with | 0 => [(73760, .live 2 [.agg [.sl 73744 0 2, .t (.int .i64 u)]] true true), (73746, .live 1 (((b1).map bsT).map V.t) true false), (73745, .live 1 (((b0).map bsT).map V.t) true false), (73744, .live 1 [.sl 73745 0 16, .sl 73746 0 16] true false), (4112, .live 2 [.agg [.nil, .t (.int .i64 0)]] true true), (4096, .live 2 [.t (regT [b0, b1] u)] true true)] | 1 => [(73760, .live 2 [.agg [.sl 73744 0 2, .t (.int .i64 u)]] true true), (73746, .live 1 (((b1).map bsT).map V.t) true false), (73745, .live 1 (((ext1 0 b0 n d0).map bsT).map V.t) true false), (73744, .live 1 [.sl 73745 0 16, .sl 73746 0 16] true false), (4112, .live 2 [.agg [.nil, .t (.int .i64 0)]] true true), (4096, .live 2 [.t (regT [b0, b1] u)] true true)] | _ => [(73760, .live 2 [.agg [.sl 73744 0 2, .t (.int .i64 u)]] true true), (73746, .live 1 (((ext1 1 b1 n d1).map bsT).map V.t) true false), (73745, .live 1 (((ext1 0 b0 n d0).map bsT).map V.t) true false), (73744, .live 1 [.sl 73745 0 16, .sl 73746 0 16] true false), (4112, .live 2 [.agg [.nil, .t (.int .i64 0)]] true true), (4096, .live 2 [.t (regT [b0, b1] u)] true true)]) ?_ (fun k hk2 => ?_)
        · refine Weak.rd id ?_ ?_ rfl
          all_goals simp (disch := omega) only [go_sem, ↓reduceIte, Nat.reduceAdd, Nat.reduceEqDiff, Nat.reduceBEq, id, z0, z1]
        · rcases (show k = 0 ∨ k = 1 ∨ k = 2 by omega) with rfl | rfl | rfl
          · have q := List.take_of_length_le (show (b0.getD n [] ++ d0).length ≤ (List.getD b0 n []).length + d0.length by rw [List.length_append]; exact Nat.le_refl _)
            simp (config := { maxSteps := 2000000 }) (disch := (first | omega | (simp only [lens, lenm]; omega))) only [go_sem, ↓reduceIte, Nat.reduceAdd, Nat.reduceEqDiff, Nat.reduceLT, Nat.reduceLeDiff, Int.reduceLT, Int.reduceLE, Int.reduceAdd, ac_registers_Extend_L2, h3, on_eq0 hk.1, on_eq1 hk.1, h4, size_eq0, size_eq1, h5, twin_eq2 hk, h6, sumA_eq0, sumA_eq1, z0, z1, ext1_length, q]
            repeat refine And.intro rfl ?_
            refine Weak.cv (hv := []) [94544] id ?_ rfl
            simp (config := { maxSteps := 2000000 }) (disch := (first | omega | (simp only [lens, lenm]; omega))) only [go_sem, ↓reduceIte, Nat.reduceAdd, Nat.reduceEqDiff, Nat.reduceLeDiff, Nat.reduceBEq, id, ext1, z0, z1, take_sum1, take_sum256, sumA0, sumA1, sum1_length, sum256_length]
            all_goals rfl
          · have q := List.take_of_length_le (show (b1.getD n [] ++ d1).length ≤ (List.getD b1 n []).length + d1.length by rw [List.length_append]; exact Nat.le_refl _)
            simp (config := { maxSteps := 2000000 }) (disch := (first | omega | (simp only [lens, lenm]; omega))) only [go_sem, ↓reduceIte, Nat.reduceAdd, Nat.reduceEqDiff, Nat.reduceLT, Nat.reduceLeDiff, Int.reduceLT, Int.reduceLE, Int.reduceAdd, ac_registers_Extend_L2, h3, on_eq0 hk.1, on_eq1 hk.1, h4, size_eq0, size_eq1, h5, twin_eq2 hk, h6, sumA_eq0, sumA_eq1, z0, z1, ext1_length, q]
            repeat refine And.intro rfl ?_
            refine Weak.cv (hv := []) [94544] id ?_ rfl
            simp (config := { maxSteps := 2000000 }) (disch := (first | omega | (simp only [lens, lenm]; omega))) only [go_sem, ↓reduceIte, Nat.reduceAdd, Nat.reduceEqDiff, Nat.reduceLeDiff, Nat.reduceBEq, id, ext1, z0, z1, take_sum1, take_sum256, sumA0, sumA1, sum1_length, sum256_length]
            all_goals rfl
          · have t0 : List.take 16 (ext1 0 b0 n d0) = ext1 0 b0 n d0 := List.take_of_length_le (by rw [ext1_length, z0]; exact Nat.le_refl _)
            have t1 : List.take 16 (ext1 1 b1 n d1) = ext1 1 b1 n d1 := List.take_of_length_le (by rw [ext1_length, z1]; exact Nat.le_refl _)
            simp (disch := omega) only [go_sem, ↓reduceIte, Nat.reduceAdd, Nat.reduceEqDiff, Nat.reduceLeDiff, Int.reduceLT, reduceCtorEq, ac_registers_Extend_L2, ext1_length, t0, t1, z0, z1, hE, extBk, Int.toNat_natCast, List.map_cons, List.map_nil, extR, extEr, List.getD_cons_zero, List.getD_cons_succ, List.length_cons, List.length_nil]
end Go.Eng
end
section
set_option maxRecDepth 20000
set_option maxHeartbeats 64000000
namespace Go.Eng
theorem w_ref8_Extend2 (tab : Tab) (gl : Gl) (n1 n2 n3 n4 n5 n6 : Nat) (h2 : tab.look n1 = some ct_rleast.fs) (h3 : tab.look n2 = some ct_actv.fs) (h4 : tab.look n3 = some ct_size.fs) (h5 : tab.look n4 = some ct_twin.fs) (h7 : tab.look n5 = some ct_copy.fs) (h6 : tab.look n6 = some ct_sumA.fs)
    (b0 b1 : Bank) (u loc : Int) (n : Nat) (d0 d1 : List UInt8) (hu : 0 ≤ u ∧ u < 1000000000) (hk : RM [b0, b1]) (hv0 : (b0.getD n []).length ≤ 64) (hv1 : (b1.getD n []).length ≤ 64) (hd : d0.length < 9223372036854775808 ∧ d1.length < 9223372036854775808) (e1 : ¬(loc < 0 ∨ 4 < loc ∨ 16 ≤ n)) (e2 : ¬ loc < leastI n false) :
    (ac_ref8_Extend n1 n2 n3 n4 n5 n6).wp tab gl (zipF 0 [.t (regT [b0, b1] u), .t (.int .i64 loc), .t (.int .i64 n), .t (.sl [bsT d0, bsT d1])]) (zipF 0 []) (resW [(8, some (2, true)), (9, none)] 0 (fun r o => r = extR [b0, b1] u loc n [d0, d1] ∧ o = [])) := by
  have gg : bkOk b0 ∧ bkOk b1 := by
    obtain ⟨hrk, _⟩ := hk
    cases hrk with
    | two _ _ h0 h1 => exact ⟨h0, h1⟩
  obtain ⟨g0, g1⟩ := gg
  have a6 : ¬ leastI (n : Int) false = 5 := by unfold leastI; split <;> (try split) <;> (try split) <;> simp_all
  simp (disch := omega) only [go_sem, ↓reduceIte, Nat.reduceAdd, Nat.reduceEqDiff, Nat.reduceLeDiff, reduceCtorEq, ac_ref8_Extend, h2, rleast_eq, a6, List.map_nil, List.map_cons]
  refine loopW_weak (fs' := [(2, .t (.int .i64 (n : Nat))), (3, .t (.sl [bsT d0, bsT d1])), (4, .ref 4096 0 0), (8, .ref 4112 0 0), (10, .t (.int .i64 0))]) (hs' := [(4112, .live 2 [.agg [.nil, .t (.int .i64 0)]] true true), (4096, .live 2 [.t (regT [b0, b1] u)] true true)]) (Weak.rd id ?_ ?_ rfl) ?_
  · simp (disch := omega) only [go_sem, ↓reduceIte, Nat.reduceEqDiff, Nat.reduceBEq, reduceCtorEq, id]
  · simp (disch := omega) only [go_sem, ↓reduceIte, Nat.reduceEqDiff, id]
  rcases g0 with z0 | z0 <;> rcases g1 with z1 | z1
  · have zz : True := trivial
    by_cases p2 : 0 < d0.length
    · have zz : True := trivial
      have hE : extE 0 0 loc n 2 d0.length d1.length = 27 := by unfold extE; rw [if_neg (by omega), if_neg (by omega), if_pos (by omega)]
      refine loop_fuel 3 ?_
      simp (disch := omega) only [go_sem, ↓reduceIte, Nat.reduceAdd, Nat.reduceEqDiff, Nat.reduceLeDiff, Int.reduceEq, Int.reduceLT, Int.reduceLE, reduceCtorEq, loopN_succ, ac_ref8_Extend_L0, h3, actv_eq0 hk.1, actv_eq1 hk.1, h4, size_eq0, size_eq1, h5, twin_eq2 hk, h7, copy_eq, h6, sumA_eq0, sumA_eq1, z0, z1, hE, List.map_nil, extR, extEr, List.getD_cons_zero, List.getD_cons_succ, List.length_cons, List.length_nil]
      all_goals repeat refine And.intro rfl ?_
      all_goals rfl
    · have zz : True := trivial
      by_cases p1 : 0 < d1.length
      · have zz : True := trivial
        have hE : extE 0 0 loc n 2 d0.length d1.length = 27 := by unfold extE; rw [if_neg (by omega), if_neg (by omega), if_pos (by omega)]
        refine loop_fuel 3 ?_
        simp (disch := omega) only [go_sem, ↓reduceIte, Nat.reduceAdd, Nat.reduceEqDiff, Nat.reduceLeDiff, Int.reduceEq, Int.reduceLT, Int.reduceLE, Int.reduceAdd, reduceCtorEq, loopN_succ, ac_ref8_Extend_L0, h3, actv_eq0 hk.1, actv_eq1 hk.1, h4, size_eq0, size_eq1, h5, twin_eq2 hk, h7, copy_eq, h6, sumA_eq0, sumA_eq1, z0, z1, hE, List.map_nil, extR, extEr, List.getD_cons_zero, List.getD_cons_succ, List.length_cons, List.length_nil]
        all_goals repeat refine And.intro rfl ?_
        all_goals rfl
      · have zz : True := trivial
        refine loop_fuel 3 ?_
        simp (disch := omega) only [go_sem, ↓reduceIte, Nat.reduceAdd, Nat.reduceEqDiff, Nat.reduceLeDiff, Int.reduceLT, Int.reduceLE, Int.reduceAdd, reduceCtorEq, loopN_succ, ac_ref8_Extend_L0, h3, actv_eq0 hk.1, actv_eq1 hk.1, h4, size_eq0, size_eq1, h5, twin_eq2 hk, h7, copy_eq, h6, sumA_eq0, sumA_eq1, z0, z1]
        all_goals repeat refine And.intro rfl ?_
        refine loopW_weak (fs' := [(2, .t (.int .i64 (n : Nat))), (3, .t (.sl [bsT d0, bsT d1])), (4, .ref 4096 0 0), (8, .ref 4112 0 0), (11, .t (.int .i64 0))]) (hs' := [(4112, .live 2 [.agg [.nil, .t (.int .i64 0)]] true true), (4096, .live 2 [.t (regT [b0, b1] u)] true true)]) (Weak.rd id ?_ ?_ rfl) ?_
        · simp (disch := omega) only [go_sem, ↓reduceIte, Nat.reduceEqDiff, Nat.reduceBEq, id]
        · simp (disch := omega) only [go_sem, ↓reduceIte, Nat.reduceEqDiff, id]
        have hE : extE 0 0 loc n 2 d0.length d1.length = 0 := by unfold extE; rw [if_neg (by omega), if_neg (by omega), if_neg (by omega), if_neg (by omega)]
        refine loop_fuel 3 ?_
        simp (disch := omega) only [go_sem, ↓reduceIte, Nat.reduceAdd, Nat.reduceEqDiff, Nat.reduceLeDiff, Int.reduceLT, Int.reduceAdd, reduceCtorEq, loopN_succ, ac_ref8_Extend_L1, h3, actv_eq0 hk.1, actv_eq1 hk.1, h4, size_eq0, size_eq1, h5, twin_eq2 hk, h7, copy_eq, h6, sumA_eq0, sumA_eq1, z0, z1]
        all_goals repeat refine And.intro rfl ?_
        refine loop_upto 2 (fun k => match k with | 0 => [(2, .t (.int .i64 (n : Nat))), (3, .t (.sl [bsT d0, bsT d1])), (4, .ref 4096 0 0), (8, .ref 4112 0 0), (12, .ref 65568 0 0), (13, .t (.int .i64 0))] | 1 => [(2, .t (.int .i64 (n : Nat))), (3, .t (.sl [bsT d0, bsT d1])), (4, .ref 4096 0 0), (8, .ref 4112 0 0), (12, .ref 65568 0 0), (13, .t (.int .i64 1))] | _ => [(2, .t (.int .i64 (n : Nat))), (3, .t (.sl [bsT d0, bsT d1])), (4, .ref 4096 0 0), (8, .ref 4112 0 0), (12, .ref 65568 0 0), (13, .t (.int .i64 2))]) (fun k => match k with | 0 => [(65568, .live 2 [.agg [.sl 65552 0 2, .t (.int .i64 u)]] true true), (65554, .live 1 (((b1).map bsT).map V.t) true false), (65553, .live 1 (((b0).map bsT).map V.t) true false), (65552, .live 1 [.sl 65553 0 0, .sl 65554 0 0] true false), (4112, .live 2 [.agg [.nil, .t (.int .i64 0)]] true true), (4096, .live 2 [.t (regT [b0, b1] u)] true true)] | 1 => [(65568, .live 2 [.agg [.sl 65552 0 2, .t (.int .i64 u)]] true true), (65554, .live 1 (((b1).map bsT).map V.t) true false), (65553, .live 1 (((ext1 0 b0 n d0).map bsT).map V.t) true false), (65552, .live 1 [.sl 65553 0 0, .sl 65554 0 0] true false), (4112, .live 2 [.agg [.nil, .t (.int .i64 0)]] true true), (4096, .live 2 [.t (regT [b0, b1] u)] true true)] | _ => [(65568, .live 2 [.agg [.sl 65552 0 2, .t (.int .i64 u)]] true true), (65554, .live 1 (((ext1 1 b1 n d1).map bsT).map V.t) true false), (65553, .live 1 (((ext1 0 b0 n d0).map bsT).map V.t) true false), (65552, .live 1 [.sl 65553 0 0, .sl 65554 0 0] true false), (4112, .live 2 [.agg [.nil, .t (.int .i64 0)]] true true), (4096, .live 2 [.t (regT [b0, b1] u)] true true)]) ?_ (fun k hk2 => ?_)
        · refine Weak.rd id ?_ ?_ rfl
          all_goals simp (disch := omega) only [go_sem, ↓reduceIte, Nat.reduceAdd, Nat.reduceEqDiff, Nat.reduceBEq, id, z0, z1]
        · rcases (show k = 0 ∨ k = 1 ∨ k = 2 by omega) with rfl | rfl | rfl
          · have q := List.take_of_length_le (show (b0.getD n [] ++ d0).length ≤ (List.getD b0 n []).length + d0.length by rw [List.length_append]; exact Nat.le_refl _)
            simp (disch := omega) only [go_sem, ↓reduceIte, Nat.reduceAdd, Nat.reduceEqDiff, Nat.reduceLT, Nat.reduceLeDiff, Int.reduceLT, Int.reduceAdd, reduceCtorEq, ac_ref8_Extend_L2, h3, actv_eq0 hk.1, actv_eq1 hk.1, h4, size_eq0, size_eq1, h5, twin_eq2 hk, h7, copy_eq, h6, sumA_eq0, sumA_eq1, z0, z1, ext1_length, q]
            refine Weak.rd id ?_ ?_ rfl
            all_goals simp (disch := omega) only [go_sem, ↓reduceIte, Nat.reduceAdd, Nat.reduceEqDiff, Nat.reduceBEq, reduceCtorEq, id, ext1, z0, z1]
          · have q := List.take_of_length_le (show (b1.getD n [] ++ d1).length ≤ (List.getD b1 n []).length + d1.length by rw [List.length_append]; exact Nat.le_refl _)
            simp (disch := omega) only [go_sem, ↓reduceIte, Nat.reduceAdd, Nat.reduceEqDiff, Nat.reduceLT, Nat.reduceLeDiff, Int.reduceLT, Int.reduceAdd, reduceCtorEq, ac_ref8_Extend_L2, h3, actv_eq0 hk.1, actv_eq1 hk.1, h4, size_eq0, size_eq1, h5, twin_eq2 hk, h7, copy_eq, h6, sumA_eq0, sumA_eq1, z0, z1, ext1_length, q]
            refine Weak.rd id ?_ ?_ rfl
            all_goals simp (disch := omega) only [go_sem, ↓reduceIte, Nat.reduceAdd, Nat.reduceEqDiff, Nat.reduceBEq, reduceCtorEq, id, ext1, z0, z1]
          · have t0 : List.take 0 (ext1 0 b0 n d0) = ext1 0 b0 n d0 := List.take_of_length_le (by rw [ext1_length, z0]; exact Nat.le_refl _)
            have t1 : List.take 0 (ext1 1 b1 n d1) = ext1 1 b1 n d1 := List.take_of_length_le (by rw [ext1_length, z1]; exact Nat.le_refl _)
            have y0 : ext1 0 b0 n d0 = [] := List.eq_nil_of_length_eq_zero (by rw [ext1_length, z0])
            have y1 : ext1 1 b1 n d1 = [] := List.eq_nil_of_length_eq_zero (by rw [ext1_length, z1])
            simp (disch := omega) only [go_sem, ↓reduceIte, Nat.reduceAdd, Nat.reduceEqDiff, Nat.reduceLeDiff, Int.reduceLT, reduceCtorEq, ac_ref8_Extend_L2, ext1_length, t0, t1, z0, z1, hE, extBk, Int.toNat_natCast, List.map_cons, List.map_nil, y0, y1, extR, extEr, List.getD_cons_zero, List.getD_cons_succ, List.length_cons, List.length_nil]
  · have zz : True := trivial
    by_cases p1 : 0 < d0.length
    · have zz : True := trivial
      have hE : extE 0 16 loc n 2 d0.length d1.length = 27 := by unfold extE; rw [if_neg (by omega), if_neg (by omega), if_pos (by omega)]
      refine loop_fuel 3 ?_
      simp (disch := omega) only [go_sem, ↓reduceIte, Nat.reduceAdd, Nat.reduceEqDiff, Nat.reduceLeDiff, Int.reduceEq, Int.reduceLT, Int.reduceLE, reduceCtorEq, loopN_succ, ac_ref8_Extend_L0, h3, actv_eq0 hk.1, actv_eq1 hk.1, h4, size_eq0, size_eq1, h5, twin_eq2 hk, h7, copy_eq, h6, sumA_eq0, sumA_eq1, z0, z1, hE, List.map_nil, extR, extEr, List.getD_cons_zero, List.getD_cons_succ, List.length_cons, List.length_nil]
      all_goals repeat refine And.intro rfl ?_
      all_goals rfl
    · have zz : True := trivial
      refine loop_fuel 3 ?_
      simp (disch := omega) only [go_sem, ↓reduceIte, Nat.reduceAdd, Nat.reduceEqDiff, Nat.reduceLeDiff, Int.reduceLT, Int.reduceLE, Int.reduceAdd, reduceCtorEq, loopN_succ, ac_ref8_Extend_L0, h3, actv_eq0 hk.1, actv_eq1 hk.1, h4, size_eq0, size_eq1, h5, twin_eq2 hk, h7, copy_eq, h6, sumA_eq0, sumA_eq1, z0, z1]
      all_goals repeat refine And.intro rfl ?_
      refine loopW_weak (fs' := [(2, .t (.int .i64 (n : Nat))), (3, .t (.sl [bsT d0, bsT d1])), (4, .ref 4096 0 0), (8, .ref 4112 0 0), (11, .t (.int .i64 0))]) (hs' := [(4112, .live 2 [.agg [.nil, .t (.int .i64 0)]] true true), (4096, .live 2 [.t (regT [b0, b1] u)] true true)]) (Weak.rd id ?_ ?_ rfl) ?_
      · simp (disch := omega) only [go_sem, ↓reduceIte, Nat.reduceEqDiff, Nat.reduceBEq, id]
      · simp (disch := omega) only [go_sem, ↓reduceIte, Nat.reduceEqDiff, id]
      by_cases q1 : d1.length ≠ 32
      · have zz : True := trivial
        have hE : extE 0 16 loc n 2 d0.length d1.length = 24 := by unfold extE; rw [if_neg (by omega), if_neg (by omega), if_neg (by omega), if_pos (by omega)]
        refine loop_fuel 3 ?_
        simp (disch := omega) only [go_sem, ↓reduceIte, Nat.reduceAdd, Nat.reduceEqDiff, Nat.reduceLeDiff, Int.reduceEq, Int.reduceLT, Int.reduceLE, Int.reduceAdd, reduceCtorEq, loopN_succ, ac_ref8_Extend_L1, h3, actv_eq0 hk.1, actv_eq1 hk.1, h4, size_eq0, size_eq1, h5, twin_eq2 hk, h7, copy_eq, h6, sumA_eq0, sumA_eq1, z0, z1, hE, List.map_nil, extR, extEr, List.getD_cons_zero, List.getD_cons_succ, List.length_cons, List.length_nil]
        all_goals repeat refine And.intro rfl ?_
        all_goals rfl
      · have zz : True := trivial
        have hE : extE 0 16 loc n 2 d0.length d1.length = 0 := by unfold extE; rw [if_neg (by omega), if_neg (by omega), if_neg (by omega), if_neg (by omega)]
        refine loop_fuel 3 ?_
        simp (disch := omega) only [go_sem, ↓reduceIte, Nat.reduceAdd, Nat.reduceEqDiff, Nat.reduceLeDiff, Int.reduceLT, Int.reduceLE, Int.reduceAdd, reduceCtorEq, loopN_succ, ac_ref8_Extend_L1, h3, actv_eq0 hk.1, actv_eq1 hk.1, h4, size_eq0, size_eq1, h5, twin_eq2 hk, h7, copy_eq, h6, sumA_eq0, sumA_eq1, z0, z1]
        all_goals repeat refine And.intro rfl ?_
        refine loop_upto 2 (fun k => match k with | 0 => [(2, .t (.int .i64 (n : Nat))), (3, .t (.sl [bsT d0, bsT d1])), (4, .ref 4096 0 0), (8, .ref 4112 0 0), (12, .ref 65568 0 0), (13, .t (.int .i64 0))] | 1 => [(2, .t (.int .i64 (n : Nat))), (3, .t (.sl [bsT d0, bsT d1])), (4, .ref 4096 0 0), (8, .ref 4112 0 0), (12, .ref 65568 0 0), (13, .t (.int .i64 1))] | _ => [(2, .t (.int .i64 (n : Nat))), (3, .t (.sl [bsT d0, bsT d1])), (4, .ref 4096 0 0), (8, .ref 4112 0 0), (12, .ref 65568 0 0), (13, .t (.int .i64 2))]) (fun k => match k with | 0 => [(65568, .live 2 [.agg [.sl 65552 0 2, .t (.int .i64 u)]] true true), (65554, .live 1 (((b1).map bsT).map V.t) true false), (65553, .live 1 (((b0).map bsT).map V.t) true false), (65552, .live 1 [.sl 65553 0 0, .sl 65554 0 16] true false), (4112, .live 2 [.agg [.nil, .t (.int .i64 0)]] true true), (4096, .live 2 [.t (regT [b0, b1] u)] true true)] | 1 => [(65568, .live 2 [.agg [.sl 65552 0 2, .t (.int .i64 u)]] true true), (65554, .live 1 (((b1).map bsT).map V.t) true false), (65553, .live 1 (((ext1 0 b0 n d0).map bsT).map V.t) true false), (65552, .live 1 [.sl 65553 0 0, .sl 65554 0 16] true false), (4112, .live 2 [.agg [.nil, .t (.int .i64 0)]] true true), (4096, .live 2 [.t (regT [b0, b1] u)] true true)] | _ => [(65568, .live 2 [.agg [.sl 65552 0 2, .t (.int .i64 u)]] true true), (65554, .live 1 (((ext1 1 b1 n d1).map bsT).map V.t) true false), (65553, .live 1 (((ext1 0 b0 n d0).map bsT).map V.t) true false), (65552, .live 1 [.sl 65553 0 0, .sl 65554 0 16] true false), (4112, .live 2 [.agg [.nil, .t (.int .i64 0)]] true true), (4096, .live 2 [.t (regT [b0, b1] u)] true true)]) ?_ (fun k hk2 => ?_)
        · refine Weak.rd id ?_ ?_ rfl
          all_goals simp (disch := omega) only [go_sem, ↓reduceIte, Nat.reduceAdd, Nat.reduceEqDiff, Nat.reduceBEq, id, z0, z1]
        · rcases (show k = 0 ∨ k = 1 ∨ k = 2 by omega) with rfl | rfl | rfl
          · have q := List.take_of_length_le (show (b0.getD n [] ++ d0).length ≤ (List.getD b0 n []).length + d0.length by rw [List.length_append]; exact Nat.le_refl _)
            simp (disch := omega) only [go_sem, ↓reduceIte, Nat.reduceAdd, Nat.reduceEqDiff, Nat.reduceLT, Nat.reduceLeDiff, Int.reduceLT, Int.reduceAdd, reduceCtorEq, ac_ref8_Extend_L2, h3, actv_eq0 hk.1, actv_eq1 hk.1, h4, size_eq0, size_eq1, h5, twin_eq2 hk, h7, copy_eq, h6, sumA_eq0, sumA_eq1, z0, z1, ext1_length, q]
            refine Weak.rd id ?_ ?_ rfl
            all_goals simp (disch := omega) only [go_sem, ↓reduceIte, Nat.reduceAdd, Nat.reduceEqDiff, Nat.reduceBEq, reduceCtorEq, id, ext1, z0, z1]
          · have q := List.take_of_length_le (show (b1.getD n [] ++ d1).length ≤ (List.getD b1 n []).length + d1.length by rw [List.length_append]; exact Nat.le_refl _)
            simp (config := { maxSteps := 2000000 }) (disch := (first | omega | (simp only [lens, lenm]; omega))) only [go_sem, ↓reduceIte, Nat.reduceAdd, Nat.reduceEqDiff, Nat.reduceLT, Nat.reduceLeDiff, Int.reduceLT, Int.reduceLE, Int.reduceAdd, ac_ref8_Extend_L2, h3, actv_eq0 hk.1, actv_eq1 hk.1, h4, size_eq0, size_eq1, h5, twin_eq2 hk, h7, copy_eq, h6, sumA_eq0, sumA_eq1, z0, z1, ext1_length, q]
            repeat refine And.intro rfl ?_
            refine Weak.cv (hv := []) [86352] id ?_ rfl
            simp (config := { maxSteps := 2000000 }) (disch := (first | omega | (simp only [lens, lenm]; omega))) only [go_sem, ↓reduceIte, Nat.reduceAdd, Nat.reduceEqDiff, Nat.reduceLeDiff, Nat.reduceBEq, reduceCtorEq, id, ext1, z0, z1, take_sum1, take_sum256, sumA0, sumA1, sum1_length, sum256_length]
            all_goals rfl
          · have t0 : List.take 0 (ext1 0 b0 n d0) = ext1 0 b0 n d0 := List.take_of_length_le (by rw [ext1_length, z0]; exact Nat.le_refl _)
            have t1 : List.take 16 (ext1 1 b1 n d1) = ext1 1 b1 n d1 := List.take_of_length_le (by rw [ext1_length, z1]; exact Nat.le_refl _)
            have y0 : ext1 0 b0 n d0 = [] := List.eq_nil_of_length_eq_zero (by rw [ext1_length, z0])
            simp (disch := omega) only [go_sem, ↓reduceIte, Nat.reduceAdd, Nat.reduceEqDiff, Nat.reduceLeDiff, Int.reduceLT, reduceCtorEq, ac_ref8_Extend_L2, ext1_length, t0, t1, z0, z1, hE, extBk, Int.toNat_natCast, List.map_cons, List.map_nil, y0, extR, extEr, List.getD_cons_zero, List.getD_cons_succ, List.length_cons, List.length_nil]
  · have zz : True := trivial
    by_cases p1 : 0 < d1.length
    · have zz : True := trivial
      have hE : extE 16 0 loc n 2 d0.length d1.length = 27 := by unfold extE; rw [if_neg (by omega), if_neg (by omega), if_pos (by omega)]
      refine loop_fuel 3 ?_
      simp (disch := omega) only [go_sem, ↓reduceIte, Nat.reduceAdd, Nat.reduceEqDiff, Nat.reduceLeDiff, Int.reduceEq, Int.reduceLT, Int.reduceLE, Int.reduceAdd, reduceCtorEq, loopN_succ, ac_ref8_Extend_L0, h3, actv_eq0 hk.1, actv_eq1 hk.1, h4, size_eq0, size_eq1, h5, twin_eq2 hk, h7, copy_eq, h6, sumA_eq0, sumA_eq1, z0, z1, hE, List.map_nil, extR, extEr, List.getD_cons_zero, List.getD_cons_succ, List.length_cons, List.length_nil]
      all_goals repeat refine And.intro rfl ?_
      all_goals rfl
    · have zz : True := trivial
      refine loop_fuel 3 ?_
      simp (disch := omega) only [go_sem, ↓reduceIte, Nat.reduceAdd, Nat.reduceEqDiff, Nat.reduceLeDiff, Int.reduceLT, Int.reduceLE, Int.reduceAdd, reduceCtorEq, loopN_succ, ac_ref8_Extend_L0, h3, actv_eq0 hk.1, actv_eq1 hk.1, h4, size_eq0, size_eq1, h5, twin_eq2 hk, h7, copy_eq, h6, sumA_eq0, sumA_eq1, z0, z1]
      all_goals repeat refine And.intro rfl ?_
      refine loopW_weak (fs' := [(2, .t (.int .i64 (n : Nat))), (3, .t (.sl [bsT d0, bsT d1])), (4, .ref 4096 0 0), (8, .ref 4112 0 0), (11, .t (.int .i64 0))]) (hs' := [(4112, .live 2 [.agg [.nil, .t (.int .i64 0)]] true true), (4096, .live 2 [.t (regT [b0, b1] u)] true true)]) (Weak.rd id ?_ ?_ rfl) ?_
      · simp (disch := omega) only [go_sem, ↓reduceIte, Nat.reduceEqDiff, Nat.reduceBEq, id]
      · simp (disch := omega) only [go_sem, ↓reduceIte, Nat.reduceEqDiff, id]
      by_cases q1 : d0.length ≠ 20
      · have zz : True := trivial
        have hE : extE 16 0 loc n 2 d0.length d1.length = 24 := by unfold extE; rw [if_neg (by omega), if_neg (by omega), if_neg (by omega), if_pos (by omega)]
        refine loop_fuel 3 ?_
        simp (disch := omega) only [go_sem, ↓reduceIte, Nat.reduceAdd, Nat.reduceEqDiff, Nat.reduceLeDiff, Int.reduceEq, Int.reduceLT, Int.reduceLE, loopN_succ, ac_ref8_Extend_L1, h3, actv_eq0 hk.1, actv_eq1 hk.1, h4, size_eq0, size_eq1, h5, twin_eq2 hk, h7, copy_eq, h6, sumA_eq0, sumA_eq1, z0, z1, hE, List.map_nil, extR, extEr, List.getD_cons_zero, List.getD_cons_succ, List.length_cons, List.length_nil]
        all_goals repeat refine And.intro rfl ?_
        all_goals rfl
      · have zz : True := trivial
        have hE : extE 16 0 loc n 2 d0.length d1.length = 0 := by unfold extE; rw [if_neg (by omega), if_neg (by omega), if_neg (by omega), if_neg (by omega)]
        refine loop_fuel 3 ?_
        simp (disch := omega) only [go_sem, ↓reduceIte, Nat.reduceAdd, Nat.reduceEqDiff, Nat.reduceLeDiff, Int.reduceLT, Int.reduceLE, Int.reduceAdd, reduceCtorEq, loopN_succ, ac_ref8_Extend_L1, h3, actv_eq0 hk.1, actv_eq1 hk.1, h4, size_eq0, size_eq1, h5, twin_eq2 hk, h7, copy_eq, h6, sumA_eq0, sumA_eq1, z0, z1]
        all_goals repeat refine And.intro rfl ?_
        refine loop_upto 2 (fun k => match k with | 0 => [(2, .t (.int .i64 (n : Nat))), (3, .t (.sl [bsT d0, bsT d1])), (4, .ref 4096 0 0), (8, .ref 4112 0 0), (12, .ref 65568 0 0), (13, .t (.int .i64 0))] | 1 => [(2, .t (.int .i64 (n : Nat))), (3, .t (.sl [bsT d0, bsT d1])), (4, .ref 4096 0 0), (8, .ref 4112 0 0), (12, .ref 65568 0 0), (13, .t (.int .i64 1))] | _ => [(2, .t (.int .i64 (n : Nat))), (3, .t (.sl [bsT d0, bsT d1])), (4, .ref 4096 0 0), (8, .ref 4112 0 0), (12, .ref 65568 0 0), (13, .t (.int .i64 2))]) (fun k => match k with | 0 => [(65568, .live 2 [.agg [.sl 65552 0 2, .t (.int .i64 u)]] true true), (65554, .live 1 (((b1).map bsT).map V.t) true false), (65553, .live 1 (((b0).map bsT).map V.t) true false), (65552, .live 1 [.sl 65553 0 16, .sl 65554 0 0] true false), (4112, .live 2 [.agg [.nil, .t (.int .i64 0)]] true true), (4096, .live 2 [.t (regT [b0, b1] u)] true true)] | 1 => [(65568, .live 2 [.agg [.sl 65552 0 2, .t (.int .i64 u)]] true true), (65554, .live 1 (((b1).map bsT).map V.t) true false), (65553, .live 1 (((ext1 0 b0 n d0).map bsT).map V.t) true false), (65552, .live 1 [.sl 65553 0 16, .sl 65554 0 0] true false), (4112, .live 2 [.agg [.nil, .t (.int .i64 0)]] true true), (4096, .live 2 [.t (regT [b0, b1] u)] true true)] | _ => [(65568, .live 2 [.agg [.sl 65552 0 2, .t (.int .i64 u)]] true true), (65554, .live 1 (((ext1 1 b1 n d1).map bsT).map V.t) true false), (65553, .live 1 (((ext1 0 b0 n d0).map bsT).map V.t) true false), (65552, .live 1 [.sl 65553 0 16, .sl 65554 0 0] true false), (4112, .live 2 [.agg [.nil, .t (.int .i64 0)]] true true), (4096, .live 2 [.t (regT [b0, b1] u)] true true)]) ?_ (fun k hk2 => ?_)
        · refine Weak.rd id ?_ ?_ rfl
          all_goals simp (disch := omega) only [go_sem, ↓reduceIte, Nat.reduceAdd, Nat.reduceEqDiff, Nat.reduceBEq, id, z0, z1]
        · rcases (show k = 0 ∨ k = 1 ∨ k = 2 by omega) with rfl | rfl | rfl
          · have q := List.take_of_length_le (show (b0.getD n [] ++ d0).length ≤ (List.getD b0 n []).length + d0.length by rw [List.length_append]; exact Nat.le_refl _)
            simp (config := { maxSteps := 2000000 }) (disch := (first | omega | (simp only [lens, lenm]; omega))) only [go_sem, ↓reduceIte, Nat.reduceAdd, Nat.reduceEqDiff, Nat.reduceLT, Nat.reduceLeDiff, Int.reduceLT, Int.reduceLE, Int.reduceAdd, ac_ref8_Extend_L2, h3, actv_eq0 hk.1, actv_eq1 hk.1, h4, size_eq0, size_eq1, h5, twin_eq2 hk, h7, copy_eq, h6, sumA_eq0, sumA_eq1, z0, z1, ext1_length, q]
            repeat refine And.intro rfl ?_
            refine Weak.cv (hv := []) [86352] id ?_ rfl
            simp (config := { maxSteps := 2000000 }) (disch := (first | omega | (simp only [lens, lenm]; omega))) only [go_sem, ↓reduceIte, Nat.reduceAdd, Nat.reduceEqDiff, Nat.reduceLeDiff, Nat.reduceBEq, id, ext1, z0, z1, take_sum1, take_sum256, sumA0, sumA1, sum1_length, sum256_length]
            all_goals rfl
          · have q := List.take_of_length_le (show (b1.getD n [] ++ d1).length ≤ (List.getD b1 n []).length + d1.length by rw [List.length_append]; exact Nat.le_refl _)
            simp (disch := omega) only [go_sem, ↓reduceIte, Nat.reduceAdd, Nat.reduceEqDiff, Nat.reduceLT, Nat.reduceLeDiff, Int.reduceLT, Int.reduceAdd, reduceCtorEq, ac_ref8_Extend_L2, h3, actv_eq0 hk.1, actv_eq1 hk.1, h4, size_eq0, size_eq1, h5, twin_eq2 hk, h7, copy_eq, h6, sumA_eq0, sumA_eq1, z0, z1, ext1_length, q]
            refine Weak.rd id ?_ ?_ rfl
            all_goals simp (disch := omega) only [go_sem, ↓reduceIte, Nat.reduceAdd, Nat.reduceEqDiff, Nat.reduceBEq, reduceCtorEq, id, ext1, z0, z1]
          · have t0 : List.take 16 (ext1 0 b0 n d0) = ext1 0 b0 n d0 := List.take_of_length_le (by rw [ext1_length, z0]; exact Nat.le_refl _)
            have t1 : List.take 0 (ext1 1 b1 n d1) = ext1 1 b1 n d1 := List.take_of_length_le (by rw [ext1_length, z1]; exact Nat.le_refl _)
            have y1 : ext1 1 b1 n d1 = [] := List.eq_nil_of_length_eq_zero (by rw [ext1_length, z1])
            simp (disch := omega) only [go_sem, ↓reduceIte, Nat.reduceAdd, Nat.reduceEqDiff, Nat.reduceLeDiff, Int.reduceLT, reduceCtorEq, ac_ref8_Extend_L2, ext1_length, t0, t1, z0, z1, hE, extBk, Int.toNat_natCast, List.map_cons, List.map_nil, y1, extR, extEr, List.getD_cons_zero, List.getD_cons_succ, List.length_cons, List.length_nil]
  · have zz : True := trivial
    refine loop_fuel 3 ?_
    simp (disch := omega) only [go_sem, ↓reduceIte, Nat.reduceAdd, Nat.reduceEqDiff, Nat.reduceLeDiff, Int.reduceLT, Int.reduceAdd, loopN_succ, ac_ref8_Extend_L0, h3, actv_eq0 hk.1, actv_eq1 hk.1, h4, size_eq0, size_eq1, h5, twin_eq2 hk, h7, copy_eq, h6, sumA_eq0, sumA_eq1, z0, z1]
    all_goals repeat refine And.intro rfl ?_
    refine loopW_weak (fs' := [(2, .t (.int .i64 (n : Nat))), (3, .t (.sl [bsT d0, bsT d1])), (4, .ref 4096 0 0), (8, .ref 4112 0 0), (11, .t (.int .i64 0))]) (hs' := [(4112, .live 2 [.agg [.nil, .t (.int .i64 0)]] true true), (4096, .live 2 [.t (regT [b0, b1] u)] true true)]) (Weak.rd id ?_ ?_ rfl) ?_
    · simp (disch := omega) only [go_sem, ↓reduceIte, Nat.reduceEqDiff, Nat.reduceBEq, id]
    · simp (disch := omega) only [go_sem, ↓reduceIte, Nat.reduceEqDiff, id]
    by_cases q2 : d0.length ≠ 20
    · have zz : True := trivial
      have hE : extE 16 16 loc n 2 d0.length d1.length = 24 := by unfold extE; rw [if_neg (by omega), if_neg (by omega), if_neg (by omega), if_pos (by omega)]
      refine loop_fuel 3 ?_
      simp (disch := omega) only [go_sem, ↓reduceIte, Nat.reduceAdd, Nat.reduceEqDiff, Nat.reduceLeDiff, Int.reduceEq, Int.reduceLT, Int.reduceLE, loopN_succ, ac_ref8_Extend_L1, h3, actv_eq0 hk.1, actv_eq1 hk.1, h4, size_eq0, size_eq1, h5, twin_eq2 hk, h7, copy_eq, h6, sumA_eq0, sumA_eq1, z0, z1, hE, List.map_nil, extR, extEr, List.getD_cons_zero, List.getD_cons_succ, List.length_cons, List.length_nil]
      all_goals repeat refine And.intro rfl ?_
      all_goals rfl
    · have zz : True := trivial
      by_cases q1 : d1.length ≠ 32
      · have zz : True := trivial
        have hE : extE 16 16 loc n 2 d0.length d1.length = 24 := by unfold extE; rw [if_neg (by omega), if_neg (by omega), if_neg (by omega), if_pos (by omega)]
        refine loop_fuel 3 ?_
        simp (disch := omega) only [go_sem, ↓reduceIte, Nat.reduceAdd, Nat.reduceEqDiff, Nat.reduceLeDiff, Int.reduceEq, Int.reduceLT, Int.reduceLE, Int.reduceAdd, loopN_succ, ac_ref8_Extend_L1, h3, actv_eq0 hk.1, actv_eq1 hk.1, h4, size_eq0, size_eq1, h5, twin_eq2 hk, h7, copy_eq, h6, sumA_eq0, sumA_eq1, z0, z1, hE, List.map_nil, extR, extEr, List.getD_cons_zero, List.getD_cons_succ, List.length_cons, List.length_nil]
        all_goals repeat refine And.intro rfl ?_
        all_goals rfl
      · have zz : True := trivial
        have hE : extE 16 16 loc n 2 d0.length d1.length = 0 := by unfold extE; rw [if_neg (by omega), if_neg (by omega), if_neg (by omega), if_neg (by omega)]
        refine loop_fuel 3 ?_
        simp (disch := omega) only [go_sem, ↓reduceIte, Nat.reduceAdd, Nat.reduceEqDiff, Nat.reduceLeDiff, Int.reduceLT, Int.reduceLE, Int.reduceAdd, loopN_succ, ac_ref8_Extend_L1, h3, actv_eq0 hk.1, actv_eq1 hk.1, h4, size_eq0, size_eq1, h5, twin_eq2 hk, h7, copy_eq, h6, sumA_eq0, sumA_eq1, z0, z1]
        all_goals repeat refine And.intro rfl ?_
        refine loop_upto 2 (fun k => match k with | 0 => [(2, .t (.int .i64 (n : Nat))), (3, .t (.sl [bsT d0, bsT d1])), (4, .ref 4096 0 0), (8, .ref 4112 0 0), (12, .ref 65568 0 0), (13, .t (.int .i64 0))] | 1 => [(2, .t (.int .i64 (n : Nat))), (3, .t (.sl [bsT d0, bsT d1])), (4, .ref 4096 0 0), (8, .ref 4112 0 0), (12, .ref 65568 0 0), (13, .t (.int .i64 1))] | _ => [(2, .t (.int .i64 (n : Nat))), (3, .t (.sl [bsT d0, bsT d1])), (4, .ref 4096 0 0), (8, .ref 4112 0 0), (12, .ref 65568 0 0), (13, .t (.int .i64 2))]) (fun k => match k with | 0 => [(65568, .live 2 [.agg [.sl 65552 0 2, .t (.int .i64 u)]] true true), (65554, .live 1 (((b1).map bsT).map V.t) true false), (65553, .live 1 (((b0).map bsT).map V.t) true false), (65552, .live 1 [.sl 65553 0 16, .sl 65554 0 16] true false), (4112, .live 2 [.agg [.nil, .t (.int .i64 0)]] true true), (4096, .live 2 [.t (regT [b0, b1] u)] true true)] | 1 => [(65568, .live 2 [.agg [.sl 65552 0 2, .t (.int .i64 u)]] true true), (65554, .live 1 (((b1).map bsT).map V.t) true false), (65553, .live 1 (((ext1 0 b0 n d0).map bsT).map V.t) true false), (65552, .live 1 [.sl 65553 0 16, .sl 65554 0 16] true false), (4112, .live 2 [.agg [.nil, .t (.int .i64 0)]] true true), (4096, .live 2 [.t (regT [b0, b1] u)] true true)] | _ => [(65568, .live 2 [.agg [.sl 65552 0 2, .t (.int .i64 u)]] true true), (65554, .live 1 (((ext1 1 b1 n d1).map bsT).map V.t) true false), (65553, .live 1 (((ext1 0 b0 n d0).map bsT).map V.t) true false), (65552, .live 1 [.sl 65553 0 16, .sl 65554 0 16] true false), (4112, .live 2 [.agg [.nil, .t (.int .i64 0)]] true true), (4096, .live 2 [.t (regT [b0, b1] u)] true true)]) ?_ (fun k hk2 => ?_)
        · refine Weak.rd id ?_ ?_ rfl
          all_goals simp (disch := omega) only [go_sem, ↓reduceIte, Nat.reduceAdd, Nat.reduceEqDiff, Nat.reduceBEq, id, z0, z1]
        · rcases (show k = 0 ∨ k = 1 ∨ k = 2 by omega) with rfl | rfl | rfl
          · have q := List.take_of_length_le (show (b0.getD n [] ++ d0).length ≤ (List.getD b0 n []).length + d0.length by rw [List.length_append]; exact Nat.le_refl _)
            simp (config := { maxSteps := 2000000 }) (disch := (first | omega | (simp only [lens, lenm]; omega))) only [go_sem, ↓reduceIte, Nat.reduceAdd, Nat.reduceEqDiff, Nat.reduceLT, Nat.reduceLeDiff, Int.reduceLT, Int.reduceLE, Int.reduceAdd, ac_ref8_Extend_L2, h3, actv_eq0 hk.1, actv_eq1 hk.1, h4, size_eq0, size_eq1, h5, twin_eq2 hk, h7, copy_eq, h6, sumA_eq0, sumA_eq1, z0, z1, ext1_length, q]
            repeat refine And.intro rfl ?_
            refine Weak.cv (hv := []) [86352] id ?_ rfl
            simp (config := { maxSteps := 2000000 }) (disch := (first | omega | (simp only [lens, lenm]; omega))) only [go_sem, ↓reduceIte, Nat.reduceAdd, Nat.reduceEqDiff, Nat.reduceLeDiff, Nat.reduceBEq, id, ext1, z0, z1, take_sum1, take_sum256, sumA0, sumA1, sum1_length, sum256_length]
            all_goals rfl
          · have q := List.take_of_length_le (show (b1.getD n [] ++ d1).length ≤ (List.getD b1 n []).length + d1.length by rw [List.length_append]; exact Nat.le_refl _)
            simp (config := { maxSteps := 2000000 }) (disch := (first | omega | (simp only [lens, lenm]; omega))) only [go_sem, ↓reduceIte, Nat.reduceAdd, Nat.reduceEqDiff, Nat.reduceLT, Nat.reduceLeDiff, Int.reduceLT, Int.reduceLE, Int.reduceAdd, ac_ref8_Extend_L2, h3, actv_eq0 hk.1, actv_eq1 hk.1, h4, size_eq0, size_eq1, h5, twin_eq2 hk, h7, copy_eq, h6, sumA_eq0, sumA_eq1, z0, z1, ext1_length, q]
            repeat refine And.intro rfl ?_
            refine Weak.cv (hv := []) [86352] id ?_ rfl
            simp (config := { maxSteps := 2000000 }) (disch := (first | omega | (simp only [lens, lenm]; omega))) only [go_sem, ↓reduceIte, Nat.reduceAdd, Nat.reduceEqDiff, Nat.reduceLeDiff, Nat.reduceBEq, id, ext1, z0, z1, take_sum1, take_sum256, sumA0, sumA1, sum1_length, sum256_length]
            all_goals rfl
          · have t0 : List.take 16 (ext1 0 b0 n d0) = ext1 0 b0 n d0 := List.take_of_length_le (by rw [ext1_length, z0]; exact Nat.le_refl _)
            have t1 : List.take 16 (ext1 1 b1 n d1) = ext1 1 b1 n d1 := List.take_of_length_le (by rw [ext1_length, z1]; exact Nat.le_refl _)
            simp (disch := omega) only [go_sem, ↓reduceIte, Nat.reduceAdd, Nat.reduceEqDiff, Nat.reduceLeDiff, Int.reduceLT, reduceCtorEq, ac_ref8_Extend_L2, ext1_length, t0, t1, z0, z1, hE, extBk, Int.toNat_natCast, List.map_cons, List.map_nil, extR, extEr, List.getD_cons_zero, List.getD_cons_succ, List.length_cons, List.length_nil]
end Go.Eng
end
section
set_option maxRecDepth 20000
set_option maxHeartbeats 64000000
namespace Go.Eng
theorem w_registers_Extend_bad (tab : Tab) (gl : Gl) (n1 n2 n3 n4 n5 n6 : Nat) (h1 : tab.look n1 = some ct_index.fs) (h2 : tab.look n2 = some ct_least.fs) (bk : List Bank) (u loc i : Int) (ds : List (List UInt8)) (hd : ds.length < 1000000000)
    (hb : (loc < 0 ∨ 4 < loc ∨ i < 0 ∨ 16 ≤ i ∨ ds.length ≠ 2) ∨ loc < leastI i false) :
    (ac_registers_Extend n1 n2 n3 n4 n5 n6).wp tab gl (zipF 0 [.t (regT bk u), .t (.int .i64 loc), .t (.int .i64 i), .t (.sl (ds.map bsT))]) (zipF 0 []) (resW [(8, some (2, true)), (9, none)] 0 (fun r o => r = .tup [.t (regT [] 0), .t (.int .i64 (if loc < 0 ∨ 4 < loc ∨ i < 0 ∨ 16 ≤ i ∨ ds.length ≠ 2 then 1 else 13))] ∧ o = [])) := by
  by_cases a1 : loc < 0
  · simp (disch := omega) only [go_sem, ↓reduceIte, Nat.reduceAdd, Nat.reduceEqDiff, Nat.reduceLeDiff, reduceCtorEq, ac_registers_Extend, a1, List.map_nil]
  · by_cases a2 : 4 < loc
    · simp (disch := omega) only [go_sem, ↓reduceIte, Nat.reduceAdd, Nat.reduceEqDiff, Nat.reduceLeDiff, reduceCtorEq, ac_registers_Extend, a1, a2, List.map_nil]
    · by_cases a3 : i < 0
      · simp (disch := omega) only [go_sem, ↓reduceIte, Nat.reduceAdd, Nat.reduceEqDiff, Nat.reduceLeDiff, reduceCtorEq, ac_registers_Extend, a1, a2, a3, h1, index_f, List.map_nil]
      · by_cases a4 : 16 ≤ i
        · simp (disch := omega) only [go_sem, ↓reduceIte, Nat.reduceAdd, Nat.reduceEqDiff, Nat.reduceLeDiff, reduceCtorEq, ac_registers_Extend, a1, a2, a3, a4, h1, index_f, List.map_nil]
        · by_cases a5 : ds.length = 2
          · have a6 : loc < leastI i false := by rcases hb with h | h; · omega
                                                 · exact h
            simp (disch := omega) only [go_sem, ↓reduceIte, Nat.reduceAdd, Nat.reduceEqDiff, Nat.reduceLeDiff, reduceCtorEq, ac_registers_Extend, a1, a2, a3, a4, a5, a6, h1, index_t, h2, least_eq, List.map_nil, ne_eq]
          · simp (disch := omega) only [go_sem, ↓reduceIte, Nat.reduceAdd, Nat.reduceEqDiff, Nat.reduceLeDiff, reduceCtorEq, ac_registers_Extend, a1, a2, a3, a4, a5, h1, index_t, List.map_nil, ne_eq]
theorem w_ref8_Extend_bad (tab : Tab) (gl : Gl) (n1 n2 n3 n4 n5 n6 : Nat) (h2 : tab.look n1 = some ct_rleast.fs) (bk : List Bank) (u loc i : Int) (ds : List (List UInt8)) (hd : ds.length < 1000000000)
    (hb : (loc < 0 ∨ 4 < loc ∨ i < 0 ∨ 16 ≤ i ∨ ds.length ≠ 2) ∨ loc < leastI i false) :
    (ac_ref8_Extend n1 n2 n3 n4 n5 n6).wp tab gl (zipF 0 [.t (regT bk u), .t (.int .i64 loc), .t (.int .i64 i), .t (.sl (ds.map bsT))]) (zipF 0 []) (resW [(8, some (2, true)), (9, none)] 0 (fun r o => r = .tup [.t (regT [] 0), .t (.int .i64 (if loc < 0 ∨ 4 < loc ∨ i < 0 ∨ 16 ≤ i ∨ ds.length ≠ 2 then 1 else 13))] ∧ o = [])) := by
  have a7 : ¬ leastI i false = 5 := by unfold leastI; split <;> (try split) <;> (try split) <;> simp_all
  by_cases a1 : loc < 0
  · simp (disch := omega) only [go_sem, ↓reduceIte, Nat.reduceAdd, Nat.reduceEqDiff, Nat.reduceLeDiff, reduceCtorEq, ac_ref8_Extend, a1, List.map_nil]
  · by_cases a2 : 4 < loc
    · simp (disch := omega) only [go_sem, ↓reduceIte, Nat.reduceAdd, Nat.reduceEqDiff, Nat.reduceLeDiff, reduceCtorEq, ac_ref8_Extend, a1, a2, List.map_nil]
    · by_cases a3 : i < 0
      · simp (disch := omega) only [go_sem, ↓reduceIte, Nat.reduceAdd, Nat.reduceEqDiff, Nat.reduceLeDiff, reduceCtorEq, ac_ref8_Extend, a1, a2, a3, List.map_nil]
      · by_cases a4 : 16 ≤ i
        · simp (disch := omega) only [go_sem, ↓reduceIte, Nat.reduceAdd, Nat.reduceEqDiff, Nat.reduceLeDiff, reduceCtorEq, ac_ref8_Extend, a1, a2, a3, a4, List.map_nil]
        · by_cases a5 : ds.length = 2
          · have a6 : loc < leastI i false := by rcases hb with h | h; · omega
                                                 · exact h
            simp (disch := omega) only [go_sem, ↓reduceIte, Nat.reduceAdd, Nat.reduceEqDiff, Nat.reduceLeDiff, reduceCtorEq, ac_ref8_Extend, a1, a2, a3, a4, a5, a6, a7, h2, rleast_eq, List.map_nil, ne_eq]
          · simp (disch := omega) only [go_sem, ↓reduceIte, Nat.reduceAdd, Nat.reduceEqDiff, Nat.reduceLeDiff, reduceCtorEq, ac_ref8_Extend, a1, a2, a3, a4, a5, List.map_nil, ne_eq]
theorem actv_eqn {u : Int} {a : Nat} (ha : a < 2) : ct_actv.fs [.t (.agg [.sl [], .int .i64 u]), .t (.int .i64 a)] [] = some (.t (.bool false), []) := (actv_eq (bk := []) .nil (by omega)).trans (by simp [onB])
theorem w_registers_Extend0 (tab : Tab) (gl : Gl) (n1 n2 n3 n4 n5 n6 : Nat) (h1 : tab.look n1 = some ct_index.fs) (h2 : tab.look n2 = some ct_least.fs) (h3 : tab.look n3 = some ct_on.fs) (h5 : tab.look n5 = some ct_twin.fs)
    (u loc : Int) (n : Nat) (d0 d1 : List UInt8) (hu : 0 ≤ u ∧ u < 1000000000) (hd : d0.length < 9223372036854775808 ∧ d1.length < 9223372036854775808) (e1 : ¬(loc < 0 ∨ 4 < loc ∨ 16 ≤ n)) (e2 : ¬ loc < leastI n false) :
    (ac_registers_Extend n1 n2 n3 n4 n5 n6).wp tab gl (zipF 0 [.t (regT [] u), .t (.int .i64 loc), .t (.int .i64 n), .t (.sl [bsT d0, bsT d1])]) (zipF 0 []) (resW [(8, some (2, true)), (9, none)] 0 (fun r o => r = extR [] u loc n [d0, d1] ∧ o = [])) := by
  have c0 := on_eqn (u := u) (a := 0) (by omega)
  have c1 := on_eqn (u := u) (a := 1) (by omega)
  rw [show ((0 : Nat) : Int) = 0 from rfl] at c0
  rw [show ((1 : Nat) : Int) = 1 from rfl] at c1
  simp (disch := omega) only [go_sem, ↓reduceIte, Nat.reduceAdd, Nat.reduceEqDiff, Nat.reduceLeDiff, reduceCtorEq, ac_registers_Extend, h1, index_t, h2, least_eq, List.map_nil, List.map_cons]
  refine loopW_weak (fs' := [(2, .t (.int .i64 (n : Nat))), (3, .t (.sl [bsT d0, bsT d1])), (4, .ref 4096 0 0), (8, .ref 4112 0 0), (38, .t (.sl [bsT d0, bsT d1])), (39, .t (.int .i64 2)), (40, .t (.int .i64 0))]) (hs' := [(4112, .live 2 [.agg [.nil, .t (.int .i64 0)]] true true), (4096, .live 2 [.t (regT [] u)] true true)]) (Weak.rd id ?_ ?_ rfl) ?_
  · simp (disch := omega) only [go_sem, ↓reduceIte, Nat.reduceEqDiff, Nat.reduceBEq, reduceCtorEq, id]
  · simp (disch := omega) only [go_sem, ↓reduceIte, Nat.reduceEqDiff, id, List.map_nil]
  by_cases p : 0 < d0.length ∨ 0 < d1.length
  · have hE : extE 0 0 loc n 2 d0.length d1.length = 27 := by unfold extE; rw [if_neg (by omega), if_neg (by omega), if_pos (by omega)]
    by_cases p0 : 0 < d0.length
    · refine loop_fuel 3 ?_
      simp (disch := omega) only [go_sem, ↓reduceIte, Nat.reduceAdd, Nat.reduceEqDiff, Nat.reduceLeDiff, Int.reduceEq, Int.reduceLT, Int.reduceLE, loopN_succ, ac_registers_Extend_L0, h3, c0, c1, hE, List.map_nil, extR, extEr, List.getD_nil, List.getD_cons_zero, List.getD_cons_succ, List.length_cons, List.length_nil]
    · refine loop_fuel 3 ?_
      simp (disch := omega) only [go_sem, ↓reduceIte, Nat.reduceAdd, Nat.reduceEqDiff, Nat.reduceLeDiff, Int.reduceEq, Int.reduceLT, Int.reduceLE, Int.reduceAdd, loopN_succ, ac_registers_Extend_L0, h3, c0, c1, hE, List.map_nil, extR, extEr, List.getD_nil, List.getD_cons_zero, List.getD_cons_succ, List.length_cons, List.length_nil]
  · have hE : extE 0 0 loc n 2 d0.length d1.length = 0 := by unfold extE; rw [if_neg (by omega), if_neg (by omega), if_neg (by omega), if_neg (by omega)]
    refine loop_fuel 3 ?_
    simp (disch := omega) only [go_sem, ↓reduceIte, Nat.reduceAdd, Nat.reduceEqDiff, Nat.reduceLeDiff, Int.reduceLT, Int.reduceLE, Int.reduceAdd, loopN_succ, ac_registers_Extend_L0, h3, c0, c1, List.map_nil]
    refine loop_fuel 3 ?_
    simp (disch := omega) only [go_sem, ↓reduceIte, Nat.reduceAdd, Nat.reduceEqDiff, Nat.reduceLeDiff, Int.reduceLT, Int.reduceLE, Int.reduceAdd, loopN_succ, ac_registers_Extend_L1, h3, c0, c1, h5, twin_eq0, List.map_nil]
    refine loop_fuel 1 ?_
    simp (disch := omega) only [go_sem, ↓reduceIte, Nat.reduceAdd, Nat.reduceEqDiff, Nat.reduceLeDiff, Int.reduceLT, reduceCtorEq, loopN_succ, ac_registers_Extend_L2, hE, List.map_nil, extR, extEr, extBk, List.getD_nil, List.getD_cons_zero, List.getD_cons_succ, List.length_cons, List.length_nil]
theorem w_ref8_Extend0 (tab : Tab) (gl : Gl) (n1 n2 n3 n4 n5 n6 : Nat) (h2 : tab.look n1 = some ct_rleast.fs) (h3 : tab.look n2 = some ct_actv.fs) (h5 : tab.look n4 = some ct_twin.fs)
    (u loc : Int) (n : Nat) (d0 d1 : List UInt8) (hu : 0 ≤ u ∧ u < 1000000000) (hd : d0.length < 9223372036854775808 ∧ d1.length < 9223372036854775808) (e1 : ¬(loc < 0 ∨ 4 < loc ∨ 16 ≤ n)) (e2 : ¬ loc < leastI n false) :
    (ac_ref8_Extend n1 n2 n3 n4 n5 n6).wp tab gl (zipF 0 [.t (regT [] u), .t (.int .i64 loc), .t (.int .i64 n), .t (.sl [bsT d0, bsT d1])]) (zipF 0 []) (resW [(8, some (2, true)), (9, none)] 0 (fun r o => r = extR [] u loc n [d0, d1] ∧ o = [])) := by
  have a6 : ¬ leastI (n : Int) false = 5 := by unfold leastI; split <;> (try split) <;> (try split) <;> simp_all
  have c0 := actv_eqn (u := u) (a := 0) (by omega)
  have c1 := actv_eqn (u := u) (a := 1) (by omega)
  rw [show ((0 : Nat) : Int) = 0 from rfl] at c0
  rw [show ((1 : Nat) : Int) = 1 from rfl] at c1
  simp (disch := omega) only [go_sem, ↓reduceIte, Nat.reduceAdd, Nat.reduceEqDiff, Nat.reduceLeDiff, reduceCtorEq, ac_ref8_Extend, h2, rleast_eq, a6, List.map_nil, List.map_cons]
  refine loopW_weak (fs' := [(2, .t (.int .i64 (n : Nat))), (3, .t (.sl [bsT d0, bsT d1])), (4, .ref 4096 0 0), (8, .ref 4112 0 0), (10, .t (.int .i64 0))]) (hs' := [(4112, .live 2 [.agg [.nil, .t (.int .i64 0)]] true true), (4096, .live 2 [.t (regT [] u)] true true)]) (Weak.rd id ?_ ?_ rfl) ?_
  · simp (disch := omega) only [go_sem, ↓reduceIte, Nat.reduceEqDiff, Nat.reduceBEq, reduceCtorEq, id]
  · simp (disch := omega) only [go_sem, ↓reduceIte, Nat.reduceEqDiff, id, List.map_nil]
  by_cases p : 0 < d0.length ∨ 0 < d1.length
  · have hE : extE 0 0 loc n 2 d0.length d1.length = 27 := by unfold extE; rw [if_neg (by omega), if_neg (by omega), if_pos (by omega)]
    by_cases p0 : 0 < d0.length
    · refine loop_fuel 3 ?_
      simp (disch := omega) only [go_sem, ↓reduceIte, Nat.reduceAdd, Nat.reduceEqDiff, Nat.reduceLeDiff, Int.reduceEq, Int.reduceLT, Int.reduceLE, loopN_succ, ac_ref8_Extend_L0, h3, c0, c1, hE, List.map_nil, extR, extEr, List.getD_nil, List.getD_cons_zero, List.getD_cons_succ, List.length_cons, List.length_nil]
      all_goals repeat refine And.intro rfl ?_
      all_goals rfl
    · refine loop_fuel 3 ?_
      simp (disch := omega) only [go_sem, ↓reduceIte, Nat.reduceAdd, Nat.reduceEqDiff, Nat.reduceLeDiff, Int.reduceEq, Int.reduceLT, Int.reduceLE, Int.reduceAdd, loopN_succ, ac_ref8_Extend_L0, h3, c0, c1, hE, List.map_nil, extR, extEr, List.getD_nil, List.getD_cons_zero, List.getD_cons_succ, List.length_cons, List.length_nil]
      all_goals repeat refine And.intro rfl ?_
      all_goals rfl
  · have hE : extE 0 0 loc n 2 d0.length d1.length = 0 := by unfold extE; rw [if_neg (by omega), if_neg (by omega), if_neg (by omega), if_neg (by omega)]
    refine loop_fuel 3 ?_
    simp (disch := omega) only [go_sem, ↓reduceIte, Nat.reduceAdd, Nat.reduceEqDiff, Nat.reduceLeDiff, Int.reduceLT, Int.reduceLE, Int.reduceAdd, loopN_succ, ac_ref8_Extend_L0, h3, c0, c1, List.map_nil]
    all_goals repeat refine And.intro rfl ?_
    refine loop_fuel 3 ?_
    simp (disch := omega) only [go_sem, ↓reduceIte, Nat.reduceAdd, Nat.reduceEqDiff, Nat.reduceLeDiff, Int.reduceLT, Int.reduceAdd, loopN_succ, ac_ref8_Extend_L1, h3, c0, c1, h5, twin_eq0, List.map_nil]
    all_goals repeat refine And.intro rfl ?_
    refine loop_fuel 3 ?_
    simp (disch := omega) only [go_sem, ↓reduceIte, Nat.reduceAdd, Nat.reduceEqDiff, Nat.reduceLeDiff, Int.reduceLT, Int.reduceAdd, reduceCtorEq, loopN_succ, ac_ref8_Extend_L2, h3, c0, c1, hE, List.map_nil, extR, extEr, extBk, List.getD_nil, List.getD_cons_zero, List.getD_cons_succ, List.length_cons, List.length_nil]
end Go.Eng
end
section
set_option maxRecDepth 20000
set_option maxHeartbeats 64000000
namespace Go.Eng
def RV (bk : List Bank) : Prop := RK bk ∧ ∀ b ∈ bk, ∀ x ∈ b, x.length ≤ 64
theorem RV.rm {bk : List Bank} (h : RV bk) : RM bk := by
  refine ⟨h.1, fun b hb => ⟨?_, fun x hx => Nat.lt_of_le_of_lt (h.2 b hb x hx) (by omega)⟩⟩
  have : bkOk b := by
    obtain ⟨hk, _⟩ := h
    cases hk with
    | nil => simp at hb
    | two b0 b1 h0 h1 =>
      simp only [List.mem_cons, List.not_mem_nil, or_false] at hb
      rcases hb with rfl | rfl
      · exact h0
      · exact h1
  rcases this with h | h <;> omega
theorem getD_le {b : Bank} {m n : Nat} (h : ∀ x ∈ b, x.length ≤ m) : (b.getD n []).length ≤ m := by
  by_cases hi : n < List.length b
  · have : b.getD n [] = b[n] := by simp [List.getD, hi]
    rw [this]; exact h _ (List.getElem_mem hi)
  · simp [List.getD, List.getElem?_eq_none (Nat.le_of_not_lt hi)]
abbrev ExtIn := List Bank × Int × Int × Int × List (List UInt8)
def extPre (x : ExtIn) : Prop := RV x.1 ∧ (0 ≤ x.2.1 ∧ x.2.1 < 1000000000) ∧ x.2.2.2.2.length < 1000000000 ∧ ∀ d ∈ x.2.2.2.2, d.length < 9223372036854775808
def ct_ext : Ct where
  α := ExtIn
  as x := [.t (regT x.1 x.2.1), .t (.int .i64 x.2.2.1), .t (.int .i64 x.2.2.2.1), .t (.sl (x.2.2.2.2.map bsT))]
  ins _ := []
  pre := extPre
  r x := extR x.1 x.2.1 x.2.2.1 x.2.2.2.1 x.2.2.2.2
  outs _ := []
  inj := by
    rintro ⟨a, u, l, i, ds⟩ ⟨b, v, l', i', ds'⟩ h _
    simp only [List.cons.injEq, V.t.injEq, T.int.injEq, T.sl.injEq, true_and, and_true, mapBs_inj] at h
    obtain ⟨h1, rfl, rfl, rfl⟩ := h
    obtain ⟨rfl, rfl⟩ := regT_inj h1
    exact ⟨rfl, rfl⟩
theorem extR_bad {bk : List Bank} {u loc i : Int} {ds : List (List UInt8)} (hb : (loc < 0 ∨ 4 < loc ∨ i < 0 ∨ 16 ≤ i ∨ ds.length ≠ 2) ∨ loc < leastI i false) :
    extR bk u loc i ds = .tup [.t (regT [] 0), .t (.int .i64 (if loc < 0 ∨ 4 < loc ∨ i < 0 ∨ 16 ≤ i ∨ ds.length ≠ 2 then 1 else 13))] := by
  have he : extE (bk.getD 0 []).length (bk.getD 1 []).length loc i ds.length (ds.getD 0 []).length (ds.getD 1 []).length = if loc < 0 ∨ 4 < loc ∨ i < 0 ∨ 16 ≤ i ∨ ds.length ≠ 2 then 1 else 13 := by
    unfold extE
    by_cases h : loc < 0 ∨ 4 < loc ∨ i < 0 ∨ 16 ≤ i ∨ ds.length ≠ 2
    · rw [if_pos h, if_pos h]
    · have h2 : loc < leastI i false := by rcases hb with h' | h'; exact absurd h' h; exact h'
      rw [if_neg h, if_neg h, if_pos h2]
  unfold extR
  rw [he]
  split
  · split at * <;> simp_all
  · rfl
theorem w_registers_Extend (tab : Tab) (gl : Gl) (n1 n2 n3 n4 n5 n6 : Nat) (h1 : tab.look n1 = some ct_index.fs) (h2 : tab.look n2 = some ct_least.fs) (h3 : tab.look n3 = some ct_on.fs) (h4 : tab.look n4 = some ct_size.fs) (h5 : tab.look n5 = some ct_twin.fs) (h6 : tab.look n6 = some ct_sumA.fs) (x : ct_ext.α) (hx : ct_ext.pre x) :
    (ac_registers_Extend n1 n2 n3 n4 n5 n6).wp tab gl (zipF 0 (ct_ext.as x)) (zipF 0 (ct_ext.ins x)) (resW [(8, some (2, true)), (9, none)] (ct_ext.ins x).length (fun r o => r = ct_ext.r x ∧ o = ct_ext.outs x)) := by
  obtain ⟨bk, u, loc, i, ds⟩ := x
  obtain ⟨hv, hu, hd, hd2⟩ := hx
  simp only [ct_ext] at *
  by_cases hb : (loc < 0 ∨ 4 < loc ∨ i < 0 ∨ 16 ≤ i ∨ ds.length ≠ 2) ∨ loc < leastI i false
  · rw [extR_bad hb]
    exact w_registers_Extend_bad tab gl n1 n2 n3 n4 n5 n6 h1 h2 bk u loc i ds hd hb
  · obtain ⟨n, rfl⟩ := Int.eq_ofNat_of_zero_le (show 0 ≤ i by omega)
    match ds, hd2, hb with
    | [d0, d1], hd2, hb =>
      have m0 := hd2 d0 (by simp)
      have m1 := hd2 d1 (by simp)
      have e1 : ¬(loc < 0 ∨ 4 < loc ∨ 16 ≤ n) := by omega
      have e2 : ¬ loc < leastI n false := by omega
      have hm := hv.rm
      obtain ⟨hk, hl⟩ := hv
      cases hk with
      | nil => exact w_registers_Extend0 tab gl n1 n2 n3 n4 n5 n6 h1 h2 h3 h5 u loc n d0 d1 hu ⟨m0, m1⟩ e1 e2
      | two b0 b1 g0 g1 => exact w_registers_Extend2 tab gl n1 n2 n3 n4 n5 n6 h1 h2 h3 h4 h5 h6 b0 b1 u loc n d0 d1 hu hm (getD_le (hl b0 (by simp))) (getD_le (hl b1 (by simp))) ⟨m0, m1⟩ e1 e2
    | [], _, hb => simp at hb
    | [_], _, hb => simp at hb
    | _ :: _ :: _ :: _, _, hb => simp at hb
theorem w_ref8_Extend (tab : Tab) (gl : Gl) (n1 n2 n3 n4 n5 n6 : Nat) (h2 : tab.look n1 = some ct_rleast.fs) (h3 : tab.look n2 = some ct_actv.fs) (h4 : tab.look n3 = some ct_size.fs) (h5 : tab.look n4 = some ct_twin.fs) (h7 : tab.look n5 = some ct_copy.fs) (h6 : tab.look n6 = some ct_sumA.fs) (x : ct_ext.α) (hx : ct_ext.pre x) :
    (ac_ref8_Extend n1 n2 n3 n4 n5 n6).wp tab gl (zipF 0 (ct_ext.as x)) (zipF 0 (ct_ext.ins x)) (resW [(8, some (2, true)), (9, none)] (ct_ext.ins x).length (fun r o => r = ct_ext.r x ∧ o = ct_ext.outs x)) := by
  obtain ⟨bk, u, loc, i, ds⟩ := x
  obtain ⟨hv, hu, hd, hd2⟩ := hx
  simp only [ct_ext] at *
  by_cases hb : (loc < 0 ∨ 4 < loc ∨ i < 0 ∨ 16 ≤ i ∨ ds.length ≠ 2) ∨ loc < leastI i false
  · rw [extR_bad hb]
    exact w_ref8_Extend_bad tab gl n1 n2 n3 n4 n5 n6 h2 bk u loc i ds hd hb
  · obtain ⟨n, rfl⟩ := Int.eq_ofNat_of_zero_le (show 0 ≤ i by omega)
    match ds, hd2, hb with
    | [d0, d1], hd2, hb =>
      have m0 := hd2 d0 (by simp)
      have m1 := hd2 d1 (by simp)
      have e1 : ¬(loc < 0 ∨ 4 < loc ∨ 16 ≤ n) := by omega
      have e2 : ¬ loc < leastI n false := by omega
      have hm := hv.rm
      obtain ⟨hk, hl⟩ := hv
      cases hk with
      | nil => exact w_ref8_Extend0 tab gl n1 n2 n3 n4 n5 n6 h2 h3 h5 u loc n d0 d1 hu ⟨m0, m1⟩ e1 e2
      | two b0 b1 g0 g1 => exact w_ref8_Extend2 tab gl n1 n2 n3 n4 n5 n6 h2 h3 h4 h5 h7 h6 b0 b1 u loc n d0 d1 hu hm (getD_le (hl b0 (by simp))) (getD_le (hl b1 (by simp))) ⟨m0, m1⟩ e1 e2
    | [], _, hb => simp at hb
    | [_], _, hb => simp at hb
    | _ :: _ :: _ :: _, _, hb => simp at hb
end Go.Eng
end
section
set_option maxRecDepth 20000
set_option maxHeartbeats 64000000
namespace Go.Eng
def digB (bk : List Bank) (data : List UInt8) : List (List UInt8) := [if onB bk 0 then sum1 data else [], if onB bk 1 then sum256 data else []]
def evR (bk : List Bank) (u loc i : Int) (data : List UInt8) : V := if 128 < data.length then .tup [.t (regT [] 0), .t (.int .i64 4)] else extR bk u loc i (digB bk data)
theorem extR_shape {bk : List Bank} {u loc i : Int} {ds : List (List UInt8)} : ∃ (bk' : List Bank) (u' e : Int), extR bk u loc i ds = .tup [.t (.agg [.sl (bk'.map bankT), .int .i64 u']), .t (.int .i64 e)] := by
  unfold extR
  split
  · exact ⟨_, _, _, rfl⟩
  · exact ⟨[], 0, _, rfl⟩
theorem ext_eq {bk : List Bank} {u loc i : Int} {ds : List (List UInt8)} (h : extPre (bk, u, loc, i, ds)) : ct_ext.fs [.t (.agg [.sl (bk.map bankT), .int .i64 u]), .t (.int .i64 loc), .t (.int .i64 i), .t (.sl (ds.map bsT))] [] = some (extR bk u loc i ds, []) := ct_ext.eq (bk, u, loc, i, ds) h
theorem digB_pre {bk : List Bank} {data : List UInt8} : (digB bk data).length < 1000000000 ∧ ∀ d ∈ digB bk data, d.length < 9223372036854775808 := by
  refine ⟨by simp [digB], ?_⟩
  intro d hd
  simp only [digB, List.mem_cons, List.not_mem_nil, or_false] at hd
  rcases hd with rfl | rfl
  · split
    · rw [sum1_length]; omega
    · simp
  · split
    · rw [sum256_length]; omega
    · simp
theorem w_ref8_Digests (tab : Tab) (gl : Gl) (n1 n2 : Nat) (h1 : tab.look n1 = some ct_actv.fs) (h2 : tab.look n2 = some ct_sumA.fs) (bk : List Bank) (u : Int) (data : List UInt8) (hk : RK bk) (hd : data.length < 1000000000) :
    (ac_ref8_Digests n1 n2).wp tab gl (zipF 0 [.t (regT bk u), .t (.sl (data.map byteT))]) (zipF 0 []) (resW [(4, none)] 0 (fun r o => r = .t (.sl ((digB bk data).map bsT)) ∧ o = [])) := by
  have c0 := actv_eq (u := u) (a := 0) hk (by omega)
  have c1 := actv_eq (u := u) (a := 1) hk (by omega)
  rw [show ((0 : Nat) : Int) = 0 from rfl] at c0
  rw [show ((1 : Nat) : Int) = 1 from rfl] at c1
  simp (disch := omega) only [go_sem, ↓reduceIte, Nat.reduceAdd, Nat.reduceEqDiff, Nat.reduceMul, Nat.reduceLeDiff, Int.reduceLE, ac_ref8_Digests]
  cases o0 : onB bk 0 <;> cases o1 : onB bk 1 <;> rw [o0] at c0 <;> rw [o1] at c1
  · have hdig : digB bk data = [[], []] := by rw [digB, o0, o1]; rfl
    rw [hdig]
    refine loop_upto 2 (fun k => match k with | 0 => [(1, .t (.sl (data.map byteT))), (2, .ref 4096 0 0), (5, .sl 8192 0 2), (6, .t (.int .i64 0))] | 1 => [(1, .t (.sl (data.map byteT))), (2, .ref 4096 0 0), (5, .sl 8192 0 2), (6, .t (.int .i64 1))] | _ => [(1, .t (.sl (data.map byteT))), (2, .ref 4096 0 0), (5, .sl 8192 0 2), (6, .t (.int .i64 2))]) (fun k => match k with | 0 => [(8192, .live 1 [.t (bsT []), .t (bsT [])] true false), (4096, .live 2 [.t (regT bk u)] true true)] | 1 => [(8192, .live 1 [.t (bsT ([])), .t (bsT [])] true false), (4096, .live 2 [.t (regT bk u)] true true)] | _ => [(8192, .live 1 [.t (bsT ([])), .t (bsT ([]))] true false), (4096, .live 2 [.t (regT bk u)] true true)]) ?_ (fun k hk2 => ?_)
    · refine Weak.rd id ?_ ?_ rfl
      all_goals simp (disch := omega) only [go_sem, ↓reduceIte, Nat.reduceAdd, Nat.reduceEqDiff, Nat.reduceBEq, reduceCtorEq, id, List.map_nil]
    · rcases (show k = 0 ∨ k = 1 ∨ k = 2 by omega) with rfl | rfl | rfl
      · simp (disch := omega) only [go_sem, ↓reduceIte, Nat.reduceAdd, Nat.reduceEqDiff, Nat.reduceLT, Nat.reduceLeDiff, Int.reduceLT, Int.reduceAdd, ac_ref8_Digests_L0, h1, h2, c0, c1, sumA_eq0, sumA_eq1, List.map_nil]
        refine Weak.rd id ?_ ?_ rfl
        all_goals simp (disch := omega) only [go_sem, ↓reduceIte, Nat.reduceAdd, Nat.reduceEqDiff, Nat.reduceBEq, id, List.map_nil]
      · simp (disch := omega) only [go_sem, ↓reduceIte, Nat.reduceAdd, Nat.reduceEqDiff, Nat.reduceLT, Nat.reduceLeDiff, Int.reduceLT, Int.reduceAdd, ac_ref8_Digests_L0, h1, h2, c0, c1, sumA_eq0, sumA_eq1, List.map_nil]
        refine Weak.rd id ?_ ?_ rfl
        all_goals simp (disch := omega) only [go_sem, ↓reduceIte, Nat.reduceAdd, Nat.reduceEqDiff, Nat.reduceBEq, id, List.map_nil]
      · simp (disch := omega) only [go_sem, ↓reduceIte, Nat.reduceAdd, Nat.reduceEqDiff, Nat.reduceLeDiff, Int.reduceLT, ac_ref8_Digests_L0, h1, h2, c0, c1, sumA_eq0, sumA_eq1, List.map_nil, List.map_cons, List.map_nil]
  · have hdig : digB bk data = [[], sum256 data] := by rw [digB, o0, o1]; rfl
    rw [hdig]
    refine loop_upto 2 (fun k => match k with | 0 => [(1, .t (.sl (data.map byteT))), (2, .ref 4096 0 0), (5, .sl 8192 0 2), (6, .t (.int .i64 0))] | 1 => [(1, .t (.sl (data.map byteT))), (2, .ref 4096 0 0), (5, .sl 8192 0 2), (6, .t (.int .i64 1))] | _ => [(1, .t (.sl (data.map byteT))), (2, .ref 4096 0 0), (5, .sl 8192 0 2), (6, .t (.int .i64 2))]) (fun k => match k with | 0 => [(8192, .live 1 [.t (bsT []), .t (bsT [])] true false), (4096, .live 2 [.t (regT bk u)] true true)] | 1 => [(8192, .live 1 [.t (bsT ([])), .t (bsT [])] true false), (4096, .live 2 [.t (regT bk u)] true true)] | _ => [(8192, .live 1 [.t (bsT ([])), .t (bsT (sum256 data))] true false), (4096, .live 2 [.t (regT bk u)] true true)]) ?_ (fun k hk2 => ?_)
    · refine Weak.rd id ?_ ?_ rfl
      all_goals simp (disch := omega) only [go_sem, ↓reduceIte, Nat.reduceAdd, Nat.reduceEqDiff, Nat.reduceBEq, reduceCtorEq, id, List.map_nil]
    · rcases (show k = 0 ∨ k = 1 ∨ k = 2 by omega) with rfl | rfl | rfl
      · simp (disch := omega) only [go_sem, ↓reduceIte, Nat.reduceAdd, Nat.reduceEqDiff, Nat.reduceLT, Nat.reduceLeDiff, Int.reduceLT, Int.reduceAdd, ac_ref8_Digests_L0, h1, h2, c0, c1, sumA_eq0, sumA_eq1, List.map_nil]
        refine Weak.rd id ?_ ?_ rfl
        all_goals simp (disch := omega) only [go_sem, ↓reduceIte, Nat.reduceAdd, Nat.reduceEqDiff, Nat.reduceBEq, id, List.map_nil]
      · simp (disch := omega) only [go_sem, ↓reduceIte, Nat.reduceAdd, Nat.reduceEqDiff, Nat.reduceLT, Nat.reduceLeDiff, Int.reduceLT, Int.reduceLE, Int.reduceAdd, ac_ref8_Digests_L0, h1, h2, c0, c1, sumA_eq0, sumA_eq1, List.map_nil]
        refine Weak.cv (hv := []) [28736] id ?_ rfl
        simp (disch := omega) only [go_sem, ↓reduceIte, Nat.reduceAdd, Nat.reduceEqDiff, Nat.reduceLeDiff, Nat.reduceBEq, id, take_sum1, take_sum256, List.map_nil, sum1_length, sum256_length]
        all_goals rfl
      · simp (disch := omega) only [go_sem, ↓reduceIte, Nat.reduceAdd, Nat.reduceEqDiff, Nat.reduceLeDiff, Int.reduceLT, ac_ref8_Digests_L0, h1, h2, c0, c1, sumA_eq0, sumA_eq1, List.map_nil, List.map_cons, List.map_nil]
  · have hdig : digB bk data = [sum1 data, []] := by rw [digB, o0, o1]; rfl
    rw [hdig]
    refine loop_upto 2 (fun k => match k with | 0 => [(1, .t (.sl (data.map byteT))), (2, .ref 4096 0 0), (5, .sl 8192 0 2), (6, .t (.int .i64 0))] | 1 => [(1, .t (.sl (data.map byteT))), (2, .ref 4096 0 0), (5, .sl 8192 0 2), (6, .t (.int .i64 1))] | _ => [(1, .t (.sl (data.map byteT))), (2, .ref 4096 0 0), (5, .sl 8192 0 2), (6, .t (.int .i64 2))]) (fun k => match k with | 0 => [(8192, .live 1 [.t (bsT []), .t (bsT [])] true false), (4096, .live 2 [.t (regT bk u)] true true)] | 1 => [(8192, .live 1 [.t (bsT (sum1 data)), .t (bsT [])] true false), (4096, .live 2 [.t (regT bk u)] true true)] | _ => [(8192, .live 1 [.t (bsT (sum1 data)), .t (bsT ([]))] true false), (4096, .live 2 [.t (regT bk u)] true true)]) ?_ (fun k hk2 => ?_)
    · refine Weak.rd id ?_ ?_ rfl
      all_goals simp (disch := omega) only [go_sem, ↓reduceIte, Nat.reduceAdd, Nat.reduceEqDiff, Nat.reduceBEq, reduceCtorEq, id, List.map_nil]
    · rcases (show k = 0 ∨ k = 1 ∨ k = 2 by omega) with rfl | rfl | rfl
      · simp (disch := omega) only [go_sem, ↓reduceIte, Nat.reduceAdd, Nat.reduceEqDiff, Nat.reduceLT, Nat.reduceLeDiff, Int.reduceLT, Int.reduceLE, Int.reduceAdd, ac_ref8_Digests_L0, h1, h2, c0, c1, sumA_eq0, sumA_eq1, List.map_nil]
        refine Weak.cv (hv := []) [28736] id ?_ rfl
        simp (disch := omega) only [go_sem, ↓reduceIte, Nat.reduceAdd, Nat.reduceEqDiff, Nat.reduceLeDiff, Nat.reduceBEq, id, take_sum1, take_sum256, List.map_nil, sum1_length, sum256_length]
        all_goals rfl
      · simp (disch := omega) only [go_sem, ↓reduceIte, Nat.reduceAdd, Nat.reduceEqDiff, Nat.reduceLT, Nat.reduceLeDiff, Int.reduceLT, Int.reduceAdd, ac_ref8_Digests_L0, h1, h2, c0, c1, sumA_eq0, sumA_eq1, List.map_nil]
        refine Weak.rd id ?_ ?_ rfl
        all_goals simp (disch := omega) only [go_sem, ↓reduceIte, Nat.reduceAdd, Nat.reduceEqDiff, Nat.reduceBEq, id, List.map_nil]
      · simp (disch := omega) only [go_sem, ↓reduceIte, Nat.reduceAdd, Nat.reduceEqDiff, Nat.reduceLeDiff, Int.reduceLT, ac_ref8_Digests_L0, h1, h2, c0, c1, sumA_eq0, sumA_eq1, List.map_nil, List.map_cons, List.map_nil]
  · have hdig : digB bk data = [sum1 data, sum256 data] := by rw [digB, o0, o1]; rfl
    rw [hdig]
    refine loop_upto 2 (fun k => match k with | 0 => [(1, .t (.sl (data.map byteT))), (2, .ref 4096 0 0), (5, .sl 8192 0 2), (6, .t (.int .i64 0))] | 1 => [(1, .t (.sl (data.map byteT))), (2, .ref 4096 0 0), (5, .sl 8192 0 2), (6, .t (.int .i64 1))] | _ => [(1, .t (.sl (data.map byteT))), (2, .ref 4096 0 0), (5, .sl 8192 0 2), (6, .t (.int .i64 2))]) (fun k => match k with | 0 => [(8192, .live 1 [.t (bsT []), .t (bsT [])] true false), (4096, .live 2 [.t (regT bk u)] true true)] | 1 => [(8192, .live 1 [.t (bsT (sum1 data)), .t (bsT [])] true false), (4096, .live 2 [.t (regT bk u)] true true)] | _ => [(8192, .live 1 [.t (bsT (sum1 data)), .t (bsT (sum256 data))] true false), (4096, .live 2 [.t (regT bk u)] true true)]) ?_ (fun k hk2 => ?_)
    · refine Weak.rd id ?_ ?_ rfl
      all_goals simp (disch := omega) only [go_sem, ↓reduceIte, Nat.reduceAdd, Nat.reduceEqDiff, Nat.reduceBEq, reduceCtorEq, id, List.map_nil]
    · rcases (show k = 0 ∨ k = 1 ∨ k = 2 by omega) with rfl | rfl | rfl
      · simp (disch := omega) only [go_sem, ↓reduceIte, Nat.reduceAdd, Nat.reduceEqDiff, Nat.reduceLT, Nat.reduceLeDiff, Int.reduceLT, Int.reduceLE, Int.reduceAdd, ac_ref8_Digests_L0, h1, h2, c0, c1, sumA_eq0, sumA_eq1, List.map_nil]
        refine Weak.cv (hv := []) [28736] id ?_ rfl
        simp (disch := omega) only [go_sem, ↓reduceIte, Nat.reduceAdd, Nat.reduceEqDiff, Nat.reduceLeDiff, Nat.reduceBEq, id, take_sum1, take_sum256, List.map_nil, sum1_length, sum256_length]
        all_goals rfl
      · simp (disch := omega) only [go_sem, ↓reduceIte, Nat.reduceAdd, Nat.reduceEqDiff, Nat.reduceLT, Nat.reduceLeDiff, Int.reduceLT, Int.reduceLE, Int.reduceAdd, ac_ref8_Digests_L0, h1, h2, c0, c1, sumA_eq0, sumA_eq1, List.map_nil]
        refine Weak.cv (hv := []) [28736] id ?_ rfl
        simp (disch := omega) only [go_sem, ↓reduceIte, Nat.reduceAdd, Nat.reduceEqDiff, Nat.reduceLeDiff, Nat.reduceBEq, id, take_sum1, take_sum256, List.map_nil, sum1_length, sum256_length]
        all_goals rfl
      · simp (disch := omega) only [go_sem, ↓reduceIte, Nat.reduceAdd, Nat.reduceEqDiff, Nat.reduceLeDiff, Int.reduceLT, ac_ref8_Digests_L0, h1, h2, c0, c1, sumA_eq0, sumA_eq1, List.map_nil, List.map_cons, List.map_nil]
def ct_dig : Ct where
  α := List Bank × Int × List UInt8
  as x := [.t (regT x.1 x.2.1), .t (.sl (x.2.2.map byteT))]
  ins _ := []
  pre x := RK x.1 ∧ x.2.2.length < 1000000000
  r x := .t (.sl ((digB x.1 x.2.2).map bsT))
  outs _ := []
  inj := by
    rintro ⟨a, u, d⟩ ⟨b, v, d'⟩ h _
    simp only [List.cons.injEq, V.t.injEq, T.sl.injEq, and_true, mapB_inj] at h
    obtain ⟨h1, rfl⟩ := h
    obtain ⟨rfl, rfl⟩ := regT_inj h1
    exact ⟨rfl, rfl⟩
theorem w_registers_Event (tab : Tab) (gl : Gl) (n1 n2 n3 : Nat) (h1 : tab.look n1 = some ct_on.fs) (h2 : tab.look n2 = some ct_sumA.fs) (h3 : tab.look n3 = some ct_ext.fs) (bk : List Bank) (u loc i : Int) (data : List UInt8) (hk : RV bk) (hu : 0 ≤ u ∧ u < 1000000000) (hd : data.length < 1000000000) :
    (ac_registers_Event n1 n2 n3).wp tab gl (zipF 0 [.t (regT bk u), .t (.int .i64 loc), .t (.int .i64 i), .t (.sl (data.map byteT))]) (zipF 0 []) (resW [(8, some (2, true)), (9, none)] 0 (fun r o => r = evR bk u loc i data ∧ o = [])) := by
  have c0 := on_eq (u := u) (a := 0) hk.1 (by omega)
  have c1 := on_eq (u := u) (a := 1) hk.1 (by omega)
  rw [show ((0 : Nat) : Int) = 0 from rfl] at c0
  rw [show ((1 : Nat) : Int) = 1 from rfl] at c1
  by_cases hl : 128 < data.length
  · simp (disch := omega) only [go_sem, ↓reduceIte, Nat.reduceAdd, Nat.reduceEqDiff, Nat.reduceLeDiff, reduceCtorEq, ac_registers_Event, evR, hl, List.map_nil]
  rw [evR, if_neg hl]
  have hx := ext_eq (bk := bk) (u := u) (loc := loc) (i := i) (ds := digB bk data) ⟨hk, hu, digB_pre.1, digB_pre.2⟩
  obtain ⟨bk', u', e, he⟩ := extR_shape (bk := bk) (u := u) (loc := loc) (i := i) (ds := digB bk data)
  rw [he] at hx
  rw [he]
  simp (disch := omega) only [go_sem, ↓reduceIte, Nat.reduceAdd, Nat.reduceEqDiff, Nat.reduceMul, Nat.reduceLeDiff, Int.reduceLE, reduceCtorEq, ac_registers_Event]
  cases o0 : onB bk 0 <;> cases o1 : onB bk 1 <;> rw [o0] at c0 <;> rw [o1] at c1
  · have hdig : digB bk data = [[], []] := by rw [digB, o0, o1]; rfl
    have hx' := hx
    rw [hdig] at hx'
    simp only [List.map_cons, List.map_nil, bsT_def] at hx'
    refine loop_upto 2 (fun k => match k with | 0 => [(1, .t (.int .i64 loc)), (2, .t (.int .i64 i)), (3, .t (.sl (data.map byteT))), (4, .ref 4096 0 0), (8, .ref 4112 0 0), (10, .sl 16384 0 2), (18, .t (.int .i64 2)), (19, .t (.int .i64 0))] | 1 => [(1, .t (.int .i64 loc)), (2, .t (.int .i64 i)), (3, .t (.sl (data.map byteT))), (4, .ref 4096 0 0), (8, .ref 4112 0 0), (10, .sl 16384 0 2), (18, .t (.int .i64 2)), (19, .t (.int .i64 1))] | _ => [(1, .t (.int .i64 loc)), (2, .t (.int .i64 i)), (3, .t (.sl (data.map byteT))), (4, .ref 4096 0 0), (8, .ref 4112 0 0), (10, .sl 16384 0 2), (18, .t (.int .i64 2)), (19, .t (.int .i64 2))]) (fun k => match k with | 0 => [(16384, .live 1 [.t (bsT []), .t (bsT [])] true false), (4112, .live 2 [.agg [.nil, .t (.int .i64 0)]] true true), (4096, .live 2 [.t (regT bk u)] true true)] | 1 => [(16384, .live 1 [.t (bsT ([])), .t (bsT [])] true false), (4112, .live 2 [.agg [.nil, .t (.int .i64 0)]] true true), (4096, .live 2 [.t (regT bk u)] true true)] | _ => [(16384, .live 1 [.t (bsT ([])), .t (bsT ([]))] true false), (4112, .live 2 [.agg [.nil, .t (.int .i64 0)]] true true), (4096, .live 2 [.t (regT bk u)] true true)]) ?_ (fun k hk2 => ?_)
    · refine Weak.rd id ?_ ?_ rfl
      all_goals simp (disch := omega) only [go_sem, ↓reduceIte, Nat.reduceAdd, Nat.reduceEqDiff, Nat.reduceBEq, reduceCtorEq, id, List.map_nil]
    · rcases (show k = 0 ∨ k = 1 ∨ k = 2 by omega) with rfl | rfl | rfl
      · simp (disch := omega) only [go_sem, ↓reduceIte, Nat.reduceAdd, Nat.reduceEqDiff, Nat.reduceLT, Nat.reduceLeDiff, Int.reduceLT, Int.reduceAdd, ac_registers_Event_L0, h1, h2, c0, c1, sumA_eq0, sumA_eq1, List.map_nil]
        refine Weak.rd id ?_ ?_ rfl
        all_goals simp (disch := omega) only [go_sem, ↓reduceIte, Nat.reduceAdd, Nat.reduceEqDiff, Nat.reduceBEq, id, List.map_nil]
      · simp (disch := omega) only [go_sem, ↓reduceIte, Nat.reduceAdd, Nat.reduceEqDiff, Nat.reduceLT, Nat.reduceLeDiff, Int.reduceLT, Int.reduceAdd, ac_registers_Event_L0, h1, h2, c0, c1, sumA_eq0, sumA_eq1, List.map_nil]
        refine Weak.rd id ?_ ?_ rfl
        all_goals simp (disch := omega) only [go_sem, ↓reduceIte, Nat.reduceAdd, Nat.reduceEqDiff, Nat.reduceBEq, id, List.map_nil]
      · simp (disch := omega) only [go_sem, ↓reduceIte, Nat.reduceAdd, Nat.reduceEqDiff, Nat.reduceLeDiff, Int.reduceLT, ac_registers_Event_L0, h1, h2, c0, c1, sumA_eq0, sumA_eq1, List.map_nil, List.map_cons, h3, hx']
  · have hdig : digB bk data = [[], sum256 data] := by rw [digB, o0, o1]; rfl
    have hx' := hx
    rw [hdig] at hx'
    simp only [List.map_cons, List.map_nil, bsT_def] at hx'
    refine loop_upto 2 (fun k => match k with | 0 => [(1, .t (.int .i64 loc)), (2, .t (.int .i64 i)), (3, .t (.sl (data.map byteT))), (4, .ref 4096 0 0), (8, .ref 4112 0 0), (10, .sl 16384 0 2), (18, .t (.int .i64 2)), (19, .t (.int .i64 0))] | 1 => [(1, .t (.int .i64 loc)), (2, .t (.int .i64 i)), (3, .t (.sl (data.map byteT))), (4, .ref 4096 0 0), (8, .ref 4112 0 0), (10, .sl 16384 0 2), (18, .t (.int .i64 2)), (19, .t (.int .i64 1))] | _ => [(1, .t (.int .i64 loc)), (2, .t (.int .i64 i)), (3, .t (.sl (data.map byteT))), (4, .ref 4096 0 0), (8, .ref 4112 0 0), (10, .sl 16384 0 2), (18, .t (.int .i64 2)), (19, .t (.int .i64 2))]) (fun k => match k with | 0 => [(16384, .live 1 [.t (bsT []), .t (bsT [])] true false), (4112, .live 2 [.agg [.nil, .t (.int .i64 0)]] true true), (4096, .live 2 [.t (regT bk u)] true true)] | 1 => [(16384, .live 1 [.t (bsT ([])), .t (bsT [])] true false), (4112, .live 2 [.agg [.nil, .t (.int .i64 0)]] true true), (4096, .live 2 [.t (regT bk u)] true true)] | _ => [(16384, .live 1 [.t (bsT ([])), .t (bsT (sum256 data))] true false), (4112, .live 2 [.agg [.nil, .t (.int .i64 0)]] true true), (4096, .live 2 [.t (regT bk u)] true true)]) ?_ (fun k hk2 => ?_)
    · refine Weak.rd id ?_ ?_ rfl
      all_goals simp (disch := omega) only [go_sem, ↓reduceIte, Nat.reduceAdd, Nat.reduceEqDiff, Nat.reduceBEq, reduceCtorEq, id, List.map_nil]
    · rcases (show k = 0 ∨ k = 1 ∨ k = 2 by omega) with rfl | rfl | rfl
      · simp (disch := omega) only [go_sem, ↓reduceIte, Nat.reduceAdd, Nat.reduceEqDiff, Nat.reduceLT, Nat.reduceLeDiff, Int.reduceLT, Int.reduceAdd, ac_registers_Event_L0, h1, h2, c0, c1, sumA_eq0, sumA_eq1, List.map_nil]
        refine Weak.rd id ?_ ?_ rfl
        all_goals simp (disch := omega) only [go_sem, ↓reduceIte, Nat.reduceAdd, Nat.reduceEqDiff, Nat.reduceBEq, id, List.map_nil]
      · simp (disch := omega) only [go_sem, ↓reduceIte, Nat.reduceAdd, Nat.reduceEqDiff, Nat.reduceLT, Nat.reduceLeDiff, Int.reduceLT, Int.reduceLE, Int.reduceAdd, ac_registers_Event_L0, h1, h2, c0, c1, sumA_eq0, sumA_eq1, List.map_nil]
        refine Weak.cv (hv := []) [36928] id ?_ rfl
        simp (disch := omega) only [go_sem, ↓reduceIte, Nat.reduceAdd, Nat.reduceEqDiff, Nat.reduceLeDiff, Nat.reduceBEq, id, take_sum1, take_sum256, List.map_nil, sum1_length, sum256_length]
        all_goals rfl
      · simp (disch := omega) only [go_sem, ↓reduceIte, Nat.reduceAdd, Nat.reduceEqDiff, Nat.reduceLeDiff, Int.reduceLT, ac_registers_Event_L0, h1, h2, c0, c1, sumA_eq0, sumA_eq1, List.map_nil, List.map_cons, h3, hx']
  · have hdig : digB bk data = [sum1 data, []] := by rw [digB, o0, o1]; rfl
    have hx' := hx
    rw [hdig] at hx'
    simp only [List.map_cons, List.map_nil, bsT_def] at hx'
    refine loop_upto 2 (fun k => match k with | 0 => [(1, .t (.int .i64 loc)), (2, .t (.int .i64 i)), (3, .t (.sl (data.map byteT))), (4, .ref 4096 0 0), (8, .ref 4112 0 0), (10, .sl 16384 0 2), (18, .t (.int .i64 2)), (19, .t (.int .i64 0))] | 1 => [(1, .t (.int .i64 loc)), (2, .t (.int .i64 i)), (3, .t (.sl (data.map byteT))), (4, .ref 4096 0 0), (8, .ref 4112 0 0), (10, .sl 16384 0 2), (18, .t (.int .i64 2)), (19, .t (.int .i64 1))] | _ => [(1, .t (.int .i64 loc)), (2, .t (.int .i64 i)), (3, .t (.sl (data.map byteT))), (4, .ref 4096 0 0), (8, .ref 4112 0 0), (10, .sl 16384 0 2), (18, .t (.int .i64 2)), (19, .t (.int .i64 2))]) (fun k => match k with | 0 => [(16384, .live 1 [.t (bsT []), .t (bsT [])] true false), (4112, .live 2 [.agg [.nil, .t (.int .i64 0)]] true true), (4096, .live 2 [.t (regT bk u)] true true)] | 1 => [(16384, .live 1 [.t (bsT (sum1 data)), .t (bsT [])] true false), (4112, .live 2 [.agg [.nil, .t (.int .i64 0)]] true true), (4096, .live 2 [.t (regT bk u)] true true)] | _ => [(16384, .live 1 [.t (bsT (sum1 data)), .t (bsT ([]))] true false), (4112, .live 2 [.agg [.nil, .t (.int .i64 0)]] true true), (4096, .live 2 [.t (regT bk u)] true true)]) ?_ (fun k hk2 => ?_)
    · refine Weak.rd id ?_ ?_ rfl
      all_goals simp (disch := omega) only [go_sem, ↓reduceIte, Nat.reduceAdd, Nat.reduceEqDiff, Nat.reduceBEq, reduceCtorEq, id, List.map_nil]
    · rcases (show k = 0 ∨ k = 1 ∨ k = 2 by omega) with rfl | rfl | rfl
      · simp (disch := omega) only [go_sem, ↓reduceIte, Nat.reduceAdd, Nat.reduceEqDiff, Nat.reduceLT, Nat.reduceLeDiff, Int.reduceLT, Int.reduceLE, Int.reduceAdd, ac_registers_Event_L0, h1, h2, c0, c1, sumA_eq0, sumA_eq1, List.map_nil]
        refine Weak.cv (hv := []) [36928] id ?_ rfl
        simp (disch := omega) only [go_sem, ↓reduceIte, Nat.reduceAdd, Nat.reduceEqDiff, Nat.reduceLeDiff, Nat.reduceBEq, id, take_sum1, take_sum256, List.map_nil, sum1_length, sum256_length]
        all_goals rfl
      · simp (disch := omega) only [go_sem, ↓reduceIte, Nat.reduceAdd, Nat.reduceEqDiff, Nat.reduceLT, Nat.reduceLeDiff, Int.reduceLT, Int.reduceAdd, ac_registers_Event_L0, h1, h2, c0, c1, sumA_eq0, sumA_eq1, List.map_nil]
        refine Weak.rd id ?_ ?_ rfl
        all_goals simp (disch := omega) only [go_sem, ↓reduceIte, Nat.reduceAdd, Nat.reduceEqDiff, Nat.reduceBEq, id, List.map_nil]
      · simp (disch := omega) only [go_sem, ↓reduceIte, Nat.reduceAdd, Nat.reduceEqDiff, Nat.reduceLeDiff, Int.reduceLT, ac_registers_Event_L0, h1, h2, c0, c1, sumA_eq0, sumA_eq1, List.map_nil, List.map_cons, h3, hx']
  · have hdig : digB bk data = [sum1 data, sum256 data] := by rw [digB, o0, o1]; rfl
    have hx' := hx
    rw [hdig] at hx'
    simp only [List.map_cons, List.map_nil, bsT_def] at hx'
    refine loop_upto 2 (fun k => match k with | 0 => [(1, .t (.int .i64 loc)), (2, .t (.int .i64 i)), (3, .t (.sl (data.map byteT))), (4, .ref 4096 0 0), (8, .ref 4112 0 0), (10, .sl 16384 0 2), (18, .t (.int .i64 2)), (19, .t (.int .i64 0))] | 1 => [(1, .t (.int .i64 loc)), (2, .t (.int .i64 i)), (3, .t (.sl (data.map byteT))), (4, .ref 4096 0 0), (8, .ref 4112 0 0), (10, .sl 16384 0 2), (18, .t (.int .i64 2)), (19, .t (.int .i64 1))] | _ => [(1, .t (.int .i64 loc)), (2, .t (.int .i64 i)), (3, .t (.sl (data.map byteT))), (4, .ref 4096 0 0), (8, .ref 4112 0 0), (10, .sl 16384 0 2), (18, .t (.int .i64 2)), (19, .t (.int .i64 2))]) (fun k => match k with | 0 => [(16384, .live 1 [.t (bsT []), .t (bsT [])] true false), (4112, .live 2 [.agg [.nil, .t (.int .i64 0)]] true true), (4096, .live 2 [.t (regT bk u)] true true)] | 1 => [(16384, .live 1 [.t (bsT (sum1 data)), .t (bsT [])] true false), (4112, .live 2 [.agg [.nil, .t (.int .i64 0)]] true true), (4096, .live 2 [.t (regT bk u)] true true)] | _ => [(16384, .live 1 [.t (bsT (sum1 data)), .t (bsT (sum256 data))] true false), (4112, .live 2 [.agg [.nil, .t (.int .i64 0)]] true true), (4096, .live 2 [.t (regT bk u)] true true)]) ?_ (fun k hk2 => ?_)
    · refine Weak.rd id ?_ ?_ rfl
      all_goals simp (disch := omega) only [go_sem, ↓reduceIte, Nat.reduceAdd, Nat.reduceEqDiff, Nat.reduceBEq, reduceCtorEq, id, List.map_nil]
    · rcases (show k = 0 ∨ k = 1 ∨ k = 2 by omega) with rfl | rfl | rfl
      · simp (disch := omega) only [go_sem, ↓reduceIte, Nat.reduceAdd, Nat.reduceEqDiff, Nat.reduceLT, Nat.reduceLeDiff, Int.reduceLT, Int.reduceLE, Int.reduceAdd, ac_registers_Event_L0, h1, h2, c0, c1, sumA_eq0, sumA_eq1, List.map_nil]
        refine Weak.cv (hv := []) [36928] id ?_ rfl
        simp (disch := omega) only [go_sem, ↓reduceIte, Nat.reduceAdd, Nat.reduceEqDiff, Nat.reduceLeDiff, Nat.reduceBEq, id, take_sum1, take_sum256, List.map_nil, sum1_length, sum256_length]
        all_goals rfl
      · simp (disch := omega) only [go_sem, ↓reduceIte, Nat.reduceAdd, Nat.reduceEqDiff, Nat.reduceLT, Nat.reduceLeDiff, Int.reduceLT, Int.reduceLE, Int.reduceAdd, ac_registers_Event_L0, h1, h2, c0, c1, sumA_eq0, sumA_eq1, List.map_nil]
        refine Weak.cv (hv := []) [36928] id ?_ rfl
        simp (disch := omega) only [go_sem, ↓reduceIte, Nat.reduceAdd, Nat.reduceEqDiff, Nat.reduceLeDiff, Nat.reduceBEq, id, take_sum1, take_sum256, List.map_nil, sum1_length, sum256_length]
        all_goals rfl
      · simp (disch := omega) only [go_sem, ↓reduceIte, Nat.reduceAdd, Nat.reduceEqDiff, Nat.reduceLeDiff, Int.reduceLT, ac_registers_Event_L0, h1, h2, c0, c1, sumA_eq0, sumA_eq1, List.map_nil, List.map_cons, h3, hx']
theorem w_ref8_Event (tab : Tab) (gl : Gl) (n1 n2 : Nat) (h1 : tab.look n1 = some ct_dig.fs) (h2 : tab.look n2 = some ct_ext.fs) (bk : List Bank) (u loc i : Int) (data : List UInt8) (hk : RV bk) (hu : 0 ≤ u ∧ u < 1000000000) (hd : data.length < 1000000000) :
    (ac_ref8_Event n1 n2).wp tab gl (zipF 0 [.t (regT bk u), .t (.int .i64 loc), .t (.int .i64 i), .t (.sl (data.map byteT))]) (zipF 0 []) (resW [(8, some (2, true)), (9, none)] 0 (fun r o => r = evR bk u loc i data ∧ o = [])) := by
  by_cases hl : 128 < data.length
  · simp (disch := omega) only [go_sem, ↓reduceIte, Nat.reduceAdd, Nat.reduceEqDiff, Nat.reduceLeDiff, reduceCtorEq, ac_ref8_Event, evR, hl, List.map_nil]
  rw [evR, if_neg hl]
  have hx := ext_eq (bk := bk) (u := u) (loc := loc) (i := i) (ds := digB bk data) ⟨hk, hu, digB_pre.1, digB_pre.2⟩
  obtain ⟨bk', u', e, he⟩ := extR_shape (bk := bk) (u := u) (loc := loc) (i := i) (ds := digB bk data)
  rw [he] at hx
  rw [he]
  have hdg : ct_dig.fs [.t (.agg [.sl (bk.map bankT), .int .i64 u]), .t (.sl (data.map byteT))] [] = some (.t (.sl ((digB bk data).map bsT)), []) := ct_dig.eq (bk, u, data) ⟨hk.1, hd⟩
  simp (disch := omega) only [go_sem, ↓reduceIte, Nat.reduceAdd, Nat.reduceEqDiff, Nat.reduceLeDiff, reduceCtorEq, ac_ref8_Event, h1, h2, hdg, hx]
  all_goals rfl
end Go.Eng
end
section
set_option maxRecDepth 20000
set_option maxHeartbeats 64000000
namespace Go.Eng
def ct_lists : Ct where
  α := List (List UInt8) × List (List UInt8)
  as x := [.t (.sl (x.1.map bsT)), .t (.sl (x.2.map bsT))]
  ins _ := []
  pre x := modL x.1 ∧ modL x.2
  r x := .t (.bool (decide (x.1 = x.2)))
  outs _ := []
  inj := by
    rintro ⟨a, b⟩ ⟨c, d⟩ h _
    simp [mapBs_inj] at h
    obtain ⟨rfl, rfl⟩ := h
    exact ⟨rfl, rfl⟩
theorem lists_eq {a : Bank} (h : modL a) : ct_lists.fs [.t (.sl (a.map bsT)), .t (.sl (a.map bsT))] [] = some (.t (.bool true), []) := by
  refine (ct_lists.eq (a, a) ⟨h, h⟩).trans ?_
  simp [ct_lists]
theorem RM.bank {bk : List Bank} (h : RM bk) (a : Nat) : modL (bk.getD a []) := by
  by_cases ha : a < bk.length
  · have e : bk.getD a [] = bk[a] := by simp [List.getD, ha]
    rw [e]; exact h.2 _ (List.getElem_mem ha)
  · have e : bk.getD a [] = [] := by simp [List.getD, List.getElem?_eq_none (Nat.le_of_not_lt ha)]
    rw [e]; exact ⟨by simp, by simp⟩
theorem w_ref8_Same (tab : Tab) (gl : Gl) (n1 n2 : Nat) (h1 : tab.look n1 = some ct_actv.fs) (h2 : tab.look n2 = some ct_lists.fs) (bk : List Bank) (u : Int) (hk : RM bk) :
    (ac_ref8_Same n1 n2).wp tab gl (zipF 0 [.t (regT bk u), .t (regT bk u)]) (zipF 0 []) (resW [(4, none)] 0 (fun r o => r = .t (.bool true) ∧ o = [])) := by
  have c0 := actv_eq (u := u) (a := 0) hk.1 (by omega)
  have c1 := actv_eq (u := u) (a := 1) hk.1 (by omega)
  rw [show ((0 : Nat) : Int) = 0 from rfl] at c0
  rw [show ((1 : Nat) : Int) = 1 from rfl] at c1
  have m0 := lists_eq (hk.bank 0)
  have m1 := lists_eq (hk.bank 1)
  have hlen : bk.length ≤ 2 := by
    obtain ⟨h, _⟩ := hk
    cases h <;> simp
  have l0 : onB bk 0 = true → 0 < bk.length := fun h => hk.1.len h
  have l1 : onB bk 1 = true → 1 < bk.length := fun h => hk.1.len h
  simp (disch := omega) only [go_sem, ↓reduceIte, Nat.reduceAdd, Nat.reduceEqDiff, Nat.reduceLeDiff, reduceCtorEq, ac_ref8_Same]
  refine loopW_weak (fs' := [(2, .ref 4096 0 0), (3, .ref 4112 0 0), (5, .t (.int .i64 0))]) (hs' := [(4096, .live 2 [.t (regT bk u)] true true), (4112, .live 2 [.t (regT bk u)] true true)]) (Weak.rd id ?_ ?_ rfl) ?_
  · simp (disch := omega) only [go_sem, ↓reduceIte, Nat.reduceEqDiff, Nat.reduceBEq, id]
  · simp (disch := omega) only [go_sem, ↓reduceIte, Nat.reduceEqDiff, id]
  have g0 : ∀ h : 0 < bk.length, bk[0]? = some (bk.getD 0 []) := fun h => getB h
  cases o0 : onB bk 0 <;> cases o1 : onB bk 1 <;> rw [o0] at c0 <;> rw [o1] at c1
  · refine loop_fuel 3 ?_
    simp (disch := omega) only [go_sem, ↓reduceIte, Nat.reduceAdd, Nat.reduceEqDiff, Nat.reduceLeDiff, Int.reduceLT, Int.reduceAdd, loopN_succ, ac_ref8_Same_L0, h1, c0, c1]
    all_goals repeat refine And.intro rfl ?_
    all_goals rfl
  · have z1 := l1 o1
    refine loop_fuel 3 ?_
    simp (disch := omega) only [go_sem, ↓reduceIte, Nat.reduceAdd, Nat.reduceEqDiff, Nat.reduceLeDiff, Int.reduceLT, Int.reduceLE, Int.reduceAdd, loopN_succ, ac_ref8_Same_L0, h1, c0, c1, h2, m0, m1]
    all_goals repeat refine And.intro rfl ?_
    all_goals rfl
  · have z0 := l0 o0
    refine loop_fuel 3 ?_
    simp (disch := omega) only [go_sem, ↓reduceIte, Nat.reduceAdd, Nat.reduceEqDiff, Nat.reduceLeDiff, Int.reduceLT, Int.reduceLE, Int.reduceAdd, loopN_succ, ac_ref8_Same_L0, h1, c0, c1, h2, m0, m1]
    all_goals repeat refine And.intro rfl ?_
    all_goals rfl
  · have z0 := l0 o0
    have z1 := l1 o1
    refine loop_fuel 3 ?_
    simp (disch := omega) only [go_sem, ↓reduceIte, Nat.reduceAdd, Nat.reduceEqDiff, Nat.reduceLeDiff, Int.reduceLT, Int.reduceLE, Int.reduceAdd, loopN_succ, ac_ref8_Same_L0, h1, c0, c1, h2, m0, m1]
    all_goals repeat refine And.intro rfl ?_
    all_goals rfl
end Go.Eng
end
section
namespace Go.Eng
def ac_law8_awake (n_registers_New n_registers_Event n_registers_Value : Nat) : AC :=
 (.seq
 (rG 4096 [
 mC 0 (.t (.bool false))])
 (.seq
 (rG 8192 [
 cL 6 n_registers_New true [.cst (.t (.int .i64 2))],
 oO 7 (.bslice 1 1 (.t (byteT 0)) [0]) [.cst (.t (byteT 1))],
 cL 8 n_registers_Event true [.tmp 6, .cst (.t (.int .i64 0)), .cst (.t (.int .i64 3)), .tmp 7],
 mv 5 8,
 oO 9 (.extract 0) [.tmp 5],
 oO 10 (.extract 1) [.tmp 5],
 oO 1 (.new 2 [(.agg [.nil, (.t (.int .i64 0))])]) [],
 oS 2 1 9,
 mv 2 10])
 (.seq
 (rG 12288 [
 oO 12 (.load 2 true) [.tmp 1],
 cL 13 n_registers_Value true [.tmp 12, .cst (.t (.int .i64 1)), .cst (.t (.int .i64 3))],
 mv 11 13,
 oO 14 (.extract 0) [.tmp 11],
 oO 15 (.extract 1) [.tmp 11],
 mv 3 14,
 mv 4 15])
 (.seq
 (rG 16384 [
 mv 16 2,
 bN 17 .eql 16 0,
 mv 18 17,
 mG 19 4 18,
 oG 20 18 (.bin .eql) [.tmp 19, .cst (.t (.int .i64 0))],
 oO 21 .pick [.tmp 18, .tmp 20, .cst (.t (.bool false))],
 mv 22 21,
 mG 23 3 22,
 oG 24 22 .len [.tmp 23],
 oG 25 22 (.bin .eql) [.tmp 24, .cst (.t (.int .i64 32))],
 oO 26 .pick [.tmp 22, .tmp 25, .cst (.t (.bool false))],
 mv 27 26,
 mG 28 3 27,
 oG 29 27 (.iaddr 1) [.tmp 28, .cst (.t (.int .i64 0))],
 oG 30 27 (.load 1 false) [.tmp 29],
 oG 31 27 (.bin .neq) [.tmp 30, .cst (.t (byteT 0))],
 oO 32 .pick [.tmp 27, .tmp 31, .cst (.t (.bool false))],
 mv 33 32,
 oG 34 33 (.faddr 1) [.tmp 1],
 oG 35 33 (.load 1 false) [.tmp 34],
 oG 36 33 (.bin .eql) [.tmp 35, .cst (.t (.int .i64 1))],
 oO 37 .pick [.tmp 33, .tmp 36, .cst (.t (.bool false))],
 mv 0 37])
 .ret))))
def hints_law8_awake : List (Nat × List Nat) := [(1, [0, 2]), (2, [1])]
def ac_law8_RegistersCodec (n_law8_awake n_draw_Registers n_registers_Encode n_registers_Decode n_ref8_Encode n_ref1_Same n_ref8_Same n_registers_Resume n_ref8_Resume : Nat) : AC :=
 (.seq
 (rG 4096 [
 mC 4 (.t (.bool false))])
 (.seq
 (.seq
 (rG 8192 [
 cL 9 n_law8_awake false [],
 oO 10 (.un .not) [.tmp 9]])
 (.cond (.tmp 10)
 (.seq
 (rG 12288 [
 mC 4 (.t (.bool false))])
 .ret)
 .skip))
 (.seq
 (rG 16384 [
 mv 11 0,
 mv 12 1,
 cL 13 n_draw_Registers true [.tmp 11, .tmp 12],
 oO 5 (.new 2 [(.agg [.nil, (.t (.int .i64 0))])]) [],
 oS 2 5 13])
 (.seq
 (rG 20480 [
 oO 14 (.load 2 true) [.tmp 5],
 cL 15 n_registers_Encode false [.tmp 14],
 mv 6 15])
 (.seq
 (rG 24576 [
 mv 17 6,
 cL 18 n_registers_Decode true [.tmp 17],
 mv 16 18,
 oO 19 (.extract 0) [.tmp 16],
 oO 20 (.extract 1) [.tmp 16],
 oO 7 (.new 2 [(.agg [.nil, (.t (.int .i64 0))])]) [],
 oS 2 7 19,
 mv 8 20])
 (.seq
 (.reg 28672 (some [0, 0, 2, 7, 15, 31, 63, 127, 255, 511, 511, 2047, 4095, 8191, 16383, 32767, 16383, 131071, 262143, 524287, 1048575]) [
 mv 21 6,
 oO 22 (.load 2 true) [.tmp 5],
 cL 23 n_ref8_Encode false [.tmp 22],
 cL 24 n_ref1_Same false [.tmp 21, .tmp 23],
 mv 25 24,
 mG 26 8 25,
 oG 27 25 (.bin .eql) [.tmp 26, .cst (.t (.int .i64 0))],
 oO 28 .pick [.tmp 25, .tmp 27, .cst (.t (.bool false))],
 mv 29 28,
 oG 30 29 (.load 2 true) [.tmp 7],
 oG 31 29 (.load 2 true) [.tmp 5],
 cG 32 29 n_ref8_Same false [.tmp 30, .tmp 31],
 oO 33 .pick [.tmp 29, .tmp 32, .cst (.t (.bool false))],
 mv 34 33,
 oG 35 34 (.load 2 true) [.tmp 5],
 cG 36 34 n_registers_Resume true [.tmp 35],
 oG 37 34 (.load 2 true) [.tmp 5],
 cG 38 34 n_ref8_Resume true [.tmp 37],
 cG 39 34 n_ref8_Same false [.tmp 36, .tmp 38],
 oO 40 .pick [.tmp 34, .tmp 39, .cst (.t (.bool false))],
 mv 4 40])
 .ret))))))
def hints_law8_RegistersCodec : List (Nat × List Nat) := [(3, [2]), (5, [1]), (6, [15, 17])]
def ac_law8_RegistersDecode (n_law8_awake n_draw_Registers n_ref8_Encode n_registers_Decode n_ref8_Decode n_ref8_Same : Nat) : AC :=
 (.seq
 (rG 4096 [
 mC 12 (.t (.bool false))])
 (.seq
 (.seq
 (rG 8192 [
 cL 22 n_law8_awake false [],
 oO 23 (.un .not) [.tmp 22]])
 (.cond (.tmp 23)
 (.seq
 (rG 12288 [
 mC 12 (.t (.bool false))])
 .ret)
 .skip))
 (.seq
 (.seq
 (rG 16384 [
 mv 24 5,
 oO 25 .len [.tmp 24],
 bN 26 .gtr 25 100])
 (.cond (.tmp 26)
 (.seq
 (rG 20480 [
 mC 12 (.t (.bool true))])
 .ret)
 .skip))
 (.seq
 (rG 24576 [
 mv 27 0,
 mv 28 1,
 cL 29 n_draw_Registers true [.tmp 27, .tmp 28],
 cL 30 n_ref8_Encode false [.tmp 29],
 mv 13 30])
 (.seq
 (.seq
 (rG 28672 [
 mv 31 2,
 bN 32 .geq 31 0,
 mv 33 32,
 mG 34 2 33,
 mG 35 13 33,
 oG 36 33 .len [.tmp 35],
 oG 37 33 (.bin .lss) [.tmp 34, .tmp 36],
 oO 38 .pick [.tmp 33, .tmp 37, .cst (.t (.bool false))]])
 (.cond (.tmp 38)
 (rG 32768 [
 mv 39 13,
 mv 40 2,
 oO 41 (.iaddr 1) [.tmp 39, .tmp 40],
 oO 42 (.load 1 false) [.tmp 41],
 mv 43 3,
 bT 44 .xor 42 43,
 oO 45 (.iaddr 1) [.tmp 39, .tmp 40],
 oS 1 45 44])
 .skip))
 (.seq
 (.seq
 (rG 36864 [
 mv 46 4,
 bN 47 .geq 46 0,
 mv 48 47,
 mG 49 4 48,
 mG 50 13 48,
 oG 51 48 .len [.tmp 50],
 oG 52 48 (.bin .lss) [.tmp 49, .tmp 51],
 oO 53 .pick [.tmp 48, .tmp 52, .cst (.t (.bool false))]])
 (.cond (.tmp 53)
 (rG 40960 [
 mv 54 13,
 mv 55 4,
 oO 56 (.slice 1 false true false) [.tmp 54, .tmp 55],
 mv 13 56])
 .skip))
 (.seq
 (rG 45056 [
 mv 57 13,
 mv 58 5,
 oO 59 (.appendt 1 1) [.tmp 57, .tmp 58],
 mv 13 59])
 (.seq
 (rG 49152 [
 mv 61 13,
 cL 62 n_registers_Decode true [.tmp 61],
 mv 60 62,
 oO 63 (.extract 0) [.tmp 60],
 oO 64 (.extract 1) [.tmp 60],
 oO 14 (.new 2 [(.agg [.nil, (.t (.int .i64 0))])]) [],
 oS 2 14 63,
 mv 15 64])
 (.seq
 (rG 53248 [
 mv 66 13,
 cL 67 n_ref8_Decode true [.tmp 66],
 mv 65 67,
 oO 68 (.extract 0) [.tmp 65],
 oO 69 (.extract 1) [.tmp 65],
 oO 16 (.new 2 [(.agg [.nil, (.t (.int .i64 0))])]) [],
 oS 2 16 68,
 mv 17 69])
 (.seq
 (rG 57344 [
 mv 71 5,
 cL 72 n_registers_Decode true [.tmp 71],
 mv 70 72,
 oO 73 (.extract 0) [.tmp 70],
 oO 74 (.extract 1) [.tmp 70],
 oO 18 (.new 2 [(.agg [.nil, (.t (.int .i64 0))])]) [],
 oS 2 18 73,
 mv 19 74])
 (.seq
 (rG 61440 [
 mv 76 5,
 cL 77 n_ref8_Decode true [.tmp 76],
 mv 75 77,
 oO 78 (.extract 0) [.tmp 75],
 oO 79 (.extract 1) [.tmp 75],
 oO 20 (.new 2 [(.agg [.nil, (.t (.int .i64 0))])]) [],
 oS 2 20 78,
 mv 21 79])
 (.seq
 (rG 65536 [
 mv 80 15,
 mv 81 17,
 bT 82 .eql 80 81,
 mv 83 82,
 oG 84 83 (.load 2 true) [.tmp 14],
 oG 85 83 (.load 2 true) [.tmp 16],
 cG 86 83 n_ref8_Same false [.tmp 84, .tmp 85],
 oO 87 .pick [.tmp 83, .tmp 86, .cst (.t (.bool false))],
 mv 88 87,
 mG 89 19 88,
 mG 90 21 88,
 oG 91 88 (.bin .eql) [.tmp 89, .tmp 90],
 oO 92 .pick [.tmp 88, .tmp 91, .cst (.t (.bool false))],
 mv 93 92,
 oG 94 93 (.load 2 true) [.tmp 18],
 oG 95 93 (.load 2 true) [.tmp 20],
 cG 96 93 n_ref8_Same false [.tmp 94, .tmp 95],
 oO 97 .pick [.tmp 93, .tmp 96, .cst (.t (.bool false))],
 mv 12 97])
 .ret))))))))))))
def hints_law8_RegistersDecode : List (Nat × List Nat) := [(5, [2]), (10, [2]), (11, [1]), (12, [1]), (13, [1]), (14, [1])]
end Go.Eng
end
section
set_option maxRecDepth 20000
set_option maxHeartbeats 64000000
namespace Go.Eng
def ct_new : Ct where
  α := Int
  as s := [.t (.int .i64 s)]
  ins _ := []
  pre _ := True
  r s := twR (newBk s) 0
  outs s := twO (newBk s)
  inj := by
    rintro a b h _
    simp only [List.cons.injEq, V.t.injEq, T.int.injEq, true_and, and_true] at h
    subst h
    exact ⟨rfl, rfl⟩
def ct_ev : Ct where
  α := List Bank × Int × Int × Int × List UInt8
  as x := [.t (regT x.1 x.2.1), .t (.int .i64 x.2.2.1), .t (.int .i64 x.2.2.2.1), .t (.sl (x.2.2.2.2.map byteT))]
  ins _ := []
  pre x := RV x.1 ∧ (0 ≤ x.2.1 ∧ x.2.1 < 1000000000) ∧ x.2.2.2.2.length < 1000000000
  r x := evR x.1 x.2.1 x.2.2.1 x.2.2.2.1 x.2.2.2.2
  outs _ := []
  inj := by
    rintro ⟨a, u, l, i, d⟩ ⟨b, v, l', i', d'⟩ h _
    simp only [List.cons.injEq, V.t.injEq, T.int.injEq, T.sl.injEq, true_and, and_true, mapB_inj] at h
    obtain ⟨h1, rfl, rfl, rfl⟩ := h
    obtain ⟨rfl, rfl⟩ := regT_inj h1
    exact ⟨rfl, rfl⟩
def ct_val : Ct where
  α := List Bank × Int × Int × Int
  as x := [.t (regT x.1 x.2.1), .t (.int .i64 x.2.2.1), .t (.int .i64 x.2.2.2)]
  ins _ := []
  pre x := RM x.1
  r x := valR x.1 x.2.2.1 x.2.2.2
  outs x := valO x.1 x.2.2.1 x.2.2.2
  inj := by
    rintro ⟨a, u, l, i⟩ ⟨b, v, l', i'⟩ h _
    simp only [List.cons.injEq, V.t.injEq, T.int.injEq, true_and, and_true] at h
    obtain ⟨h1, rfl, rfl⟩ := h
    obtain ⟨rfl, rfl⟩ := regT_inj h1
    exact ⟨rfl, rfl⟩
theorem newB_ok {a : Nat} (ha : a < 2) : bkOk (newB a) := .inr newB_length
theorem newB_le {a : Nat} (ha : a < 2) : ∀ x ∈ newB a, x.length ≤ 64 := by
  intro x hx
  simp only [newB, List.mem_map, List.mem_range] at hx
  obtain ⟨i, _, rfl⟩ := hx
  simp only [List.length_replicate]
  have : a = 0 ∨ a = 1 := by omega
  rcases this with rfl | rfl <;> decide
theorem newBk_rv {s : Int} : RV (newBk s) := by
  unfold newBk
  split
  · exact ⟨.nil, by simp⟩
  · refine ⟨.two _ _ ?_ ?_, ?_⟩
    · split
      · exact newB_ok (by omega)
      · exact .inl rfl
    · split
      · exact newB_ok (by omega)
      · exact .inl rfl
    · intro b hb
      simp only [List.mem_cons, List.not_mem_nil, or_false] at hb
      rcases hb with rfl | rfl
      · split
        · exact newB_le (by omega)
        · simp
      · split
        · exact newB_le (by omega)
        · simp
def awX : List UInt8 := sum256 (List.replicate 32 0 ++ sum256 [1])
theorem awX_ne : awX.getD 0 0 ≠ 0 := by decide +kernel
theorem aw_new : ct_new.fs [.t (.int .i64 2)] [] = some (.agg [.sl 0 0 2, .t (.int .i64 0)], [.live 1 [.sl 1 0 0, .sl 2 0 16] true false, .live 1 [] true false, .live 1 (((newB 1).map bsT).map V.t) true false]) := by
  refine (ct_new.eq (2 : Int) trivial).trans ?_
  rfl
theorem aw_ev : ct_ev.fs [.t (.agg [.sl [.sl [], .sl ((newB 1).map bsT)], .int .i64 0]), .t (.int .i64 0), .t (.int .i64 3), .t (.sl [byteT 1])] [] = some (.tup [.t (.agg [.sl [.sl [], .sl (((newB 1).set 3 awX).map bsT)], .int .i64 1]), .t (.int .i64 0)], []) := by
  refine (ct_ev.eq (newBk 2, 0, 0, 3, [1]) ⟨newBk_rv (s := 2), ⟨by decide, by decide⟩, by decide⟩).trans ?_
  have h : evR (newBk 2) 0 0 3 [1] = .tup [.t (regT [[], (newB 1).set 3 awX] 1), .t (.int .i64 0)] := by
    have e1 : newBk 2 = [[], newB 1] := rfl
    have e2 : digB [[], newB 1] [1] = [[], sum256 [1]] := by simp [digB, onB, newB_length]
    rw [evR, if_neg (by decide), e1, e2]
    have e3 : extE (([[], newB 1] : List Bank).getD 0 []).length (([[], newB 1] : List Bank).getD 1 []).length 0 3 ([[], sum256 [1]] : List (List UInt8)).length (([[], sum256 [1]] : List (List UInt8)).getD 0 []).length (([[], sum256 [1]] : List (List UInt8)).getD 1 []).length = 0 := by
      simp [extE, newB_length, sum256_length, leastI]
    rw [extR, if_pos e3]
    have e4 : extBk [[], newB 1] (3 : Int).toNat [[], sum256 [1]] = [[], (newB 1).set 3 awX] := by
      have e5 : (newB 1).getD 3 [] = List.replicate 32 0 := rfl
      have e6 : (3 : Int).toNat = 3 := rfl
      simp only [extBk, ext1, newB_length, if_pos, List.getD_cons_zero, List.getD_cons_succ, e6, sumA1, e5]
      rfl
    rw [e4]; rfl
  show some (evR (newBk 2) 0 0 3 [1], ([] : List Ob)) = _
  rw [h]; rfl
theorem aw_val : ct_val.fs [.t (.agg [.sl [.sl [], .sl (((newB 1).set 3 awX).map bsT)], .int .i64 1]), .t (.int .i64 1), .t (.int .i64 3)] [] = some (.tup [.sl 0 0 32, .t (.int .i64 0)], [.live 1 ((awX.map byteT).map V.t) true false]) := by
  have hl : (newB 1).set 3 awX = (newB 1).set 3 awX := rfl
  have hlen : List.length ((newB 1).set 3 awX) = 16 := by rw [List.length_set, newB_length]
  refine (ct_val.eq ([[], (newB 1).set 3 awX], 1, 1, 3) ?_).trans ?_
  · refine RV.rm ⟨.two _ _ (.inl rfl) (.inr hlen), ?_⟩
    intro b hb
    simp only [List.mem_cons, List.not_mem_nil, or_false] at hb
    rcases hb with rfl | rfl
    · simp
    · intro x hx
      rcases List.mem_or_eq_of_mem_set hx with h | rfl
      · exact newB_le (by omega) x h
      · show (sum256 _).length ≤ 64
        rw [sum256_length]; omega
  · have ho : onB [[], (newB 1).set 3 awX] 1 = true := by simp [onB, newB_length]
    have hv : valL [[], (newB 1).set 3 awX] 1 3 = awX := by simp [valL, newB_length]
    have hb : ¬ badR 1 3 := by decide
    have h1 : (1 : Int).toNat = 1 := rfl
    have h3 : (3 : Int).toNat = 3 := rfl
    show some (valR [[], (newB 1).set 3 awX] 1 3, valO [[], (newB 1).set 3 awX] 1 3) = _
    rw [valR, valO, if_neg hb, if_neg hb, h1, h3, ho, hv, if_pos rfl, if_pos rfl]
    have : awX.length = 32 := sum256_length
    rw [this]
theorem w_awake (tab : Tab) (gl : Gl) (n1 n2 n3 : Nat) (h1 : tab.look n1 = some ct_new.fs) (h2 : tab.look n2 = some ct_ev.fs) (h3 : tab.look n3 = some ct_val.fs) :
    (ac_law8_awake n1 n2 n3).wp tab gl (zipF 0 []) (zipF 0 []) (resW [(0, none)] 0 (fun r o => r = .t (.bool true) ∧ o = [])) := by
  have hn := awX_ne
  have hl : awX.length = 32 := sum256_length
  have hl2 := @newB_length 1
  have hl3 : List.length ((newB 1).set 3 awX) = 16 := by rw [List.length_set, newB_length]
  have ht : List.take 16 (newB 1) = newB 1 := newB_all
  have ht2 : List.take 16 ((newB 1).set 3 awX) = (newB 1).set 3 awX := List.take_of_length_le (by omega)
  have ht3 : List.take 32 awX = awX := List.take_of_length_le (by omega)
  simp (disch := omega) only [go_sem, ↓reduceIte, Nat.reduceAdd, Nat.reduceEqDiff, Nat.reduceLT, Nat.reduceLeDiff, Int.reduceLT, Int.reduceLE, reduceCtorEq, ac_law8_awake, h1, h2, h3, aw_new, aw_ev, aw_val, ht, ht2, ht3]
end Go.Eng
end
section
set_option maxRecDepth 20000
set_option maxHeartbeats 64000000
namespace Go.Eng
def ct_awake : Ct where
  α := Unit
  as _ := []
  ins _ := []
  pre _ := True
  r _ := .t (.bool true)
  outs _ := []
  inj := by rintro a b h _; exact ⟨rfl, rfl⟩
theorem awake_eq : ct_awake.fs [] [] = some (.t (.bool true), []) := ct_awake.eq () trivial
def ct_eqR : Ct where
  α := List Bank × Int
  as x := [.t (regT x.1 x.2), .t (regT x.1 x.2)]
  ins _ := []
  pre x := RM x.1
  r _ := .t (.bool true)
  outs _ := []
  inj := by rintro a b h _; exact ⟨rfl, rfl⟩
end Go.Eng
end
section
set_option maxRecDepth 20000
namespace Go.Eng
theorem wc_digest_compress1 (tab : Tab) (gl : Gl) (n1 n2 : Nat) (h1 : tab.look n1 = some ct_word.fs) (h2 : tab.look n2 = some ct_rotl.fs) (x : (ct_comp 5 comp1).α) (hx : (ct_comp 5 comp1).pre x) :
    (ac_digest_compress1 n1 n2).wp tab gl (zipF 0 ((ct_comp 5 comp1).as x)) (zipF 0 ((ct_comp 5 comp1).ins x)) (resW [] ((ct_comp 5 comp1).ins x).length (fun r o => r = (ct_comp 5 comp1).r x ∧ o = (ct_comp 5 comp1).outs x)) := by
  obtain ⟨hs, bs⟩ := x
  obtain ⟨hb, hh⟩ := hx
  match hs, hh with
  | [x0, x1, x2, x3, x4], _ => exact w_digest_compress1 tab gl n1 n2 h1 h2 bs x0 x1 x2 x3 x4 hb
theorem wc_registers_active (tab : Tab) (gl : Gl) (x : ct_active.α) (hx : ct_active.pre x) :
    ac_registers_active.wp tab gl (zipF 0 (ct_active.as x)) (zipF 0 (ct_active.ins x)) (resW [(2, none)] (ct_active.ins x).length (fun r o => r = ct_active.r x ∧ o = ct_active.outs x)) := by
  obtain ⟨bk, u⟩ := x
  have hx' : RK bk := hx
  clear hx
  cases hx' with
  | nil => exact w_registers_active0 tab gl u
  | two b0 b1 h0 h1 => exact w_registers_active2 tab gl b0 b1 (by rcases h0 with h | h <;> omega) (by rcases h1 with h | h <;> omega) u
theorem wc_registers_twin (tab : Tab) (gl : Gl) (x : ct_twin.α) (hx : ct_twin.pre x) :
    ac_registers_twin.wp tab gl (zipF 0 (ct_twin.as x)) (zipF 0 (ct_twin.ins x)) (resF [] [(2, some (2, true))] (ct_twin.ins x).length (fun r o => r = ct_twin.r x ∧ o = ct_twin.outs x)) := by
  obtain ⟨bk, u⟩ := x
  obtain ⟨hk, hm⟩ := hx
  have hk' : RK bk := hk
  clear hk
  cases hk' with
  | nil => exact w_registers_twin0 tab gl u
  | two b0 b1 h0 h1 => exact w_registers_twin2 tab gl b0 b1 u (hm b0 (.head _)) (hm b1 (.tail _ (.head _)))
theorem wc_registers_New (tab : Tab) (gl : Gl) (n1 n2 : Nat) (h1 : tab.look n1 = some ct_size.fs) (h2 : tab.look n2 = some ct_fill.fs) (x : ct_new.α) :
    (ac_registers_New n1 n2).wp tab gl (zipF 0 (ct_new.as x)) (zipF 0 (ct_new.ins x)) (resF [] [(2, some (2, true))] (ct_new.ins x).length (fun r o => r = ct_new.r x ∧ o = ct_new.outs x)) := by
  have x' : Int := x
  by_cases h : (show Int from x) % 4 = 0
  · have := w_registers_New0 tab gl n1 n2 x h
    show (ac_registers_New n1 n2).wp tab gl (zipF 0 [.t (.int .i64 x)]) (zipF 0 []) (resF [] [(2, some (2, true))] 0 (fun r o => r = twR (newBk x) 0 ∧ o = twO (newBk x)))
    have e : newBk x = [] := if_pos h
    rw [e]; exact this
  · exact w_registers_New tab gl n1 n2 h1 h2 x h
theorem wc_ref8_New (tab : Tab) (gl : Gl) (n1 : Nat) (h1 : tab.look n1 = some ct_init.fs) (x : ct_new.α) :
    (ac_ref8_New n1).wp tab gl (zipF 0 (ct_new.as x)) (zipF 0 (ct_new.ins x)) (resF [] [(2, some (2, true))] (ct_new.ins x).length (fun r o => r = ct_new.r x ∧ o = ct_new.outs x)) := by
  by_cases h : (show Int from x) % 4 = 0
  · have := w_ref8_New0 tab gl n1 x h
    show (ac_ref8_New n1).wp tab gl (zipF 0 [.t (.int .i64 x)]) (zipF 0 []) (resF [] [(2, some (2, true))] 0 (fun r o => r = twR (newBk x) 0 ∧ o = twO (newBk x)))
    have e : newBk x = [] := if_pos h
    rw [e]; exact this
  · exact w_ref8_New tab gl n1 h1 x h
theorem wc_ref8_fill (tab : Tab) (gl : Gl) (x : ct_fill.α) (hx : ct_fill.pre x) :
    ac_ref8_fill.wp tab gl (zipF 0 (ct_fill.as x)) (zipF 0 (ct_fill.ins x)) (resF [] [(4, none)] (ct_fill.ins x).length (fun r o => r = ct_fill.r x ∧ o = ct_fill.outs x)) := by
  obtain ⟨n, x⟩ := x
  have hx' : n = 20 ∨ n = 32 := hx
  exact w_ref8_fill tab gl x n (by omega)
theorem wc_ref8_Active (tab : Tab) (gl : Gl) (x : ct_actv.α) (hx : ct_actv.pre x) :
    ac_ref8_Active.wp tab gl (zipF 0 (ct_actv.as x)) (zipF 0 (ct_actv.ins x)) (resW [(4, none)] (ct_actv.ins x).length (fun r o => r = ct_actv.r x ∧ o = ct_actv.outs x)) := by
  obtain ⟨bk, u, a⟩ := x
  obtain ⟨hk, ha⟩ := hx
  have hk' : RK bk := hk
  have ha' : a < 1000000000 := ha
  refine w_ref8_Active tab gl bk u a ha' ?_ ?_
  · cases hk' <;> simp
  · intro b hb
    clear hk
    cases hk' with
    | nil => simp at hb
    | two b0 b1 h0 h1 =>
      simp only [List.mem_cons, List.not_mem_nil, or_false] at hb
      rcases hb with rfl | rfl
      · rcases h0 with h | h <;> omega
      · rcases h1 with h | h <;> omega
end Go.Eng
end
section
set_option maxRecDepth 20000
set_option maxHeartbeats 16000000
namespace Go.Eng
def stN (x : List UInt8) (b : Bank) : Nat → Bank
  | 0 => b
  | k + 1 => (stN x b k).set (12 + k) x
theorem stN_length {x : List UInt8} {b : Bank} {k : Nat} : List.length (stN x b k) = List.length b := by
  induction k with
  | zero => rfl
  | succ k ih => simp only [stN, List.length_set, ih]
def resBk (bk : List Bank) : List Bank := match bk with
  | [b0, b1] => [stN (List.replicate 20 255) b0 4, stN (List.replicate 32 255) b1 4]
  | bk => bk
theorem newV_c {k : Nat} : newV (12 + k) = 255 := if_pos (by omega)
theorem w_registers_Resume0 (tab : Tab) (gl : Gl) (n1 n2 n3 : Nat) (h1 : tab.look n1 = some ct_twin.fs) (u : Int) : (ac_registers_Resume n1 n2 n3).wp tab gl (zipF 0 [.t (regT [] u)]) (zipF 0 []) (resW [(2, some (2, true))] 0 (fun r o => r = .t (regT [] u) ∧ o = [])) := by
  simp (disch := omega) only [go_sem, ↓reduceIte, Nat.reduceAdd, Nat.reduceEqDiff, Nat.reduceLeDiff, ac_registers_Resume, h1, twin_eq0, List.map_nil]
  refine loop_fuel 1 ?_
  simp (disch := omega) only [go_sem, ↓reduceIte, Nat.reduceAdd, Nat.reduceEqDiff, Nat.reduceLeDiff, Int.reduceLT, loopN_succ, ac_registers_Resume_L0]
theorem w_registers_Resume2 (tab : Tab) (gl : Gl) (n1 n2 n3 : Nat) (h1 : tab.look n1 = some ct_twin.fs) (h2 : tab.look n2 = some ct_size.fs) (h3 : tab.look n3 = some ct_fill.fs) (b0 b1 : Bank) (u : Int) (hk : RM [b0, b1]) : (ac_registers_Resume n1 n2 n3).wp tab gl (zipF 0 [.t (regT [b0, b1] u)]) (zipF 0 []) (resW [(2, some (2, true))] 0 (fun r o => r = .t (regT (resBk [b0, b1]) u) ∧ o = [])) := by
  simp (disch := omega) only [go_sem, ↓reduceIte, Nat.reduceAdd, Nat.reduceEqDiff, Nat.reduceLeDiff, ac_registers_Resume, h1, twin_eq2 hk, List.map_nil, List.map_cons]
  refine loop_fuel 3 ?_
  simp (disch := omega) only [go_sem, ↓reduceIte, Nat.reduceAdd, Nat.reduceEqDiff, Int.reduceLT, loopN_succ, ac_registers_Resume_L0]
  obtain ⟨hrk, _⟩ := hk
  cases hrk with
  | two _ _ h0 h1 =>
  have q0 : bkOk b0 := h0
  rcases q0 with z0 | z0
  · obtain rfl : b0 = [] := List.eq_nil_of_length_eq_zero z0
    have y0 : stN (List.replicate 20 255) [] 4 = [] := rfl
    refine loop_fuel 1 ?_
    simp (disch := omega) only [go_sem, ↓reduceIte, Nat.reduceAdd, Nat.reduceEqDiff, Nat.reduceLeDiff, Int.reduceLT, Int.reduceLE, Int.reduceAdd, loopN_succ, ac_registers_Resume_L0, ac_registers_Resume_L1, List.length_nil, List.map_nil]
    have q1 : bkOk b1 := h1
    rcases q1 with z1 | z1
    · obtain rfl : b1 = [] := List.eq_nil_of_length_eq_zero z1
      have y1 : stN (List.replicate 32 255) [] 4 = [] := rfl
      refine loop_fuel 1 ?_
      simp (disch := omega) only [go_sem, ↓reduceIte, Nat.reduceAdd, Nat.reduceEqDiff, Nat.reduceLeDiff, Int.reduceLT, Int.reduceLE, Int.reduceAdd, loopN_succ, ac_registers_Resume_L0, ac_registers_Resume_L1, List.length_nil, List.map_nil, z0, z1]
      all_goals rfl
    · refine loop_upto 4 (fun k => [(2, .ref 4112 0 0), (3, .ref 8224 0 0), (4, .t (.int .i64 1)), (5, .t (.int .i64 ((12 + k : Nat) : Int))), (10, .t (.int .i64 2)), (11, .t (.int .i64 1))]) (fun k => [(8224, .live 2 [.agg [.sl 8208 0 2, .t (.int .i64 u)]] true true), (8210, .live 1 (((stN (List.replicate 32 255) b1 k).map bsT).map V.t) true false), (8209, .live 1 (((([] : Bank)).map bsT).map V.t) true false), (8208, .live 1 [.sl 8209 0 0, .sl 8210 0 16] true false), (4112, .live 2 [.agg [.nil, .t (.int .i64 0)]] true true)]) ?_ (fun k hk4 => ?_)
      · refine Weak.rd id ?_ ?_ rfl
        all_goals simp (disch := omega) only [go_sem, ↓reduceIte, Nat.reduceAdd, Nat.reduceEqDiff, Nat.reduceBEq, id, stN, z0, z1]
      · have s1 : List.length (stN (List.replicate 32 255) b1 k) = 16 := by rw [stN_length, z1]
        by_cases hlt : k < 4
        · simp (disch := omega) only [go_sem, ↓reduceIte, Nat.reduceAdd, Nat.reduceEqDiff, Nat.reduceLeDiff, Int.reduceLT, Int.reduceLE, ac_registers_Resume_L1, z1, s1, h2, h3, size_eq0, size_eq1, fill_eq20, fill_eq32]
          repeat refine And.intro rfl ?_
          refine ⟨hlt, Weak.cv (hv := []) [36992] id ?_ rfl⟩
          simp (config := { maxSteps := 2000000 }) (disch := (first | omega | (simp only [lens, lenm]; omega))) only [go_sem, ↓reduceIte, Nat.reduceAdd, Nat.reduceEqDiff, Nat.reduceLeDiff, Nat.reduceBEq, id, stN, z1, s1, List.take_replicate, Nat.min_self, newV_c]
          refine ⟨?_, rfl⟩
          omega
        · have e : k = 4 := by omega
          subst e
          have t1 : List.take 16 (stN (List.replicate 32 255) b1 4) = stN (List.replicate 32 255) b1 4 := List.take_of_length_le (by omega)
          simp (disch := omega) only [go_sem, ↓reduceIte, Nat.reduceAdd, Nat.reduceEqDiff, Nat.reduceLeDiff, Int.reduceLT, Int.reduceLE, Int.reduceAdd, ac_registers_Resume_L0, ac_registers_Resume_L1, z1, s1, loopN_succ, t1]
          all_goals rfl
  · refine loop_upto 4 (fun k => [(2, .ref 4112 0 0), (3, .ref 8224 0 0), (4, .t (.int .i64 0)), (5, .t (.int .i64 ((12 + k : Nat) : Int))), (10, .t (.int .i64 2)), (11, .t (.int .i64 0))]) (fun k => [(8224, .live 2 [.agg [.sl 8208 0 2, .t (.int .i64 u)]] true true), (8210, .live 1 (((b1).map bsT).map V.t) true false), (8209, .live 1 (((stN (List.replicate 20 255) b0 k).map bsT).map V.t) true false), (8208, .live 1 [.sl 8209 0 16, .sl 8210 0 b1.length] true false), (4112, .live 2 [.agg [.nil, .t (.int .i64 0)]] true true)]) ?_ (fun k hk4 => ?_)
    · refine Weak.rd id ?_ ?_ rfl
      all_goals simp (disch := omega) only [go_sem, ↓reduceIte, Nat.reduceAdd, Nat.reduceEqDiff, Nat.reduceBEq, id, stN, z0]
    · have s0 : List.length (stN (List.replicate 20 255) b0 k) = 16 := by rw [stN_length, z0]
      by_cases hlt : k < 4
      · simp (disch := omega) only [go_sem, ↓reduceIte, Nat.reduceAdd, Nat.reduceEqDiff, Nat.reduceLeDiff, Int.reduceLT, Int.reduceLE, ac_registers_Resume_L1, z0, s0, h2, h3, size_eq0, size_eq1, fill_eq20, fill_eq32]
        repeat refine And.intro rfl ?_
        refine ⟨hlt, Weak.cv (hv := []) [36992] id ?_ rfl⟩
        simp (config := { maxSteps := 2000000 }) (disch := (first | omega | (simp only [lens, lenm]; omega))) only [go_sem, ↓reduceIte, Nat.reduceAdd, Nat.reduceEqDiff, Nat.reduceLeDiff, Nat.reduceBEq, id, stN, z0, s0, List.take_replicate, Nat.min_self, newV_c]
        refine ⟨?_, rfl⟩
        omega
      · have e : k = 4 := by omega
        subst e
        have t0 : List.take 16 (stN (List.replicate 20 255) b0 4) = stN (List.replicate 20 255) b0 4 := List.take_of_length_le (by omega)
        simp (disch := omega) only [go_sem, ↓reduceIte, Nat.reduceEqDiff, Nat.reduceLeDiff, Int.reduceLT, Int.reduceLE, Int.reduceAdd, ac_registers_Resume_L0, ac_registers_Resume_L1, z0, s0, loopN_succ, t0]
        have q1 : bkOk b1 := h1
        rcases q1 with z1 | z1
        · obtain rfl : b1 = [] := List.eq_nil_of_length_eq_zero z1
          have y1 : stN (List.replicate 32 255) [] 4 = [] := rfl
          refine loop_fuel 1 ?_
          simp (disch := omega) only [go_sem, ↓reduceIte, Nat.reduceAdd, Nat.reduceEqDiff, Nat.reduceLeDiff, Int.reduceLT, Int.reduceLE, Int.reduceAdd, loopN_succ, ac_registers_Resume_L0, ac_registers_Resume_L1, List.length_nil, List.map_nil, z0, z1, t0]
          all_goals rfl
        · refine loop_upto 4 (fun k => [(2, .ref 4112 0 0), (3, .ref 8224 0 0), (4, .t (.int .i64 1)), (5, .t (.int .i64 ((12 + k : Nat) : Int))), (10, .t (.int .i64 2)), (11, .t (.int .i64 1))]) (fun k => [(8224, .live 2 [.agg [.sl 8208 0 2, .t (.int .i64 u)]] true true), (8210, .live 1 (((stN (List.replicate 32 255) b1 k).map bsT).map V.t) true false), (8209, .live 1 (((stN (List.replicate 20 255) b0 4).map bsT).map V.t) true false), (8208, .live 1 [.sl 8209 0 16, .sl 8210 0 16] true false), (4112, .live 2 [.agg [.nil, .t (.int .i64 0)]] true true)]) ?_ (fun k hk4 => ?_)
          · refine Weak.rd id ?_ ?_ rfl
            all_goals simp (disch := omega) only [go_sem, ↓reduceIte, Nat.reduceAdd, Nat.reduceEqDiff, Nat.reduceBEq, id, stN, z0, z1]
          · have s1 : List.length (stN (List.replicate 32 255) b1 k) = 16 := by rw [stN_length, z1]
            by_cases hlt : k < 4
            · simp (disch := omega) only [go_sem, ↓reduceIte, Nat.reduceAdd, Nat.reduceEqDiff, Nat.reduceLeDiff, Int.reduceLT, Int.reduceLE, ac_registers_Resume_L1, z1, s1, h2, h3, size_eq0, size_eq1, fill_eq20, fill_eq32]
              repeat refine And.intro rfl ?_
              refine ⟨hlt, Weak.cv (hv := []) [36992] id ?_ rfl⟩
              simp (config := { maxSteps := 2000000 }) (disch := (first | omega | (simp only [lens, lenm]; omega))) only [go_sem, ↓reduceIte, Nat.reduceAdd, Nat.reduceEqDiff, Nat.reduceLeDiff, Nat.reduceBEq, id, stN, z1, s1, List.take_replicate, Nat.min_self, newV_c]
              refine ⟨?_, rfl⟩
              omega
            · have e : k = 4 := by omega
              subst e
              have t1 : List.take 16 (stN (List.replicate 32 255) b1 4) = stN (List.replicate 32 255) b1 4 := List.take_of_length_le (by omega)
              simp (disch := omega) only [go_sem, ↓reduceIte, Nat.reduceAdd, Nat.reduceEqDiff, Nat.reduceLeDiff, Int.reduceLT, Int.reduceLE, Int.reduceAdd, ac_registers_Resume_L0, ac_registers_Resume_L1, z1, s1, loopN_succ, t0, t1]
              all_goals rfl
theorem w_ref8_Resume0 (tab : Tab) (gl : Gl) (n1 n2 : Nat) (h1 : tab.look n1 = some ct_twin.fs) (u : Int) : (ac_ref8_Resume n1 n2).wp tab gl (zipF 0 [.t (regT [] u)]) (zipF 0 []) (resW [(2, some (2, true))] 0 (fun r o => r = .t (regT [] u) ∧ o = [])) := by
  simp (disch := omega) only [go_sem, ↓reduceIte, Nat.reduceAdd, Nat.reduceEqDiff, Nat.reduceLeDiff, ac_ref8_Resume, h1, twin_eq0, List.map_nil]
  refine loop_fuel 1 ?_
  simp (disch := omega) only [go_sem, ↓reduceIte, Nat.reduceAdd, Nat.reduceEqDiff, Nat.reduceLeDiff, Int.reduceLT, loopN_succ, ac_ref8_Resume_L0]
theorem w_ref8_Resume2 (tab : Tab) (gl : Gl) (n1 n2 : Nat) (h1 : tab.look n1 = some ct_twin.fs) (h2 : tab.look n2 = some ct_init.fs) (b0 b1 : Bank) (u : Int) (hk : RM [b0, b1]) : (ac_ref8_Resume n1 n2).wp tab gl (zipF 0 [.t (regT [b0, b1] u)]) (zipF 0 []) (resW [(2, some (2, true))] 0 (fun r o => r = .t (regT (resBk [b0, b1]) u) ∧ o = [])) := by
  simp (disch := omega) only [go_sem, ↓reduceIte, Nat.reduceAdd, Nat.reduceEqDiff, Nat.reduceLeDiff, ac_ref8_Resume, h1, twin_eq2 hk, List.map_nil, List.map_cons]
  refine loop_fuel 3 ?_
  simp (disch := omega) only [go_sem, ↓reduceIte, Nat.reduceAdd, Nat.reduceEqDiff, Nat.reduceLeDiff, Int.reduceLT, loopN_succ, ac_ref8_Resume_L0]
  obtain ⟨hrk, _⟩ := hk
  cases hrk with
  | two _ _ h0 h1 =>
  have q0 : bkOk b0 := h0
  rcases q0 with z0 | z0
  · obtain rfl : b0 = [] := List.eq_nil_of_length_eq_zero z0
    have y0 : stN (List.replicate 20 255) [] 4 = [] := rfl
    refine loop_fuel 1 ?_
    simp (disch := omega) only [go_sem, ↓reduceIte, Nat.reduceAdd, Nat.reduceEqDiff, Nat.reduceLeDiff, Int.reduceLT, Int.reduceLE, Int.reduceAdd, loopN_succ, ac_ref8_Resume_L0, ac_ref8_Resume_L1, List.length_nil, List.map_nil]
    have q1 : bkOk b1 := h1
    rcases q1 with z1 | z1
    · obtain rfl : b1 = [] := List.eq_nil_of_length_eq_zero z1
      have y1 : stN (List.replicate 32 255) [] 4 = [] := rfl
      refine loop_fuel 1 ?_
      simp (disch := omega) only [go_sem, ↓reduceIte, Nat.reduceAdd, Nat.reduceEqDiff, Nat.reduceLeDiff, Int.reduceLT, Int.reduceLE, Int.reduceAdd, loopN_succ, ac_ref8_Resume_L0, ac_ref8_Resume_L1, List.length_nil, List.map_nil, z0, z1]
      all_goals rfl
    · refine loop_upto 4 (fun k => [(2, .ref 4112 0 0), (3, .ref 8224 0 0), (4, .t (.int .i64 1)), (5, .t (.int .i64 ((12 + k : Nat) : Int)))]) (fun k => [(8224, .live 2 [.agg [.sl 8208 0 2, .t (.int .i64 u)]] true true), (8210, .live 1 (((stN (List.replicate 32 255) b1 k).map bsT).map V.t) true false), (8209, .live 1 (((([] : Bank)).map bsT).map V.t) true false), (8208, .live 1 [.sl 8209 0 0, .sl 8210 0 16] true false), (4112, .live 2 [.agg [.nil, .t (.int .i64 0)]] true true)]) ?_ (fun k hk4 => ?_)
      · refine Weak.rd id ?_ ?_ rfl
        all_goals simp (disch := omega) only [go_sem, ↓reduceIte, Nat.reduceAdd, Nat.reduceEqDiff, Nat.reduceBEq, id, stN, z0, z1]
      · have s1 : List.length (stN (List.replicate 32 255) b1 k) = 16 := by rw [stN_length, z1]
        by_cases hlt : k < 4
        · simp (disch := omega) only [go_sem, ↓reduceIte, Nat.reduceAdd, Nat.reduceEqDiff, Nat.reduceLeDiff, Int.reduceLT, Int.reduceLE, ac_ref8_Resume_L1, z1, s1, h2, init_eq0, init_eq1]
          repeat refine And.intro rfl ?_
          refine ⟨hlt, Weak.cv (hv := []) [36992] id ?_ rfl⟩
          simp (config := { maxSteps := 2000000 }) (disch := (first | omega | (simp only [lens, lenm]; omega))) only [go_sem, ↓reduceIte, Nat.reduceAdd, Nat.reduceEqDiff, Nat.reduceLeDiff, Nat.reduceBEq, id, stN, z1, s1, List.take_replicate, Nat.min_self, newV_c]
          refine ⟨?_, rfl⟩
          omega
        · have e : k = 4 := by omega
          subst e
          have t1 : List.take 16 (stN (List.replicate 32 255) b1 4) = stN (List.replicate 32 255) b1 4 := List.take_of_length_le (by omega)
          simp (disch := omega) only [go_sem, ↓reduceIte, Nat.reduceAdd, Nat.reduceEqDiff, Nat.reduceLeDiff, Int.reduceLT, Int.reduceLE, Int.reduceAdd, ac_ref8_Resume_L0, ac_ref8_Resume_L1, z1, s1, loopN_succ, t1]
          all_goals rfl
  · refine loop_upto 4 (fun k => [(2, .ref 4112 0 0), (3, .ref 8224 0 0), (4, .t (.int .i64 0)), (5, .t (.int .i64 ((12 + k : Nat) : Int)))]) (fun k => [(8224, .live 2 [.agg [.sl 8208 0 2, .t (.int .i64 u)]] true true), (8210, .live 1 (((b1).map bsT).map V.t) true false), (8209, .live 1 (((stN (List.replicate 20 255) b0 k).map bsT).map V.t) true false), (8208, .live 1 [.sl 8209 0 16, .sl 8210 0 b1.length] true false), (4112, .live 2 [.agg [.nil, .t (.int .i64 0)]] true true)]) ?_ (fun k hk4 => ?_)
    · refine Weak.rd id ?_ ?_ rfl
      all_goals simp (disch := omega) only [go_sem, ↓reduceIte, Nat.reduceAdd, Nat.reduceEqDiff, Nat.reduceBEq, id, stN, z0]
    · have s0 : List.length (stN (List.replicate 20 255) b0 k) = 16 := by rw [stN_length, z0]
      by_cases hlt : k < 4
      · simp (disch := omega) only [go_sem, ↓reduceIte, Nat.reduceAdd, Nat.reduceEqDiff, Nat.reduceLeDiff, Int.reduceLT, Int.reduceLE, ac_ref8_Resume_L1, z0, s0, h2, init_eq0, init_eq1]
        repeat refine And.intro rfl ?_
        refine ⟨hlt, Weak.cv (hv := []) [36992] id ?_ rfl⟩
        simp (config := { maxSteps := 2000000 }) (disch := (first | omega | (simp only [lens, lenm]; omega))) only [go_sem, ↓reduceIte, Nat.reduceAdd, Nat.reduceEqDiff, Nat.reduceLeDiff, Nat.reduceBEq, id, stN, z0, s0, List.take_replicate, Nat.min_self, newV_c]
        refine ⟨?_, rfl⟩
        omega
      · have e : k = 4 := by omega
        subst e
        have t0 : List.take 16 (stN (List.replicate 20 255) b0 4) = stN (List.replicate 20 255) b0 4 := List.take_of_length_le (by omega)
        simp (disch := omega) only [go_sem, ↓reduceIte, Nat.reduceEqDiff, Nat.reduceLeDiff, Int.reduceLT, Int.reduceLE, Int.reduceAdd, ac_ref8_Resume_L0, ac_ref8_Resume_L1, z0, s0, loopN_succ, t0]
        have q1 : bkOk b1 := h1
        rcases q1 with z1 | z1
        · obtain rfl : b1 = [] := List.eq_nil_of_length_eq_zero z1
          have y1 : stN (List.replicate 32 255) [] 4 = [] := rfl
          refine loop_fuel 1 ?_
          simp (disch := omega) only [go_sem, ↓reduceIte, Nat.reduceAdd, Nat.reduceEqDiff, Nat.reduceLeDiff, Int.reduceLT, Int.reduceLE, Int.reduceAdd, loopN_succ, ac_ref8_Resume_L0, ac_ref8_Resume_L1, List.length_nil, List.map_nil, z0, z1, t0]
          all_goals rfl
        · refine loop_upto 4 (fun k => [(2, .ref 4112 0 0), (3, .ref 8224 0 0), (4, .t (.int .i64 1)), (5, .t (.int .i64 ((12 + k : Nat) : Int)))]) (fun k => [(8224, .live 2 [.agg [.sl 8208 0 2, .t (.int .i64 u)]] true true), (8210, .live 1 (((stN (List.replicate 32 255) b1 k).map bsT).map V.t) true false), (8209, .live 1 (((stN (List.replicate 20 255) b0 4).map bsT).map V.t) true false), (8208, .live 1 [.sl 8209 0 16, .sl 8210 0 16] true false), (4112, .live 2 [.agg [.nil, .t (.int .i64 0)]] true true)]) ?_ (fun k hk4 => ?_)
          · refine Weak.rd id ?_ ?_ rfl
            all_goals simp (disch := omega) only [go_sem, ↓reduceIte, Nat.reduceAdd, Nat.reduceEqDiff, Nat.reduceBEq, id, stN, z0, z1]
          · have s1 : List.length (stN (List.replicate 32 255) b1 k) = 16 := by rw [stN_length, z1]
            by_cases hlt : k < 4
            · simp (disch := omega) only [go_sem, ↓reduceIte, Nat.reduceAdd, Nat.reduceEqDiff, Nat.reduceLeDiff, Int.reduceLT, Int.reduceLE, ac_ref8_Resume_L1, z1, s1, h2, init_eq0, init_eq1]
              repeat refine And.intro rfl ?_
              refine ⟨hlt, Weak.cv (hv := []) [36992] id ?_ rfl⟩
              simp (config := { maxSteps := 2000000 }) (disch := (first | omega | (simp only [lens, lenm]; omega))) only [go_sem, ↓reduceIte, Nat.reduceAdd, Nat.reduceEqDiff, Nat.reduceLeDiff, Nat.reduceBEq, id, stN, z1, s1, List.take_replicate, Nat.min_self, newV_c]
              refine ⟨?_, rfl⟩
              omega
            · have e : k = 4 := by omega
              subst e
              have t1 : List.take 16 (stN (List.replicate 32 255) b1 4) = stN (List.replicate 32 255) b1 4 := List.take_of_length_le (by omega)
              simp (disch := omega) only [go_sem, ↓reduceIte, Nat.reduceAdd, Nat.reduceEqDiff, Nat.reduceLeDiff, Int.reduceLT, Int.reduceLE, Int.reduceAdd, ac_ref8_Resume_L0, ac_ref8_Resume_L1, z1, s1, loopN_succ, t0, t1]
              all_goals rfl
end Go.Eng
end
section
set_option maxRecDepth 20000
set_option maxHeartbeats 16000000
namespace Go.Eng
def ct_rst : Ct where
  α := List Bank × Int × Int × Int
  as x := [.t (regT x.1 x.2.1), .t (.int .i64 x.2.2.1), .t (.int .i64 x.2.2.2)]
  ins _ := []
  pre x := RM x.1 ∧ 0 ≤ x.2.1 ∧ x.2.1 < 1000000000
  r x := rstR x.1 x.2.1 x.2.2.1 x.2.2.2
  outs _ := []
  inj := by
    rintro ⟨a, u, l, i⟩ ⟨b, v, l', i'⟩ h _
    simp only [List.cons.injEq, V.t.injEq, T.int.injEq, true_and, and_true] at h
    obtain ⟨h1, rfl, rfl⟩ := h
    obtain ⟨rfl, rfl⟩ := regT_inj h1
    exact ⟨rfl, rfl⟩
def ct_rsm : Ct where
  α := List Bank × Int
  as x := [.t (regT x.1 x.2)]
  ins _ := []
  pre x := RM x.1
  r x := .t (regT (resBk x.1) x.2)
  outs _ := []
  inj := by
    rintro ⟨a, u⟩ ⟨b, v⟩ h _
    simp only [List.cons.injEq, V.t.injEq, and_true] at h
    obtain ⟨rfl, rfl⟩ := regT_inj h
    exact ⟨rfl, rfl⟩
theorem rsm_eq {bk : List Bank} {u : Int} (h : RM bk) : ct_rsm.fs [.t (regT bk u)] [] = some (.t (regT (resBk bk) u), []) := ct_rsm.eq (bk, u) h
theorem wc_ref8_Reset (tab : Tab) (gl : Gl) (n1 n2 n3 n4 n5 : Nat) (h1 : tab.look n1 = some ct_rleast.fs) (h3 : tab.look n2 = some ct_twin.fs) (h4 : tab.look n3 = some ct_actv.fs) (h5 : tab.look n4 = some ct_size.fs) (h6 : tab.look n5 = some ct_fill.fs) (x : ct_rst.α) (hx : ct_rst.pre x) :
    (ac_ref8_Reset n1 n2 n3 n4 n5).wp tab gl (zipF 0 (ct_rst.as x)) (zipF 0 (ct_rst.ins x)) (resW [(6, some (2, true)), (7, none)] (ct_rst.ins x).length (fun r o => r = ct_rst.r x ∧ o = ct_rst.outs x)) := by
  obtain ⟨bk, u, l, i⟩ := x
  obtain ⟨hk, hu⟩ := hx
  show (ac_ref8_Reset n1 n2 n3 n4 n5).wp tab gl (zipF 0 [.t (regT bk u), .t (.int .i64 l), .t (.int .i64 i)]) (zipF 0 []) (resW [(6, some (2, true)), (7, none)] 0 (fun r o => r = rstR bk u l i ∧ o = []))
  by_cases he : rstE l i = 0
  · rw [rstR, if_pos he]
    have hk' : RM bk := hk
    have hk2 := hk'.1
    cases hk2 with
    | nil => exact w_ref8_Reset0 tab gl n1 n2 n3 n4 n5 h1 h3 h4 u l i hu he
    | two b0 b1 _ _ => exact w_ref8_Reset2 tab gl n1 n2 n3 n4 n5 h1 h3 h4 h5 h6 b0 b1 u l i hu hk he
  · rw [rstR, if_neg he]
    exact w_ref8_Reset_err tab gl n1 n2 n3 n4 n5 h1 bk u l i he
theorem wc_ref8_Copy (tab : Tab) (gl : Gl) (n1 : Nat) (h1 : tab.look n1 = some ct_copy.fs) (x : ct_twin.α) (hx : ct_twin.pre x) :
    (ac_ref8_Copy n1).wp tab gl (zipF 0 (ct_twin.as x)) (zipF 0 (ct_twin.ins x)) (resF [] [(2, some (2, true))] (ct_twin.ins x).length (fun r o => r = ct_twin.r x ∧ o = ct_twin.outs x)) := by
  obtain ⟨bk, u⟩ := x
  obtain ⟨hk, hm⟩ := hx
  have hk' : RK bk := hk
  clear hk
  cases hk' with
  | nil => exact w_ref8_Copy0 tab gl n1 u
  | two b0 b1 h0 h1' => exact w_ref8_Copy2 tab gl n1 h1 b0 b1 u (hm b0 (.head _)) (hm b1 (.tail _ (.head _)))
theorem wc_registers_Resume (tab : Tab) (gl : Gl) (n1 n2 n3 : Nat) (h1 : tab.look n1 = some ct_twin.fs) (h2 : tab.look n2 = some ct_size.fs) (h3 : tab.look n3 = some ct_fill.fs) (x : ct_rsm.α) (hx : ct_rsm.pre x) :
    (ac_registers_Resume n1 n2 n3).wp tab gl (zipF 0 (ct_rsm.as x)) (zipF 0 (ct_rsm.ins x)) (resW [(2, some (2, true))] (ct_rsm.ins x).length (fun r o => r = ct_rsm.r x ∧ o = ct_rsm.outs x)) := by
  obtain ⟨bk, u⟩ := x
  have hk : RM bk := hx
  have hk2 := hk.1
  clear hx
  cases hk2 with
  | nil => exact w_registers_Resume0 tab gl n1 n2 n3 h1 u
  | two b0 b1 _ _ => exact w_registers_Resume2 tab gl n1 n2 n3 h1 h2 h3 b0 b1 u hk
theorem wc_ref8_Resume (tab : Tab) (gl : Gl) (n1 n2 : Nat) (h1 : tab.look n1 = some ct_twin.fs) (h2 : tab.look n2 = some ct_init.fs) (x : ct_rsm.α) (hx : ct_rsm.pre x) :
    (ac_ref8_Resume n1 n2).wp tab gl (zipF 0 (ct_rsm.as x)) (zipF 0 (ct_rsm.ins x)) (resW [(2, some (2, true))] (ct_rsm.ins x).length (fun r o => r = ct_rsm.r x ∧ o = ct_rsm.outs x)) := by
  obtain ⟨bk, u⟩ := x
  have hk : RM bk := hx
  have hk2 := hk.1
  clear hx
  cases hk2 with
  | nil => exact w_ref8_Resume0 tab gl n1 n2 h1 u
  | two b0 b1 _ _ => exact w_ref8_Resume2 tab gl n1 n2 h1 h2 b0 b1 u hk
theorem RV.of2 {b0 b1 : Bank} (h0 : bkOk b0) (h1 : bkOk b1) (m0 : ∀ x ∈ b0, x.length ≤ 64) (m1 : ∀ x ∈ b1, x.length ≤ 64) : RV [b0, b1] := by
  refine ⟨.two _ _ h0 h1, fun b hb => ?_⟩
  simp only [List.mem_cons, List.not_mem_nil, or_false] at hb
  rcases hb with rfl | rfl
  · exact m0
  · exact m1
theorem bkOk_len {b c : Bank} (h : bkOk b) (hl : List.length c = List.length b) : bkOk c := by
  rcases h with h | h
  · exact .inl (by rw [hl, h])
  · exact .inr (by rw [hl, h])
theorem set_le {b : Bank} {i : Nat} {y : List UInt8} (h : ∀ x ∈ b, x.length ≤ 64) (hy : y.length ≤ 64) : ∀ x ∈ b.set i y, x.length ≤ 64 := by
  intro x hx
  rcases List.mem_or_eq_of_mem_set hx with h1 | rfl
  · exact h x h1
  · exact hy
theorem RV.cases {bk : List Bank} (h : RV bk) : bk = [] ∨ ∃ b0 b1, bk = [b0, b1] ∧ bkOk b0 ∧ bkOk b1 ∧ (∀ x ∈ b0, x.length ≤ 64) ∧ (∀ x ∈ b1, x.length ≤ 64) := by
  obtain ⟨hk, hm⟩ := h
  cases hk with
  | nil => exact .inl rfl
  | two b0 b1 h0 h1 => exact .inr ⟨b0, b1, rfl, h0, h1, hm b0 (.head _), hm b1 (.tail _ (.head _))⟩
theorem ext1_le {a : Nat} (ha : a < 2) {b : Bank} {i : Nat} {d : List UInt8} (h : ∀ x ∈ b, x.length ≤ 64) : ∀ x ∈ ext1 a b i d, x.length ≤ 64 := by
  unfold ext1
  split
  · refine set_le h ?_
    have : a = 0 ∨ a = 1 := by omega
    rcases this with rfl | rfl
    · rw [sumA0, sum1_length]; omega
    · rw [sumA1, sum256_length]; omega
  · exact h
theorem rst1_le {a : Nat} (ha : a < 2) {b : Bank} {i : Nat} (h : ∀ x ∈ b, x.length ≤ 64) : ∀ x ∈ rst1 a b i, x.length ≤ 64 := by
  unfold rst1
  split
  · refine set_le h ?_
    rw [List.length_replicate]
    have : a = 0 ∨ a = 1 := by omega
    rcases this with rfl | rfl <;> decide
  · exact h
theorem stN_le {y : List UInt8} {b : Bank} (hy : y.length ≤ 64) (h : ∀ x ∈ b, x.length ≤ 64) : ∀ k, ∀ x ∈ stN y b k, x.length ≤ 64
  | 0 => h
  | k + 1 => set_le (stN_le hy h k) hy
theorem RV.ext {bk : List Bank} (h : RV bk) (i : Nat) (ds : List (List UInt8)) : RV (extBk bk i ds) := by
  rcases h.cases with rfl | ⟨b0, b1, rfl, h0, h1, m0, m1⟩
  · exact h
  · exact .of2 (bkOk_len h0 ext1_length) (bkOk_len h1 ext1_length) (ext1_le (by omega) m0) (ext1_le (by omega) m1)
theorem RV.rst {bk : List Bank} (h : RV bk) (i : Nat) : RV (rstBk bk i) := by
  rcases h.cases with rfl | ⟨b0, b1, rfl, h0, h1, m0, m1⟩
  · exact h
  · exact .of2 (bkOk_len h0 rst1_length) (bkOk_len h1 rst1_length) (rst1_le (by omega) m0) (rst1_le (by omega) m1)
theorem RV.res {bk : List Bank} (h : RV bk) : RV (resBk bk) := by
  rcases h.cases with rfl | ⟨b0, b1, rfl, h0, h1, m0, m1⟩
  · exact h
  · exact .of2 (bkOk_len h0 stN_length) (bkOk_len h1 stN_length) (stN_le (by rw [List.length_replicate]; omega) m0 4) (stN_le (by rw [List.length_replicate]; omega) m1 4)
end Go.Eng
end
section
set_option maxRecDepth 20000
set_option maxHeartbeats 64000000
namespace Go.Eng
theorem setRange_map {α γ : Type} {f : α → γ} {l xs : List α} {i : Nat} : setRange (l.map f) i (xs.map f) = (setRange l i xs).map f := by
  simp [setRange]
def dgx (a : Nat) (b : List UInt8) : List UInt8 := List.take (szA a) b ++ List.replicate (szA a - min (szA a) b.length) 0
def dg1 (a : Nat) (b : List UInt8) : List UInt8 := (dgx a b).set (szA a - 1) ((dgx a b).getD (szA a - 1) 0 ^^^ UInt8.ofNat a)
theorem dgx_length {a : Nat} {b : List UInt8} : (dgx a b).length = szA a := by
  simp [dgx, Nat.min_def]
  split <;> omega
theorem dg1_length {a : Nat} {b : List UInt8} : (dg1 a b).length = szA a := by rw [dg1, List.length_set, dgx_length]
theorem dgx0 {b : List UInt8} : List.take 20 b ++ List.replicate (20 - min 20 b.length) 0 = dgx 0 b := rfl
theorem dgx1 {b : List UInt8} : List.take 32 b ++ List.replicate (32 - min 32 b.length) 0 = dgx 1 b := rfl
theorem dgx0_length {b : List UInt8} : (dgx 0 b).length = 20 := dgx_length
theorem dgx1_length {b : List UInt8} : (dgx 1 b).length = 32 := dgx_length
theorem dg10 {b : List UInt8} : (dgx 0 b).set 19 ((dgx 0 b).getD 19 0 ^^^ 0) = dg1 0 b := rfl
theorem dg11 {b : List UInt8} : (dgx 1 b).set 31 ((dgx 1 b).getD 31 0 ^^^ 1) = dg1 1 b := rfl
theorem dg1_len0 {b : List UInt8} : (dg1 0 b).length = 20 := dg1_length
theorem dg1_len1 {b : List UInt8} : (dg1 1 b).length = 32 := dg1_length
theorem dg1_take0 {b : List UInt8} : List.take 20 (dg1 0 b) = dg1 0 b := List.take_of_length_le (by rw [dg1_length]; decide)
theorem dg1_take1 {b : List UInt8} : List.take 32 (dg1 1 b) = dg1 1 b := List.take_of_length_le (by rw [dg1_length]; decide)
def dgb (s : Int) (a : Nat) (b : List UInt8) : List UInt8 := if s / (2 ^ a : Nat) % 2 = 1 then dg1 a b else []
theorem w_draw_Digests (tab : Tab) (gl : Gl) (s : Int) (b : List UInt8) : ac_draw_Digests.wp tab gl (zipF 0 [.t (.int .i64 s), .t (.sl (b.map byteT))]) (zipF 0 []) (resF [] [(4, none)] 0 (fun r o => r = .sl 0 0 2 ∧ o = [.live 1 [.t (bsT (dgb s 0 b)), .t (bsT (dgb s 1 b))] true false])) := by
  have hf1 : s.fdiv 1 = s := Int.fdiv_one s
  have hf2 : s.fdiv 2 = s / 2 := Int.fdiv_eq_ediv_of_nonneg s (by omega)
  have hc0 : s % 2 = 0 ∨ s % 2 = 1 := by omega
  have hc1 : s / 2 % 2 = 0 ∨ s / 2 % 2 = 1 := by omega
  have hz20 : List.replicate 20 (V.t (byteT 0)) = ((List.replicate 20 (0 : UInt8)).map byteT).map V.t := by simp
  have hz32 : List.replicate 32 (V.t (byteT 0)) = ((List.replicate 32 (0 : UInt8)).map byteT).map V.t := by simp
  have ht20 : ∀ m : Nat, List.take m ((b.map byteT).map V.t) = ((b.take m).map byteT).map V.t := fun m => by simp
  have l0 : (dgx 0 b).length = 20 := dgx_length
  have l1 : (dgx 1 b).length = 32 := dgx_length
  have hw0 : T.int .u8 (IntKind.u8.wrap 0) = byteT 0 := rfl
  have hw1 : T.int .u8 (IntKind.u8.wrap 1) = byteT 1 := rfl
  rcases hc0 with c0 | c0 <;> rcases hc1 with c1 | c1
  · have e0 : dgb s 0 b = [] := by unfold dgb; rw [if_neg (by simp [c0])]
    have e1 : dgb s 1 b = [] := by unfold dgb; rw [if_neg (by simp [c1])]
    rw [e0, e1]
    simp (disch := omega) only [go_sem, ↓reduceIte, Nat.reduceAdd, Nat.reduceMul, Nat.reduceLeDiff, Int.reduceLE, ac_draw_Digests]
    refine loop_upto 2 (fun k => match k with | 0 => [(0, .t (.int .i64 s)), (1, .t (.sl (b.map byteT))), (5, .sl 8192 0 2), (6, .t (.int .i64 0))] | 1 => [(0, .t (.int .i64 s)), (1, .t (.sl (b.map byteT))), (5, .sl 8192 0 2), (6, .t (.int .i64 1))] | _ => [(0, .t (.int .i64 s)), (1, .t (.sl (b.map byteT))), (5, .sl 8192 0 2), (6, .t (.int .i64 2))]) (fun k => match k with | 0 => [(8192, .live 1 [.t (bsT []), .t (bsT [])] true false)] | 1 => [(8192, .live 1 [.t (bsT []), .t (bsT [])] true false)] | _ => [(8192, .live 1 [.t (bsT []), .t (bsT [])] true false)]) ?_ (fun k hk2 => ?_)
    · refine Weak.rd id ?_ ?_ rfl
      all_goals simp (disch := omega) only [go_sem, ↓reduceIte, Nat.reduceAdd, Nat.reduceEqDiff, reduceCtorEq, id, List.map_nil]
    · rcases (show k = 0 ∨ k = 1 ∨ k = 2 by omega) with rfl | rfl | rfl
      · simp (disch := omega) only [go_sem, ↓reduceIte, Nat.reduceAdd, Nat.reduceEqDiff, Nat.reduceLT, Int.reduceLT, Int.reduceAdd, reduceCtorEq, Int.reducePow, ac_draw_Digests_L0, c0, c1, hf1, hf2, hz20, hz32, ht20, setRange_map, dgx0, dgx1, dgx0_length, dgx1_length, hw0, hw1, dg10, dg11, List.map_nil]
        refine Weak.rd id ?_ ?_ rfl
        all_goals simp (disch := omega) only [go_sem, ↓reduceIte, Nat.reduceAdd, Nat.reduceEqDiff, reduceCtorEq, id, List.map_nil]
      · simp (disch := omega) only [go_sem, ↓reduceIte, Nat.reduceAdd, Nat.reduceEqDiff, Nat.reduceLT, Int.reduceLT, Int.reduceAdd, reduceCtorEq, Int.reducePow, ac_draw_Digests_L0, c0, c1, hf1, hf2, hz20, hz32, ht20, setRange_map, dgx0, dgx1, dgx0_length, dgx1_length, hw0, hw1, dg10, dg11, List.map_nil]
        refine Weak.rd id ?_ ?_ rfl
        all_goals simp (disch := omega) only [go_sem, ↓reduceIte, Nat.reduceAdd, Nat.reduceEqDiff, reduceCtorEq, id, List.map_nil]
      · simp (disch := omega) only [go_sem, ↓reduceIte, Nat.reduceAdd, Nat.reduceEqDiff, Int.reduceLT, reduceCtorEq, ac_draw_Digests_L0, c0, c1, hf1, hf2, List.map_nil]
  · have e0 : dgb s 0 b = [] := by unfold dgb; rw [if_neg (by simp [c0])]
    have e1 : dgb s 1 b = (dg1 1 b) := by unfold dgb; rw [if_pos (by simp [c1])]
    rw [e0, e1]
    simp (disch := omega) only [go_sem, ↓reduceIte, Nat.reduceAdd, Nat.reduceMul, Nat.reduceLeDiff, Int.reduceLE, ac_draw_Digests]
    refine loop_upto 2 (fun k => match k with | 0 => [(0, .t (.int .i64 s)), (1, .t (.sl (b.map byteT))), (5, .sl 8192 0 2), (6, .t (.int .i64 0))] | 1 => [(0, .t (.int .i64 s)), (1, .t (.sl (b.map byteT))), (5, .sl 8192 0 2), (6, .t (.int .i64 1))] | _ => [(0, .t (.int .i64 s)), (1, .t (.sl (b.map byteT))), (5, .sl 8192 0 2), (6, .t (.int .i64 2))]) (fun k => match k with | 0 => [(8192, .live 1 [.t (bsT []), .t (bsT [])] true false)] | 1 => [(8192, .live 1 [.t (bsT []), .t (bsT [])] true false)] | _ => [(8192, .live 1 [.t (bsT []), .t (bsT (dg1 1 b))] true false)]) ?_ (fun k hk2 => ?_)
    · refine Weak.rd id ?_ ?_ rfl
      all_goals simp (disch := omega) only [go_sem, ↓reduceIte, Nat.reduceAdd, Nat.reduceEqDiff, reduceCtorEq, id, List.map_nil]
    · rcases (show k = 0 ∨ k = 1 ∨ k = 2 by omega) with rfl | rfl | rfl
      · simp (disch := omega) only [go_sem, ↓reduceIte, Nat.reduceAdd, Nat.reduceEqDiff, Nat.reduceLT, Int.reduceLT, Int.reduceAdd, reduceCtorEq, Int.reducePow, ac_draw_Digests_L0, c0, c1, hf1, hf2, hz20, hz32, ht20, setRange_map, dgx0, dgx1, dgx0_length, dgx1_length, hw0, hw1, dg10, dg11, List.map_nil]
        refine Weak.rd id ?_ ?_ rfl
        all_goals simp (disch := omega) only [go_sem, ↓reduceIte, Nat.reduceAdd, Nat.reduceEqDiff, reduceCtorEq, id, List.map_nil]
      · simp (disch := omega) only [go_sem, ↓reduceIte, Nat.reduceAdd, Nat.reduceEqDiff, Nat.reduceLT, Nat.reduceLeDiff, Int.reduceLT, Int.reduceLE, Int.reduceAdd, Int.reduceSub, Int.reduceMul, reduceCtorEq, Int.reducePow, ac_draw_Digests_L0, c0, c1, hf1, hf2, hz20, hz32, ht20, setRange_map, dgx0, dgx1, dgx0_length, dgx1_length, hw0, hw1, dg10, dg11, List.map_nil]
        refine Weak.cv (hv := []) [28720] id ?_ rfl
        simp (disch := omega) only [go_sem, ↓reduceIte, Nat.reduceAdd, Nat.reduceEqDiff, Nat.reduceLeDiff, reduceCtorEq, id, dg1_len0, dg1_len1, dg1_take0, dg1_take1, List.map_nil]
        all_goals rfl
      · simp (disch := omega) only [go_sem, ↓reduceIte, Nat.reduceAdd, Nat.reduceEqDiff, Int.reduceLT, reduceCtorEq, ac_draw_Digests_L0, c0, c1, hf1, hf2, List.map_nil]
  · have e0 : dgb s 0 b = (dg1 0 b) := by unfold dgb; rw [if_pos (by simp [c0])]
    have e1 : dgb s 1 b = [] := by unfold dgb; rw [if_neg (by simp [c1])]
    rw [e0, e1]
    simp (disch := omega) only [go_sem, ↓reduceIte, Nat.reduceAdd, Nat.reduceMul, Nat.reduceLeDiff, Int.reduceLE, ac_draw_Digests]
    refine loop_upto 2 (fun k => match k with | 0 => [(0, .t (.int .i64 s)), (1, .t (.sl (b.map byteT))), (5, .sl 8192 0 2), (6, .t (.int .i64 0))] | 1 => [(0, .t (.int .i64 s)), (1, .t (.sl (b.map byteT))), (5, .sl 8192 0 2), (6, .t (.int .i64 1))] | _ => [(0, .t (.int .i64 s)), (1, .t (.sl (b.map byteT))), (5, .sl 8192 0 2), (6, .t (.int .i64 2))]) (fun k => match k with | 0 => [(8192, .live 1 [.t (bsT []), .t (bsT [])] true false)] | 1 => [(8192, .live 1 [.t (bsT (dg1 0 b)), .t (bsT [])] true false)] | _ => [(8192, .live 1 [.t (bsT (dg1 0 b)), .t (bsT [])] true false)]) ?_ (fun k hk2 => ?_)
    · refine Weak.rd id ?_ ?_ rfl
      all_goals simp (disch := omega) only [go_sem, ↓reduceIte, Nat.reduceAdd, Nat.reduceEqDiff, reduceCtorEq, id, List.map_nil]
    · rcases (show k = 0 ∨ k = 1 ∨ k = 2 by omega) with rfl | rfl | rfl
      · simp (disch := omega) only [go_sem, ↓reduceIte, Nat.reduceAdd, Nat.reduceEqDiff, Nat.reduceLT, Nat.reduceLeDiff, Int.reduceLT, Int.reduceLE, Int.reduceAdd, Int.reduceSub, Int.reduceMul, reduceCtorEq, Int.reducePow, ac_draw_Digests_L0, c0, c1, hf1, hf2, hz20, hz32, ht20, setRange_map, dgx0, dgx1, dgx0_length, dgx1_length, hw0, hw1, dg10, dg11, List.map_nil]
        refine Weak.cv (hv := []) [28720] id ?_ rfl
        simp (disch := omega) only [go_sem, ↓reduceIte, Nat.reduceAdd, Nat.reduceEqDiff, Nat.reduceLeDiff, reduceCtorEq, id, dg1_len0, dg1_len1, dg1_take0, dg1_take1, List.map_nil]
        all_goals rfl
      · simp (disch := omega) only [go_sem, ↓reduceIte, Nat.reduceAdd, Nat.reduceEqDiff, Nat.reduceLT, Int.reduceLT, Int.reduceAdd, reduceCtorEq, Int.reducePow, ac_draw_Digests_L0, c0, c1, hf1, hf2, hz20, hz32, ht20, setRange_map, dgx0, dgx1, dgx0_length, dgx1_length, hw0, hw1, dg10, dg11, List.map_nil]
        refine Weak.rd id ?_ ?_ rfl
        all_goals simp (disch := omega) only [go_sem, ↓reduceIte, Nat.reduceAdd, Nat.reduceEqDiff, reduceCtorEq, id, List.map_nil]
      · simp (disch := omega) only [go_sem, ↓reduceIte, Nat.reduceAdd, Nat.reduceEqDiff, Int.reduceLT, reduceCtorEq, ac_draw_Digests_L0, c0, c1, hf1, hf2, List.map_nil]
  · have e0 : dgb s 0 b = (dg1 0 b) := by unfold dgb; rw [if_pos (by simp [c0])]
    have e1 : dgb s 1 b = (dg1 1 b) := by unfold dgb; rw [if_pos (by simp [c1])]
    rw [e0, e1]
    simp (disch := omega) only [go_sem, ↓reduceIte, Nat.reduceAdd, Nat.reduceMul, Nat.reduceLeDiff, Int.reduceLE, ac_draw_Digests]
    refine loop_upto 2 (fun k => match k with | 0 => [(0, .t (.int .i64 s)), (1, .t (.sl (b.map byteT))), (5, .sl 8192 0 2), (6, .t (.int .i64 0))] | 1 => [(0, .t (.int .i64 s)), (1, .t (.sl (b.map byteT))), (5, .sl 8192 0 2), (6, .t (.int .i64 1))] | _ => [(0, .t (.int .i64 s)), (1, .t (.sl (b.map byteT))), (5, .sl 8192 0 2), (6, .t (.int .i64 2))]) (fun k => match k with | 0 => [(8192, .live 1 [.t (bsT []), .t (bsT [])] true false)] | 1 => [(8192, .live 1 [.t (bsT (dg1 0 b)), .t (bsT [])] true false)] | _ => [(8192, .live 1 [.t (bsT (dg1 0 b)), .t (bsT (dg1 1 b))] true false)]) ?_ (fun k hk2 => ?_)
    · refine Weak.rd id ?_ ?_ rfl
      all_goals simp (disch := omega) only [go_sem, ↓reduceIte, Nat.reduceAdd, Nat.reduceEqDiff, reduceCtorEq, id, List.map_nil]
    · rcases (show k = 0 ∨ k = 1 ∨ k = 2 by omega) with rfl | rfl | rfl
      · simp (disch := omega) only [go_sem, ↓reduceIte, Nat.reduceAdd, Nat.reduceEqDiff, Nat.reduceLT, Nat.reduceLeDiff, Int.reduceLT, Int.reduceLE, Int.reduceAdd, Int.reduceSub, Int.reduceMul, reduceCtorEq, Int.reducePow, ac_draw_Digests_L0, c0, c1, hf1, hf2, hz20, hz32, ht20, setRange_map, dgx0, dgx1, dgx0_length, dgx1_length, hw0, hw1, dg10, dg11, List.map_nil]
        refine Weak.cv (hv := []) [28720] id ?_ rfl
        simp (disch := omega) only [go_sem, ↓reduceIte, Nat.reduceAdd, Nat.reduceEqDiff, Nat.reduceLeDiff, reduceCtorEq, id, dg1_len0, dg1_len1, dg1_take0, dg1_take1, List.map_nil]
        all_goals rfl
      · simp (disch := omega) only [go_sem, ↓reduceIte, Nat.reduceAdd, Nat.reduceEqDiff, Nat.reduceLT, Nat.reduceLeDiff, Int.reduceLT, Int.reduceLE, Int.reduceAdd, Int.reduceSub, Int.reduceMul, reduceCtorEq, Int.reducePow, ac_draw_Digests_L0, c0, c1, hf1, hf2, hz20, hz32, ht20, setRange_map, dgx0, dgx1, dgx0_length, dgx1_length, hw0, hw1, dg10, dg11, List.map_nil]
        refine Weak.cv (hv := []) [28720] id ?_ rfl
        simp (disch := omega) only [go_sem, ↓reduceIte, Nat.reduceAdd, Nat.reduceEqDiff, Nat.reduceLeDiff, reduceCtorEq, id, dg1_len0, dg1_len1, dg1_take0, dg1_take1, List.map_nil]
        all_goals rfl
      · simp (disch := omega) only [go_sem, ↓reduceIte, Nat.reduceAdd, Nat.reduceEqDiff, Int.reduceLT, reduceCtorEq, ac_draw_Digests_L0, c0, c1, hf1, hf2, List.map_nil]
end Go.Eng
end
section
set_option maxRecDepth 20000
set_option maxHeartbeats 64000000
namespace Go.Eng
def ct_ddg : Ct where
  α := Int × List UInt8
  as x := [.t (.int .i64 x.1), .t (.sl (x.2.map byteT))]
  ins _ := []
  pre _ := True
  r _ := .sl 0 0 2
  outs x := [.live 1 [.t (bsT (dgb x.1 0 x.2)), .t (bsT (dgb x.1 1 x.2))] true false]
  inj := by
    rintro ⟨s, b⟩ ⟨t, c⟩ h _
    simp only [List.cons.injEq, V.t.injEq, T.int.injEq, T.sl.injEq, true_and, and_true, mapB_inj] at h
    obtain ⟨rfl, rfl⟩ := h
    exact ⟨rfl, rfl⟩
def dgB (s : Int) (b : List UInt8) : List (List UInt8) := [dgb s 0 b, dgb s 1 b]
theorem dgb_len {s : Int} {a : Nat} {b : List UInt8} (ha : a < 2) : (dgb s a b).length ≤ 32 := by
  unfold dgb
  split
  · rw [dg1_length]
    have : a = 0 ∨ a = 1 := by omega
    rcases this with rfl | rfl <;> decide
  · simp
theorem dgB_pre {s : Int} {b : List UInt8} : (dgB s b).length < 1000000000 ∧ ∀ d ∈ dgB s b, d.length < 9223372036854775808 := by
  refine ⟨by simp [dgB], ?_⟩
  intro d hd
  simp only [dgB, List.mem_cons, List.not_mem_nil, or_false] at hd
  have h0 := dgb_len (s := s) (a := 0) (b := b) (by omega)
  have h1 := dgb_len (s := s) (a := 1) (b := b) (by omega)
  rcases hd with rfl | rfl <;> omega
def extP (x : List Bank × Int) (l i : Int) (ds : List (List UInt8)) : List Bank × Int := if extEr x.1 l i ds = 0 then (extBk x.1 i.toNat ds, x.2 + 1) else x
def evP (x : List Bank × Int) (l i : Int) (d : List UInt8) : List Bank × Int := if 128 < d.length then x else extP x l i (digB x.1 d)
def rstP (x : List Bank × Int) (l i : Int) : List Bank × Int := if rstE l i = 0 then (rstBk x.1 i.toNat, x.2 + 1) else x
def Ans (x : List Bank × Int) (v : V) (y : List Bank × Int) : Prop := ∃ (bk : List Bank) (u e : Int), v = .tup [.t (.agg [.sl (bk.map bankT), .int .i64 u]), .t (.int .i64 e)] ∧ ((e = 0 ∧ y = (bk, u)) ∨ (e ≠ 0 ∧ y = x))
theorem extR_ans {x : List Bank × Int} {l i : Int} {ds : List (List UInt8)} : Ans x (extR x.1 x.2 l i ds) (extP x l i ds) := by
  unfold extR extP extEr
  split
  · exact ⟨_, _, _, rfl, .inl ⟨rfl, rfl⟩⟩
  · rename_i h
    exact ⟨[], 0, _, rfl, .inr ⟨h, rfl⟩⟩
theorem evR_ans {x : List Bank × Int} {l i : Int} {d : List UInt8} : Ans x (evR x.1 x.2 l i d) (evP x l i d) := by
  unfold evR evP
  split
  · exact ⟨[], 0, 4, rfl, .inr ⟨by decide, rfl⟩⟩
  · exact extR_ans
theorem rstR_ans {x : List Bank × Int} {l i : Int} : Ans x (rstR x.1 x.2 l i) (rstP x l i) := by
  unfold rstR rstP
  split
  · exact ⟨_, _, _, rfl, .inl ⟨rfl, rfl⟩⟩
  · rename_i h
    exact ⟨[], 0, _, rfl, .inr ⟨h, rfl⟩⟩
def RS (n : Nat) (x : List Bank × Int) : Prop := RV x.1 ∧ 0 ≤ x.2 ∧ x.2 ≤ n
theorem RS.up {n m : Nat} {x : List Bank × Int} (h : RS n x) (hm : n ≤ m) : RS m x := ⟨h.1, h.2.1, by have := h.2.2; omega⟩
theorem RS.ext {n : Nat} {x : List Bank × Int} (h : RS n x) (l i : Int) (ds : List (List UInt8)) : RS (n + 1) (extP x l i ds) := by
  unfold extP
  split
  · exact ⟨h.1.ext _ _, by have := h.2.1; simp only; omega, by have := h.2.2; simp only; omega⟩
  · exact h.up (by omega)
theorem RS.ev {n : Nat} {x : List Bank × Int} (h : RS n x) (l i : Int) (d : List UInt8) : RS (n + 1) (evP x l i d) := by
  unfold evP
  split
  · exact h.up (by omega)
  · exact h.ext _ _ _
theorem RS.rst {n : Nat} {x : List Bank × Int} (h : RS n x) (l i : Int) : RS (n + 1) (rstP x l i) := by
  unfold rstP
  split
  · exact ⟨h.1.rst _, by have := h.2.1; simp only; omega, by have := h.2.2; simp only; omega⟩
  · exact h.up (by omega)
theorem RS.rsm {n : Nat} {x : List Bank × Int} (h : RS n x) : RS (n + 1) (resBk x.1, x.2) := ⟨h.1.res, h.2.1, by have := h.2.2; simp only; omega⟩
def drS (s : Int) (i k : Nat) (x : List Bank × Int) : List Bank × Int :=
  if k % 8 < 3 then evP x 4 (k / 8 % 16 : Nat) [UInt8.ofNat k, UInt8.ofNat i]
  else if k % 8 < 6 then extP x 4 (k / 8 % 16 : Nat) (dgB s [UInt8.ofNat k, UInt8.ofNat i])
  else if k % 8 = 6 then rstP x 4 (12 + k / 8 % 4 : Nat)
  else (resBk x.1, x.2)
def drN (s : Int) (cs : List UInt8) : Nat → List Bank × Int
  | 0 => (newBk s, 0)
  | i + 1 => drS s i (cs.getD i 0).toNat (drN s cs i)
theorem RS.dr {s : Int} {i k n : Nat} {x : List Bank × Int} (h : RS n x) : RS (n + 1) (drS s i k x) := by
  unfold drS
  split
  · exact h.ev _ _ _
  · split
    · exact h.ext _ _ _
    · split
      · exact h.rst _ _
      · exact h.rsm
theorem drN_rs {s : Int} {cs : List UInt8} : ∀ n, RS n (drN s cs n)
  | 0 => ⟨newBk_rv, by simp [drN], by simp [drN]⟩
  | n + 1 => (drN_rs n).dr
def dr (s : Int) (cs : List UInt8) : List Bank × Int := drN s cs (min cs.length 12)
theorem dr_rs {s : Int} {cs : List UInt8} : RS 12 (dr s cs) := (drN_rs _).up (Nat.min_le_right _ _)
end Go.Eng
end
section
set_option maxRecDepth 20000
set_option maxHeartbeats 64000000
namespace Go.Eng
def ct_drR : Ct where
  α := Int × List UInt8
  as x := [.t (.int .i64 x.1), .t (.sl (x.2.map byteT))]
  ins _ := []
  pre x := x.2.length ≤ 9223372036854775807
  r x := .t (regT (dr x.1 x.2).1 (dr x.1 x.2).2)
  outs _ := []
  inj := by
    rintro ⟨s, b⟩ ⟨t, c⟩ h _
    simp only [List.cons.injEq, V.t.injEq, T.int.injEq, T.sl.injEq, true_and, and_true, mapB_inj] at h
    obtain ⟨rfl, rfl⟩ := h
    exact ⟨rfl, rfl⟩
theorem drR_eq {s : Int} {cs : List UInt8} (h : cs.length ≤ 9223372036854775807) : ∃ bk u, RV bk ∧ 0 ≤ u ∧ u ≤ 12 ∧ ct_drR.fs [.t (.int .i64 s), .t (.sl (cs.map byteT))] [] = some (.t (.agg [.sl (bk.map bankT), .int .i64 u]), []) :=
  ⟨_, _, (dr_rs (s := s) (cs := cs)).1, (dr_rs (s := s) (cs := cs)).2.1, (dr_rs (s := s) (cs := cs)).2.2, ct_drR.eq (s, cs) h⟩
theorem same_refl {a : List UInt8} (h : a.length < 1000000000) : ct_same.fs [.t (.sl (a.map byteT)), .t (.sl (a.map byteT))] [] = some (.t (.bool true), []) := by
  rw [same_eq ⟨h, h⟩, decide_eq_true rfl]
end Go.Eng
end
section
set_option maxRecDepth 20000
set_option maxHeartbeats 64000000
namespace Go.Eng
theorem Ans.rv {x : List Bank × Int} {v : V} {y : List Bank × Int} (h : Ans x v y) (hv : ∃ bk' u' e, v = .tup [.t (regT bk' u'), .t (.int .i64 e)] ∧ RV bk' ∧ (e = 0 → u' = x.2 + 1)) : ∃ bk' u' e, v = .tup [.t (.agg [.sl (bk'.map bankT), .int .i64 u']), .t (.int .i64 e)] ∧ RM bk' := by
  obtain ⟨bk', u', e, h1, h2, _⟩ := hv
  exact ⟨bk', u', e, h1, h2.rm⟩
theorem eqR_eq {bk : List Bank} {u : Int} (h : RM bk) : ct_eqR.fs [.t (.agg [.sl (bk.map bankT), .int .i64 u]), .t (.agg [.sl (bk.map bankT), .int .i64 u])] [] = some (.t (.bool true), []) := ct_eqR.eq (bk, u) h
end Go.Eng
end
section
set_option maxRecDepth 20000
set_option maxHeartbeats 64000000
namespace Go.Eng
def evB (bk : List Bank) (n : Nat) (data : List UInt8) : List Bank := extBk bk n (digB bk data)
theorem RK.cases {bk : List Bank} (h : RK bk) : bk = [] ∨ ∃ b0 b1, bk = [b0, b1] ∧ bkOk b0 ∧ bkOk b1 := by
  cases h with
  | nil => exact .inl rfl
  | two b0 b1 h0 h1 => exact .inr ⟨b0, b1, rfl, h0, h1⟩
theorem extBk_nil {i : Nat} {ds : List (List UInt8)} : extBk [] i ds = [] := rfl
theorem extBk_two {b0 b1 : Bank} {i : Nat} {ds : List (List UInt8)} : extBk [b0, b1] i ds = [ext1 0 b0 i (ds.getD 0 []), ext1 1 b1 i (ds.getD 1 [])] := rfl
theorem RV.ev {bk : List Bank} (h : RV bk) (n : Nat) (d : List UInt8) : RV (evB bk n d) := h.ext _ _
end Go.Eng
end
section
set_option maxRecDepth 20000
set_option maxHeartbeats 64000000
namespace Go.Eng
def ct_uint : Ct where
  α := List UInt8 × Nat × Int
  as x := [.t (.sl (x.1.map byteT)), .t (.int .i64 x.2.1), .t (.int .i64 x.2.2)]
  ins _ := []
  pre x := x.1.length < 1000000000 ∧ 1 ≤ x.2.1 ∧ x.2.1 ≤ 8
  r x := .sl 0 0 (x.1.length + x.2.1)
  outs x := [.live 1 (((x.1 ++ beI x.2.1 x.2.2 x.2.1).map byteT).map V.t) true false]
  inj := by
    rintro ⟨a, s, n⟩ ⟨c, t, m⟩ h _
    simp only [List.cons.injEq, V.t.injEq, T.sl.injEq, T.int.injEq, true_and, and_true, mapB_inj, Int.natCast_inj] at h
    obtain ⟨rfl, rfl, rfl⟩ := h
    exact ⟨rfl, rfl⟩
def badS (s : Int) : Prop := s < 0 ∨ 65535 < s
instance {s : Int} : Decidable (badS s) := inferInstanceAs (Decidable (_ ∨ _))
end Go.Eng
end
section
set_option maxRecDepth 20000
set_option maxHeartbeats 64000000
namespace Go.Eng
def encH (bk : List Bank) (u : Int) : List UInt8 := UInt8.ofNat (actI bk).toNat :: beI 8 u 8
theorem encH_len {bk : List Bank} {u : Int} : (encH bk u).length = 9 := by simp [encH, beI]
def encL (bk : List Bank) (u : Int) : List UInt8 := encH bk u ++ bk.flatten.flatten
theorem flat_le {b : Bank} (h : ∀ x ∈ b, x.length ≤ 64) : ∀ i, (List.take i b).flatten.length ≤ 64 * i
  | 0 => by simp
  | i + 1 => by
    have ih := flat_le h i
    by_cases hi : i < List.length b
    · rw [take_s (d := []) hi, List.flatten_append, List.length_append]
      have := getD_le (n := i) h
      simp only [List.flatten_cons, List.flatten_nil, List.append_nil]
      omega
    · rw [List.take_of_length_le (by omega), ← List.take_of_length_le (l := b) (i := i) (by omega)]
      omega
theorem take_flat {b : Bank} {i : Nat} (h : i < List.length b) : (List.take (i + 1) b).flatten = (List.take i b).flatten ++ b.getD i [] := by
  rw [take_s (d := []) h, List.flatten_append]; simp
theorem uint8 {b : List UInt8} {n : Int} (hb : b.length < 1000000000) : ct_uint.fs [.t (.sl (b.map byteT)), .t (.int .i64 8), .t (.int .i64 n)] [] = some (.sl 0 0 (b.length + 8), [.live 1 (((b ++ beI 8 n 8).map byteT).map V.t) true false]) := ct_uint.eq (b, 8, n) ⟨hb, by show 1 ≤ 8; omega, by show 8 ≤ 8; omega⟩
theorem actI_lt {bk : List Bank} (hk : RK bk) : 0 ≤ actI bk ∧ actI bk < 4 := by
  rcases hk.cases with rfl | ⟨b0, b1, rfl, h0, h1⟩
  · exact ⟨by decide, by decide⟩
  · show 0 ≤ actM b0 b1 ∧ actM b0 b1 < 4
    unfold actM
    split <;> split <;> decide
theorem w_registers_Encode (tab : Tab) (gl : Gl) (n1 n2 : Nat) (h1 : tab.look n1 = some ct_active.fs) (h2 : tab.look n2 = some ct_uint.fs) (bk : List Bank) (u : Int) (hv : RV bk) :
    (ac_registers_Encode n1 n2).wp tab gl (zipF 0 [.t (regT bk u)]) (zipF 0 []) (resF [] [(2, none)] 0 (fun r o => r = .sl 0 0 (encL bk u).length ∧ o = [.live 1 (((encL bk u).map byteT).map V.t) true false])) := by
  have ha := active_eq (u := u) hv.1
  have hact := actI_lt hv.1
  obtain ⟨m, hm⟩ := Int.eq_ofNat_of_zero_le hact.1
  have hu := uint8 (b := [UInt8.ofNat m]) (n := u) (by simp)
  simp only [List.map_cons, List.map_nil] at hu
  rw [hm] at ha
  have hbk : UInt8.ofNat m :: beI 8 u 8 = encH bk u := by unfold encH; rw [hm]; rfl
  rcases hv.cases with rfl | ⟨b0, b1, rfl, g0, g1, m0, m1⟩
  · rw [List.map_nil] at ha
    simp (disch := omega) only [go_sem, ↓reduceIte, Nat.reduceAdd, Nat.reduceEqDiff, Nat.reduceLT, Nat.reduceLeDiff, reduceCtorEq, ac_registers_Encode, h1, h2, ha, hu, List.map_nil]
    repeat refine And.intro rfl ?_
    refine loop_fuel 1 ?_
    simp (disch := omega) only [go_sem, ↓reduceIte, Nat.reduceAdd, Nat.reduceEqDiff, Int.reduceLT, loopN_succ, ac_registers_Encode_L0]
    have e1 : encL [] u = encH [] u := by simp [encL]
    rw [e1]
    refine ⟨encH_len.symm, ?_⟩
    rw [← hbk]; rfl
  · simp only [List.map_cons, List.map_nil, bankT_def] at ha
    have q0 : List.length b0 ≤ 16 := by rcases g0 with h | h <;> omega
    have q1 : List.length b1 ≤ 16 := by rcases g1 with h | h <;> omega
    have f0 : b0.flatten.length ≤ 1024 := by have := flat_le m0 16; rw [List.take_of_length_le q0] at this; omega
    have f1 : b1.flatten.length ≤ 1024 := by have := flat_le m1 16; rw [List.take_of_length_le q1] at this; omega
    have hl9 := encH_len (bk := [b0, b1]) (u := u)
    generalize hH : encH [b0, b1] u = H at *
    simp (disch := omega) only [go_sem, ↓reduceIte, Nat.reduceAdd, Nat.reduceEqDiff, Nat.reduceLT, Nat.reduceLeDiff, reduceCtorEq, ac_registers_Encode, h1, h2, ha, hu, List.map_nil, List.map_cons]
    repeat refine And.intro rfl ?_
    refine loop_upto 2 (fun k => match k with | 0 => [(1, .ref 4096 0 0), (3, .sl 9100 0 (List.length (H))), (16, .t (.int .i64 2)), (17, .t (.int .i64 0))] | 1 => [(1, .ref 4096 0 0), (3, .sl 9100 0 (List.length (H ++ b0.flatten))), (16, .t (.int .i64 2)), (17, .t (.int .i64 1))] | _ => [(1, .ref 4096 0 0), (3, .sl 9100 0 (List.length (H ++ b0.flatten ++ b1.flatten))), (16, .t (.int .i64 2)), (17, .t (.int .i64 2))]) (fun k => match k with | 0 => [(9100, .live 1 (((H).map byteT).map V.t) true false), (4096, .live 2 [.t (regT [b0, b1] u)] true true)] | 1 => [(9100, .live 1 (((H ++ b0.flatten).map byteT).map V.t) true false), (4096, .live 2 [.t (regT [b0, b1] u)] true true)] | _ => [(9100, .live 1 (((H ++ b0.flatten ++ b1.flatten).map byteT).map V.t) true false), (4096, .live 2 [.t (regT [b0, b1] u)] true true)]) ?_ (fun k hk => ?_)
    · refine Weak.rd (fun j => if j = 9100 then 8288 else j) ?_ ?_ rfl
      all_goals simp (disch := omega) only [go_sem, ↓reduceIte, Nat.reduceAdd, Nat.reduceEqDiff, Nat.reduceBEq, List.map_cons, List.map_nil]
      · exact hl9.symm
      · rw [← hbk]; rfl
    · rcases (show k = 0 ∨ k = 1 ∨ k = 2 by omega) with rfl | rfl | rfl
      · simp (disch := omega) only [go_sem, ↓reduceIte, Nat.reduceAdd, Nat.reduceEqDiff, Nat.reduceLeDiff, Int.reduceLT, Int.reduceLE, ac_registers_Encode_L0, List.map_cons, List.map_nil]
        refine loop_upto (List.length b0) (fun i => [(1, .ref 4096 0 0), (3, .sl 9100 0 (List.length (H ++ (List.take i b0).flatten))), (16, .t (.int .i64 2)), (17, .t (.int .i64 0)), (24, .t (.sl (b0.map bsT))), (25, .t (.int .i64 (List.length b0))), (26, .t (.int .i64 (i : Nat)))]) (fun i => [(9100, .live 1 (((H ++ (List.take i b0).flatten).map byteT).map V.t) true false), (4096, .live 2 [.t (regT [b0, b1] u)] true true)]) ?_ (fun i hi => ?_)
        · refine Weak.rd id ?_ ?_ rfl
          all_goals simp (disch := omega) only [go_sem, ↓reduceIte, Nat.reduceAdd, Nat.reduceEqDiff, Nat.reduceBEq, id, List.take_zero, List.flatten_nil, List.append_nil, List.map_cons, List.map_nil]
        · have hfl := flat_le m0 i
          by_cases hlt : i < List.length b0
          · have hg := getD_le (n := i) m0
            have hts := take_flat (b := b0) hlt
            simp (disch := omega) only [go_sem, ↓reduceIte, Nat.reduceAdd, Nat.reduceEqDiff, Nat.reduceLeDiff, ac_registers_Encode_L1, List.map_cons, List.map_nil]
            refine ⟨hlt, Weak.rd (fun j => if j = 9100 then 36896 else j) ?_ ?_ rfl⟩
            all_goals simp (disch := omega) only [go_sem, ↓reduceIte, Nat.reduceAdd, Nat.reduceEqDiff, Nat.reduceBEq, hts, List.append_assoc]
            all_goals try omega
          · have e : i = List.length b0 := by omega
            subst e
            simp (disch := omega) only [go_sem, ↓reduceIte, Nat.reduceAdd, Nat.reduceEqDiff, Nat.reduceLT, Int.reduceAdd, ac_registers_Encode_L1, List.map_cons, List.map_nil, List.take_length]
            refine Weak.rd id ?_ ?_ rfl
            all_goals simp (disch := omega) only [go_sem, ↓reduceIte, Nat.reduceAdd, Nat.reduceEqDiff, Nat.reduceBEq, id, List.take_length]
      · simp (disch := omega) only [go_sem, ↓reduceIte, Nat.reduceAdd, Nat.reduceEqDiff, Nat.reduceLeDiff, Int.reduceLT, Int.reduceLE, ac_registers_Encode_L0, List.map_cons, List.map_nil]
        refine loop_upto (List.length b1) (fun i => [(1, .ref 4096 0 0), (3, .sl 9100 0 (List.length (H ++ b0.flatten ++ (List.take i b1).flatten))), (16, .t (.int .i64 2)), (17, .t (.int .i64 1)), (24, .t (.sl (b1.map bsT))), (25, .t (.int .i64 (List.length b1))), (26, .t (.int .i64 (i : Nat)))]) (fun i => [(9100, .live 1 (((H ++ b0.flatten ++ (List.take i b1).flatten).map byteT).map V.t) true false), (4096, .live 2 [.t (regT [b0, b1] u)] true true)]) ?_ (fun i hi => ?_)
        · refine Weak.rd id ?_ ?_ rfl
          all_goals simp (disch := omega) only [go_sem, ↓reduceIte, Nat.reduceAdd, Nat.reduceEqDiff, Nat.reduceBEq, id, List.take_zero, List.flatten_nil, List.append_nil, List.map_cons, List.map_nil]
        · have hfl := flat_le m1 i
          by_cases hlt : i < List.length b1
          · have hg := getD_le (n := i) m1
            have hts := take_flat (b := b1) hlt
            simp (disch := omega) only [go_sem, ↓reduceIte, Nat.reduceAdd, Nat.reduceEqDiff, Nat.reduceLeDiff, ac_registers_Encode_L1, List.map_cons, List.map_nil]
            refine ⟨hlt, Weak.rd (fun j => if j = 9100 then 36896 else j) ?_ ?_ rfl⟩
            all_goals simp (disch := omega) only [go_sem, ↓reduceIte, Nat.reduceAdd, Nat.reduceEqDiff, Nat.reduceBEq, hts, List.append_assoc]
            all_goals try omega
          · have e : i = List.length b1 := by omega
            subst e
            simp (disch := omega) only [go_sem, ↓reduceIte, Nat.reduceAdd, Nat.reduceEqDiff, Nat.reduceLT, Int.reduceAdd, ac_registers_Encode_L1, List.map_cons, List.map_nil, List.take_length]
            refine Weak.rd id ?_ ?_ rfl
            all_goals simp (disch := omega) only [go_sem, ↓reduceIte, Nat.reduceAdd, Nat.reduceEqDiff, Nat.reduceBEq, id, List.take_length]
      · simp (disch := omega) only [go_sem, ↓reduceIte, Nat.reduceAdd, Nat.reduceEqDiff, Int.reduceLT, ac_registers_Encode_L0, List.map_cons, List.map_nil]
        have e1 : encL [b0, b1] u = H ++ List.flatten b0 ++ List.flatten b1 := by rw [encL, hH]; simp
        rw [e1, List.length_append, List.length_append]
        exact ⟨rfl, rfl⟩
theorem w_ref8_Encode (tab : Tab) (gl : Gl) (n1 n2 : Nat) (h1 : tab.look n1 = some ct_actv.fs) (h2 : tab.look n2 = some ct_uint.fs) (bk : List Bank) (u : Int) (hv : RV bk) :
    (ac_ref8_Encode n1 n2).wp tab gl (zipF 0 [.t (regT bk u)]) (zipF 0 []) (resF [] [(2, none)] 0 (fun r o => r = .sl 0 0 (encL bk u).length ∧ o = [.live 1 (((encL bk u).map byteT).map V.t) true false])) := by
  have c0 := actv_eq (u := u) (a := 0) hv.1 (by omega)
  have c1 := actv_eq (u := u) (a := 1) hv.1 (by omega)
  rw [show ((0 : Nat) : Int) = 0 from rfl] at c0
  rw [show ((1 : Nat) : Int) = 1 from rfl] at c1
  have hact := actI_lt hv.1
  have hu : ∀ m : Nat, ct_uint.fs [.t (.sl [byteT (UInt8.ofNat m)]), .t (.int .i64 8), .t (.int .i64 u)] [] = some (.sl 0 0 9, [.live 1 (((UInt8.ofNat m :: beI 8 u 8).map byteT).map V.t) true false]) := fun m => uint8 (b := [UInt8.ofNat m]) (n := u) (by simp)
  have hu0 := hu 0
  have hu1 := hu 1
  have hu2 := hu 2
  have hu3 := hu 3
  simp (disch := omega) only [go_sem, ↓reduceIte, Nat.reduceAdd, ac_ref8_Encode]
  refine loop_fuel 3 ?_
  rcases hv.cases with rfl | ⟨b0, b1, rfl, g0, g1, m0, m1⟩
  · rw [List.map_nil] at c0 c1
    have d0 : onB [] 0 = false := rfl
    have d1 : onB [] 1 = false := rfl
    rw [d0] at c0
    rw [d1] at c1
    have hw0 : T.int .u8 (IntKind.u8.wrap 0) = byteT (UInt8.ofNat 0) := rfl
    simp (disch := omega) only [go_sem, ↓reduceIte, Nat.reduceAdd, Nat.reduceEqDiff, Nat.reduceLT, Nat.reduceLeDiff, Int.reduceLT, Int.reduceAdd, reduceCtorEq, loopN_succ, ac_ref8_Encode_L0, h1, h2, c0, c1, hw0, hu0, List.map_nil]
    repeat refine And.intro rfl ?_
    refine loop_fuel 1 ?_
    simp (disch := omega) only [go_sem, ↓reduceIte, Nat.reduceAdd, Nat.reduceEqDiff, Nat.reduceLeDiff, Int.reduceLT, loopN_succ, ac_ref8_Encode_L1]
    have e1 : encL [] u = encH [] u := by simp [encL]
    rw [e1]
    exact ⟨encH_len.symm, rfl⟩
  · have q0 : List.length b0 ≤ 16 := by rcases g0 with h | h <;> omega
    have q1 : List.length b1 ≤ 16 := by rcases g1 with h | h <;> omega
    have f0 : b0.flatten.length ≤ 1024 := by have := flat_le m0 16; rw [List.take_of_length_le q0] at this; omega
    have f1 : b1.flatten.length ≤ 1024 := by have := flat_le m1 16; rw [List.take_of_length_le q1] at this; omega
    have hl9 := encH_len (bk := [b0, b1]) (u := u)
    simp only [List.map_cons, List.map_nil, bankT_def] at c0 c1
    have fin : ∀ (m : Nat) (fs : Fs) (hs : Hs), UInt8.ofNat m :: beI 8 u 8 = encH [b0, b1] u → Weak fs hs [(1, .ref 4096 0 0), (5, .sl 32848 0 9), (6, .t (.int .i64 0))] [(32848, .live 1 (((UInt8.ofNat m :: beI 8 u 8).map byteT).map V.t) true false), (4096, .live 2 [.t (regT [b0, b1] u)] true true)] →
        loopW tab gl ac_ref8_Encode_L1 fs hs (blockK 2 (seqK tab gl ((AC.reg 65536 none [⟨some 53, (.op .mov), [.tmp 5], none⟩, ⟨some 2, (.op .mov), [.tmp 53], none⟩]).seq AC.ret) (resF [] [(2, none)] 0 (fun r o => r = .sl 0 0 (encL [b0, b1] u).length ∧ o = [.live 1 (((encL [b0, b1] u).map byteT).map V.t) true false])))) := by
      intro m fs hs hbk hw
      refine loopW_weak hw ?_
      generalize hH : encH [b0, b1] u = H at *
      refine loop_upto 2 (fun k => match k with | 0 => [(1, .ref 4096 0 0), (5, .sl 9100 0 (List.length (H))), (6, .t (.int .i64 0))] | 1 => [(1, .ref 4096 0 0), (5, .sl 9100 0 (List.length (H ++ b0.flatten))), (6, .t (.int .i64 1))] | _ => [(1, .ref 4096 0 0), (5, .sl 9100 0 (List.length (H ++ b0.flatten ++ b1.flatten))), (6, .t (.int .i64 2))]) (fun k => match k with | 0 => [(9100, .live 1 (((H).map byteT).map V.t) true false), (4096, .live 2 [.t (regT [b0, b1] u)] true true)] | 1 => [(9100, .live 1 (((H ++ b0.flatten).map byteT).map V.t) true false), (4096, .live 2 [.t (regT [b0, b1] u)] true true)] | _ => [(9100, .live 1 (((H ++ b0.flatten ++ b1.flatten).map byteT).map V.t) true false), (4096, .live 2 [.t (regT [b0, b1] u)] true true)]) ?_ (fun k hk => ?_)
      · refine Weak.rd (fun j => if j = 9100 then 32848 else j) ?_ ?_ rfl
        all_goals simp (disch := omega) only [go_sem, ↓reduceIte, Nat.reduceAdd, Nat.reduceEqDiff, Nat.reduceBEq, List.map_cons, List.map_nil]
        · exact hl9.symm
        · rw [← hbk]; rfl
      · rcases (show k = 0 ∨ k = 1 ∨ k = 2 by omega) with rfl | rfl | rfl
        · simp (disch := omega) only [go_sem, ↓reduceIte, Nat.reduceAdd, Nat.reduceEqDiff, Nat.reduceLeDiff, Int.reduceLT, ac_ref8_Encode_L1, List.map_cons, List.map_nil]
          refine loop_upto (List.length b0) (fun i => [(1, .ref 4096 0 0), (5, .sl 9100 0 (List.length (H ++ (List.take i b0).flatten))), (6, .t (.int .i64 0)), (7, .t (.int .i64 (i : Nat)))]) (fun i => [(9100, .live 1 (((H ++ (List.take i b0).flatten).map byteT).map V.t) true false), (4096, .live 2 [.t (regT [b0, b1] u)] true true)]) ?_ (fun i hi => ?_)
          · refine Weak.rd id ?_ ?_ rfl
            all_goals simp (disch := omega) only [go_sem, ↓reduceIte, Nat.reduceAdd, Nat.reduceEqDiff, Nat.reduceBEq, id, List.take_zero, List.flatten_nil, List.append_nil, List.map_cons, List.map_nil]
          · have hfl := flat_le m0 i
            by_cases hlt : i < List.length b0
            · have hg := getD_le (n := i) m0
              have hts := take_flat (b := b0) hlt
              simp (disch := omega) only [go_sem, ↓reduceIte, Nat.reduceAdd, Nat.reduceEqDiff, Nat.reduceLeDiff, Int.reduceLE, ac_ref8_Encode_L2, List.map_cons, List.map_nil]
              refine ⟨hlt, Weak.rd (fun j => if j = 9100 then 61584 else j) ?_ ?_ rfl⟩
              all_goals simp (disch := omega) only [go_sem, ↓reduceIte, Nat.reduceAdd, Nat.reduceEqDiff, Nat.reduceBEq, hts, List.append_assoc]
              all_goals try omega
            · have e : i = List.length b0 := by omega
              subst e
              simp (disch := omega) only [go_sem, ↓reduceIte, Nat.reduceAdd, Nat.reduceEqDiff, Nat.reduceLT, Nat.reduceLeDiff, Int.reduceLE, Int.reduceAdd, ac_ref8_Encode_L2, List.map_cons, List.map_nil, List.take_length]
              refine Weak.rd id ?_ ?_ rfl
              all_goals simp (disch := omega) only [go_sem, ↓reduceIte, Nat.reduceAdd, Nat.reduceEqDiff, Nat.reduceBEq, id, List.take_length]
        · simp (disch := omega) only [go_sem, ↓reduceIte, Nat.reduceAdd, Nat.reduceEqDiff, Nat.reduceLeDiff, Int.reduceLT, ac_ref8_Encode_L1, List.map_cons, List.map_nil]
          refine loop_upto (List.length b1) (fun i => [(1, .ref 4096 0 0), (5, .sl 9100 0 (List.length (H ++ b0.flatten ++ (List.take i b1).flatten))), (6, .t (.int .i64 1)), (7, .t (.int .i64 (i : Nat)))]) (fun i => [(9100, .live 1 (((H ++ b0.flatten ++ (List.take i b1).flatten).map byteT).map V.t) true false), (4096, .live 2 [.t (regT [b0, b1] u)] true true)]) ?_ (fun i hi => ?_)
          · refine Weak.rd id ?_ ?_ rfl
            all_goals simp (disch := omega) only [go_sem, ↓reduceIte, Nat.reduceAdd, Nat.reduceEqDiff, Nat.reduceBEq, id, List.take_zero, List.flatten_nil, List.append_nil, List.map_cons, List.map_nil]
          · have hfl := flat_le m1 i
            by_cases hlt : i < List.length b1
            · have hg := getD_le (n := i) m1
              have hts := take_flat (b := b1) hlt
              simp (disch := omega) only [go_sem, ↓reduceIte, Nat.reduceAdd, Nat.reduceEqDiff, Nat.reduceLeDiff, Int.reduceLE, ac_ref8_Encode_L2, List.map_cons, List.map_nil]
              refine ⟨hlt, Weak.rd (fun j => if j = 9100 then 61584 else j) ?_ ?_ rfl⟩
              all_goals simp (disch := omega) only [go_sem, ↓reduceIte, Nat.reduceAdd, Nat.reduceEqDiff, Nat.reduceBEq, hts, List.append_assoc]
              all_goals try omega
            · have e : i = List.length b1 := by omega
              subst e
              simp (disch := omega) only [go_sem, ↓reduceIte, Nat.reduceAdd, Nat.reduceEqDiff, Nat.reduceLT, Nat.reduceLeDiff, Int.reduceLE, Int.reduceAdd, ac_ref8_Encode_L2, List.map_cons, List.map_nil, List.take_length]
              refine Weak.rd id ?_ ?_ rfl
              all_goals simp (disch := omega) only [go_sem, ↓reduceIte, Nat.reduceAdd, Nat.reduceEqDiff, Nat.reduceBEq, id, List.take_length]
        · simp (disch := omega) only [go_sem, ↓reduceIte, Nat.reduceAdd, Nat.reduceEqDiff, Nat.reduceLeDiff, Int.reduceLT, ac_ref8_Encode_L1, List.map_cons, List.map_nil]
          have e1 : encL [b0, b1] u = H ++ List.flatten b0 ++ List.flatten b1 := by rw [encL, hH]; simp
          rw [e1, List.length_append, List.length_append]
          exact ⟨rfl, rfl⟩
    have hw0 : T.int .u8 (IntKind.u8.wrap 0) = byteT (UInt8.ofNat 0) := rfl
    have hw1 : T.int .u8 (IntKind.u8.wrap 1) = byteT (UInt8.ofNat 1) := rfl
    have hw2 : T.int .u8 (IntKind.u8.wrap 2) = byteT (UInt8.ofNat 2) := rfl
    have hw3 : T.int .u8 (IntKind.u8.wrap 3) = byteT (UInt8.ofNat 3) := rfl
    rcases g0 with z0 | z0 <;> rcases g1 with z1 | z1
    · have d0 : onB [b0, b1] 0 = false := by simp [onB, z0]
      have d1 : onB [b0, b1] 1 = false := by simp [onB, z1]
      rw [d0] at c0
      rw [d1] at c1
      simp (disch := omega) only [go_sem, ↓reduceIte, Nat.reduceAdd, Nat.reduceEqDiff, Nat.reduceLT, Nat.reduceLeDiff, Int.reduceLT, Int.reduceAdd, reduceCtorEq, loopN_succ, ac_ref8_Encode_L0, h1, h2, c0, c1, hw0, hw1, hw2, hw3, hu0, List.map_nil, List.map_cons, BitVec.reduceOfInt, BitVec.reduceOr, BitVec.reduceToNat]
      repeat refine And.intro rfl ?_
      refine fin 0 _ _ (by unfold encH; simp [actI, actM, z0, z1]) ?_
      refine Weak.rd id ?_ ?_ rfl
      all_goals simp (disch := omega) only [go_sem, ↓reduceIte, Nat.reduceAdd, Nat.reduceEqDiff, Nat.reduceBEq, id, List.map_cons, List.map_nil]
    · have d0 : onB [b0, b1] 0 = false := by simp [onB, z0]
      have d1 : onB [b0, b1] 1 = true := by simp [onB, z1]
      rw [d0] at c0
      rw [d1] at c1
      simp (disch := omega) only [go_sem, ↓reduceIte, Nat.reduceAdd, Nat.reduceEqDiff, Nat.reduceLT, Nat.reduceLeDiff, Int.reduceLT, Int.reduceAdd, Int.reduceMul, reduceCtorEq, Int.reducePow, loopN_succ, ac_ref8_Encode_L0, h1, h2, c0, c1, hw0, hw1, hw2, hw3, hu2, List.map_nil, List.map_cons, BitVec.reduceOfInt, BitVec.reduceOr, BitVec.reduceToNat]
      repeat refine And.intro rfl ?_
      refine fin 2 _ _ (by unfold encH; simp [actI, actM, z0, z1]) ?_
      refine Weak.rd id ?_ ?_ rfl
      all_goals simp (disch := omega) only [go_sem, ↓reduceIte, Nat.reduceAdd, Nat.reduceEqDiff, Nat.reduceBEq, id, List.map_cons, List.map_nil]
    · have d0 : onB [b0, b1] 0 = true := by simp [onB, z0]
      have d1 : onB [b0, b1] 1 = false := by simp [onB, z1]
      rw [d0] at c0
      rw [d1] at c1
      simp (disch := omega) only [go_sem, ↓reduceIte, Nat.reduceAdd, Nat.reduceEqDiff, Nat.reduceLT, Nat.reduceLeDiff, Int.reduceLT, Int.reduceAdd, Int.reduceMul, reduceCtorEq, Int.reducePow, loopN_succ, ac_ref8_Encode_L0, h1, h2, c0, c1, hw0, hw1, hw2, hw3, hu1, List.map_nil, List.map_cons, BitVec.reduceOfInt, BitVec.reduceOr, BitVec.reduceToNat]
      repeat refine And.intro rfl ?_
      refine fin 1 _ _ (by unfold encH; simp [actI, actM, z0, z1]) ?_
      refine Weak.rd id ?_ ?_ rfl
      all_goals simp (disch := omega) only [go_sem, ↓reduceIte, Nat.reduceAdd, Nat.reduceEqDiff, Nat.reduceBEq, id, List.map_cons, List.map_nil]
    · have d0 : onB [b0, b1] 0 = true := by simp [onB, z0]
      have d1 : onB [b0, b1] 1 = true := by simp [onB, z1]
      rw [d0] at c0
      rw [d1] at c1
      simp (disch := omega) only [go_sem, ↓reduceIte, Nat.reduceAdd, Nat.reduceEqDiff, Nat.reduceLT, Nat.reduceLeDiff, Int.reduceLT, Int.reduceAdd, Int.reduceMul, reduceCtorEq, Int.reducePow, loopN_succ, ac_ref8_Encode_L0, h1, h2, c0, c1, hw0, hw1, hw2, hw3, hu3, List.map_nil, List.map_cons, BitVec.reduceOfInt, BitVec.reduceOr, BitVec.reduceToNat]
      repeat refine And.intro rfl ?_
      refine fin 3 _ _ (by unfold encH; simp [actI, actM, z0, z1]) ?_
      refine Weak.rd id ?_ ?_ rfl
      all_goals simp (disch := omega) only [go_sem, ↓reduceIte, Nat.reduceAdd, Nat.reduceEqDiff, Nat.reduceBEq, id, List.map_cons, List.map_nil]
end Go.Eng
end
section
set_option maxRecDepth 20000
set_option maxHeartbeats 16000000
namespace Go.Eng
abbrev rdO (s : Rd) : Ob := .live 3 [.t (.agg [.sl (s.1.map byteT), .int .i64 (s.2.1 : Int), .int .i64 s.2.2])] true true
def ct_rnew : Ct where
  α := List UInt8
  as x := [.t (.sl (x.map byteT))]
  ins _ := []
  pre x := x.length < 1000000000
  r _ := .ref 0 0 0
  outs x := [rdOb (x, 0, 0)]
  inj := by
    intro a b h _
    simp only [List.cons.injEq, V.t.injEq, T.sl.injEq, and_true, mapB_inj] at h
    subst h; exact ⟨rfl, rfl⟩
theorem rnew_eq {b : List UInt8} (h : b.length < 1000000000) : ct_rnew.fs [.t (.sl (b.map byteT))] [] = some (.ref 0 0 0, [rdO (b, 0, 0)]) := ct_rnew.eq b h
def ct_rint : Ct where
  α := Rd × Nat
  as x := [.ref 0 0 0, .t (.int .i64 x.2)]
  ins x := [rdOb x.1]
  pre x := rdOk x.1 ∧ 1 ≤ x.2 ∧ x.2 ≤ 8
  r x := .t (.int .i64 (rdUint x.1 x.2).1)
  outs x := [rdOb (rdUint x.1 x.2).2]
  inj := by
    rintro ⟨s, a⟩ ⟨t, c⟩ h1 h2
    simp only [List.cons.injEq, V.t.injEq, T.int.injEq, true_and, and_true, Int.natCast_inj] at h1
    simp only [List.cons.injEq, and_true] at h2
    subst h1
    cases rdOb_inj h2
    exact ⟨rfl, rfl⟩
theorem rint_eq {s : Rd} {k : Nat} (h : rdOk s ∧ 1 ≤ k ∧ k ≤ 8) : ct_rint.fs [.ref 0 0 0, .t (.int .i64 k)] [rdO s] = some (.t (.int .i64 (rdUint s k).1), [rdO (rdUint s k).2]) := ct_rint.eq (s, k) h
def ct_rraw : Ct where
  α := Rd × Nat
  as x := [.ref 0 0 0, .t (.int .i64 x.2)]
  ins x := [rdOb x.1]
  pre x := rdOk x.1 ∧ x.2 ≤ 1000000000
  r x := .t (.sl ((rdRaw x.1 x.2).1.map byteT))
  outs x := [rdOb (rdRaw x.1 x.2).2]
  inj := by
    rintro ⟨s, a⟩ ⟨t, c⟩ h1 h2
    simp only [List.cons.injEq, V.t.injEq, T.int.injEq, true_and, and_true, Int.natCast_inj] at h1
    simp only [List.cons.injEq, and_true] at h2
    subst h1
    cases rdOb_inj h2
    exact ⟨rfl, rfl⟩
theorem rraw_eq {s : Rd} {k : Nat} (h : rdOk s ∧ k ≤ 1000000000) : ct_rraw.fs [.ref 0 0 0, .t (.int .i64 k)] [rdO s] = some (.t (.sl ((rdRaw s k).1.map byteT)), [rdO (rdRaw s k).2]) := ct_rraw.eq (s, k) h
def ct_rerr : Ct where
  α := Rd
  as _ := [.ref 0 0 0]
  ins x := [rdOb x]
  pre x := rdOk x
  r x := .t (.int .i64 x.2.2)
  outs x := [rdOb x]
  inj := by
    intro s t _ h2
    simp only [List.cons.injEq, and_true] at h2
    cases rdOb_inj h2
    exact ⟨rfl, rfl⟩
theorem rerr_eq {s : Rd} (h : rdOk s) : ct_rerr.fs [.ref 0 0 0] [rdO s] = some (.t (.int .i64 s.2.2), [rdO s]) := ct_rerr.eq s h
def ct_rend : Ct where
  α := Rd
  as _ := [.ref 0 0 0]
  ins x := [rdOb x]
  pre x := rdOk x
  r x := .t (.int .i64 (rdEnd x))
  outs x := [rdOb x]
  inj := by
    intro s t _ h2
    simp only [List.cons.injEq, and_true] at h2
    cases rdOb_inj h2
    exact ⟨rfl, rfl⟩
theorem rend_eq {s : Rd} (h : rdOk s) : ct_rend.fs [.ref 0 0 0] [rdO s] = some (.t (.int .i64 (rdEnd s)), [rdO s]) := ct_rend.eq s h
theorem rdUint_ok {s : Rd} {k : Nat} (h : rdOk s) : rdOk (rdUint s k).2 := by
  unfold rdUint rdOk at *
  split
  · exact h
  · split
    · exact h
    · split
      · exact h
      · exact ⟨by simp only; omega, h.2⟩
theorem rdRaw_ok {s : Rd} {k : Nat} (h : rdOk s) : rdOk (rdRaw s k).2 := by
  unfold rdRaw rdOk at *
  split
  · exact h
  · split
    · exact h
    · exact ⟨by simp only; omega, h.2⟩
theorem rdRaw_le {s : Rd} {k : Nat} : (rdRaw s k).1.length ≤ k := by
  unfold rdRaw
  split
  · simp
  · split
    · simp
    · simp only [List.length_take]; omega
def rdRows (s : Rd) (z : Nat) : Nat → List (List UInt8) × Rd
  | 0 => ([], s)
  | n + 1 => ((rdRows s z n).1 ++ [(rdRaw (rdRows s z n).2 z).1], (rdRaw (rdRows s z n).2 z).2)
theorem rdRows_ok {s : Rd} {z : Nat} (h : rdOk s) : ∀ n, rdOk (rdRows s z n).2
  | 0 => h
  | n + 1 => rdRaw_ok (rdRows_ok h n)
theorem rdRows_len {s : Rd} {z : Nat} : ∀ n, (rdRows s z n).1.length = n
  | 0 => rfl
  | n + 1 => by simp [rdRows, rdRows_len n]
end Go.Eng
end
section
set_option maxRecDepth 20000
set_option maxHeartbeats 64000000
namespace Go.Eng
theorem new_casesX (s : Int) : (newBk s = [] ∧ ct_new.fs [.t (.int .i64 s)] [] = some (.agg [.nil, .t (.int .i64 0)], [])) ∨ ∃ b0 b1 : Bank, newBk s = [b0, b1] ∧ bkOk b0 ∧ bkOk b1 ∧ ct_new.fs [.t (.int .i64 s)] [] = some (.agg [.sl 0 0 2, .t (.int .i64 0)], [.live 1 [.sl 1 0 b0.length, .sl 2 0 b1.length] true false, .live 1 ((b0.map bsT).map V.t) true false, .live 1 ((b1.map bsT).map V.t) true false]) := by
  have h := ct_new.eq s trivial
  rcases (newBk_rv (s := s)).cases with e | ⟨b0, b1, e, h0, h1, _, _⟩
  · refine .inl ⟨e, h.trans ?_⟩
    show some (twR (newBk s) 0, twO (newBk s)) = _
    rw [e]; rfl
  · refine .inr ⟨b0, b1, e, h0, h1, h.trans ?_⟩
    show some (twR (newBk s) 0, twO (newBk s)) = _
    rw [e]; rfl
theorem w_draw_Registers (tab : Tab) (gl : Gl) (n1 n2 n3 n4 n5 n6 : Nat) (h1 : tab.look n1 = some ct_new.fs) (h2 : tab.look n2 = some ct_ev.fs) (h3 : tab.look n3 = some ct_ddg.fs) (h4 : tab.look n4 = some ct_ext.fs) (h5 : tab.look n5 = some ct_rst.fs) (h6 : tab.look n6 = some ct_rsm.fs) (s : Int) (cs : List UInt8) (hcs : cs.length ≤ 9223372036854775807) :
    (ac_draw_Registers n1 n2 n3 n4 n5 n6).wp tab gl (zipF 0 [.t (.int .i64 s), .t (.sl (cs.map byteT))]) (zipF 0 []) (resW [(4, some (2, true))] 0 (fun r o => r = .t (regT (dr s cs).1 (dr s cs).2) ∧ o = [])) := by
  have body : ∀ (fs : Fs) (hs : Hs), Weak fs hs [(0, .t (.int .i64 s)), (1, .t (.sl (cs.map byteT))), (4, .ref 4096 0 0), (5, .ref 8224 0 0), (6, .t (.int .i64 0))] [(8224, .live 2 [.t (regT (newBk s) 0)] true true), (4096, .live 2 [.agg [.nil, .t (.int .i64 0)]] true true)] →
      loopW tab gl (ac_draw_Registers_L0 n2 n3 n4 n5 n6) fs hs (blockK 0 (seqK tab gl ((AC.reg 90112 none
        [⟨some 82, (.op (.load 2 true)), [.tmp 5], none⟩, ⟨none, (.op (.store 2)), [.tmp 4, .tmp 82], none⟩]).seq AC.ret) (resW [(4, some (2, true))] 0 (fun r o => r = .t (regT (dr s cs).1 (dr s cs).2) ∧ o = [])))) := by
    intro fs hs hw
    refine loopW_weak hw ?_
    refine loop_upto (min cs.length 12) (fun k => [(0, .t (.int .i64 s)), (1, .t (.sl (cs.map byteT))), (4, .ref 4096 0 0), (5, .ref 8224 0 0), (6, .t (.int .i64 k))]) (fun k => [(8224, .live 2 [.t (regT (drN s cs k).1 (drN s cs k).2)] true true), (4096, .live 2 [.agg [.nil, .t (.int .i64 0)]] true true)]) Weak.refl (fun k hk => ?_)
    by_cases hlt : k < min cs.length 12
    · have hlt1 : k < cs.length := by omega
      have hlt2 : k < 12 := by omega
      have hrs := drN_rs (s := s) (cs := cs) k
      have hstep : drN s cs (k + 1) = drS s k (cs.getD k 0).toNat (drN s cs k) := rfl
      obtain ⟨⟨bk, u⟩, hx⟩ : ∃ x, drN s cs k = x := ⟨_, rfl⟩
      rw [hx] at hrs hstep
      obtain ⟨hv, hu0, hu1⟩ := hrs
      simp only at hu0 hu1
      obtain ⟨c, hc⟩ : ∃ c, (cs.getD k 0).toNat = c := ⟨_, rfl⟩
      have hc8 : c < 256 := by rw [← hc]; exact UInt8.toNat_lt _
      rw [hc] at hstep
      have hu2 : u < 1000000000 := by omega
      by_cases hA : c % 8 < 3
      · have hst : drN s cs (k + 1) = evP (bk, u) 4 (c / 8 % 16 : Nat) [UInt8.ofNat c, UInt8.ofNat k] := by rw [hstep, drS, if_pos hA]
        obtain ⟨bk', u', e, he, hy⟩ := evR_ans (x := (bk, u)) (l := 4) (i := (c / 8 % 16 : Nat)) (d := [UInt8.ofNat c, UInt8.ofNat k])
        have hE := ct_ev.eq (bk, u, 4, ((c / 8 % 16 : Nat) : Int), [UInt8.ofNat c, UInt8.ofNat k]) ⟨hv, ⟨hu0, hu2⟩, by simp⟩
        have hE2 : ct_ev.fs [.t (.agg [.sl (bk.map bankT), .int .i64 u]), .t (.int .i64 4), .t (.int .i64 (c / 8 % 16 : Nat)), .t (.sl [byteT (UInt8.ofNat c), byteT (UInt8.ofNat k)])] [] = some (.tup [.t (.agg [.sl (bk'.map bankT), .int .i64 u']), .t (.int .i64 e)], []) := by rw [← he]; exact hE
        clear hE he
        by_cases he0 : e = 0
        · subst he0
          have hz : drN s cs (k + 1) = (bk', u') := by
            rw [hst]; rcases hy with ⟨h, h'⟩ | ⟨h, h'⟩
            · exact h'
            · exact absurd rfl h
          rcases (show c % 8 = 0 ∨ c % 8 = 1 ∨ c % 8 = 2 by omega) with h | h | h
          · simp (disch := omega) only [go_sem, ↓reduceIte, Nat.reduceAdd, Nat.reduceEqDiff, Nat.reduceLT, Nat.reduceLeDiff, reduceCtorEq, ac_draw_Registers_L0, hx, hc, h, h2, hE2]
            repeat refine And.intro rfl ?_
            refine ⟨hlt, Weak.rd id ?_ ?_ rfl⟩
            all_goals simp (disch := omega) only [go_sem, ↓reduceIte, Nat.reduceEqDiff, Nat.reduceBEq, reduceCtorEq, id, hz]
          · simp (disch := omega) only [go_sem, ↓reduceIte, Nat.reduceAdd, Nat.reduceEqDiff, Nat.reduceLT, Nat.reduceLeDiff, reduceCtorEq, ac_draw_Registers_L0, hx, hc, h, h2, hE2]
            repeat refine And.intro rfl ?_
            refine ⟨hlt, Weak.rd id ?_ ?_ rfl⟩
            all_goals simp (disch := omega) only [go_sem, ↓reduceIte, Nat.reduceEqDiff, Nat.reduceBEq, reduceCtorEq, id, hz]
          · simp (disch := omega) only [go_sem, ↓reduceIte, Nat.reduceAdd, Nat.reduceEqDiff, Nat.reduceLT, Nat.reduceLeDiff, reduceCtorEq, ac_draw_Registers_L0, hx, hc, h, h2, hE2]
            repeat refine And.intro rfl ?_
            refine ⟨hlt, Weak.rd id ?_ ?_ rfl⟩
            all_goals simp (disch := omega) only [go_sem, ↓reduceIte, Nat.reduceEqDiff, Nat.reduceBEq, reduceCtorEq, id, hz]
        · have hz : drN s cs (k + 1) = (bk, u) := by
            rw [hst]; rcases hy with ⟨h, h'⟩ | ⟨h, h'⟩
            · exact absurd h he0
            · exact h'
          rcases (show c % 8 = 0 ∨ c % 8 = 1 ∨ c % 8 = 2 by omega) with h | h | h
          · simp (disch := omega) only [go_sem, ↓reduceIte, Nat.reduceAdd, Nat.reduceEqDiff, Nat.reduceLT, Nat.reduceLeDiff, reduceCtorEq, ac_draw_Registers_L0, hx, hc, h, he0, h2, hE2]
            repeat refine And.intro rfl ?_
            refine ⟨hlt, Weak.rd id ?_ ?_ rfl⟩
            all_goals simp (disch := omega) only [go_sem, ↓reduceIte, Nat.reduceEqDiff, Nat.reduceBEq, reduceCtorEq, id, hz]
          · simp (disch := omega) only [go_sem, ↓reduceIte, Nat.reduceAdd, Nat.reduceEqDiff, Nat.reduceLT, Nat.reduceLeDiff, reduceCtorEq, ac_draw_Registers_L0, hx, hc, h, he0, h2, hE2]
            repeat refine And.intro rfl ?_
            refine ⟨hlt, Weak.rd id ?_ ?_ rfl⟩
            all_goals simp (disch := omega) only [go_sem, ↓reduceIte, Nat.reduceEqDiff, Nat.reduceBEq, reduceCtorEq, id, hz]
          · simp (disch := omega) only [go_sem, ↓reduceIte, Nat.reduceAdd, Nat.reduceEqDiff, Nat.reduceLT, Nat.reduceLeDiff, reduceCtorEq, ac_draw_Registers_L0, hx, hc, h, he0, h2, hE2]
            repeat refine And.intro rfl ?_
            refine ⟨hlt, Weak.rd id ?_ ?_ rfl⟩
            all_goals simp (disch := omega) only [go_sem, ↓reduceIte, Nat.reduceEqDiff, Nat.reduceBEq, reduceCtorEq, id, hz]
      · by_cases hB : c % 8 < 6
        · have hst : drN s cs (k + 1) = extP (bk, u) 4 (c / 8 % 16 : Nat) (dgB s [UInt8.ofNat c, UInt8.ofNat k]) := by rw [hstep, drS, if_neg hA, if_pos hB]
          obtain ⟨bk', u', e, he, hy⟩ := extR_ans (x := (bk, u)) (l := 4) (i := (c / 8 % 16 : Nat)) (ds := dgB s [UInt8.ofNat c, UInt8.ofNat k])
          have hD : ct_ddg.fs [.t (.int .i64 s), .t (.sl [byteT (UInt8.ofNat c), byteT (UInt8.ofNat k)])] [] = some (.sl 0 0 2, [.live 1 [.t (.sl ((dgb s 0 [UInt8.ofNat c, UInt8.ofNat k]).map byteT)), .t (.sl ((dgb s 1 [UInt8.ofNat c, UInt8.ofNat k]).map byteT))] true false]) := ct_ddg.eq (s, [UInt8.ofNat c, UInt8.ofNat k]) trivial
          have hE := ct_ext.eq (bk, u, 4, ((c / 8 % 16 : Nat) : Int), dgB s [UInt8.ofNat c, UInt8.ofNat k]) ⟨hv, ⟨hu0, hu2⟩, dgB_pre⟩
          have hE2 : ct_ext.fs [.t (.agg [.sl (bk.map bankT), .int .i64 u]), .t (.int .i64 4), .t (.int .i64 (c / 8 % 16 : Nat)), .t (.sl [.sl ((dgb s 0 [UInt8.ofNat c, UInt8.ofNat k]).map byteT), .sl ((dgb s 1 [UInt8.ofNat c, UInt8.ofNat k]).map byteT)])] [] = some (.tup [.t (.agg [.sl (bk'.map bankT), .int .i64 u']), .t (.int .i64 e)], []) := by rw [← he]; exact hE
          clear hE he
          by_cases he0 : e = 0
          · subst he0
            have hz : drN s cs (k + 1) = (bk', u') := by
              rw [hst]; rcases hy with ⟨h, h'⟩ | ⟨h, h'⟩
              · exact h'
              · exact absurd rfl h
            rcases (show c % 8 = 3 ∨ c % 8 = 4 ∨ c % 8 = 5 by omega) with h | h | h
            · simp (disch := omega) only [go_sem, ↓reduceIte, Nat.reduceAdd, Nat.reduceEqDiff, Nat.reduceLT, Nat.reduceLeDiff, reduceCtorEq, ac_draw_Registers_L0, hx, hc, h, h3, h4, hD, hE2]
              repeat refine And.intro rfl ?_
              refine ⟨hlt, Weak.rd id ?_ ?_ rfl⟩
              all_goals simp (disch := omega) only [go_sem, ↓reduceIte, Nat.reduceEqDiff, Nat.reduceBEq, reduceCtorEq, id, hz]
            · simp (disch := omega) only [go_sem, ↓reduceIte, Nat.reduceAdd, Nat.reduceEqDiff, Nat.reduceLT, Nat.reduceLeDiff, reduceCtorEq, ac_draw_Registers_L0, hx, hc, h, h3, h4, hD, hE2]
              repeat refine And.intro rfl ?_
              refine ⟨hlt, Weak.rd id ?_ ?_ rfl⟩
              all_goals simp (disch := omega) only [go_sem, ↓reduceIte, Nat.reduceEqDiff, Nat.reduceBEq, reduceCtorEq, id, hz]
            · simp (disch := omega) only [go_sem, ↓reduceIte, Nat.reduceAdd, Nat.reduceEqDiff, Nat.reduceLT, Nat.reduceLeDiff, reduceCtorEq, ac_draw_Registers_L0, hx, hc, h, h3, h4, hD, hE2]
              repeat refine And.intro rfl ?_
              refine ⟨hlt, Weak.rd id ?_ ?_ rfl⟩
              all_goals simp (disch := omega) only [go_sem, ↓reduceIte, Nat.reduceEqDiff, Nat.reduceBEq, reduceCtorEq, id, hz]
          · have hz : drN s cs (k + 1) = (bk, u) := by
              rw [hst]; rcases hy with ⟨h, h'⟩ | ⟨h, h'⟩
              · exact absurd h he0
              · exact h'
            rcases (show c % 8 = 3 ∨ c % 8 = 4 ∨ c % 8 = 5 by omega) with h | h | h
            · simp (disch := omega) only [go_sem, ↓reduceIte, Nat.reduceAdd, Nat.reduceEqDiff, Nat.reduceLT, Nat.reduceLeDiff, reduceCtorEq, ac_draw_Registers_L0, hx, hc, h, he0, h3, h4, hD, hE2]
              repeat refine And.intro rfl ?_
              refine ⟨hlt, Weak.rd id ?_ ?_ rfl⟩
              all_goals simp (disch := omega) only [go_sem, ↓reduceIte, Nat.reduceEqDiff, Nat.reduceBEq, reduceCtorEq, id, hz]
            · simp (disch := omega) only [go_sem, ↓reduceIte, Nat.reduceAdd, Nat.reduceEqDiff, Nat.reduceLT, Nat.reduceLeDiff, reduceCtorEq, ac_draw_Registers_L0, hx, hc, h, he0, h3, h4, hD, hE2]
              repeat refine And.intro rfl ?_
              refine ⟨hlt, Weak.rd id ?_ ?_ rfl⟩
              all_goals simp (disch := omega) only [go_sem, ↓reduceIte, Nat.reduceEqDiff, Nat.reduceBEq, reduceCtorEq, id, hz]
            · simp (disch := omega) only [go_sem, ↓reduceIte, Nat.reduceAdd, Nat.reduceEqDiff, Nat.reduceLT, Nat.reduceLeDiff, reduceCtorEq, ac_draw_Registers_L0, hx, hc, h, he0, h3, h4, hD, hE2]
              repeat refine And.intro rfl ?_
              refine ⟨hlt, Weak.rd id ?_ ?_ rfl⟩
              all_goals simp (disch := omega) only [go_sem, ↓reduceIte, Nat.reduceEqDiff, Nat.reduceBEq, reduceCtorEq, id, hz]
        · by_cases hC : c % 8 = 6
          · have hst : drN s cs (k + 1) = rstP (bk, u) 4 (12 + c / 8 % 4 : Nat) := by rw [hstep, drS, if_neg hA, if_neg hB, if_pos hC]
            obtain ⟨bk', u', e, he, hy⟩ := rstR_ans (x := (bk, u)) (l := 4) (i := (12 + c / 8 % 4 : Nat))
            have hE := ct_rst.eq (bk, u, 4, ((12 + c / 8 % 4 : Nat) : Int)) ⟨hv.rm, hu0, hu2⟩
            have hE2 : ct_rst.fs [.t (.agg [.sl (bk.map bankT), .int .i64 u]), .t (.int .i64 4), .t (.int .i64 (12 + c / 8 % 4 : Nat))] [] = some (.tup [.t (.agg [.sl (bk'.map bankT), .int .i64 u']), .t (.int .i64 e)], []) := by rw [← he]; exact hE
            clear hE he
            have h : c % 8 = 6 := hC
            by_cases he0 : e = 0
            · subst he0
              have hz : drN s cs (k + 1) = (bk', u') := by
                rw [hst]; rcases hy with ⟨h, h'⟩ | ⟨h, h'⟩
                · exact h'
                · exact absurd rfl h
              simp (disch := omega) only [go_sem, ↓reduceIte, Nat.reduceAdd, Nat.reduceEqDiff, Nat.reduceLeDiff, reduceCtorEq, ac_draw_Registers_L0, hx, hc, h, h5, hE2]
              repeat refine And.intro rfl ?_
              refine ⟨hlt, Weak.rd id ?_ ?_ rfl⟩
              all_goals simp (disch := omega) only [go_sem, ↓reduceIte, Nat.reduceEqDiff, Nat.reduceBEq, reduceCtorEq, id, hz]
            · have hz : drN s cs (k + 1) = (bk, u) := by
                rw [hst]; rcases hy with ⟨h, h'⟩ | ⟨h, h'⟩
                · exact absurd h he0
                · exact h'
              simp (disch := omega) only [go_sem, ↓reduceIte, Nat.reduceAdd, Nat.reduceEqDiff, Nat.reduceLeDiff, reduceCtorEq, ac_draw_Registers_L0, hx, hc, h, he0, h5, hE2]
              repeat refine And.intro rfl ?_
              refine ⟨hlt, Weak.rd id ?_ ?_ rfl⟩
              all_goals simp (disch := omega) only [go_sem, ↓reduceIte, Nat.reduceEqDiff, Nat.reduceBEq, reduceCtorEq, id, hz]
          · have hz : drN s cs (k + 1) = (resBk bk, u) := by rw [hstep, drS, if_neg hA, if_neg hB, if_neg hC]
            have hE := ct_rsm.eq (bk, u) hv.rm
            have hE2 : ct_rsm.fs [.t (.agg [.sl (bk.map bankT), .int .i64 u])] [] = some (.t (.agg [.sl ((resBk bk).map bankT), .int .i64 u]), []) := hE
            have h : c % 8 = 7 := by omega
            simp (disch := omega) only [go_sem, ↓reduceIte, Nat.reduceAdd, Nat.reduceEqDiff, Nat.reduceLeDiff, reduceCtorEq, ac_draw_Registers_L0, hx, hc, h, h6, hE2]
            repeat refine And.intro rfl ?_
            refine ⟨hlt, Weak.rd id ?_ ?_ rfl⟩
            all_goals simp (disch := omega) only [go_sem, ↓reduceIte, Nat.reduceEqDiff, Nat.reduceBEq, reduceCtorEq, id, hz]
    · have e : k = min cs.length 12 := by omega
      have hd : dr s cs = drN s cs k := by rw [dr, ← e]
      by_cases h12 : k = 12
      · have h13 : ¬ k < 12 := by omega
        by_cases h14 : k < cs.length
        · simp (disch := omega) only [go_sem, ↓reduceIte, Nat.reduceAdd, Nat.reduceEqDiff, Nat.reduceLeDiff, Int.reduceLT, reduceCtorEq, ac_draw_Registers_L0, h12, hd]
        · simp (disch := omega) only [go_sem, ↓reduceIte, Nat.reduceAdd, Nat.reduceEqDiff, Nat.reduceLeDiff, reduceCtorEq, ac_draw_Registers_L0, h12, hd]
      · have e2 : ¬ k < cs.length := by omega
        simp (disch := omega) only [go_sem, ↓reduceIte, Nat.reduceAdd, Nat.reduceEqDiff, Nat.reduceLeDiff, reduceCtorEq, ac_draw_Registers_L0, hd]
  rcases new_casesX s with ⟨e, hn⟩ | ⟨b0, b1, e, g0, g1, hn⟩
  · simp (disch := omega) only [go_sem, ↓reduceIte, Nat.reduceAdd, Nat.reduceEqDiff, Nat.reduceLeDiff, reduceCtorEq, ac_draw_Registers, h1, hn]
    refine body _ _ ?_
    rw [e]
    refine Weak.rd id ?_ ?_ rfl
    all_goals simp (disch := omega) only [go_sem, ↓reduceIte, Nat.reduceEqDiff, Nat.reduceBEq, reduceCtorEq, id, List.map_nil, List.map_cons]
  · simp (disch := omega) only [go_sem, ↓reduceIte, Nat.reduceAdd, Nat.reduceEqDiff, Nat.reduceLeDiff, reduceCtorEq, ac_draw_Registers, h1, hn]
    refine body _ _ ?_
    rw [e]
    refine Weak.cv (hv := []) [8209, 8210, 8208] id ?_ rfl
    simp (disch := omega) only [go_sem, ↓reduceIte, Nat.reduceAdd, Nat.reduceEqDiff, Nat.reduceLeDiff, Nat.reduceBEq, reduceCtorEq, id, List.map_nil, List.map_cons]
    rfl
end Go.Eng
end
