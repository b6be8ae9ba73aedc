/- My own text: an abstract machine, its walks over the functions reached, and their tie to the program. -/
import Derived.Test.YtpeekafhlgkjdaaDoorN3
import Derived.Conc.MuLone
import Derived.Lib.MakeNoZero
import Derived.Laws.Externs
set_option linter.unusedSimpArgs false
set_option linter.unusedVariables false
section
set_option maxRecDepth 20000
set_option maxHeartbeats 64000000
namespace Go.Eng
def ct_eqB : Ct where
  α := List UInt8 × List UInt8
  as x := [.t (.sl (x.1.map byteT)), .t (.sl (x.2.map byteT))]
  ins _ := []
  pre _ := True
  r x := .t (.bool (decide (x.1 = x.2)))
  outs _ := []
  inj := by
    rintro ⟨a, b⟩ ⟨c, d⟩ h _
    simp only [List.cons.injEq, V.t.injEq, T.sl.injEq, and_true, mapB_inj] at h
    obtain ⟨rfl, rfl⟩ := h
    exact ⟨rfl, rfl⟩
theorem eqB_eq {a b : List UInt8} : ct_eqB.fs [.t (.sl (a.map byteT)), .t (.sl (b.map byteT))] [] = some (.t (.bool (decide (a = b))), []) := ct_eqB.eq (a, b) trivial
theorem w_bytes_Equal (tab : Tab) (gl : Gl) (x : ct_eqB.α) : ac_bytes_Equal.wp tab gl (zipF 0 (ct_eqB.as x)) (zipF 0 []) (resW [(4, none)] 0 (fun r o => r = ct_eqB.r x ∧ o = [])) := by
  obtain ⟨a, b⟩ := x
  show ac_bytes_Equal.wp tab gl (zipF 0 [.t (.sl (a.map byteT)), .t (.sl (b.map byteT))]) (zipF 0 []) (resW [(4, none)] 0 (fun r o => r = .t (.bool (decide (a = b))) ∧ o = []))
  simp (disch := omega) only [go_sem, ↓reduceIte, Nat.reduceAdd, Nat.reduceEqDiff, reduceCtorEq, ac_bytes_Equal]
def sep4 : List UInt8 := [0, 0, 0, 0]
def ct_sep : Ct where
  α := Unit
  as _ := []
  ins _ := []
  pre _ := True
  r _ := .sl 0 0 4
  outs _ := [.live 1 ((sep4.map byteT).map V.t) true true]
  inj := by intro a b _ _; exact ⟨rfl, rfl⟩
theorem sep_eq : ct_sep.fs [] [] = some (.sl 0 0 4, [.live 1 ((sep4.map byteT).map V.t) true true]) := ct_sep.eq () trivial
theorem w_ref25_Separator (tab : Tab) (gl : Gl) : ac_ref25_Separator.wp tab gl (zipF 0 []) (zipF 0 []) (resF [] [(0, none)] 0 (fun r o => r = .sl 0 0 4 ∧ o = [.live 1 ((sep4.map byteT).map V.t) true true])) := by
  simp (disch := omega) only [go_sem, ↓reduceIte, Nat.reduceAdd, Nat.reduceLT, ac_ref25_Separator, sep4, List.map_cons, List.map_nil]
def okC (c : UInt8) : Bool := !decide (c.toNat < 32) && !decide (c.toNat > 126)
def prL (d : List UInt8) : Bool := decide (0 < d.length) && d.all okC
theorem all_take {d : List UInt8} {i : Nat} (h : i < d.length) : (d.take (i + 1)).all okC = ((d.take i).all okC && okC (d.getD i 0)) := by
  rw [take_s (d := 0) h]; simp
theorem all_not {d : List UInt8} {i : Nat} (h : i < d.length) (hc : okC (d.getD i 0) = false) : d.all okC = false := by
  have e : d.getD i 0 = d[i] := by simp [List.getD, h]
  rw [e] at hc
  cases hq : d.all okC
  · rfl
  · have := List.all_eq_true.1 hq _ (List.getElem_mem h)
    rw [hc] at this; cases this
def ct_prt : Ct where
  α := List UInt8
  as x := [.t (.sl (x.map byteT))]
  ins _ := []
  pre x := x.length < 1000000000
  r x := .t (.bool (prL x))
  outs _ := []
  inj := by
    intro a b h _
    simp only [List.cons.injEq, V.t.injEq, T.sl.injEq, and_true, mapB_inj] at h
    subst h; exact ⟨rfl, rfl⟩
theorem prt_eq {x : List UInt8} (h : x.length < 1000000000) : ct_prt.fs [.t (.sl (x.map byteT))] [] = some (.t (.bool (prL x)), []) := ct_prt.eq x h
theorem w_ref25_Printable (tab : Tab) (gl : Gl) (d : List UInt8) (hd : d.length < 1000000000) : ac_ref25_Printable.wp tab gl (zipF 0 [.t (.sl (d.map byteT))]) (zipF 0 []) (resW [(2, none)] 0 (fun r o => r = .t (.bool (prL d)) ∧ o = [])) := by
  simp (disch := omega) only [go_sem, Nat.reduceAdd, ac_ref25_Printable]
  refine loop_uptoP d.length (fun i => (d.take i).all okC = true) (fun i => [(0, .t (.sl (d.map byteT))), (3, .t (.int .i64 (i : Nat)))]) (fun _ => []) rfl ?_ (fun i hi hP => ?_)
  · refine Weak.rd id ?_ ?_ rfl
    all_goals simp (disch := omega) only [go_sem, ↓reduceIte, reduceCtorEq, id]
  · by_cases hlt : i < d.length
    · have hs := all_take hlt
      rw [hP, Bool.true_and] at hs
      cases hc : okC (d.getD i 0)
      · have hn := all_not hlt hc
        have hp : prL d = false := by unfold prL; rw [hn, Bool.and_false]
        by_cases c1 : (d.getD i 0).toNat < 32
        · simp (disch := omega) only [go_sem, ↓reduceIte, Nat.reduceAdd, Nat.reduceEqDiff, Nat.reduceLeDiff, reduceCtorEq, ac_ref25_Printable_L0, c1, hp]
        · have c2 : 126 < (d.getD i 0).toNat := by
            unfold okC at hc
            rw [decide_eq_false c1] at hc
            simp only [Bool.not_false, Bool.true_and, Bool.not_eq_false', decide_eq_true_eq] at hc
            exact hc
          simp (disch := omega) only [go_sem, ↓reduceIte, Nat.reduceAdd, Nat.reduceEqDiff, Nat.reduceLeDiff, reduceCtorEq, ac_ref25_Printable_L0, c1, c2, hp]
      · have hc' := hc
        unfold okC at hc'
        simp only [Bool.and_eq_true, Bool.not_eq_true', decide_eq_false_iff_not] at hc'
        obtain ⟨c1, c2⟩ := hc'
        have c3 : ¬ 126 < (d.getD i 0).toNat := c2
        rw [hc] at hs
        simp (disch := omega) only [go_sem, ↓reduceIte, Nat.reduceAdd, Nat.reduceEqDiff, Nat.reduceLeDiff, reduceCtorEq, ac_ref25_Printable_L0, c1, c2, c3]
        refine ⟨hlt, hs, Weak.rd id ?_ ?_ rfl⟩
        all_goals simp (disch := omega) only [go_sem, ↓reduceIte, reduceCtorEq, id]
    · have e : i = d.length := by omega
      subst e
      rw [List.take_length] at hP
      have hp : prL d = decide (0 < d.length) := by unfold prL; rw [hP, Bool.and_true]
      simp (disch := omega) only [go_sem, ↓reduceIte, Nat.reduceAdd, Nat.reduceEqDiff, reduceCtorEq, ac_ref25_Printable_L0, hp]
      exact decide_eq_decide.2 (by omega)
def conA (k : Int) (ds : List (List UInt8)) (d : List UInt8) (a : Nat) : Bool := decide (ds.length ≤ a) || (decide ((ds.getD a []).length = 0) || (decide (k ≠ 5) && decide (ds.getD a [] = sumA a d)))
def conD (k : Int) (ds : List (List UInt8)) (d : List UInt8) : Bool := conA k ds d 0 && conA k ds d 1
def conE (e : Ev) : Bool := if e.2.1 = 1 then true else if e.2.1 < 1 ∨ 5 < e.2.1 then false else if e.2.1 = 2 ∧ e.2.2.2 ≠ sep4 then false else if e.2.1 = 3 ∧ prL e.2.2.2 = false then false else conD e.2.1 e.2.2.1 e.2.2.2
def ct_con : Ct where
  α := Ev
  as x := [.t (evT x)]
  ins _ := []
  pre x := evM x
  r x := .t (.bool (conE x))
  outs _ := []
  inj := by
    intro a b h _
    simp only [List.cons.injEq, V.t.injEq, and_true] at h
    cases evT_inj h
    exact ⟨rfl, rfl⟩
theorem conA_z {k : Int} {ds : List (List UInt8)} {d : List UInt8} {a : Nat} (h : (ds.getD a []).length = 0) : conA k ds d a = true := by unfold conA; rw [decide_eq_true h]; simp
theorem conA_n {k : Int} {ds : List (List UInt8)} {d : List UInt8} {a : Nat} (h1 : a < ds.length) (h2 : ¬ (ds.getD a []).length = 0) : conA k ds d a = (decide (k ≠ 5) && decide (ds.getD a [] = sumA a d)) := by
  unfold conA; rw [decide_eq_false (by omega), decide_eq_false h2]; rfl
theorem conD_f {k : Int} {ds : List (List UInt8)} {d : List UInt8} {a : Nat} (ha : a < 2) (h : conA k ds d a = false) : conD k ds d = false := by
  unfold conD; rcases (show a = 0 ∨ a = 1 by omega) with rfl | rfl <;> rw [h] <;> simp
theorem minI {n : Nat} : ((Nat.min n 2 : Nat) : Int) = if 2 < (n : Int) then 2 else (n : Int) := by
  have : Nat.min n 2 = min n 2 := rfl
  split <;> omega
theorem up1 {P : Nat → Prop} {i : Nat} (h : ∀ a, a < i → P a) (hi : P i) : ∀ a, a < i + 1 → P a := by
  intro a ha
  rcases Nat.lt_or_ge a i with h1 | h1
  · exact h a h1
  · have : a = i := by omega
    subst this; exact hi
theorem w_event_Consistent (tab : Tab) (gl : Gl) (n1 n2 : Nat) (h1 : tab.look n1 = some ct_eqB.fs) (h2 : tab.look n2 = some ct_sumA.fs) (e : Ev) (hm : evM e) :
    (ac_event_Consistent n1 n2).wp tab gl (zipF 0 [.t (evT e)]) (zipF 0 []) (resW [(2, none)] 0 (fun r o => r = .t (.bool (conE e)) ∧ o = [])) := by
  obtain ⟨r, k, ds, d⟩ := e
  have hd := hm.2
  simp only at hd
  by_cases k1 : k = 1
  · subst k1
    simp (disch := omega) only [go_sem, ↓reduceIte, Nat.reduceAdd, Nat.reduceEqDiff, Nat.reduceLeDiff, reduceCtorEq, ac_event_Consistent, evT_def, conE]
  by_cases kb : k < 1 ∨ 5 < k
  · have q1 : (k == 1) = false := by simpa using k1
    have q2 : (k == 2) = false := by simpa using (by omega : ¬ k = 2)
    have q3 : (k == 3) = false := by simpa using (by omega : ¬ k = 3)
    have q4 : (k == 4) = false := by simpa using (by omega : ¬ k = 4)
    have q5 : (k == 5) = false := by simpa using (by omega : ¬ k = 5)
    have n5 : (k != 5) = true := by simpa using (by omega : ¬ k = 5)
    have n1 : (k != 1) = true := by simpa using k1
    have hr : conE (r, k, ds, d) = false := by unfold conE; simp only; rw [if_neg k1, if_pos kb]
    rw [hr]
    simp (disch := omega) only [go_sem, ↓reduceIte, Nat.reduceAdd, Nat.reduceEqDiff, Nat.reduceLeDiff, reduceCtorEq, ac_event_Consistent, evT_def, q1, q2, q3, q4, q5, n1, n5]
  have hd0 : ∀ a, (ds.getD a []).length < 1000000000 := modL_get hm.1
  have fin : ∀ (fs : Fs) (hs : Hs), conE (r, k, ds, d) = conD k ds d → Weak fs hs [(1, .ref 4096 0 0), (3, .t (.bool (decide (k ≠ 5)))), (53, .t (.int .i64 (Nat.min ds.length 2 : Nat))), (54, .t (.int .i64 0))] [(4096, .live 4 [.t (evT (r, k, ds, d))] true true)] →
      loopW tab gl (ac_event_Consistent_L1 n2 n1) fs hs (blockK 3 (seqK tab gl ((rG 114688 [mC 2 (.t (.bool true))]).seq AC.ret) (resW [(2, none)] 0 (fun r' o => r' = .t (.bool (conE (r, k, ds, d))) ∧ o = [])))) := by
    intro fs hs hE hw
    refine loopW_weak hw ?_
    rw [hE]
    refine loop_uptoP (Nat.min ds.length 2) (fun i => ∀ a, a < i → conA k ds d a = true) (fun i => [(1, .ref 4096 0 0), (3, .t (.bool (decide (k ≠ 5)))), (53, .t (.int .i64 (Nat.min ds.length 2 : Nat))), (54, .t (.int .i64 (i : Nat)))]) (fun _ => [(4096, .live 4 [.t (evT (r, k, ds, d))] true true)]) (by intro a ha; omega) ?_ (fun i hi hP => ?_)
    · refine Weak.rd id ?_ ?_ rfl
      all_goals simp (disch := omega) only [go_sem, ↓reduceIte, Nat.reduceEqDiff, id]
    · have hmin : Nat.min ds.length 2 ≤ ds.length ∧ Nat.min ds.length 2 ≤ 2 := ⟨Nat.min_le_left _ _, Nat.min_le_right _ _⟩
      have hle : Nat.min ds.length 2 = ds.length ∨ Nat.min ds.length 2 = 2 := by
        have : Nat.min ds.length 2 = min ds.length 2 := rfl
        omega
      generalize hn : Nat.min ds.length 2 = n at *
      by_cases hlt : i < n
      · have hi2 : i < ds.length := by omega
        have mi := hd0 i
        by_cases z : (ds.getD i []).length = 0
        · have hc := conA_z (k := k) (d := d) z
          simp (disch := omega) only [go_sem, ↓reduceIte, Nat.reduceAdd, Nat.reduceEqDiff, Nat.reduceLeDiff, reduceCtorEq, ac_event_Consistent_L1, evT_def, z]
          refine ⟨hlt, up1 hP hc, Weak.rd id ?_ ?_ rfl⟩
          all_goals simp (disch := omega) only [go_sem, ↓reduceIte, Nat.reduceEqDiff, id, evT_def]
        · by_cases k5 : k = 5
          · subst k5
            have hf : conD 5 ds d = false := conD_f (a := i) (by omega) (by rw [conA_n hi2 z]; simp)
            simp (disch := omega) only [go_sem, ↓reduceIte, Nat.reduceAdd, Nat.reduceEqDiff, Nat.reduceLeDiff, reduceCtorEq, ac_event_Consistent_L1, evT_def, z, hf, ne_eq]
          · have hcn := conA_n (k := k) (d := d) hi2 z
            rw [decide_eq_true k5, Bool.true_and] at hcn
            have s0 := sumA_eq0 hd
            have s1 := sumA_eq1 hd
            have l0 : (sum1 d).length = 20 := sum1_length
            have l1 : (sum256 d).length = 32 := sum256_length
            have t0 : List.take 20 (sum1 d) = sum1 d := take_sum1
            have t1 : List.take 32 (sum256 d) = sum256 d := take_sum256
            have a0 : sumA 0 d = sum1 d := rfl
            have a1 : sumA 1 d = sum256 d := rfl
            rcases (show i = 0 ∨ i = 1 by omega) with rfl | rfl
            · rw [a0] at hcn
              generalize sum1 d = S0 at *
              have hq := eqB_eq (a := ds.getD 0 []) (b := S0)
              rw [← hcn] at hq
              cases hx : conA k ds d 0
              · rw [hx] at hq
                have hf := conD_f (a := 0) (by omega) hx
                simp (disch := omega) only [go_sem, ↓reduceIte, Nat.reduceAdd, Nat.reduceEqDiff, Nat.reduceLeDiff, Int.reduceLE, reduceCtorEq, ac_event_Consistent_L1, evT_def, z, k5, h2, s0, l0, t0, h1, hq, hf, ne_eq]
                all_goals rfl
              · rw [hx] at hq
                simp (disch := omega) only [go_sem, ↓reduceIte, Nat.reduceAdd, Nat.reduceEqDiff, Nat.reduceLeDiff, Int.reduceLE, Int.reduceAdd, reduceCtorEq, ac_event_Consistent_L1, evT_def, z, k5, h2, s0, l0, t0, h1, hq, ne_eq]
                refine ⟨hlt, up1 hP hx, Weak.rd id ?_ ?_ rfl⟩
                all_goals simp (disch := omega) only [go_sem, ↓reduceIte, Nat.reduceEqDiff, id, evT_def]
            · rw [a1] at hcn
              generalize sum256 d = S0 at *
              have hq := eqB_eq (a := ds.getD 1 []) (b := S0)
              rw [← hcn] at hq
              cases hx : conA k ds d 1
              · rw [hx] at hq
                have hf := conD_f (a := 1) (by omega) hx
                simp (disch := omega) only [go_sem, ↓reduceIte, Nat.reduceAdd, Nat.reduceEqDiff, Nat.reduceLeDiff, Int.reduceLE, reduceCtorEq, ac_event_Consistent_L1, evT_def, z, k5, h2, s1, l1, t1, h1, hq, hf, ne_eq]
                all_goals rfl
              · rw [hx] at hq
                simp (disch := omega) only [go_sem, ↓reduceIte, Nat.reduceAdd, Nat.reduceEqDiff, Nat.reduceLeDiff, Int.reduceLE, Int.reduceAdd, reduceCtorEq, ac_event_Consistent_L1, evT_def, z, k5, h2, s1, l1, t1, h1, hq, ne_eq]
                refine ⟨hlt, up1 hP hx, Weak.rd id ?_ ?_ rfl⟩
                all_goals simp (disch := omega) only [go_sem, ↓reduceIte, Nat.reduceEqDiff, id, evT_def]
      · have e : i = n := by omega
        subst e
        have hc : conD k ds d = true := by
          have hA : ∀ a, a < 2 → conA k ds d a = true := by
            intro a ha
            by_cases h : a < i
            · exact hP a h
            · unfold conA; rw [decide_eq_true (by omega), Bool.true_or]
          unfold conD; rw [hA 0 (by omega), hA 1 (by omega)]; rfl
        simp (disch := omega) only [go_sem, ↓reduceIte, Nat.reduceAdd, Nat.reduceEqDiff, ac_event_Consistent_L1, hc]
  rcases (show k = 2 ∨ k = 3 ∨ k = 4 ∨ k = 5 by omega) with rfl | rfl | rfl | rfl
  · by_cases hs : d = sep4
    · have hq : ct_eqB.fs [.t (.sl (d.map byteT)), .t (.sl [byteT 0, byteT 0, byteT 0, byteT 0])] [] = some (.t (.bool true), []) := by
        have := eqB_eq (a := d) (b := sep4)
        rw [decide_eq_true hs] at this
        exact this
      simp (disch := omega) only [go_sem, ↓reduceIte, Nat.reduceAdd, Nat.reduceEqDiff, Nat.reduceLeDiff, Int.reduceLE, reduceCtorEq, ac_event_Consistent, evT_def, h1, hq]
      repeat refine And.intro rfl ?_
      refine fin _ _ (by unfold conE; simp [hs]) (Weak.rd id ?_ ?_ rfl)
      all_goals simp (disch := omega) only [go_sem, ↓reduceIte, Nat.reduceEqDiff, id, evT_def, minI]
    · have hq : ct_eqB.fs [.t (.sl (d.map byteT)), .t (.sl [byteT 0, byteT 0, byteT 0, byteT 0])] [] = some (.t (.bool false), []) := by
        have := eqB_eq (a := d) (b := sep4)
        rw [decide_eq_false hs] at this
        exact this
      have hr : conE (r, 2, ds, d) = false := by unfold conE; simp [hs]
      rw [hr]
      simp (disch := omega) only [go_sem, ↓reduceIte, Nat.reduceAdd, Nat.reduceEqDiff, Nat.reduceLeDiff, Int.reduceLE, reduceCtorEq, ac_event_Consistent, evT_def, h1, hq]
      all_goals rfl
  · by_cases hz : d.length = 0
    · have hp : prL d = false := by unfold prL; rw [decide_eq_false (by omega)]; rfl
      have hr : conE (r, 3, ds, d) = false := by unfold conE; simp [hp]
      rw [hr]
      simp (disch := omega) only [go_sem, ↓reduceIte, Nat.reduceAdd, Nat.reduceEqDiff, Nat.reduceLeDiff, reduceCtorEq, ac_event_Consistent, evT_def, hz]
    · have hzi : ((d.length : Int) == 0) = false := by simpa using (by omega : ¬ (d.length : Int) = 0)
      have hp : prL d = d.all okC := by unfold prL; rw [decide_eq_true (by omega)]; rfl
      simp (disch := omega) only [go_sem, ↓reduceIte, Nat.reduceAdd, Nat.reduceEqDiff, Nat.reduceLeDiff, reduceCtorEq, ac_event_Consistent, evT_def, hz, hzi]
      refine loop_uptoP d.length (fun i => (d.take i).all okC = true) (fun i => [(1, .ref 4096 0 0), (3, .t (.bool true)), (34, .t (.sl (d.map byteT))), (35, .t (.int .i64 d.length)), (36, .t (.int .i64 (i : Nat)))]) (fun _ => [(4096, .live 4 [.t (evT (r, 3, ds, d))] true true)]) rfl ?_ (fun i hi hP => ?_)
      · refine Weak.rd id ?_ ?_ rfl
        all_goals simp (disch := omega) only [go_sem, ↓reduceIte, Nat.reduceEqDiff, id, evT_def]
      · by_cases hlt : i < d.length
        · have hs := all_take hlt
          rw [hP, Bool.true_and] at hs
          cases hc : okC (d.getD i 0)
          · have hn := all_not hlt hc
            have hr : conE (r, 3, ds, d) = false := by unfold conE; simp [hp, hn]
            by_cases c1 : (d.getD i 0).toNat < 32
            · simp (disch := omega) only [go_sem, ↓reduceIte, Nat.reduceAdd, Nat.reduceEqDiff, Nat.reduceLeDiff, ac_event_Consistent_L0, c1, hr]
            · have c2 : 126 < (d.getD i 0).toNat := by
                unfold okC at hc
                rw [decide_eq_false c1] at hc
                simp only [Bool.not_false, Bool.true_and, Bool.not_eq_false', decide_eq_true_eq] at hc
                exact hc
              simp (disch := omega) only [go_sem, ↓reduceIte, Nat.reduceAdd, Nat.reduceEqDiff, Nat.reduceLeDiff, ac_event_Consistent_L0, c1, c2, hr]
          · have hc' := hc
            unfold okC at hc'
            simp only [Bool.and_eq_true, Bool.not_eq_true', decide_eq_false_iff_not] at hc'
            obtain ⟨c1, c2⟩ := hc'
            have c3 : ¬ 126 < (d.getD i 0).toNat := c2
            rw [hc] at hs
            simp (disch := omega) only [go_sem, ↓reduceIte, Nat.reduceAdd, Nat.reduceEqDiff, Nat.reduceLeDiff, ac_event_Consistent_L0, c1, c2, c3]
            refine ⟨hlt, hs, Weak.rd id ?_ ?_ rfl⟩
            all_goals simp (disch := omega) only [go_sem, ↓reduceIte, Nat.reduceEqDiff, id, evT_def]
        · have e : i = d.length := by omega
          subst e
          rw [List.take_length] at hP
          have hr : conE (r, 3, ds, d) = conD 3 ds d := by unfold conE; simp [hp, hP]
          simp (disch := omega) only [go_sem, ↓reduceIte, Nat.reduceAdd, Nat.reduceEqDiff, Nat.reduceLeDiff, reduceCtorEq, ac_event_Consistent_L0, evT_def]
          refine fin _ _ hr (Weak.rd id ?_ ?_ rfl)
          all_goals simp (disch := omega) only [go_sem, ↓reduceIte, Nat.reduceEqDiff, id, evT_def, minI]
  · have hr : conE (r, 4, ds, d) = conD 4 ds d := by unfold conE; simp
    simp (disch := omega) only [go_sem, ↓reduceIte, Nat.reduceAdd, Nat.reduceEqDiff, Nat.reduceLeDiff, reduceCtorEq, ac_event_Consistent, evT_def]
    refine fin _ _ hr (Weak.rd id ?_ ?_ rfl)
    all_goals simp (disch := omega) only [go_sem, ↓reduceIte, Nat.reduceEqDiff, id, evT_def, minI]
  · have hr : conE (r, 5, ds, d) = conD 5 ds d := by unfold conE; simp
    simp (disch := omega) only [go_sem, ↓reduceIte, Nat.reduceAdd, Nat.reduceEqDiff, Nat.reduceLeDiff, reduceCtorEq, ac_event_Consistent, evT_def]
    refine fin _ _ hr (Weak.rd id ?_ ?_ rfl)
    all_goals simp (disch := omega) only [go_sem, ↓reduceIte, Nat.reduceEqDiff, id, evT_def, minI]
theorem w_ref25_Consistent (tab : Tab) (gl : Gl) (n1 n2 n3 n4 : Nat) (h1 : tab.look n1 = some ct_sep.fs) (h2 : tab.look n2 = some ct_same.fs) (h3 : tab.look n3 = some ct_prt.fs) (h4 : tab.look n4 = some ct_sumA.fs) (e : Ev) (hm : evM e) :
    (ac_ref25_Consistent n1 n2 n3 n4).wp tab gl (zipF 0 [.t (evT e)]) (zipF 0 []) (resW [(2, none)] 0 (fun r o => r = .t (.bool (conE e)) ∧ o = [])) := by
  obtain ⟨r, k, ds, d⟩ := e
  have hd := hm.2
  simp only at hd
  by_cases k1 : k = 1
  · subst k1
    simp (disch := omega) only [go_sem, ↓reduceIte, Nat.reduceAdd, Nat.reduceEqDiff, Nat.reduceLeDiff, reduceCtorEq, ac_ref25_Consistent, evT_def, conE]
  have q1 : (k == 1) = false := by simpa using k1
  by_cases kb : k < 1 ∨ 5 < k
  · have hr : conE (r, k, ds, d) = false := by unfold conE; simp only; rw [if_neg k1, if_pos kb]
    rw [hr]
    by_cases c1 : k < 1
    · simp (disch := omega) only [go_sem, ↓reduceIte, Nat.reduceAdd, Nat.reduceEqDiff, Nat.reduceLeDiff, reduceCtorEq, ac_ref25_Consistent, evT_def, q1, c1]
    · have c2 : 5 < k := by omega
      simp (disch := omega) only [go_sem, ↓reduceIte, Nat.reduceAdd, Nat.reduceEqDiff, Nat.reduceLeDiff, reduceCtorEq, ac_ref25_Consistent, evT_def, q1, c1, c2]
  have hd0 : ∀ a, (ds.getD a []).length < 1000000000 := modL_get hm.1
  have fin : ∀ (fs : Fs) (hs : Hs), conE (r, k, ds, d) = conD k ds d → Weak fs hs [(1, .ref 4096 0 0), (3, .t (.int .i64 0))] [(4096, .live 4 [.t (evT (r, k, ds, d))] true true)] →
      loopW tab gl (ac_ref25_Consistent_L0 n4 n2) fs hs (blockK 0 (seqK tab gl ((rG 53248 [mC 2 (.t (.bool true))]).seq AC.ret) (resW [(2, none)] 0 (fun r' o => r' = .t (.bool (conE (r, k, ds, d))) ∧ o = [])))) := by
    intro fs hs hE hw
    refine loopW_weak hw ?_
    rw [hE]
    refine loop_uptoP (Nat.min ds.length 2) (fun i => ∀ a, a < i → conA k ds d a = true) (fun i => [(1, .ref 4096 0 0), (3, .t (.int .i64 (i : Nat)))]) (fun _ => [(4096, .live 4 [.t (evT (r, k, ds, d))] true true)]) (by intro a ha; omega) ?_ (fun i hi hP => ?_)
    · refine Weak.rd id ?_ ?_ rfl
      all_goals simp (disch := omega) only [go_sem, ↓reduceIte, Nat.reduceEqDiff, id]
    · have hmin : Nat.min ds.length 2 ≤ ds.length ∧ Nat.min ds.length 2 ≤ 2 := ⟨Nat.min_le_left _ _, Nat.min_le_right _ _⟩
      have hle : Nat.min ds.length 2 = ds.length ∨ Nat.min ds.length 2 = 2 := by
        have : Nat.min ds.length 2 = min ds.length 2 := rfl
        omega
      generalize hn : Nat.min ds.length 2 = n at *
      by_cases hlt : i < n
      · have hi2 : i < ds.length := by omega
        have i2 : (i : Int) < 2 := by omega
        have mi := hd0 i
        by_cases z : (ds.getD i []).length = 0
        · have hc := conA_z (k := k) (d := d) z
          simp (disch := omega) only [go_sem, ↓reduceIte, Nat.reduceAdd, Nat.reduceEqDiff, Nat.reduceLeDiff, reduceCtorEq, ac_ref25_Consistent_L0, evT_def, z, i2]
          refine ⟨rfl, hlt, up1 hP hc, Weak.rd id ?_ ?_ rfl⟩
          all_goals simp (disch := omega) only [go_sem, ↓reduceIte, Nat.reduceEqDiff, id, evT_def]
        · by_cases k5 : k = 5
          · subst k5
            have hf : conD 5 ds d = false := conD_f (a := i) (by omega) (by rw [conA_n hi2 z]; simp)
            simp (disch := omega) only [go_sem, ↓reduceIte, Nat.reduceAdd, Nat.reduceEqDiff, Nat.reduceLeDiff, reduceCtorEq, ac_ref25_Consistent_L0, evT_def, z, hf, i2, ne_eq]
            all_goals rfl
          · have hcn := conA_n (k := k) (d := d) hi2 z
            rw [decide_eq_true k5, Bool.true_and] at hcn
            have k5b : (k == 5) = false := by simpa using k5
            have s0 := sumA_eq0 hd
            have s1 := sumA_eq1 hd
            have l0 : (sum1 d).length = 20 := sum1_length
            have l1 : (sum256 d).length = 32 := sum256_length
            have t0 : List.take 20 (sum1 d) = sum1 d := take_sum1
            have t1 : List.take 32 (sum256 d) = sum256 d := take_sum256
            have a0 : sumA 0 d = sum1 d := rfl
            have a1 : sumA 1 d = sum256 d := rfl
            rcases (show i = 0 ∨ i = 1 by omega) with rfl | rfl
            · rw [a0] at hcn
              generalize sum1 d = S0 at *
              have hq := same_eq (a := ds.getD 0 []) (b := S0) ⟨mi, by omega⟩
              rw [← hcn] at hq
              cases hx : conA k ds d 0
              · rw [hx] at hq
                have hf := conD_f (a := 0) (by omega) hx
                simp (disch := omega) only [go_sem, ↓reduceIte, Nat.reduceAdd, Nat.reduceEqDiff, Nat.reduceLeDiff, Int.reduceLT, Int.reduceLE, reduceCtorEq, ac_ref25_Consistent_L0, evT_def, z, k5b, h4, s0, l0, t0, h2, hq, hf, ne_eq]
                all_goals rfl
              · rw [hx] at hq
                simp (disch := omega) only [go_sem, ↓reduceIte, Nat.reduceAdd, Nat.reduceEqDiff, Nat.reduceLeDiff, Int.reduceLT, Int.reduceLE, Int.reduceAdd, reduceCtorEq, ac_ref25_Consistent_L0, evT_def, z, k5b, h4, s0, l0, t0, h2, hq, ne_eq]
                refine ⟨rfl, hlt, up1 hP hx, Weak.rd id ?_ ?_ rfl⟩
                all_goals simp (disch := omega) only [go_sem, ↓reduceIte, Nat.reduceEqDiff, id, evT_def]
            · rw [a1] at hcn
              generalize sum256 d = S0 at *
              have hq := same_eq (a := ds.getD 1 []) (b := S0) ⟨mi, by omega⟩
              rw [← hcn] at hq
              cases hx : conA k ds d 1
              · rw [hx] at hq
                have hf := conD_f (a := 1) (by omega) hx
                simp (disch := omega) only [go_sem, ↓reduceIte, Nat.reduceAdd, Nat.reduceEqDiff, Nat.reduceLeDiff, Int.reduceLT, Int.reduceLE, reduceCtorEq, ac_ref25_Consistent_L0, evT_def, z, k5b, h4, s1, l1, t1, h2, hq, hf, ne_eq]
                all_goals rfl
              · rw [hx] at hq
                simp (disch := omega) only [go_sem, ↓reduceIte, Nat.reduceAdd, Nat.reduceEqDiff, Nat.reduceLeDiff, Int.reduceLT, Int.reduceLE, Int.reduceAdd, reduceCtorEq, ac_ref25_Consistent_L0, evT_def, z, k5b, h4, s1, l1, t1, h2, hq, ne_eq]
                refine ⟨rfl, hlt, up1 hP hx, Weak.rd id ?_ ?_ rfl⟩
                all_goals simp (disch := omega) only [go_sem, ↓reduceIte, Nat.reduceEqDiff, id, evT_def]
      · have e : i = n := by omega
        subst e
        have hc : conD k ds d = true := by
          have hA : ∀ a, a < 2 → conA k ds d a = true := by
            intro a ha
            by_cases h : a < i
            · exact hP a h
            · unfold conA; rw [decide_eq_true (by omega), Bool.true_or]
          unfold conD; rw [hA 0 (by omega), hA 1 (by omega)]; rfl
        by_cases i2 : (i : Int) < 2
        · have i3 : ¬ (i : Int) < (ds.length : Int) := by omega
          simp (disch := omega) only [go_sem, ↓reduceIte, Nat.reduceAdd, Nat.reduceEqDiff, Nat.reduceLeDiff, reduceCtorEq, ac_ref25_Consistent_L0, evT_def, hc, i2, i3]
        · simp (disch := omega) only [go_sem, ↓reduceIte, Nat.reduceAdd, Nat.reduceEqDiff, ac_ref25_Consistent_L0, evT_def, hc, i2]
  have hp := prt_eq hd
  have l4 : sep4.length = 4 := rfl
  have t4 : List.take 4 sep4 = sep4 := rfl
  have hs4 := same_eq (a := d) (b := sep4) ⟨hd, by rw [l4]; decide⟩
  have hsp := sep_eq
  have hr2 : conE (r, 2, ds, d) = (decide (d = sep4) && conD 2 ds d) := by unfold conE; by_cases h : d = sep4 <;> simp [h]
  have hr3 : conE (r, 3, ds, d) = (prL d && conD 3 ds d) := by unfold conE; cases h : prL d <;> simp [h]
  generalize sep4 = P4 at *
  rcases (show k = 2 ∨ k = 3 ∨ k = 4 ∨ k = 5 by omega) with rfl | rfl | rfl | rfl
  · by_cases hs : d = P4
    · rw [decide_eq_true hs] at hs4 hr2
      rw [Bool.true_and] at hr2
      simp (disch := omega) only [go_sem, ↓reduceIte, Nat.reduceAdd, Nat.reduceEqDiff, Nat.reduceLeDiff, Int.reduceLT, reduceCtorEq, ac_ref25_Consistent, evT_def, h1, hsp, l4, t4, h2, hs4]
      refine ⟨rfl, fin _ _ hr2 (Weak.rd id ?_ ?_ rfl)⟩
      all_goals simp (disch := omega) only [go_sem, ↓reduceIte, Nat.reduceEqDiff, id, evT_def]
    · rw [decide_eq_false hs] at hs4 hr2
      rw [Bool.false_and] at hr2
      rw [hr2]
      simp (disch := omega) only [go_sem, ↓reduceIte, Nat.reduceAdd, Nat.reduceEqDiff, Nat.reduceLeDiff, Int.reduceLT, reduceCtorEq, ac_ref25_Consistent, evT_def, h1, hsp, l4, t4, h2, hs4]
      rfl
  · cases hq : prL d
    · rw [hq] at hp hr3
      rw [Bool.false_and] at hr3
      rw [hr3]
      simp (disch := omega) only [go_sem, ↓reduceIte, Nat.reduceAdd, Nat.reduceEqDiff, Nat.reduceLeDiff, Int.reduceLT, reduceCtorEq, ac_ref25_Consistent, evT_def, h3, hp]
      rfl
    · rw [hq] at hp hr3
      rw [Bool.true_and] at hr3
      simp (disch := omega) only [go_sem, ↓reduceIte, Nat.reduceAdd, Nat.reduceEqDiff, Nat.reduceLeDiff, Int.reduceLT, reduceCtorEq, ac_ref25_Consistent, evT_def, h3, hp]
      refine ⟨rfl, fin _ _ hr3 (Weak.rd id ?_ ?_ rfl)⟩
      all_goals simp (disch := omega) only [go_sem, ↓reduceIte, Nat.reduceEqDiff, id, evT_def]
  · have hr : conE (r, 4, ds, d) = conD 4 ds d := by unfold conE; simp
    simp (disch := omega) only [go_sem, ↓reduceIte, Nat.reduceAdd, Nat.reduceEqDiff, Nat.reduceLeDiff, Int.reduceLT, reduceCtorEq, ac_ref25_Consistent, evT_def]
    repeat refine And.intro rfl ?_
    refine fin _ _ hr (Weak.rd id ?_ ?_ rfl)
    all_goals simp (disch := omega) only [go_sem, ↓reduceIte, Nat.reduceEqDiff, id, evT_def]
  · have hr : conE (r, 5, ds, d) = conD 5 ds d := by unfold conE; simp
    simp (disch := omega) only [go_sem, ↓reduceIte, Nat.reduceAdd, Nat.reduceEqDiff, Nat.reduceLeDiff, Int.reduceLT, reduceCtorEq, ac_ref25_Consistent, evT_def]
    repeat refine And.intro rfl ?_
    refine fin _ _ hr (Weak.rd id ?_ ?_ rfl)
    all_goals simp (disch := omega) only [go_sem, ↓reduceIte, Nat.reduceEqDiff, id, evT_def]
end Go.Eng
end
section
set_option maxRecDepth 20000
set_option maxHeartbeats 64000000
namespace Go.Eng
def blL (b x : List UInt8) : List UInt8 := b ++ beI 2 (x.length : Int) 2 ++ x
theorem blL_len {b x : List UInt8} : (blL b x).length = b.length + 2 + x.length := by unfold blL; rw [List.length_append, List.length_append, beI_len]
def ct_blob : Ct where
  α := List UInt8 × List UInt8
  as x := [.t (.sl (x.1.map byteT)), .t (.sl (x.2.map byteT))]
  ins _ := []
  pre x := x.1.length < 100000000 ∧ x.2.length ≤ 65535
  r x := .sl 0 0 (x.1.length + 2 + x.2.length)
  outs x := [.live 1 (((blL x.1 x.2).map byteT).map V.t) true false]
  inj := by
    rintro ⟨a, b⟩ ⟨c, d⟩ h _
    simp only [List.cons.injEq, V.t.injEq, T.sl.injEq, and_true, mapB_inj] at h
    obtain ⟨rfl, rfl⟩ := h
    exact ⟨rfl, rfl⟩
theorem blob_eq {b x : List UInt8} (h : b.length < 100000000 ∧ x.length ≤ 65535) : ct_blob.fs [.t (.sl (b.map byteT)), .t (.sl (x.map byteT))] [] = some (.sl 0 0 (b.length + 2 + x.length), [.live 1 (((blL b x).map byteT).map V.t) true false]) := ct_blob.eq (b, x) h
theorem w_wire_Blob (tab : Tab) (gl : Gl) (n1 : Nat) (h1 : tab.look n1 = some ct_uint.fs) (b x : List UInt8) (hb : b.length < 100000000) (hx : x.length ≤ 65535) :
    (ac_wire_Blob n1).wp tab gl (zipF 0 [.t (.sl (b.map byteT)), .t (.sl (x.map byteT))]) (zipF 0 []) (resF [] [(4, none)] 0 (fun r o => r = .sl 0 0 (b.length + 2 + x.length) ∧ o = [.live 1 (((blL b x).map byteT).map V.t) true false])) := by
  have hu := uint2 (b := b) (n := (x.length : Int)) (by omega)
  have hl : (b ++ beI 2 (x.length : Int) 2).length = b.length + 2 := by rw [List.length_append, beI_len]
  have hbl : blL b x = b ++ beI 2 (x.length : Int) 2 ++ x := rfl
  have hno : ¬ 65535 < (x.length : Int) := by omega
  rw [hbl]
  generalize b ++ beI 2 (x.length : Int) 2 = B at *
  simp (disch := omega) only [go_sem, ↓reduceIte, Nat.reduceAdd, Nat.reduceEqDiff, Nat.reduceLeDiff, Int.reduceLE, reduceCtorEq, ac_wire_Blob, h1, hu, hl, hno, List.take_length]
theorem w_ref3_Blob (tab : Tab) (gl : Gl) (n1 : Nat) (h1 : tab.look n1 = some ct_uint.fs) (b x : List UInt8) (hb : b.length < 100000000) (hx : x.length ≤ 65535) :
    (ac_ref3_Blob n1).wp tab gl (zipF 0 [.t (.sl (b.map byteT)), .t (.sl (x.map byteT))]) (zipF 0 []) (resF [] [(4, none)] 0 (fun r o => r = .sl 0 0 (b.length + 2 + x.length) ∧ o = [.live 1 (((blL b x).map byteT).map V.t) true false])) := by
  have hu := uint2 (b := b) (n := (x.length : Int)) (by omega)
  have hl : (b ++ beI 2 (x.length : Int) 2).length = b.length + 2 := by rw [List.length_append, beI_len]
  have hbl : blL b x = b ++ beI 2 (x.length : Int) 2 ++ x := rfl
  have hno : ¬ 65535 < (x.length : Int) := by omega
  rw [hbl]
  generalize b ++ beI 2 (x.length : Int) 2 = B at *
  simp (disch := omega) only [go_sem, ↓reduceIte, Nat.reduceAdd, Nat.reduceEqDiff, Nat.reduceLeDiff, reduceCtorEq, ac_ref3_Blob, h1, hu, hl, hno, List.take_length]
def wrBad (r k : Int) (n m : Nat) : Prop := r < 0 ∨ 11 < r ∨ k < 1 ∨ 5 < k ∨ n ≠ 2 ∨ 64 < m
instance {r k : Int} {n m : Nat} : Decidable (wrBad r k n m) := by unfold wrBad; infer_instance
def wrE (e : Ev) : Bool := !decide (wrBad e.1 e.2.1 e.2.2.1.length e.2.2.2.length) && (decide ((e.2.2.1.getD 0 []).length ≤ 32) && decide ((e.2.2.1.getD 1 []).length ≤ 32))
def ct_wr : Ct where
  α := Ev
  as x := [.t (evT x)]
  ins _ := []
  pre x := evM x
  r x := .t (.bool (wrE x))
  outs _ := []
  inj := by
    intro a b h _
    simp only [List.cons.injEq, V.t.injEq, and_true] at h
    cases evT_inj h
    exact ⟨rfl, rfl⟩
theorem wr_eq {a b : Int} {c : List (List UInt8)} {d : List UInt8} (h : evM (a, b, c, d)) : ct_wr.fs [.t (.agg [.int .i64 a, .int .i64 b, .sl (c.map bsT), .sl (d.map byteT)])] [] = some (.t (.bool (wrE (a, b, c, d))), []) := ct_wr.eq (a, b, c, d) h
theorem wrE_two {r k : Int} {d0 d1 d : List UInt8} (h : ¬ wrBad r k 2 d.length) : wrE (r, k, [d0, d1], d) = (decide (d0.length ≤ 32) && decide (d1.length ≤ 32)) := by
  unfold wrE
  simp only [List.length_cons, List.length_nil]
  rw [decide_eq_false h]; rfl
theorem wrE_bad {r k : Int} {ds : List (List UInt8)} {d : List UInt8} (h : wrBad r k ds.length d.length) : wrE (r, k, ds, d) = false := by
  unfold wrE
  rw [decide_eq_true h]; rfl
theorem w_event_encodable (tab : Tab) (gl : Gl) (n1 : Nat) (h1 : tab.look n1 = some ct_size.fs) (e : Ev) (hm : evM e) :
    (ac_event_encodable n1).wp tab gl (zipF 0 [.t (evT e)]) (zipF 0 []) (resW [(2, none)] 0 (fun r o => r = .t (.bool (wrE e)) ∧ o = [])) := by
  obtain ⟨r, k, ds, d⟩ := e
  have hl := hm.2
  have hd := hm.1.1
  simp only at hl hd
  by_cases hb : wrBad r k ds.length d.length
  · rw [wrE_bad hb]
    by_cases c1 : r < 0
    · simp (disch := omega) only [go_sem, ↓reduceIte, Nat.reduceAdd, Nat.reduceEqDiff, Nat.reduceLeDiff, ac_event_encodable, evT_def, c1]
    by_cases c2 : 11 < r
    · simp (disch := omega) only [go_sem, ↓reduceIte, Nat.reduceAdd, Nat.reduceEqDiff, Nat.reduceLeDiff, ac_event_encodable, evT_def, c1, c2]
    by_cases c3 : k < 1
    · simp (disch := omega) only [go_sem, ↓reduceIte, Nat.reduceAdd, Nat.reduceEqDiff, Nat.reduceLeDiff, reduceCtorEq, ac_event_encodable, evT_def, c1, c2, c3]
    by_cases c4 : 5 < k
    · simp (disch := omega) only [go_sem, ↓reduceIte, Nat.reduceAdd, Nat.reduceEqDiff, Nat.reduceLeDiff, reduceCtorEq, ac_event_encodable, evT_def, c1, c2, c3, c4]
    by_cases c5 : ds.length = 2
    · have c6 : 64 < d.length := by unfold wrBad at hb; omega
      simp (disch := omega) only [go_sem, ↓reduceIte, Nat.reduceAdd, Nat.reduceEqDiff, Nat.reduceLeDiff, reduceCtorEq, ac_event_encodable, evT_def, c1, c2, c3, c4, c5, c6]
    · have c9 : ((ds.length : Int) != 2) = true := by simpa using (by omega : ¬ (ds.length : Int) = 2)
      simp (disch := omega) only [go_sem, ↓reduceIte, Nat.reduceAdd, Nat.reduceEqDiff, Nat.reduceLeDiff, reduceCtorEq, ac_event_encodable, evT_def, c1, c2, c3, c4, c9]
  · have hb' := hb
    unfold wrBad at hb'
    have c1 : ¬ r < 0 := by omega
    have c2 : ¬ 11 < r := by omega
    have c3 : ¬ k < 1 := by omega
    have c4 : ¬ 5 < k := by omega
    have c6 : ¬ 64 < d.length := by omega
    have c5 : ds.length = 2 := by omega
    obtain ⟨d0, d1, rfl⟩ := len2 c5
    have m0 := hm.1.2 d0 (by simp)
    have m1 := hm.1.2 d1 (by simp)
    rw [wrE_two hb]
    by_cases l0 : d0.length ≤ 32 <;> by_cases l1 : d1.length ≤ 32
    all_goals simp (disch := omega) only [go_sem, ↓reduceIte, Nat.reduceAdd, Nat.reduceEqDiff, Nat.reduceLeDiff, reduceCtorEq, ac_event_encodable, evT_def, c1, c2, c3, c4, c6, List.map_cons, List.map_nil]
    all_goals refine loop_fuel 3 ?_
    all_goals simp (disch := omega) only [go_sem, ↓reduceIte, Nat.reduceAdd, Nat.reduceEqDiff, Nat.reduceLeDiff, Int.reduceLT, Int.reduceLE, Int.reduceAdd, loopN_succ, ac_event_encodable_L0, h1, size_eq1, l0, l1]
theorem w_ref25_Writable (tab : Tab) (gl : Gl) (e : Ev) (hm : evM e) :
    ac_ref25_Writable.wp tab gl (zipF 0 [.t (evT e)]) (zipF 0 []) (resW [(2, none)] 0 (fun r o => r = .t (.bool (wrE e)) ∧ o = [])) := by
  obtain ⟨r, k, ds, d⟩ := e
  have hl := hm.2
  have hd := hm.1.1
  simp only at hl hd
  by_cases hb : wrBad r k ds.length d.length
  · rw [wrE_bad hb]
    by_cases c1 : r < 0
    · simp (disch := omega) only [go_sem, ↓reduceIte, Nat.reduceAdd, Nat.reduceEqDiff, Nat.reduceLeDiff, ac_ref25_Writable, evT_def, c1]
    by_cases c2 : 11 < r
    · simp (disch := omega) only [go_sem, ↓reduceIte, Nat.reduceAdd, Nat.reduceEqDiff, Nat.reduceLeDiff, ac_ref25_Writable, evT_def, c1, c2]
    by_cases c3 : k < 1
    · simp (disch := omega) only [go_sem, ↓reduceIte, Nat.reduceAdd, Nat.reduceEqDiff, Nat.reduceLeDiff, reduceCtorEq, ac_ref25_Writable, evT_def, c1, c2, c3]
    by_cases c4 : 5 < k
    · simp (disch := omega) only [go_sem, ↓reduceIte, Nat.reduceAdd, Nat.reduceEqDiff, Nat.reduceLeDiff, reduceCtorEq, ac_ref25_Writable, evT_def, c1, c2, c3, c4]
    by_cases c6 : 64 < d.length
    · simp (disch := omega) only [go_sem, ↓reduceIte, Nat.reduceAdd, Nat.reduceEqDiff, Nat.reduceLeDiff, reduceCtorEq, ac_ref25_Writable, evT_def, c1, c2, c3, c4, c6]
    · have c5 : ¬ ds.length = 2 := by unfold wrBad at hb; omega
      have c9 : ((ds.length : Int) != 2) = true := by simpa using (by omega : ¬ (ds.length : Int) = 2)
      simp (disch := omega) only [go_sem, ↓reduceIte, Nat.reduceAdd, Nat.reduceEqDiff, Nat.reduceLeDiff, reduceCtorEq, ac_ref25_Writable, evT_def, c1, c2, c3, c4, c6, c9]
  · have hb' := hb
    unfold wrBad at hb'
    have c1 : ¬ r < 0 := by omega
    have c2 : ¬ 11 < r := by omega
    have c3 : ¬ k < 1 := by omega
    have c4 : ¬ 5 < k := by omega
    have c6 : ¬ 64 < d.length := by omega
    have c5 : ds.length = 2 := by omega
    obtain ⟨d0, d1, rfl⟩ := len2 c5
    have m0 := hm.1.2 d0 (by simp)
    have m1 := hm.1.2 d1 (by simp)
    rw [wrE_two hb]
    by_cases l0 : d0.length ≤ 32 <;> by_cases l1 : d1.length ≤ 32
    all_goals simp (disch := omega) only [go_sem, ↓reduceIte, Nat.reduceAdd, Nat.reduceEqDiff, Nat.reduceLeDiff, Int.reduceLE, reduceCtorEq, ac_ref25_Writable, evT_def, c1, c2, c3, c4, c6, l0, l1, List.map_cons, List.map_nil]
def encE (e : Ev) : List UInt8 := blL (blL (blL (beI 1 e.1 1 ++ beI 1 e.2.1 1) (e.2.2.1.getD 0 [])) (e.2.2.1.getD 1 [])) e.2.2.2
def encE' (e : Ev) : List UInt8 := if wrE e then encE e else []
def ct_encE : Ct where
  α := Ev
  as x := [.t (evT x)]
  ins _ := []
  pre x := evM x
  r x := .t (.sl ((encE' x).map byteT))
  outs _ := []
  inj := by
    intro a b h _
    simp only [List.cons.injEq, V.t.injEq, and_true] at h
    cases evT_inj h
    exact ⟨rfl, rfl⟩
theorem encE_eq {a b : Int} {c : List (List UInt8)} {d : List UInt8} (h : evM (a, b, c, d)) : ct_encE.fs [.t (.agg [.int .i64 a, .int .i64 b, .sl (c.map bsT), .sl (d.map byteT)])] [] = some (.t (.sl ((encE' (a, b, c, d)).map byteT)), []) := ct_encE.eq (a, b, c, d) h
def ct_encX : Ct where
  α := Ev
  as x := [.t (evT x)]
  ins _ := []
  pre x := evM x
  r x := if wrE x then .sl 0 0 (encE x).length else .nil
  outs x := if wrE x then [.live 1 (((encE x).map byteT).map V.t) true false] else []
  inj := by
    intro a b h _
    simp only [List.cons.injEq, V.t.injEq, and_true] at h
    cases evT_inj h
    exact ⟨rfl, rfl⟩
theorem uint1 {b : List UInt8} {n : Int} (hb : b.length < 1000000000) : ct_uint.fs [.t (.sl (b.map byteT)), .t (.int .i64 1), .t (.int .i64 n)] [] = some (.sl 0 0 (b.length + 1), [.live 1 (((b ++ beI 1 n 1).map byteT).map V.t) true false]) := ct_uint.eq (b, 1, n) ⟨hb, Nat.le_refl 1, by show 1 ≤ 8; omega⟩
theorem wrE_true {r k : Int} {ds : List (List UInt8)} {d : List UInt8} (h : wrE (r, k, ds, d) = true) : (0 ≤ r ∧ r ≤ 11) ∧ (1 ≤ k ∧ k ≤ 5) ∧ d.length ≤ 64 ∧ ∃ d0 d1, ds = [d0, d1] ∧ d0.length ≤ 32 ∧ d1.length ≤ 32 := by
  by_cases hb : wrBad r k ds.length d.length
  · rw [wrE_bad hb] at h; cases h
  · have hb' := hb
    unfold wrBad at hb'
    obtain ⟨d0, d1, rfl⟩ := len2 (show ds.length = 2 by omega)
    rw [wrE_two hb] at h
    simp only [Bool.and_eq_true, decide_eq_true_eq] at h
    exact ⟨by omega, by omega, by omega, d0, d1, rfl, h.1, h.2⟩
theorem encE_two {r k : Int} {d0 d1 d : List UInt8} : encE (r, k, [d0, d1], d) = blL (blL (blL (beI 1 r 1 ++ beI 1 k 1) d0) d1) d := rfl
theorem w_event_Encode (tab : Tab) (gl : Gl) (n1 n2 n3 : Nat) (h1 : tab.look n1 = some ct_wr.fs) (h2 : tab.look n2 = some ct_uint.fs) (h3 : tab.look n3 = some ct_blob.fs) (e : Ev) (hm : evM e) :
    (ac_event_Encode n1 n2 n3).wp tab gl (zipF 0 [.t (evT e)]) (zipF 0 []) (resW [(2, none)] 0 (fun r o => r = .t (.sl ((encE' e).map byteT)) ∧ o = [])) := by
  obtain ⟨r, k, ds, d⟩ := e
  have hw := wr_eq hm
  unfold encE'
  cases hq : wrE (r, k, ds, d)
  · rw [hq] at hw
    simp (disch := omega) only [go_sem, ↓reduceIte, Nat.reduceAdd, Nat.reduceEqDiff, Nat.reduceLeDiff, ac_event_Encode, evT_def, h1, hw, List.map_nil]
  · rw [hq] at hw
    obtain ⟨_, _, hd, d0, d1, rfl, q0, q1⟩ := wrE_true hq
    simp only [List.map_cons, List.map_nil, bsT_def] at hw
    have u0 : ct_uint.fs [.t (.sl []), .t (.int .i64 1), .t (.int .i64 r)] [] = some (.sl 0 0 1, [.live 1 (((beI 1 r 1).map byteT).map V.t) true false]) := uint1 (b := []) (by decide)
    have u1 := uint1 (b := beI 1 r 1) (n := k) (by rw [beI_len]; decide)
    have z1 : (beI 1 r 1).length = 1 := beI_len
    have t1 : List.take 1 (beI 1 r 1) = beI 1 r 1 := List.take_of_length_le (by omega)
    have zB : (beI 1 r 1 ++ beI 1 k 1).length = 2 := by rw [List.length_append, beI_len, beI_len]
    rw [encE_two]
    generalize hB : beI 1 r 1 ++ beI 1 k 1 = B at *
    generalize beI 1 r 1 = A at *
    have zC : (blL B d0).length = 2 + 2 + d0.length := by rw [blL_len, zB]
    have zD : (blL (blL B d0) d1).length = 2 + 2 + d0.length + 2 + d1.length := by rw [blL_len, zC]
    have b0 := blob_eq (b := B) (x := d0) ⟨by omega, by omega⟩
    have b1 := blob_eq (b := blL B d0) (x := d1) ⟨by omega, by omega⟩
    have b2 := blob_eq (b := blL (blL B d0) d1) (x := d) ⟨by omega, by omega⟩
    have zE : (blL (blL (blL B d0) d1) d).length = (blL (blL B d0) d1).length + 2 + d.length := blL_len
    have tB : List.take 2 B = B := List.take_of_length_le (by omega)
    simp (disch := omega) only [go_sem, ↓reduceIte, Nat.reduceAdd, Nat.reduceEqDiff, Nat.reduceLeDiff, reduceCtorEq, ac_event_Encode, evT_def, h1, hw, h2, u0, z1, t1, u1, hB, List.map_cons, List.map_nil]
    repeat refine And.intro rfl ?_
    refine loop_upto 2 (fun i => [(1, .ref 4096 0 0), (3, .sl 9100 0 (match i with | 0 => B | 1 => blL B d0 | _ => blL (blL B d0) d1).length), (17, .t (.sl [bsT d0, bsT d1])), (18, .t (.int .i64 2)), (19, .t (.int .i64 (i : Nat)))]) (fun i => [(9100, .live 1 (((match i with | 0 => B | 1 => blL B d0 | _ => blL (blL B d0) d1).map byteT).map V.t) true false), (4096, .live 4 [.t (evT (r, k, [d0, d1], d))] true true)]) ?_ (fun i hi => ?_)
    · refine Weak.rd (fun j => if j = 9100 then 20528 else j) ?_ ?_ rfl
      all_goals simp (disch := omega) only [go_sem, ↓reduceIte, Nat.reduceAdd, Nat.reduceEqDiff, Nat.reduceBEq, evT_def, zB, List.map_cons, List.map_nil]
    · rcases (show i = 0 ∨ i = 1 ∨ i = 2 by omega) with rfl | rfl | rfl
      · simp (disch := omega) only [go_sem, ↓reduceIte, Nat.reduceAdd, Nat.reduceEqDiff, Nat.reduceLT, Nat.reduceLeDiff, Int.reduceLT, Int.reduceLE, Int.reduceAdd, ac_event_Encode_L0, h3, b0, zB, tB]
        refine Weak.rd (fun j => if j = 9100 then 36896 else j) ?_ ?_ rfl
        all_goals simp (disch := omega) only [go_sem, ↓reduceIte, Nat.reduceAdd, Nat.reduceEqDiff, Nat.reduceBEq, evT_def, zC, List.map_cons, List.map_nil]
      · have tC : List.take (2 + 2 + d0.length) (blL B d0) = blL B d0 := List.take_of_length_le (by omega)
        rw [zC] at b1
        simp (disch := omega) only [go_sem, ↓reduceIte, Nat.reduceAdd, Nat.reduceEqDiff, Nat.reduceLT, Nat.reduceLeDiff, Int.reduceLT, Int.reduceLE, Int.reduceAdd, ac_event_Encode_L0, h3, b1, zC, tC]
        refine Weak.rd (fun j => if j = 9100 then 36896 else j) ?_ ?_ rfl
        all_goals simp (disch := omega) only [go_sem, ↓reduceIte, Nat.reduceAdd, Nat.reduceEqDiff, Nat.reduceBEq, evT_def, zD, List.map_cons, List.map_nil]
      · have tD : List.take (2 + 2 + d0.length + 2 + d1.length) (blL (blL B d0) d1) = blL (blL B d0) d1 := List.take_of_length_le (by omega)
        rw [zD] at b2 zE
        have tE : List.take (2 + 2 + d0.length + 2 + d1.length + 2 + d.length) (blL (blL (blL B d0) d1) d) = blL (blL (blL B d0) d1) d := List.take_of_length_le (by omega)
        simp (disch := omega) only [go_sem, ↓reduceIte, Nat.reduceAdd, Nat.reduceEqDiff, Nat.reduceLeDiff, Int.reduceLT, reduceCtorEq, ac_event_Encode_L0, evT_def, h3, b2, zD, tD, zE, tE]
theorem byteW {n : Int} (h : 0 ≤ n ∧ n < 256) : T.int .u8 (IntKind.u8.wrap n) = byteT (UInt8.ofNat (m64 n)) := by
  have e : m64 n = n.toNat := by unfold m64; omega
  rw [wrap_u8, e]
  unfold byteT
  rw [UInt8.toNat_ofNat']
  congr 1
  omega
theorem beI_one {n : Int} : beI 1 n 1 = [UInt8.ofNat (m64 n)] := by simp [beI]
theorem w_ref25_EncodeEvent (tab : Tab) (gl : Gl) (n1 n2 : Nat) (h1 : tab.look n1 = some ct_wr.fs) (h3 : tab.look n2 = some ct_blob.fs) (e : Ev) (hm : evM e) :
    (ac_ref25_EncodeEvent n1 n2).wp tab gl (zipF 0 [.t (evT e)]) (zipF 0 []) (resF [] [(2, none)] 0 (fun r o => r = ct_encX.r e ∧ o = ct_encX.outs e)) := by
  obtain ⟨r, k, ds, d⟩ := e
  have hw := wr_eq hm
  have hr : ct_encX.r (r, k, ds, d) = if wrE (r, k, ds, d) then .sl 0 0 (encE (r, k, ds, d)).length else .nil := rfl
  have ho : ct_encX.outs (r, k, ds, d) = if wrE (r, k, ds, d) then [.live 1 (((encE (r, k, ds, d)).map byteT).map V.t) true false] else [] := rfl
  rw [hr, ho]
  cases hq : wrE (r, k, ds, d)
  · rw [hq] at hw
    simp (disch := omega) only [go_sem, ↓reduceIte, Nat.reduceAdd, Nat.reduceEqDiff, Nat.reduceLeDiff, ac_ref25_EncodeEvent, evT_def, h1, hw, List.map_nil]
  · rw [hq] at hw
    obtain ⟨rb, kb, hd, d0, d1, rfl, q0, q1⟩ := wrE_true hq
    simp only [List.map_cons, List.map_nil, bsT_def] at hw
    have w0 := byteW (n := r) (by omega)
    have w1 := byteW (n := k) (by omega)
    rw [encE_two]
    have hB : beI 1 r 1 ++ beI 1 k 1 = [UInt8.ofNat (m64 r), UInt8.ofNat (m64 k)] := by rw [beI_one, beI_one]; rfl
    have b0 : ct_blob.fs [.t (.sl [byteT (UInt8.ofNat (m64 r)), byteT (UInt8.ofNat (m64 k))]), .t (.sl (d0.map byteT))] [] = _ := blob_eq (b := [UInt8.ofNat (m64 r), UInt8.ofNat (m64 k)]) (x := d0) ⟨by show 2 < 100000000; omega, by omega⟩
    rw [hB]
    generalize UInt8.ofNat (m64 r) = R at *
    generalize UInt8.ofNat (m64 k) = K at *
    have zC : (blL [R, K] d0).length = 2 + 2 + d0.length := blL_len
    have zD : (blL (blL [R, K] d0) d1).length = 2 + 2 + d0.length + 2 + d1.length := by rw [blL_len, zC]
    have b1 := blob_eq (b := blL [R, K] d0) (x := d1) ⟨by omega, by omega⟩
    have b2 := blob_eq (b := blL (blL [R, K] d0) d1) (x := d) ⟨by omega, by omega⟩
    have zE : (blL (blL (blL [R, K] d0) d1) d).length = 2 + 2 + d0.length + 2 + d1.length + 2 + d.length := by rw [blL_len, zD]
    have tC : List.take (2 + 2 + d0.length) (blL [R, K] d0) = blL [R, K] d0 := List.take_of_length_le (by omega)
    have tD : List.take (2 + 2 + d0.length + 2 + d1.length) (blL (blL [R, K] d0) d1) = blL (blL [R, K] d0) d1 := List.take_of_length_le (by omega)
    rw [zC] at b1
    rw [zD] at b2
    have l2 : [R, K].length = 2 := rfl
    rw [l2] at b0
    simp (disch := omega) only [go_sem, ↓reduceIte, Nat.reduceAdd, Nat.reduceEqDiff, Nat.reduceLT, Nat.reduceLeDiff, Int.reduceLE, reduceCtorEq, ac_ref25_EncodeEvent, evT_def, h1, hw, w0, w1, h3, b0, zC, tC, b1, zD, tD, b2, zE, List.map_cons, List.map_nil]
end Go.Eng
end
section
set_option maxRecDepth 20000
set_option maxHeartbeats 64000000
namespace Go.Eng
theorem shl8_i64 {a : Nat} {k' : IntKind} (h : a < 1000000) : binI .shl .i64 (a : Int) k' 8 = some (.int .i64 ((256 * a : Nat) : Int)) := by
  change (if (8 : Int) < 0 then none else some (T.int .i64 (IntKind.i64.wrap ((a : Int) * 2 ^ min (8 : Int).toNat 64)))) = _
  rw [if_neg (by omega), show (a : Int) * 2 ^ min (8 : Int).toNat 64 = ((256 * a : Nat) : Int) by
    rw [show min (8 : Int).toNat 64 = 8 from rfl]; omega, wrap_i64_id (by omega)]
theorem or8_i64 {a : Nat} {x : UInt8} (h : a < 1000000) : binI .or .i64 ((256 * a : Nat) : Int) .i64 (x.toNat : Int) = some (.int .i64 ((256 * a + x.toNat : Nat) : Int)) := by
  have hx := x.toNat_lt
  change some (T.int .i64 (IntKind.i64.wrap ((BitVec.ofInt 64 ((256 * a : Nat) : Int) ||| BitVec.ofInt 64 (x.toNat : Int)).toNat : Int))) = _
  have e : (BitVec.ofInt 64 ((256 * a : Nat) : Int) ||| BitVec.ofInt 64 (x.toNat : Int)).toNat = 256 * a + x.toNat := by
    rw [BitVec.toNat_or, BitVec.toNat_ofInt, BitVec.toNat_ofInt, Int.emod_eq_of_lt (by omega) (by omega), Int.emod_eq_of_lt (by omega) (by omega), Int.toNat_natCast, Int.toNat_natCast, or8 (by omega)]
  rw [e, wrap_i64_id (by omega)]
attribute [go_sem ↓] shl8_i64 or8_i64
def rdBlob (s : Rd) (most : Nat) : List UInt8 × Rd :=
  if s.2.2 ≠ 0 then ([], s) else if s.1.length < s.2.1 + 2 then ([], (s.1, s.2.1, 2))
  else if most < beV ((s.1.drop s.2.1).take 2) then ([], (s.1, s.2.1, 4))
  else if s.1.length < s.2.1 + 2 + beV ((s.1.drop s.2.1).take 2) then ([], (s.1, s.2.1, 2))
  else ((s.1.drop (s.2.1 + 2)).take (beV ((s.1.drop s.2.1).take 2)), (s.1, s.2.1 + 2 + beV ((s.1.drop s.2.1).take 2), 0))
def ct_rblob : Ct where
  α := Rd × Nat
  as x := [.ref 0 0 0, .t (.int .i64 x.2)]
  ins x := [rdOb x.1]
  pre x := rdOk x.1 ∧ x.2 ≤ 65535
  r x := .t (.sl ((rdBlob x.1 x.2).1.map byteT))
  outs x := [rdOb (rdBlob x.1 x.2).2]
  inj := by
    rintro ⟨s, a⟩ ⟨t, c⟩ h1 h2
    simp only [List.cons.injEq, V.t.injEq, T.int.injEq, true_and, and_true, Int.natCast_inj] at h1
    simp only [List.cons.injEq, and_true] at h2
    subst h1
    cases rdOb_inj h2
    exact ⟨rfl, rfl⟩
theorem rblob_eq {s : Rd} {k : Nat} (h : rdOk s ∧ k ≤ 65535) : ct_rblob.fs [.ref 0 0 0, .t (.int .i64 k)] [rdO s] = some (.t (.sl ((rdBlob s k).1.map byteT)), [rdO (rdBlob s k).2]) := ct_rblob.eq (s, k) h
theorem take2 {b : List UInt8} {a : Nat} (h : a + 2 ≤ b.length) : List.take 2 (List.drop a b) = [b.getD a 0, b.getD (a + 1) 0] := by
  have e : List.drop a b = b[a]'(by omega) :: b[a + 1]'(by omega) :: List.drop (a + 2) b := by
    rw [List.drop_eq_getElem_cons (by omega), List.drop_eq_getElem_cons (by omega)]
  have g0 : b.getD a 0 = b[a]'(by omega) := by simp [List.getD, show a < b.length by omega]
  have g1 : b.getD (a + 1) 0 = b[a + 1]'(by omega) := by simp [List.getD, show a + 1 < b.length by omega]
  rw [e, g0, g1]; rfl
theorem beV2 {x y : UInt8} : beV [x, y] = 256 * x.toNat + y.toNat := by simp [beV]
theorem rdBlob_le {s : Rd} {k : Nat} : (rdBlob s k).1.length ≤ k := by
  unfold rdBlob
  split
  · simp
  · split
    · simp
    · split
      · simp
      · split
        · simp
        · simp only [List.length_take]; omega
theorem rdBlob_ok {s : Rd} {k : Nat} (h : rdOk s) : rdOk (rdBlob s k).2 := by
  unfold rdBlob
  unfold rdOk at *
  split
  · exact h
  · split
    · exact h
    · split
      · exact h
      · split
        · exact h
        · exact ⟨by simp only; omega, h.2⟩
theorem w_wire_Reader_Blob (tab : Tab) (gl : Gl) (n1 n2 : Nat) (h1 : tab.look n1 = some ct_take.fs) (h2 : tab.look n2 = some ct_fail.fs) (s : Rd) (hs : rdOk s) (k : Nat) (hk : k ≤ 65535) :
    (ac_wire_Reader_Blob n1 n2).wp tab gl (zipF 0 [.ref 0 0 0, .t (.int .i64 k)]) (zipF 0 [rdOb s]) (resW [(4, none)] 1 (fun r o => r = .t (.sl ((rdBlob s k).1.map byteT)) ∧ o = [rdOb (rdBlob s k).2])) := by
  obtain ⟨b, a, e⟩ := s
  have ha : a ≤ b.length ∧ b.length < 1000000000 := hs
  by_cases he : e = 0
  · subst he
    by_cases hl : b.length < a + 2
    · have hr : rdBlob (b, a, 0) k = ([], (b, a, 2)) := by unfold rdBlob; simp [hl]
      rw [hr]
      have ht := take_no (b := b) (a := a) (p := a) (n := 2) (e := 0) ⟨ha.1, ha.2, ha.1, by omega, by omega⟩
      have k2 : ((2 : Nat) : Int) = 2 := rfl
      rw [k2] at ht
      simp (disch := omega) only [go_sem, ↓reduceIte, Nat.reduceAdd, Nat.reduceEqDiff, Nat.reduceSub, Nat.reduceLeDiff, reduceCtorEq, ac_wire_Reader_Blob, rdOb_eq, h1, h2, ht, fail_eq, List.map_nil]
    · have t2 := take2 (b := b) (a := a) (by omega)
      have ht := take_ok (b := b) (a := a) (p := a) (n := 2) (e := 0) ⟨ha.1, ha.2, by omega⟩
      have k2 : ((2 : Nat) : Int) = 2 := rfl
      rw [k2, t2] at ht
      have hb := beV2 (x := b.getD a 0) (y := b.getD (a + 1) 0)
      have hx := (b.getD a 0).toNat_lt
      have hy := (b.getD (a + 1) 0).toNat_lt
      have hr : rdBlob (b, a, 0) k = if k < 256 * (b.getD a 0).toNat + (b.getD (a + 1) 0).toNat then ([], (b, a, 4)) else if b.length < a + 2 + (256 * (b.getD a 0).toNat + (b.getD (a + 1) 0).toNat) then ([], (b, a, 2)) else ((b.drop (a + 2)).take (256 * (b.getD a 0).toNat + (b.getD (a + 1) 0).toNat), (b, a + 2 + (256 * (b.getD a 0).toNat + (b.getD (a + 1) 0).toNat), 0)) := by
        unfold rdBlob
        simp only [t2, hb]
        rw [if_neg (by simp), if_neg hl]
      rw [hr]
      simp only [List.map_cons, List.map_nil] at ht
      by_cases c1 : k < 256 * (b.getD a 0).toNat + (b.getD (a + 1) 0).toNat
      · rw [if_pos c1]
        simp (disch := omega) only [go_sem, ↓reduceIte, Nat.reduceAdd, Nat.reduceEqDiff, Nat.reduceSub, Nat.reduceLeDiff, Int.reduceLE, reduceCtorEq, ac_wire_Reader_Blob, rdOb_eq, h1, h2, ht, fail_eq, c1, List.map_nil]
        rfl
      · rw [if_neg c1]
        have hn : ((b.getD a 0).toNat < 256) ∧ (b.getD (a + 1) 0).toNat < 256 := ⟨hx, hy⟩
        generalize hN : 256 * (b.getD a 0).toNat + (b.getD (a + 1) 0).toNat = N at *
        have hN2 : N ≤ 65535 := by omega
        by_cases c2 : b.length < a + 2 + N
        · rw [if_pos c2]
          have ht2 := take_no (b := b) (a := a) (p := a + 2) (n := N) (e := 0) ⟨ha.1, ha.2, by omega, by omega, c2⟩
          simp (disch := omega) only [go_sem, ↓reduceIte, Nat.reduceAdd, Nat.reduceEqDiff, Nat.reduceSub, Nat.reduceLeDiff, Int.reduceLE, reduceCtorEq, ac_wire_Reader_Blob, rdOb_eq, h1, h2, ht, hN, ht2, fail_eq, c1, List.map_nil]
          rfl
        · rw [if_neg c2]
          have ht2 := take_ok (b := b) (a := a) (p := a + 2) (n := N) (e := 0) ⟨ha.1, ha.2, by omega⟩
          have hc : (List.take N (List.drop (a + 2) b)).length = N := by simp only [List.length_take, List.length_drop]; omega
          have tt : List.take N (List.take N (List.drop (a + 2) b)) = List.take N (List.drop (a + 2) b) := List.take_of_length_le (by omega)
          simp (disch := omega) only [go_sem, ↓reduceIte, Nat.reduceAdd, Nat.reduceEqDiff, Nat.reduceSub, Nat.reduceLeDiff, Nat.reduceBEq, Int.reduceLE, reduceCtorEq, ac_wire_Reader_Blob, rdOb_eq, h1, h2, ht, hN, ht2, fail_eq, c1, hc, tt]
          exact ⟨rfl, by omega⟩
  · have hr : rdBlob (b, a, e) k = ([], (b, a, e)) := by unfold rdBlob; rw [if_pos he]
    rw [hr]
    simp (disch := omega) only [go_sem, ↓reduceIte, Nat.reduceAdd, Nat.reduceLeDiff, reduceCtorEq, ac_wire_Reader_Blob, rdOb_eq, ne_eq, he, List.map_nil]
end Go.Eng
end
section
set_option maxRecDepth 20000
set_option maxHeartbeats 64000000
namespace Go.Eng
def rdEv (s : Rd) : Ev × Rd :=
  let u := rdUint s 1
  let v := rdUint u.2 1
  let x := rdBlob v.2 32
  let y := rdBlob x.2 32
  let z := rdBlob y.2 64
  ((u.1, v.1, [x.1, y.1], z.1), z.2)
def dcEv (b : List UInt8) : Ev × Int := if rdEnd (rdEv (b, 0, 0)).2 = 0 ∧ wrE (rdEv (b, 0, 0)).1 = true then ((rdEv (b, 0, 0)).1, 0) else ((0, 0, [], []), 30)
def ct_decE : Ct where
  α := List UInt8
  as x := [.t (.sl (x.map byteT))]
  ins _ := []
  pre x := x.length < 1000000000
  r x := .tup [.t (evT (dcEv x).1), .t (.int .i64 (dcEv x).2)]
  outs _ := []
  inj := by
    intro a b h _
    simp only [List.cons.injEq, V.t.injEq, T.sl.injEq, and_true, mapB_inj] at h
    subst h; exact ⟨rfl, rfl⟩
theorem w_event_Decode (tab : Tab) (gl : Gl) (n1 n2 n3 n4 n5 n6 : Nat) (h1 : tab.look n1 = some ct_rnew.fs) (h2 : tab.look n2 = some ct_rint.fs) (h3 : tab.look n3 = some ct_size.fs) (h4 : tab.look n4 = some ct_rblob.fs) (h5 : tab.look n5 = some ct_rend.fs) (h6 : tab.look n6 = some ct_wr.fs) (b : List UInt8) (hb : b.length < 1000000000) :
    (ac_event_Decode n1 n2 n3 n4 n5 n6).wp tab gl (zipF 0 [.t (.sl (b.map byteT))]) (zipF 0 []) (resW [(2, some (4, true)), (3, none)] 0 (fun r o => r = .tup [.t (evT (dcEv b).1), .t (.int .i64 (dcEv b).2)] ∧ o = [])) := by
  have ok0 : rdOk (b, 0, 0) := ⟨Nat.zero_le _, hb⟩
  have hN := rnew_eq hb
  have hD : dcEv b = dcEv b := rfl
  conv at hD => rhs; unfold dcEv rdEv
  obtain ⟨⟨r, b1, a1, e1⟩, hU1⟩ : ∃ x, rdUint (b, 0, 0) 1 = x := ⟨_, rfl⟩
  have hI1 := rint_eq (k := 1) ⟨ok0, by omega, by omega⟩
  have ok1 := rdUint_ok (k := 1) ok0
  rw [hU1] at hI1 ok1
  obtain ⟨⟨k, b2, a2, e2⟩, hU2⟩ : ∃ x, rdUint (b1, a1, e1) 1 = x := ⟨_, rfl⟩
  have hI2 := rint_eq (k := 1) ⟨ok1, by omega, by omega⟩
  have ok2 := rdUint_ok (k := 1) ok1
  simp only at hI2 ok2
  rw [hU2] at hI2 ok2
  obtain ⟨⟨d0, b3, a3, e3⟩, hU3⟩ : ∃ x, rdBlob (b2, a2, e2) 32 = x := ⟨_, rfl⟩
  have hI3 := rblob_eq (k := 32) ⟨ok2, by omega⟩
  have ok3 := rdBlob_ok (k := 32) ok2
  have l0 := rdBlob_le (s := (b2, a2, e2)) (k := 32)
  simp only at hI3 ok3
  rw [hU3] at hI3 ok3 l0
  obtain ⟨⟨d1, b4, a4, e4⟩, hU4⟩ : ∃ x, rdBlob (b3, a3, e3) 32 = x := ⟨_, rfl⟩
  have hI4 := rblob_eq (k := 32) ⟨ok3, by omega⟩
  have ok4 := rdBlob_ok (k := 32) ok3
  have l1 := rdBlob_le (s := (b3, a3, e3)) (k := 32)
  simp only at hI4 ok4
  rw [hU4] at hI4 ok4 l1
  obtain ⟨⟨d, b5, a5, e5⟩, hU5⟩ : ∃ x, rdBlob (b4, a4, e4) 64 = x := ⟨_, rfl⟩
  have hI5 := rblob_eq (k := 64) ⟨ok4, by omega⟩
  have ok5 := rdBlob_ok (k := 64) ok4
  have l2 := rdBlob_le (s := (b4, a4, e4)) (k := 64)
  simp only at hI5 ok5
  rw [hU5] at hI5 ok5 l2
  have hend := rend_eq ok5
  simp only [hU1, hU2, hU3, hU4, hU5] at hD
  simp only at l0 l1 l2
  have hm : evM (r, k, [d0, d1], d) := ⟨⟨by simp, fun x hx => by simp at hx; rcases hx with rfl | rfl <;> omega⟩, by simp only; omega⟩
  have hw := wr_eq hm
  simp only [List.map_cons, List.map_nil, bsT_def] at hw
  have k32 : ((32 : Nat) : Int) = 32 := rfl
  have k64 : ((64 : Nat) : Int) = 64 := rfl
  simp only [rdO, Int.natCast_zero, Int.natCast_one, k32, k64] at hN hI1 hI2 hI3 hI4 hI5 hend
  simp (disch := omega) only [go_sem, ↓reduceIte, Nat.reduceAdd, Nat.reduceEqDiff, Nat.reduceSub, Nat.reduceLeDiff, reduceCtorEq, ac_event_Decode, h1, hN, h2, hI1, hI2]
  refine loop_upto 2 (fun i => [(2, .ref 4096 0 0), (4, .ref 8208 0 0), (5, .ref 12288 0 0), (14, .t (.int .i64 (i : Nat)))]) (fun i => match i with
    | 0 => [(12288, .live 4 [.agg [.t (.int .i64 r), .t (.int .i64 k), .nil, .nil]] true true), (8208, rdO (b2, a2, e2)), (4096, .live 4 [.agg [.t (.int .i64 0), .t (.int .i64 0), .nil, .nil]] true true)]
    | 1 => [(12288, .live 4 [.agg [.t (.int .i64 r), .t (.int .i64 k), .sl 9100 0 1, .nil]] true true), (9100, .live 1 [.t (.sl (d0.map byteT))] true false), (8208, rdO (b3, a3, e3)), (4096, .live 4 [.agg [.t (.int .i64 0), .t (.int .i64 0), .nil, .nil]] true true)]
    | _ => [(12288, .live 4 [.agg [.t (.int .i64 r), .t (.int .i64 k), .sl 9100 0 2, .nil]] true true), (9100, .live 1 [.t (.sl (d0.map byteT)), .t (.sl (d1.map byteT))] true false), (8208, rdO (b4, a4, e4)), (4096, .live 4 [.agg [.t (.int .i64 0), .t (.int .i64 0), .nil, .nil]] true true)]) ?_ (fun i hi => ?_)
  · refine Weak.rd id ?_ ?_ rfl
    all_goals simp (disch := omega) only [go_sem, ↓reduceIte, Nat.reduceEqDiff, Nat.reduceBEq, id, rdO]
  · rcases (show i = 0 ∨ i = 1 ∨ i = 2 by omega) with rfl | rfl | rfl
    · simp (disch := omega) only [go_sem, ↓reduceIte, Nat.reduceAdd, Nat.reduceEqDiff, Nat.reduceSub, Nat.reduceLT, Nat.reduceLeDiff, Int.reduceLT, Int.reduceAdd, reduceCtorEq, ac_event_Decode_L0, rdO, h3, size_eq1, h4, hI3]
      refine ⟨rfl, Weak.rd (fun j => if j = 9100 then 32864 else j) ?_ ?_ rfl⟩
      all_goals simp (disch := omega) only [go_sem, ↓reduceIte, Nat.reduceAdd, Nat.reduceEqDiff, Nat.reduceBEq, rdO]
    · simp (disch := omega) only [go_sem, ↓reduceIte, Nat.reduceAdd, Nat.reduceEqDiff, Nat.reduceSub, Nat.reduceMul, Nat.reduceLT, Nat.reduceLeDiff, Int.reduceLT, Int.reduceAdd, reduceCtorEq, ac_event_Decode_L0, rdO, h3, size_eq1, h4, hI4]
      refine ⟨rfl, Weak.rd (fun j => if j = 9100 then 32864 else j) ?_ ?_ rfl⟩
      all_goals simp (disch := omega) only [go_sem, ↓reduceIte, Nat.reduceAdd, Nat.reduceEqDiff, Nat.reduceBEq, rdO]
    · by_cases hz : rdEnd (b5, a5, e5) = 0
      · rw [hz] at hend
        cases hq : wrE (r, k, [d0, d1], d)
        · rw [hq] at hw
          rw [if_neg (by simp [hq])] at hD
          rw [hD]
          simp (disch := omega) only [go_sem, ↓reduceIte, Nat.reduceAdd, Nat.reduceEqDiff, Nat.reduceSub, Nat.reduceLeDiff, Int.reduceLT, reduceCtorEq, ac_event_Decode_L0, rdO, h4, hI5, h5, hend, h6, hw, evT_def, List.map_nil]
          all_goals rfl
        · rw [hq] at hw
          rw [if_pos ⟨hz, hq⟩] at hD
          rw [hD]
          simp (disch := omega) only [go_sem, ↓reduceIte, Nat.reduceAdd, Nat.reduceEqDiff, Nat.reduceSub, Nat.reduceLeDiff, Int.reduceLT, reduceCtorEq, ac_event_Decode_L0, rdO, h4, hI5, h5, hend, h6, hw, evT_def, List.map_cons, List.map_nil]
          all_goals rfl
      · have hz2 : (rdEnd (b5, a5, e5) == 0) = false := by simpa using hz
        rw [if_neg (by simp [hz])] at hD
        rw [hD]
        simp (disch := omega) only [go_sem, ↓reduceIte, Nat.reduceAdd, Nat.reduceEqDiff, Nat.reduceSub, Nat.reduceLeDiff, Int.reduceLT, reduceCtorEq, ac_event_Decode_L0, rdO, h4, hI5, h5, hend, hz2, evT_def, List.map_nil]
        all_goals rfl
end Go.Eng
end
section
set_option maxRecDepth 20000
set_option maxHeartbeats 64000000
namespace Go.Eng
abbrev Cd := List UInt8 × Nat
def cdOb (c : Cd) : Ob := .live 2 [.t (.agg [.sl (c.1.map byteT), .int .i64 (c.2 : Int)])] true true
abbrev cdO (c : Cd) : Ob := .live 2 [.t (.agg [.sl (c.1.map byteT), .int .i64 (c.2 : Int)])] true true
theorem cdOb_eq {b : List UInt8} {a : Nat} : cdOb (b, a) = .live 2 [.t (.agg [.sl (b.map byteT), .int .i64 (a : Int)])] true true := rfl
theorem cdOb_inj {s t : Cd} (h : cdOb s = cdOb t) : s = t := by
  obtain ⟨b, a⟩ := s
  obtain ⟨b', a'⟩ := t
  simp only [cdOb_eq, Ob.live.injEq, List.cons.injEq, V.t.injEq, T.agg.injEq, T.sl.injEq, T.int.injEq, mapB_inj, Int.natCast_inj] at h
  simp only [Prod.mk.injEq]
  exact ⟨h.2.1.1.1, h.2.1.1.2.1.2⟩
def cdOk (c : Cd) : Prop := c.2 ≤ c.1.length ∧ c.1.length < 1000000000
def nx (c : Cd) (n : Nat) : Nat × Cd := if c.1.length ≤ c.2 then (0, c) else ((c.1.getD c.2 0).toNat % n, (c.1, c.2 + 1))
theorem nx_ok {c : Cd} {n : Nat} (h : cdOk c) : cdOk (nx c n).2 := by
  unfold nx cdOk at *
  split
  · exact h
  · exact ⟨by simp only; omega, h.2⟩
theorem nx_lt {c : Cd} {n : Nat} (h : 1 ≤ n) : (nx c n).1 < n := by
  unfold nx
  split
  · exact h
  · exact Nat.mod_lt _ (by omega)
def ct_next : Ct where
  α := Cd × Nat
  as x := [.ref 0 0 0, .t (.int .i64 x.2)]
  ins x := [cdOb x.1]
  pre x := cdOk x.1 ∧ 1 ≤ x.2 ∧ x.2 ≤ 1000000000
  r x := .t (.int .i64 (nx x.1 x.2).1)
  outs x := [cdOb (nx x.1 x.2).2]
  inj := by
    rintro ⟨s, a⟩ ⟨t, c⟩ h1 h2
    simp only [List.cons.injEq, V.t.injEq, T.int.injEq, true_and, and_true, Int.natCast_inj] at h1
    simp only [List.cons.injEq, and_true] at h2
    subst h1
    cases cdOb_inj h2
    exact ⟨rfl, rfl⟩
theorem next_eq {c : Cd} {n : Nat} (h : cdOk c ∧ 1 ≤ n ∧ n ≤ 1000000000) : ct_next.fs [.ref 0 0 0, .t (.int .i64 n)] [cdO c] = some (.t (.int .i64 (nx c n).1), [cdO (nx c n).2]) := ct_next.eq (c, n) h
theorem w_draw_Next (tab : Tab) (gl : Gl) (c : Cd) (n : Nat) (hc : cdOk c) (h1 : 1 ≤ n) (h2 : n ≤ 1000000000) :
    ac_draw_Codes_Next.wp tab gl (zipF 0 [.ref 0 0 0, .t (.int .i64 n)]) (zipF 0 [cdOb c]) (resW [(4, none)] 1 (fun r o => r = .t (.int .i64 (nx c n).1) ∧ o = [cdOb (nx c n).2])) := by
  obtain ⟨b, a⟩ := c
  obtain ⟨q1, q2⟩ := hc
  simp only at q1 q2
  by_cases h : b.length ≤ a
  · have e : nx (b, a) n = (0, (b, a)) := if_pos h
    rw [e]
    simp (disch := omega) only [go_sem, ↓reduceIte, Nat.reduceAdd, Nat.reduceEqDiff, Nat.reduceLeDiff, reduceCtorEq, ac_draw_Codes_Next, cdOb_eq, h]
    rfl
  · have e : nx (b, a) n = ((b.getD a 0).toNat % n, (b, a + 1)) := if_neg h
    rw [e]
    simp (disch := omega) only [go_sem, ↓reduceIte, Nat.reduceAdd, Nat.reduceEqDiff, Nat.reduceLeDiff, reduceCtorEq, ac_draw_Codes_Next, cdOb_eq, h]
    exact ⟨rfl, rfl, by rw [Int.tmod_eq_emod_of_nonneg (Int.natCast_nonneg _)]; norm_cast⟩
def ct_dnew : Ct where
  α := List UInt8 × Nat
  as x := [.t (.sl (x.1.map byteT)), .t (.int .i64 x.2)]
  ins _ := []
  pre x := x.1.length ≤ 9223372036854775807 ∧ x.2 ≤ 1000000
  r _ := .ref 0 0 0
  outs x := [cdOb (x.1.take x.2, 0)]
  inj := by
    rintro ⟨a, b⟩ ⟨c, d⟩ h _
    simp only [List.cons.injEq, V.t.injEq, T.sl.injEq, T.int.injEq, true_and, and_true, mapB_inj, Int.natCast_inj] at h
    obtain ⟨rfl, rfl⟩ := h
    exact ⟨rfl, rfl⟩
theorem dnew_eq {b : List UInt8} {n : Nat} (h : b.length ≤ 9223372036854775807 ∧ n ≤ 1000000) : ct_dnew.fs [.t (.sl (b.map byteT)), .t (.int .i64 n)] [] = some (.ref 0 0 0, [cdO (b.take n, 0)]) := ct_dnew.eq (b, n) h
theorem w_draw_New (tab : Tab) (gl : Gl) (b : List UInt8) (n : Nat) (h1 : b.length ≤ 9223372036854775807) (h2 : n ≤ 1000000) :
    ac_draw_New.wp tab gl (zipF 0 [.t (.sl (b.map byteT)), .t (.int .i64 n)]) (zipF 0 []) (resF [] [(4, none)] 0 (fun r o => r = .ref 0 0 0 ∧ o = [cdOb (b.take n, 0)])) := by
  by_cases h : n < b.length
  · simp (disch := omega) only [go_sem, ↓reduceIte, Nat.reduceAdd, Nat.reduceEqDiff, Nat.reduceLeDiff, Int.reduceLE, reduceCtorEq, ac_draw_New, cdOb_eq, h]
  · have e : b.take n = b := List.take_of_length_le (by omega)
    simp (disch := omega) only [go_sem, ↓reduceIte, Nat.reduceAdd, Nat.reduceEqDiff, Nat.reduceLeDiff, reduceCtorEq, ac_draw_New, cdOb_eq, h, e]
def ct_cut : Ct where
  α := List UInt8 × Nat
  as x := [.t (.sl (x.1.map byteT)), .t (.int .i64 x.2)]
  ins _ := []
  pre x := x.1.length ≤ 9223372036854775807 ∧ x.2 ≤ 1000000
  r x := .t (.sl ((x.1.take x.2).map byteT))
  outs _ := []
  inj := by
    rintro ⟨a, b⟩ ⟨c, d⟩ h _
    simp only [List.cons.injEq, V.t.injEq, T.sl.injEq, T.int.injEq, true_and, and_true, mapB_inj, Int.natCast_inj] at h
    obtain ⟨rfl, rfl⟩ := h
    exact ⟨rfl, rfl⟩
theorem cut_eq {b : List UInt8} {n : Nat} (h : b.length ≤ 9223372036854775807 ∧ n ≤ 1000000) : ct_cut.fs [.t (.sl (b.map byteT)), .t (.int .i64 n)] [] = some (.t (.sl ((b.take n).map byteT)), []) := ct_cut.eq (b, n) h
theorem w_draw_Cut (tab : Tab) (gl : Gl) (b : List UInt8) (n : Nat) (h1 : b.length ≤ 9223372036854775807) (h2 : n ≤ 1000000) :
    ac_draw_Cut.wp tab gl (zipF 0 [.t (.sl (b.map byteT)), .t (.int .i64 n)]) (zipF 0 []) (resW [(4, none)] 0 (fun r o => r = .t (.sl ((b.take n).map byteT)) ∧ o = [])) := by
  by_cases h : n < b.length
  · simp (disch := omega) only [go_sem, ↓reduceIte, Nat.reduceAdd, Nat.reduceEqDiff, Int.reduceLE, reduceCtorEq, ac_draw_Cut, h]
  · have e : b.take n = b := List.take_of_length_le (by omega)
    simp (disch := omega) only [go_sem, ↓reduceIte, Nat.reduceAdd, Nat.reduceEqDiff, reduceCtorEq, ac_draw_Cut, h, e]
end Go.Eng
end
section
namespace Go.Eng
def ac_law26_awake (n_event_Make n_event_Encode n_event_Decode n_ref25_SameEvent n_event_Check n_event_Consistent : Nat) : AC :=
 (.seq
 (rG 4096 [
 mC 0 (.t (.bool false))])
 (.seq
 (rG 8192 [
 oO 5 (.bslice 1 4 (.t (byteT 0)) [0, 1, 2, 3]) [.cst (.t (byteT 0)), .cst (.t (byteT 0)), .cst (.t (byteT 0)), .cst (.t (byteT 0))],
 cL 6 n_event_Make true [.cst (.t (.int .i64 4)), .cst (.t (.int .i64 2)), .cst (.t (.int .i64 2)), .tmp 5],
 oO 1 (.new 4 [(.agg [(.t (.int .i64 0)), (.t (.int .i64 0)), .nil, .nil])]) [],
 oS 4 1 6])
 (.seq
 (rG 12288 [
 oO 7 (.load 4 true) [.tmp 1],
 cL 8 n_event_Encode true [.tmp 7],
 mv 2 8])
 (.seq
 (rG 16384 [
 mv 10 2,
 cL 11 n_event_Decode true [.tmp 10],
 mv 9 11,
 oO 12 (.extract 0) [.tmp 9],
 oO 13 (.extract 1) [.tmp 9],
 oO 3 (.new 4 [(.agg [(.t (.int .i64 0)), (.t (.int .i64 0)), .nil, .nil])]) [],
 oS 4 3 12,
 mv 4 13])
 (.seq
 (rG 20480 [
 mv 14 2,
 oO 15 .len [.tmp 14],
 bN 16 .eql 15 44,
 mv 17 16,
 mG 18 4 17,
 oG 19 17 (.bin .eql) [.tmp 18, .cst (.t (.int .i64 0))],
 oO 20 .pick [.tmp 17, .tmp 19, .cst (.t (.bool false))],
 mv 21 20,
 oG 22 21 (.load 4 true) [.tmp 1],
 oG 23 21 (.load 4 true) [.tmp 3],
 cG 24 21 n_ref25_SameEvent false [.tmp 22, .tmp 23],
 oO 25 .pick [.tmp 21, .tmp 24, .cst (.t (.bool false))],
 mv 26 25,
 oG 27 26 (.load 4 true) [.tmp 1],
 cG 28 26 n_event_Check false [.tmp 27, .cst (.t (.int .i64 2))],
 oG 29 26 (.bin .eql) [.tmp 28, .cst (.t (.int .i64 0))],
 oO 30 .pick [.tmp 26, .tmp 29, .cst (.t (.bool false))],
 mv 31 30,
 oG 32 31 (.load 4 true) [.tmp 1],
 cG 33 31 n_event_Check false [.tmp 32, .cst (.t (.int .i64 3))],
 oG 34 31 (.bin .eql) [.tmp 33, .cst (.t (.int .i64 27))],
 oO 35 .pick [.tmp 31, .tmp 34, .cst (.t (.bool false))],
 mv 36 35,
 oG 37 36 (.load 4 true) [.tmp 1],
 cG 38 36 n_event_Consistent false [.tmp 37],
 oO 39 .pick [.tmp 36, .tmp 38, .cst (.t (.bool false))],
 mv 40 39,
 oG 41 40 (.bslice 1 1 (.t (byteT 0)) [0]) [.cst (.t (byteT 120))],
 oG 42 40 .idsl [.tmp 41],
 cG 43 40 n_event_Make true [.cst (.t (.int .i64 4)), .cst (.t (.int .i64 2)), .cst (.t (.int .i64 2)), .tmp 42],
 cG 44 40 n_event_Consistent false [.tmp 43],
 oG 45 40 (.un .not) [.tmp 44],
 oO 46 .pick [.tmp 40, .tmp 45, .cst (.t (.bool false))],
 mv 0 46])
 .ret)))))
def hints_law26_awake : List (Nat × List Nat) := [(1, [1]), (2, [1]), (3, [1]), (4, [29])]
def ac_law26_few_L0 (n_draw_Cut : Nat) : AC :=
 (.seq
 (.seq
 (rG 24576 [
 mv 17 4,
 mv 18 3,
 oO 19 .len [.tmp 18],
 bT 20 .lss 17 19])
 (.cond (.tmp 20)
 .skip
 (.exit 0)))
 (.seq
 (.block 1
 (rG 32768 [
 mv 23 3,
 mv 24 4,
 mv 25 3,
 mv 26 4,
 oO 27 (.iaddr 1) [.tmp 25, .tmp 26],
 oO 28 (.load 1 false) [.tmp 27],
 cL 29 n_draw_Cut true [.tmp 28, .cst (.t (.int .i64 70))],
 oO 30 (.iaddr 1) [.tmp 23, .tmp 24],
 oS 1 30 29]))
 (rG 28672 [
 mv 21 4,
 bN 22 .add 21 1,
 mv 4 22])))
def ac_law26_few (n_draw_Cut : Nat) : AC :=
 (.seq
 (rG 4096 [
 oO 1 .box [.tmp 0],
 oO 2 (.new 4 [(.agg [(.t (.int .i64 0)), (.t (.int .i64 0)), .nil, .nil])]) []])
 (.seq
 (.seq
 (rG 8192 [
 oO 5 (.faddr 2) [.tmp 1],
 oO 6 (.load 1 false) [.tmp 5],
 oO 7 .len [.tmp 6],
 bN 8 .gtr 7 5])
 (.cond (.tmp 8)
 (rG 12288 [
 oO 9 (.faddr 2) [.tmp 1],
 oO 10 (.load 1 false) [.tmp 9],
 oO 11 (.slice 1 false true false) [.tmp 10, .cst (.t (.int .i64 5))],
 oO 12 (.faddr 2) [.tmp 1],
 oS 1 12 11])
 .skip))
 (.seq
 (rG 16384 [
 oO 13 (.bslice 1 0 .nil []) [],
 oO 14 (.faddr 2) [.tmp 1],
 oO 15 (.load 1 false) [.tmp 14],
 oO 16 (.append 1 24) [.tmp 13, .tmp 15],
 mv 3 16])
 (.seq
 (.seq
 (rG 20480 [
 mC 4 (.t (.int .i64 0))])
 (.block 0
 (.loop (ac_law26_few_L0 n_draw_Cut))))
 (.seq
 (rG 36864 [
 mv 31 3,
 oO 32 (.faddr 3) [.tmp 1],
 oO 33 (.load 1 false) [.tmp 32],
 cL 34 n_draw_Cut true [.tmp 33, .cst (.t (.int .i64 100))],
 oO 35 (.faddr 2) [.tmp 1],
 oS 1 35 31,
 oO 36 (.faddr 3) [.tmp 1],
 oS 1 36 34])
 (.seq
 (rG 40960 [
 oO 37 (.load 4 true) [.tmp 1],
 oS 4 2 37])
 .ret))))))
def hints_law26_few : List (Nat × List Nat) := [(7, [6]), (8, [3])]
def ac_law26_changed (n_draw_New n_draw_Codes_Event n_draw_Mod : Nat) : AC :=
 (.seq
 (rG 4096 [
 oO 7 .box [.tmp 2],
 oO 10 (.new 4 [(.agg [(.t (.int .i64 0)), (.t (.int .i64 0)), .nil, .nil])]) []])
 (.seq
 (rG 8192 [
 mv 13 0,
 cL 14 n_draw_New true [.tmp 13, .cst (.t (.int .i64 20))],
 mv 15 1,
 cL 16 n_draw_Codes_Event true [.tmp 14, .tmp 15],
 oO 11 (.new 4 [(.agg [(.t (.int .i64 0)), (.t (.int .i64 0)), .nil, .nil])]) [],
 oS 4 11 16])
 (.seq
 (rG 12288 [
 oO 17 (.bslice 1 0 .nil []) [],
 oO 18 (.faddr 2) [.tmp 11],
 oO 19 (.load 1 false) [.tmp 18],
 oO 20 (.append 1 24) [.tmp 17, .tmp 19],
 mv 12 20])
 (.seq
 (.seq
 (rG 16384 [
 mv 21 3,
 cL 22 n_draw_Mod false [.tmp 21, .cst (.t (.int .i64 8))]])
 (.block 0
 (.seq
 (rG 24576 [
 bN 27 .eql 22 0,
 mv 26 27])
 (.cond (.tmp 26)
 (rG 28672 [
 oO 28 (.faddr 0) [.tmp 7],
 oO 29 (.load 1 false) [.tmp 28],
 oO 30 (.faddr 0) [.tmp 11],
 oS 1 30 29])
 (.seq
 (rG 32768 [
 bN 32 .eql 22 1,
 mv 31 32])
 (.cond (.tmp 31)
 (rG 36864 [
 mv 33 4,
 cL 34 n_draw_Mod false [.tmp 33, .cst (.t (.int .i64 14))],
 bN 35 .sub 34 1,
 oO 36 (.faddr 0) [.tmp 11],
 oS 1 36 35])
 (.seq
 (rG 40960 [
 bN 38 .eql 22 2,
 mv 37 38])
 (.cond (.tmp 37)
 (rG 45056 [
 mv 39 4,
 cL 40 n_draw_Mod false [.tmp 39, .cst (.t (.int .i64 7))],
 oO 41 (.faddr 1) [.tmp 11],
 oS 1 41 40])
 (.seq
 (rG 49152 [
 bN 43 .eql 22 3,
 mv 42 43])
 (.cond (.tmp 42)
 (rG 53248 [
 oO 44 (.faddr 2) [.tmp 7],
 oO 45 (.load 1 false) [.tmp 44],
 oO 46 (.faddr 2) [.tmp 11],
 oS 1 46 45])
 (.seq
 (rG 57344 [
 bN 48 .eql 22 4,
 mv 47 48])
 (.cond (.tmp 47)
 (.seq
 (rG 61440 [
 mv 49 12,
 mv 50 4,
 cL 51 n_draw_Mod false [.tmp 50, .cst (.t (.int .i64 2))],
 oO 52 (.iaddr 1) [.tmp 49, .tmp 51],
⟨none, (.op (.store 1)), [.tmp 52, .cst .nil], none⟩])
 (rG 65536 [
 mv 53 12,
 oO 54 (.faddr 2) [.tmp 11],
 oS 1 54 53]))
 (.seq
 (rG 69632 [
 bN 56 .eql 22 5,
 mv 55 56])
 (.cond (.tmp 55)
 (.seq
 (.reg 73728 (some [0, 0, 0, 4, 12, 0, 32, 96, 253, 509, 1023, 2047]) [
 mv 57 12,
 mv 58 12,
 mv 59 12,
 oO 60 (.iaddr 1) [.tmp 59, .cst (.t (.int .i64 1))],
 oO 61 (.load 1 false) [.tmp 60],
 mv 62 12,
 oO 63 (.iaddr 1) [.tmp 62, .cst (.t (.int .i64 0))],
 oO 64 (.load 1 false) [.tmp 63],
 oO 65 (.iaddr 1) [.tmp 57, .cst (.t (.int .i64 0))],
 oS 1 65 61,
 oO 66 (.iaddr 1) [.tmp 58, .cst (.t (.int .i64 1))],
 oS 1 66 64])
 (rG 77824 [
 mv 67 12,
 oO 68 (.faddr 2) [.tmp 11],
 oS 1 68 67]))
 (.seq
 (rG 81920 [
 bN 70 .eql 22 6,
 mv 69 70])
 (.cond (.tmp 69)
 (rG 86016 [
 oO 71 (.faddr 3) [.tmp 7],
 oO 72 (.load 1 false) [.tmp 71],
 oO 73 (.faddr 3) [.tmp 11],
 oS 1 73 72])
 (rG 20480 [
 mv 23 12,
 oO 24 (.slice 1 false true false) [.tmp 23, .cst (.t (.int .i64 1))],
 oO 25 (.faddr 2) [.tmp 11],
 oS 1 25 24])))))))))))))))))
 (.seq
 (rG 90112 [
 oO 74 (.load 4 true) [.tmp 11],
 oS 4 10 74])
 .ret)))))
def hints_law26_changed : List (Nat × List Nat) := [(1, [1, 3])]
def ac_law26_EventCheck (n_law26_awake n_law26_few n_event_Check n_ref25_Event n_draw_Active n_law26_changed n_draw_New n_draw_Codes_Event : Nat) : AC :=
 (.seq
 (rG 4096 [
 oO 5 .box [.tmp 0],
 mC 10 (.t (.bool false))])
 (.seq
 (.seq
 (rG 8192 [
 cL 13 n_law26_awake false [],
 oO 14 (.un .not) [.tmp 13]])
 (.cond (.tmp 14)
 (.seq
 (rG 12288 [
 mC 10 (.t (.bool false))])
 .ret)
 .skip))
 (.seq
 (rG 16384 [
 oO 15 (.load 4 true) [.tmp 5],
 cL 16 n_law26_few true [.tmp 15],
 oS 4 5 16])
 (.seq
 (.seq
 (.reg 20480 (some [0, 0, 3, 0, 0, 31, 63]) [
 oO 17 (.load 4 true) [.tmp 5],
 mv 18 1,
 cL 19 n_event_Check false [.tmp 17, .tmp 18],
 oO 20 (.load 4 true) [.tmp 5],
 mv 21 1,
 cL 22 n_ref25_Event false [.tmp 20, .tmp 21],
 bT 23 .neq 19 22])
 (.cond (.tmp 23)
 (.seq
 (rG 24576 [
 mC 10 (.t (.bool false))])
 .ret)
 .skip))
 (.seq
 (rG 28672 [
 mv 24 1,
 cL 25 n_draw_Active false [.tmp 24],
 mv 11 25])
 (.seq
 (rG 32768 [
 mv 26 2,
 mv 27 11,
 oO 28 (.load 4 true) [.tmp 5],
 mv 29 3,
 mv 30 4,
 cL 31 n_law26_changed true [.tmp 26, .tmp 27, .tmp 28, .tmp 29, .tmp 30],
 oO 12 (.new 4 [(.agg [(.t (.int .i64 0)), (.t (.int .i64 0)), .nil, .nil])]) [],
 oS 4 12 31])
 (.seq
 (.reg 36864 (some [0, 0, 3, 0, 0, 31, 63, 127, 255, 511, 255, 2047, 255, 8191, 16383, 32767, 65535]) [
 oO 32 (.load 4 true) [.tmp 12],
 mv 33 11,
 cL 34 n_event_Check false [.tmp 32, .tmp 33],
 oO 35 (.load 4 true) [.tmp 12],
 mv 36 11,
 cL 37 n_ref25_Event false [.tmp 35, .tmp 36],
 bT 38 .eql 34 37,
 mv 39 38,
 mG 40 2 39,
 cG 41 39 n_draw_New true [.tmp 40, .cst (.t (.int .i64 20))],
 mG 42 11 39,
 cG 43 39 n_draw_Codes_Event true [.tmp 41, .tmp 42],
 mG 44 11 39,
 cG 45 39 n_event_Check false [.tmp 43, .tmp 44],
 oG 46 39 (.bin .eql) [.tmp 45, .cst (.t (.int .i64 0))],
 oO 47 .pick [.tmp 39, .tmp 46, .cst (.t (.bool false))],
 mv 10 47])
 .ret)))))))
def hints_law26_EventCheck : List (Nat × List Nat) := [(3, [1]), (7, [5]), (8, [9, 11])]
def ac_law26_EventConsistent (n_law26_awake n_law26_few n_draw_Active n_law26_changed n_draw_New n_draw_Codes_Event n_event_Consistent n_ref25_Consistent : Nat) : AC :=
 (.seq
 (rG 4096 [
 oO 5 .box [.tmp 0],
 mC 10 (.t (.bool false))])
 (.seq
 (.seq
 (rG 8192 [
 cL 14 n_law26_awake false [],
 oO 15 (.un .not) [.tmp 14]])
 (.cond (.tmp 15)
 (.seq
 (rG 12288 [
 mC 10 (.t (.bool false))])
 .ret)
 .skip))
 (.seq
 (rG 16384 [
 oO 16 (.load 4 true) [.tmp 5],
 cL 17 n_law26_few true [.tmp 16],
 oS 4 5 17])
 (.seq
 (rG 20480 [
 mv 18 1,
 cL 19 n_draw_Active false [.tmp 18],
 mv 11 19])
 (.seq
 (rG 24576 [
 mv 20 2,
 mv 21 11,
 oO 22 (.load 4 true) [.tmp 5],
 mv 23 3,
 mv 24 4,
 cL 25 n_law26_changed true [.tmp 20, .tmp 21, .tmp 22, .tmp 23, .tmp 24],
 oO 12 (.new 4 [(.agg [(.t (.int .i64 0)), (.t (.int .i64 0)), .nil, .nil])]) [],
 oS 4 12 25])
 (.seq
 (rG 28672 [
 mv 26 2,
 cL 27 n_draw_New true [.tmp 26, .cst (.t (.int .i64 20))],
 mv 28 11,
 cL 29 n_draw_Codes_Event true [.tmp 27, .tmp 28],
 oO 13 (.new 4 [(.agg [(.t (.int .i64 0)), (.t (.int .i64 0)), .nil, .nil])]) [],
 oS 4 13 29])
 (.seq
 (.reg 32768 (some [0, 1, 0, 7, 15, 31, 63, 127, 63, 511, 1023, 2047, 4095, 8191, 16383, 8191, 65535, 131071, 262143, 524287]) [
 oO 30 (.load 4 true) [.tmp 5],
 cL 31 n_event_Consistent false [.tmp 30],
 oO 32 (.load 4 true) [.tmp 5],
 cL 33 n_ref25_Consistent false [.tmp 32],
 oO 34 (.beq false) [.tmp 31, .tmp 33],
 mv 35 34,
 oG 36 35 (.load 4 true) [.tmp 12],
 cG 37 35 n_event_Consistent false [.tmp 36],
 oG 38 35 (.load 4 true) [.tmp 12],
 cG 39 35 n_ref25_Consistent false [.tmp 38],
 oG 40 35 (.beq false) [.tmp 37, .tmp 39],
 oO 41 .pick [.tmp 35, .tmp 40, .cst (.t (.bool false))],
 mv 42 41,
 oG 43 42 (.load 4 true) [.tmp 13],
 cG 44 42 n_event_Consistent false [.tmp 43],
 oG 45 42 (.load 4 true) [.tmp 13],
 cG 46 42 n_ref25_Consistent false [.tmp 45],
 oG 47 42 (.beq false) [.tmp 44, .tmp 46],
 oO 48 .pick [.tmp 42, .tmp 47, .cst (.t (.bool false))],
 mv 10 48])
 .ret)))))))
def hints_law26_EventConsistent : List (Nat × List Nat) := [(3, [1]), (5, [5]), (6, [1, 3])]
def ac_law26_EventCodec (n_law26_awake n_law26_few n_draw_Active n_draw_New n_draw_Codes_Event n_event_Encode n_event_Decode n_ref25_SameEvent n_ref25_EncodeEvent n_ref1_Same : Nat) : AC :=
 (.seq
 (rG 4096 [
 oO 3 .box [.tmp 0],
 mC 6 (.t (.bool false))])
 (.seq
 (.seq
 (rG 8192 [
 cL 13 n_law26_awake false [],
 oO 14 (.un .not) [.tmp 13]])
 (.cond (.tmp 14)
 (.seq
 (rG 12288 [
 mC 6 (.t (.bool false))])
 .ret)
 .skip))
 (.seq
 (rG 16384 [
 oO 15 (.load 4 true) [.tmp 3],
 cL 16 n_law26_few true [.tmp 15],
 oS 4 3 16])
 (.seq
 (rG 20480 [
 mv 17 1,
 cL 18 n_draw_Active false [.tmp 17],
 mv 7 18])
 (.seq
 (rG 24576 [
 mv 19 2,
 cL 20 n_draw_New true [.tmp 19, .cst (.t (.int .i64 20))],
 mv 21 7,
 cL 22 n_draw_Codes_Event true [.tmp 20, .tmp 21],
 oO 8 (.new 4 [(.agg [(.t (.int .i64 0)), (.t (.int .i64 0)), .nil, .nil])]) [],
 oS 4 8 22])
 (.seq
 (rG 28672 [
 oO 23 (.load 4 true) [.tmp 8],
 cL 24 n_event_Encode true [.tmp 23],
 mv 9 24])
 (.seq
 (rG 32768 [
 mv 26 9,
 cL 27 n_event_Decode true [.tmp 26],
 mv 25 27,
 oO 28 (.extract 0) [.tmp 25],
 oO 29 (.extract 1) [.tmp 25],
 oO 10 (.new 4 [(.agg [(.t (.int .i64 0)), (.t (.int .i64 0)), .nil, .nil])]) [],
 oS 4 10 28,
 mv 11 29])
 (.seq
 (.seq
 (rG 36864 [
 mv 30 11,
 bN 31 .neq 30 0,
 mv 32 31,
 oF 33 32 (.load 4 true) [.tmp 8],
 oF 34 32 (.load 4 true) [.tmp 10],
 cF 35 32 n_ref25_SameEvent false [.tmp 33, .tmp 34],
 oF 36 32 (.un .not) [.tmp 35],
 oO 37 .pick [.tmp 32, .cst (.t (.bool true)), .tmp 36],
 mv 38 37,
 mF 39 9 38,
 oF 40 38 (.load 4 true) [.tmp 8],
 cF 41 38 n_ref25_EncodeEvent false [.tmp 40],
 cF 42 38 n_ref1_Same false [.tmp 39, .tmp 41],
 oF 43 38 (.un .not) [.tmp 42],
 oO 44 .pick [.tmp 38, .cst (.t (.bool true)), .tmp 43]])
 (.cond (.tmp 44)
 (.seq
 (rG 40960 [
 mC 6 (.t (.bool false))])
 .ret)
 .skip))
 (.seq
 (rG 45056 [
 oO 45 (.load 4 true) [.tmp 3],
 cL 46 n_event_Encode true [.tmp 45],
 mv 12 46])
 (.seq
 (.seq
 (rG 49152 [
 mv 47 12,
 oO 48 (.load 4 true) [.tmp 3],
 cL 49 n_ref25_EncodeEvent false [.tmp 48],
 cL 50 n_ref1_Same false [.tmp 47, .tmp 49],
 oO 51 (.un .not) [.tmp 50]])
 (.cond (.tmp 51)
 (.seq
 (rG 53248 [
 mC 6 (.t (.bool false))])
 .ret)
 .skip))
 (.seq
 (rG 57344 [
 mv 53 12,
 cL 54 n_event_Decode true [.tmp 53],
 mv 52 54,
 oO 55 (.extract 0) [.tmp 52],
 oO 56 (.extract 1) [.tmp 52],
 oS 4 10 55,
 mv 11 56])
 (.seq
 (rG 61440 [
 mv 57 11,
 bN 58 .eql 57 0,
 mv 59 12,
 oO 60 .len [.tmp 59],
 bN 61 .gtr 60 0,
 oO 62 (.beq false) [.tmp 58, .tmp 61],
 mv 63 62,
 mG 64 11 63,
 oG 65 63 (.bin .neq) [.tmp 64, .cst (.t (.int .i64 0))],
 mG 66 65 63,
 oF 67 66 (.load 4 true) [.tmp 10],
 oF 68 66 (.load 4 true) [.tmp 3],
 cF 69 66 n_ref25_SameEvent false [.tmp 67, .tmp 68],
 oG 70 63 .pick [.tmp 66, .cst (.t (.bool true)), .tmp 69],
 oO 71 .pick [.tmp 63, .tmp 70, .cst (.t (.bool false))],
 mv 6 71])
 .ret))))))))))))
def hints_law26_EventCodec : List (Nat × List Nat) := [(3, [1]), (5, [1, 3]), (6, [1]), (7, [1]), (10, [1]), (13, [1])]
end Go.Eng
end
section
set_option maxRecDepth 20000
set_option maxHeartbeats 64000000
namespace Go.Eng
theorem rdBlob_of {b p x t : List UInt8} {most : Nat} (hb : b = p ++ beI 2 (x.length : Int) 2 ++ x ++ t) (hx : x.length ≤ most) (hm : most ≤ 65535) : rdBlob (b, p.length, 0) most = (x, (b, p.length + 2 + x.length, 0)) := by
  have hlen : b.length = p.length + 2 + x.length + t.length := by rw [hb]; simp only [List.length_append, beI_len]
  have h1 : List.take 2 (List.drop p.length b) = beI 2 (x.length : Int) 2 := take_mid (t := x ++ t) (by rw [hb]; simp only [List.append_assoc]) beI_len
  have h2 : beV (beI 2 (x.length : Int) 2) = x.length := by
    rw [beV_all]
    have e : (256 : Nat) ^ 2 = 65536 := by decide
    have := m64_of (n := (x.length : Int)) (by omega)
    rw [e]; omega
  have h3 : List.take x.length (List.drop (p.length + 2) b) = x := by
    have := take_mid (b := b) (p := p ++ beI 2 (x.length : Int) 2) (q := x) (t := t) (k := x.length) hb rfl
    rw [List.length_append, beI_len] at this
    exact this
  unfold rdBlob
  simp only [h1, h2]
  rw [if_neg (by simp), if_neg (by omega), if_neg (by omega), if_neg (by omega), h3]
theorem beV_beI1 {n : Int} (h : 0 ≤ n ∧ n < 256) : ((beV (beI 1 n 1) : Nat) : Int) = n := by
  rw [beV_all]
  have := m64_of (n := n) (by omega)
  omega
theorem dcEv_enc {e : Ev} (h : wrE e = true) : dcEv (encE e) = (e, 0) := by
  obtain ⟨r, k, ds, d⟩ := e
  obtain ⟨rb, kb, hd, d0, d1, rfl, q0, q1⟩ := wrE_true h
  have hE : encE (r, k, [d0, d1], d) = beI 1 r 1 ++ beI 1 k 1 ++ beI 2 (d0.length : Int) 2 ++ d0 ++ beI 2 (d1.length : Int) 2 ++ d1 ++ beI 2 (d.length : Int) 2 ++ d := by
    rw [encE_two]; unfold blL; simp only [List.append_assoc]
  generalize hb : encE (r, k, [d0, d1], d) = b at *
  have v1 := beV_beI1 (n := r) (by omega)
  have v2 := beV_beI1 (n := k) (by omega)
  have r1 : rdUint (b, 0, 0) 1 = (r, (b, 1, 0)) := by
    have := rdUint_of (b := b) (p := []) (q := beI 1 r 1) (t := beI 1 k 1 ++ beI 2 (d0.length : Int) 2 ++ d0 ++ beI 2 (d1.length : Int) 2 ++ d1 ++ beI 2 (d.length : Int) 2 ++ d) (k := 1) (by rw [hE]; simp only [List.nil_append, List.append_assoc]) beI_len (by omega)
    rw [v1] at this
    exact this
  have r2 : rdUint (b, 1, 0) 1 = (k, (b, 2, 0)) := by
    have := rdUint_of (b := b) (p := beI 1 r 1) (q := beI 1 k 1) (t := beI 2 (d0.length : Int) 2 ++ d0 ++ beI 2 (d1.length : Int) 2 ++ d1 ++ beI 2 (d.length : Int) 2 ++ d) (k := 1) (by rw [hE]; simp only [List.append_assoc]) beI_len (by omega)
    rw [v2, beI_len] at this
    exact this
  have r3 : rdBlob (b, 2, 0) 32 = (d0, (b, 2 + 2 + d0.length, 0)) := by
    have := rdBlob_of (b := b) (p := beI 1 r 1 ++ beI 1 k 1) (x := d0) (t := beI 2 (d1.length : Int) 2 ++ d1 ++ beI 2 (d.length : Int) 2 ++ d) (most := 32) (by rw [hE]; simp only [List.append_assoc]) q0 (by omega)
    rw [List.length_append, beI_len, beI_len] at this
    exact this
  have r4 : rdBlob (b, 2 + 2 + d0.length, 0) 32 = (d1, (b, 2 + 2 + d0.length + 2 + d1.length, 0)) := by
    have := rdBlob_of (b := b) (p := beI 1 r 1 ++ beI 1 k 1 ++ beI 2 (d0.length : Int) 2 ++ d0) (x := d1) (t := beI 2 (d.length : Int) 2 ++ d) (most := 32) (by rw [hE]; simp only [List.append_assoc]) q1 (by omega)
    rw [List.length_append, List.length_append, List.length_append, beI_len, beI_len, beI_len] at this
    exact this
  have r5 : rdBlob (b, 2 + 2 + d0.length + 2 + d1.length, 0) 64 = (d, (b, 2 + 2 + d0.length + 2 + d1.length + 2 + d.length, 0)) := by
    have := rdBlob_of (b := b) (p := beI 1 r 1 ++ beI 1 k 1 ++ beI 2 (d0.length : Int) 2 ++ d0 ++ beI 2 (d1.length : Int) 2 ++ d1) (x := d) (t := []) (most := 64) (by rw [hE]; simp only [List.append_assoc, List.append_nil]) hd (by omega)
    simp only [List.length_append, beI_len] at this
    have e : 1 + 1 + 2 + d0.length + 2 + d1.length = 2 + 2 + d0.length + 2 + d1.length := by omega
    rw [e] at this
    exact this
  have hl : b.length = 2 + 2 + d0.length + 2 + d1.length + 2 + d.length := by rw [hE]; simp only [List.length_append, beI_len]
  have hR : rdEv (b, 0, 0) = ((r, k, [d0, d1], d), (b, b.length, 0)) := by
    unfold rdEv
    simp only [r1, r2, r3, r4, r5, hl]
  unfold dcEv
  rw [hR]
  have hend : rdEnd (b, b.length, 0) = 0 := by unfold rdEnd; rw [if_neg (by simp)]
  simp only
  rw [if_pos ⟨hend, h⟩]
theorem decE_eq {b : List UInt8} (h : b.length < 1000000000) : ct_decE.fs [.t (.sl (b.map byteT))] [] = some (.tup [.t (evT (dcEv b).1), .t (.int .i64 (dcEv b).2)], []) := ct_decE.eq b h
theorem con_eq {a b : Int} {c : List (List UInt8)} {d : List UInt8} (h : evM (a, b, c, d)) : ct_con.fs [.t (.agg [.int .i64 a, .int .i64 b, .sl (c.map bsT), .sl (d.map byteT)])] [] = some (.t (.bool (conE (a, b, c, d))), []) := ct_con.eq (a, b, c, d) h
theorem sameE_refl {a b : Int} {c : List (List UInt8)} {d : List UInt8} (h : evM (a, b, c, d)) : ct_sameE.fs [.t (.agg [.int .i64 a, .int .i64 b, .sl (c.map bsT), .sl (d.map byteT)]), .t (.agg [.int .i64 a, .int .i64 b, .sl (c.map bsT), .sl (d.map byteT)])] [] = some (.t (.bool true), []) := by
  have := ct_sameE.eq ((a, b, c, d), (a, b, c, d)) ⟨h, h⟩
  have e : ct_sameE.r ((a, b, c, d), (a, b, c, d)) = .t (.bool true) := by
    show V.t (.bool (decide ((a, b, c, d) = (a, b, c, d)))) = _
    rw [decide_eq_true rfl]
  rw [e] at this
  exact this
theorem w_awake26 (tab : Tab) (gl : Gl) (n1 n2 n3 n4 n5 n6 : Nat) (h1 : tab.look n1 = some ct_make.fs) (h2 : tab.look n2 = some ct_encE.fs) (h3 : tab.look n3 = some ct_decE.fs) (h4 : tab.look n4 = some ct_sameE.fs) (h5 : tab.look n5 = some ct_chk.fs) (h6 : tab.look n6 = some ct_con.fs) :
    (ac_law26_awake n1 n2 n3 n4 n5 n6).wp tab gl (zipF 0 []) (zipF 0 []) (resW [(0, none)] 0 (fun r o => r = .t (.bool true) ∧ o = [])) := by
  have hm0 := make_eq (r := 4) (k := 2) (act := 2) (d := sep4) ⟨by omega, by decide⟩
  have hx0 := make_eq (r := 4) (k := 2) (act := 2) (d := [120]) ⟨by omega, by decide⟩
  have a0 : mkD 2 2 sep4 0 = [] := by rw [mkD0]; simp
  have a1 : mkD 2 2 sep4 1 = sum256 sep4 := by rw [mkD1]; simp
  have x0 : mkD 2 2 [120] 0 = [] := by rw [mkD0]; simp
  have x1 : mkD 2 2 [120] 1 = sum256 [120] := by rw [mkD1]; simp
  rw [a0, a1] at hm0
  rw [x0, x1] at hx0
  have ls : (sum256 sep4).length = 32 := sum256_length
  have lx : (sum256 [120]).length = 32 := sum256_length
  have hcA : sumA 1 sep4 = sum256 sep4 := rfl
  have hc1 : conE (4, 2, [[], sum256 sep4], sep4) = true := by
    have q : conE (4, 2, [[], sum256 sep4], sep4) = conD 2 [[], sum256 sep4] sep4 := by unfold conE; simp
    rw [q]
    unfold conD
    have c0 : conA 2 [[], sum256 sep4] sep4 0 = true := conA_z rfl
    have c1 : conA 2 [[], sum256 sep4] sep4 1 = true := by
      unfold conA
      have e : [[], sum256 sep4].getD 1 [] = sum256 sep4 := rfl
      rw [e, hcA, decide_eq_true rfl]; simp
    rw [c0, c1]; rfl
  generalize sum256 sep4 = S at *
  generalize sum256 [120] = X at *
  have em : evM (4, 2, [[], S], sep4) := ⟨⟨by simp, fun x hx => by simp at hx; rcases hx with rfl | rfl <;> simp [ls]⟩, by simp [sep4]⟩
  have xm : evM (4, 2, [[], X], [120]) := ⟨⟨by simp, fun x hx => by simp at hx; rcases hx with rfl | rfl <;> simp [lx]⟩, by simp⟩
  have hwr : wrE (4, 2, [[], S], sep4) = true := by
    have := wrE_two (r := 4) (k := 2) (d0 := []) (d1 := S) (d := sep4) (by unfold wrBad; decide)
    rw [this, ls]; rfl
  have hen := encE_eq em
  have hde := dcEv_enc hwr
  have e1 : encE' (4, 2, [[], S], sep4) = encE (4, 2, [[], S], sep4) := if_pos hwr
  have lb : (encE (4, 2, [[], S], sep4)).length = 44 := by
    rw [encE_two, blL_len, blL_len, blL_len, List.length_append, beI_len, beI_len, ls]; rfl
  rw [e1] at hen
  have hdc := decE_eq (b := encE (4, 2, [[], S], sep4)) (by omega)
  rw [hde] at hdc
  generalize encE (4, 2, [[], S], sep4) = B at *
  have hsa := sameE_refl em
  have w0 : ∀ a : Int, wantL 2 a 0 = if a % 2 = 1 then 20 else 0 := fun a => by rw [wantL0]; simp
  have w1 : ∀ a : Int, wantL 2 a 1 = if a / 2 % 2 = 1 then 32 else 0 := fun a => by rw [wantL1]; simp
  have k2 : chkE (4, 2, [[], S], sep4) 2 = 0 := by
    unfold chkE
    rw [if_neg (by simp [badE]), if_neg (by simp [sep4])]
    simp only [fitE_two, w0, w1, ls]; decide
  have k3 : chkE (4, 2, [[], S], sep4) 3 = 27 := by
    unfold chkE
    rw [if_neg (by simp [badE]), if_neg (by simp [sep4])]
    simp only [fitE_two, w0, w1, ls]; decide
  have hk2 := chk_eq (act := 2) em
  have hk3 := chk_eq (act := 3) em
  rw [k2] at hk2
  rw [k3] at hk3
  have hco := con_eq em
  rw [hc1] at hco
  have hcx := con_eq xm
  have cx : conE (4, 2, [[], X], [120]) = false := by
    unfold conE
    simp only
    rw [if_neg (by decide), if_neg (by decide), if_pos (by simp [sep4])]
  rw [cx] at hcx
  have t44 : List.take 44 B = B := List.take_of_length_le (by omega)
  simp only [evT_def, sep4, List.map_cons, List.map_nil, bsT_def] at hm0 hx0 hen hdc hsa hk2 hk3 hco hcx
  simp (disch := omega) only [go_sem, ↓reduceIte, Nat.reduceAdd, Nat.reduceEqDiff, Nat.reduceLT, Nat.reduceLeDiff, ac_law26_awake, h1, hm0, h2, hen, h3, hdc, h4, hsa, h5, hk2, hk3, h6, hco, hx0, hcx, lb, t44]
  all_goals rfl
end Go.Eng
end
section
set_option maxRecDepth 20000
set_option maxHeartbeats 64000000
namespace Go.Eng
def ct_mod : Ct where
  α := Int × Int
  as x := [.t (.int .i64 x.1), .t (.int .i64 x.2)]
  ins _ := []
  pre x := (-9223372036854775808 ≤ x.1 ∧ x.1 < 9223372036854775808) ∧ (-9223372036854775808 ≤ x.2 ∧ x.2 < 9223372036854775808)
  r x := .t (.int .i64 (modI x.1 x.2))
  outs _ := []
  inj := by
    rintro ⟨a, b⟩ ⟨c, d⟩ h _
    simp only [List.cons.injEq, V.t.injEq, T.int.injEq, true_and, and_true] at h
    obtain ⟨rfl, rfl⟩ := h
    exact ⟨rfl, rfl⟩
theorem mod_eq {a b : Int} (h : (-9223372036854775808 ≤ a ∧ a < 9223372036854775808) ∧ (-9223372036854775808 ≤ b ∧ b < 9223372036854775808)) : ct_mod.fs [.t (.int .i64 a), .t (.int .i64 b)] [] = some (.t (.int .i64 (modI a b)), []) := ct_mod.eq (a, b) h
end Go.Eng
end
section
set_option maxRecDepth 20000
set_option maxHeartbeats 64000000
namespace Go.Eng
theorem mkD_len {k act : Int} {d : List UInt8} {a : Nat} : (mkD k act d a).length = wantL k act a := by
  unfold mkD wantL
  split
  · exact sumA_length
  · rfl
theorem wantL_le {k act : Int} {a : Nat} : wantL k act a ≤ 32 := by
  unfold wantL szA
  split
  · split
    · omega
    · split <;> omega
  · omega
theorem mkE_m {r k act : Int} {d : List UInt8} (h : d.length < 1000000000) : evM (mkE r k act d) := by
  have w0 := wantL_le (k := k) (act := act) (a := 0)
  have w1 := wantL_le (k := k) (act := act) (a := 1)
  refine ⟨⟨by simp [mkE], fun x hx => ?_⟩, h⟩
  simp only [mkE, List.mem_cons, List.not_mem_nil, or_false] at hx
  rcases hx with rfl | rfl <;> (rw [mkD_len]; omega)
theorem mkE_ok {r k act : Int} {d : List UInt8} (hr : 0 ≤ r ∧ r ≤ 11) (hk : 1 ≤ k ∧ k ≤ 5) (ha : 1 ≤ act ∧ act ≤ 3) (hd : d.length ≤ 64) : chkE (mkE r k act d) act = 0 := by
  unfold chkE mkE
  simp only
  rw [if_neg (by unfold badE; omega), if_neg (by omega), if_pos]
  rw [fitE_two, mkD_len, mkD_len, decide_eq_true rfl, decide_eq_true rfl]; rfl
theorem mkE_wr {r k act : Int} {d : List UInt8} (hr : 0 ≤ r ∧ r ≤ 11) (hk : 1 ≤ k ∧ k ≤ 5) (hd : d.length ≤ 64) : wrE (mkE r k act d) = true := by
  have w0 := wantL_le (k := k) (act := act) (a := 0)
  have w1 := wantL_le (k := k) (act := act) (a := 1)
  unfold mkE
  rw [wrE_two (by unfold wrBad; omega), mkD_len, mkD_len, decide_eq_true w0, decide_eq_true w1]; rfl
theorem modI_lt {a m : Int} (h : 1 ≤ m) : 0 ≤ modI a m ∧ modI a m < m := by
  unfold modI
  rw [if_neg (by omega)]
  exact ⟨Int.emod_nonneg _ (by omega), Int.emod_lt_of_pos _ (by omega)⟩
end Go.Eng
end
section
set_option maxRecDepth 20000
set_option maxHeartbeats 64000000
namespace Go.Eng
def lineL (i : Nat) : List UInt8 := match i with
  | 0 => [97, 61, 49]
  | 1 => [99, 111, 117, 110, 116, 61, 53]
  | 2 => [99, 111, 117, 110, 116, 61, 49, 55]
  | 3 => [104, 111, 115, 116, 61, 120]
  | 4 => [109, 111, 100, 101, 32, 98]
  | _ => [126]
theorem lineL_len {i : Nat} : 1 ≤ (lineL i).length ∧ (lineL i).length ≤ 8 := by
  unfold lineL; split <;> decide
def ct_line : Ct where
  α := Cd
  as _ := [.ref 0 0 0]
  ins x := [cdOb x]
  pre x := cdOk x
  r x := .t (.sl ((lineL (nx x 6).1).map byteT))
  outs x := [cdOb (nx x 6).2]
  inj := by
    intro s t _ h2
    simp only [List.cons.injEq, and_true] at h2
    cases cdOb_inj h2
    exact ⟨rfl, rfl⟩
theorem line_eq {c : Cd} (h : cdOk c) : ct_line.fs [.ref 0 0 0] [cdO c] = some (.t (.sl ((lineL (nx c 6).1).map byteT)), [cdO (nx c 6).2]) := ct_line.eq c h
theorem w_draw_Line (tab : Tab) (gl : Gl) (n1 : Nat) (h1 : tab.look n1 = some ct_next.fs) (c : Cd) (hc : cdOk c) :
    (ac_draw_Codes_Line n1).wp tab gl (zipF 0 [.ref 0 0 0]) (zipF 0 [cdOb c]) (resW [(2, none)] 1 (fun r o => r = .t (.sl ((lineL (nx c 6).1).map byteT)) ∧ o = [cdOb (nx c 6).2])) := by
  have hn := next_eq (c := c) (n := 6) ⟨hc, by omega, by omega⟩
  have hl := nx_lt (c := c) (n := 6) (by omega)
  have k6 : ((6 : Nat) : Int) = 6 := rfl
  rw [k6] at hn
  generalize nx c 6 = q at *
  obtain ⟨i, b', a'⟩ := q
  obtain ⟨b, a⟩ := c
  simp only at hl hn
  rcases (show i = 0 ∨ i = 1 ∨ i = 2 ∨ i = 3 ∨ i = 4 ∨ i = 5 by omega) with rfl | rfl | rfl | rfl | rfl | rfl
  all_goals simp only [cdO, Int.natCast_zero, Int.natCast_one, Int.cast_ofNat_Int] at hn
  all_goals simp (config := { maxSteps := 2000000 }) (disch := (first | omega | (simp only [lens, lenm]; omega))) only [go_sem, ↓reduceIte, Nat.reduceAdd, Nat.reduceEqDiff, Nat.reduceSub, Nat.reduceMul, Nat.reduceLT, Nat.reduceLeDiff, Nat.reduceBEq, Int.reduceEq, Int.reduceLT, Int.reduceLE, Int.reduceToNat, Int.reduceNeg, Int.reduceAdd, Int.reduceSub, Int.reduceMul, Int.reduceMod, Int.reduceDiv, reduceCtorEq, Nat.reducePow, Int.reducePow, ac_draw_Codes_Line, cdOb_eq, h1, hn, lineL, List.map_cons, List.map_nil]
def regT8 (i : Nat) : Int := match i with | 2 => 4 | 3 => 8 | 4 => 9 | 5 => 9 | 6 => 1 | 7 => 11 | _ => 0
theorem regT8_le {i : Nat} : 0 ≤ regT8 i ∧ regT8 i ≤ 11 := by unfold regT8; split <;> omega
theorem regT8_get {i : Nat} (h : i < 8) : [V.t (.int .i64 0), V.t (.int .i64 0), V.t (.int .i64 4), V.t (.int .i64 8), V.t (.int .i64 9), V.t (.int .i64 9), V.t (.int .i64 1), V.t (.int .i64 11)][i]? = some (V.t (.int .i64 (regT8 i))) := by
  rcases (show i = 0 ∨ i = 1 ∨ i = 2 ∨ i = 3 ∨ i = 4 ∨ i = 5 ∨ i = 6 ∨ i = 7 by omega) with rfl | rfl | rfl | rfl | rfl | rfl | rfl | rfl <;> rfl
def evData (c : Cd) : List UInt8 × Cd := if (nx (nx c 6).2 4).1 = 3 then ((lineL (nx c 6).1).take (nx (nx (nx c 6).2 4).2 2).1, (nx (nx (nx c 6).2 4).2 2).2) else (lineL (nx c 6).1, (nx (nx c 6).2 4).2)
def evKind (c : Cd) : Int × Int × Cd := (1 + ((nx c 5).1 : Int), regT8 (nx (nx c 5).2 8).1, (nx (nx c 5).2 8).2)
def evSep (k r : Int) (d : List UInt8) (c : Cd) : Int × List UInt8 × Cd :=
  if k = 2 then (if 0 < (nx c 4).1 then ((nx (nx c 4).2 8).1, sep4, (nx (nx c 4).2 8).2) else (r, d, (nx c 4).2)) else (r, d, c)
def evDig (k r act : Int) (d : List UInt8) (c : Cd) : Ev × Cd :=
  if k = 5 then (mkE r k act d, c) else if (nx c 4).1 = 3 then ((r, k, dgB act [UInt8.ofNat (nx (nx c 4).2 4).1, UInt8.ofNat k.toNat], d), (nx (nx c 4).2 4).2) else (mkE r k act d, (nx c 4).2)
def evG (c : Cd) (act : Int) : Ev × Cd :=
  let d := evData c
  let k := evKind d.2
  let s := evSep k.1 k.2.1 d.1 k.2.2
  evDig k.1 s.1 act s.2.1 s.2.2
theorem evData_le {c : Cd} : (evData c).1.length ≤ 8 := by
  unfold evData; split
  · have := (lineL_len (i := (nx c 6).1)).2
    simp only [List.length_take]; omega
  · exact lineL_len.2
theorem evKind_le {c : Cd} : (1 ≤ (evKind c).1 ∧ (evKind c).1 ≤ 5) ∧ 0 ≤ (evKind c).2.1 ∧ (evKind c).2.1 ≤ 11 := by
  have h := nx_lt (c := c) (n := 5) (by omega)
  refine ⟨⟨?_, ?_⟩, regT8_le⟩ <;> (unfold evKind; simp only; omega)
theorem evSep_le {k r : Int} {d : List UInt8} {c : Cd} (hr : 0 ≤ r ∧ r ≤ 11) (hd : d.length ≤ 8) : (0 ≤ (evSep k r d c).1 ∧ (evSep k r d c).1 ≤ 11) ∧ (evSep k r d c).2.1.length ≤ 8 := by
  unfold evSep
  split
  · split
    · have := nx_lt (c := (nx c 4).2) (n := 8) (by omega)
      refine ⟨⟨?_, ?_⟩, ?_⟩
      · simp only; omega
      · simp only; omega
      · show sep4.length ≤ 8
        decide
    · exact ⟨hr, hd⟩
  · exact ⟨hr, hd⟩
def ct_devt : Ct where
  α := Cd × Int
  as x := [.ref 0 0 0, .t (.int .i64 x.2)]
  ins x := [cdOb x.1]
  pre x := cdOk x.1 ∧ 1 ≤ x.2 ∧ x.2 ≤ 3
  r x := .t (evT (evG x.1 x.2).1)
  outs x := [cdOb (evG x.1 x.2).2]
  inj := by
    rintro ⟨s, a⟩ ⟨t, c⟩ h1 h2
    simp only [List.cons.injEq, V.t.injEq, T.int.injEq, true_and, and_true] at h1
    simp only [List.cons.injEq, and_true] at h2
    subst h1
    cases cdOb_inj h2
    exact ⟨rfl, rfl⟩
theorem nxF (n : Nat) {c : Cd} (h : cdOk c) (h1 : 1 ≤ n) (h2 : n ≤ 1000000000) : ∃ i b a, nx c n = (i, (b, a)) ∧ i < n ∧ cdOk (b, a) ∧ ct_next.fs [.ref 0 0 0, .t (.int .i64 n)] [.live 2 [.t (.agg [.sl (c.1.map byteT), .int .i64 (c.2 : Int)])] true true] = some (.t (.int .i64 i), [.live 2 [.t (.agg [.sl (b.map byteT), .int .i64 (a : Int)])] true true]) := by
  have e := next_eq (c := c) (n := n) ⟨h, h1, h2⟩
  have l := nx_lt (c := c) (n := n) h1
  have k := nx_ok (n := n) h
  obtain ⟨⟨i, b, a⟩, hq⟩ : ∃ q, nx c n = q := ⟨_, rfl⟩
  rw [hq] at e l k
  exact ⟨i, b, a, hq, l, k, e⟩
theorem w_draw_Event (tab : Tab) (gl : Gl) (n1 n2 n3 n4 : Nat) (h1 : tab.look n1 = some ct_line.fs) (h2 : tab.look n2 = some ct_next.fs) (h3 : tab.look n3 = some ct_make.fs) (h4 : tab.look n4 = some ct_ddg.fs) (c : Cd) (hc : cdOk c) (act : Int) (ha : 1 ≤ act ∧ act ≤ 3) :
    (ac_draw_Codes_Event n1 n2 n3 n4).wp tab gl (zipF 0 [.ref 0 0 0, .t (.int .i64 act)]) (zipF 0 [cdOb c]) (resW [(4, some (4, true))] 1 (fun r o => r = .t (evT (evG c act).1) ∧ o = [cdOb (evG c act).2])) := by
  have hL := line_eq hc
  have lA := lineL_len (i := (nx c 6).1)
  obtain ⟨iA, bA, aA, eA, _, okA, _⟩ := nxF 6 hc (by omega) (by omega)
  rw [eA] at hL lA
  obtain ⟨bC, aC⟩ := c
  obtain ⟨iP, bP, aP, eP, lP, okP, hP⟩ := nxF 4 okA (by omega) (by omega)
  have k4 : ((4 : Nat) : Int) = 4 := rfl
  have k2 : ((2 : Nat) : Int) = 2 := rfl
  have k5 : ((5 : Nat) : Int) = 5 := rfl
  have k8 : ((8 : Nat) : Int) = 8 := rfl
  have k3 : ((3 : Nat) : Int) = 3 := rfl
  have w2 : T.int .u8 (IntKind.u8.wrap 2) = byteT (UInt8.ofNat 2) := rfl
  simp only [cdO, k4] at hL hP
  simp only at lA
  by_cases p3 : iP = 3
  · subst p3
    simp only [k3] at hP
    obtain ⟨iQ, bQ, aQ, eQ, lQ, okQ, hQ⟩ := nxF 2 okP (by omega) (by omega)
    simp only [k2, k4, k5, k8] at hQ
    have lX : ((lineL iA).take iQ).length ≤ 8 := by rw [List.length_take]; omega
    have lQ1 : iQ ≤ (lineL iA).length := by omega
    obtain ⟨iK, bK, aK, eK, lK, okK, hK⟩ := nxF 5 okQ (by omega) (by omega)
    simp only [k2, k4, k5, k8] at hK
    obtain ⟨iR, bR, aR, eR, lR, okR, hR⟩ := nxF 8 okK (by omega) (by omega)
    simp only [k2, k4, k5, k8] at hR
    have hg := regT8_get lR
    have hg2 := regT8_le (i := iR)
    by_cases q1 : iK = 1
    · subst q1
      simp only [Int.natCast_one] at hK
      obtain ⟨iW, bW, aW, eW, lW, okW, hW⟩ := nxF 4 okR (by omega) (by omega)
      simp only [k2, k4, k5, k8] at hW
      by_cases w0 : iW = 0
      · subst w0
        simp only [Int.natCast_zero] at hW
        obtain ⟨iZ, bZ, aZ, eZ, lZ, okZ, hZ⟩ := nxF 4 okW (by omega) (by omega)
        simp only [k2, k4, k5, k8] at hZ
        by_cases z3 : iZ = 3
        · subst z3
          simp only [k3] at hZ
          obtain ⟨iY, bY, aY, eY, lY, okY, hY⟩ := nxF 4 okZ (by omega) (by omega)
          simp only [k2, k4, k5, k8] at hY
          have hm := make_eq (r := (regT8 iR)) (k := 2) (act := act) (d := ((lineL iA).take iQ)) ⟨⟨by omega, by omega⟩, by omega⟩
          have hd : ct_ddg.fs [.t (.int .i64 act), .t (.sl [byteT (UInt8.ofNat iY), byteT (UInt8.ofNat 2)])] [] = some (.sl 0 0 2, [.live 1 [.t (bsT (dgb act 0 [UInt8.ofNat iY, UInt8.ofNat 2])), .t (bsT (dgb act 1 [UInt8.ofNat iY, UInt8.ofNat 2]))] true false]) := ct_ddg.eq (act, [UInt8.ofNat iY, UInt8.ofNat 2]) trivial
          have hG : evG (bC, aC) act = (((regT8 iR), 2, dgB act [UInt8.ofNat iY, UInt8.ofNat 2], ((lineL iA).take iQ)), (bY, aY)) := by simp [evG, evData, evKind, evSep, evDig, eA, eP, eQ, eK, eR, eW, eZ, eY]
          have hT : evT ((regT8 iR), 2, dgB act [UInt8.ofNat iY, UInt8.ofNat 2], ((lineL iA).take iQ)) = .agg [.int .i64 (regT8 iR), .int .i64 2, .sl [bsT (dgb act 0 [UInt8.ofNat iY, UInt8.ofNat 2]), bsT (dgb act 1 [UInt8.ofNat iY, UInt8.ofNat 2])], .sl ((((lineL iA).take iQ)).map byteT)] := rfl
          rw [hG]
          generalize evT ((regT8 iR), 2, dgB act [UInt8.ofNat iY, UInt8.ofNat 2], ((lineL iA).take iQ)) = X at *
          generalize mkD 2 act ((lineL iA).take iQ) 0 = D0 at *
          generalize mkD 2 act ((lineL iA).take iQ) 1 = D1 at *
          generalize dgb act 0 [UInt8.ofNat iY, UInt8.ofNat 2] = E0 at *
          generalize dgb act 1 [UInt8.ofNat iY, UInt8.ofNat 2] = E1 at *
          simp only [bsT_def, sep4, List.map_cons, List.map_nil] at hm hT hd
          simp (config := { maxSteps := 2000000 }) (disch := (first | omega | (simp only [lens, lenm]; omega))) only [go_sem, ↓reduceIte, Nat.reduceAdd, Nat.reduceEqDiff, Nat.reduceSub, Nat.reduceMul, Nat.reduceLT, Nat.reduceLeDiff, Nat.reduceBEq, Int.reduceEq, Int.reduceLT, Int.reduceLE, Int.reduceToNat, Int.reduceNeg, Int.reduceAdd, Int.reduceSub, Int.reduceMul, Int.reduceMod, Int.reduceDiv, reduceCtorEq, Nat.reducePow, Int.reducePow, ac_draw_Codes_Event, cdOb_eq, h1, hL, h2, hP, hQ, hK, hR, hg, hW, hZ, hY, h3, hm, hT, h4, hd, w2]
          all_goals rfl
        · have z3b : ((iZ : Int) == 3) = false := by simpa using (by omega : ¬ (iZ : Int) = 3)
          have hm := make_eq (r := (regT8 iR)) (k := 2) (act := act) (d := ((lineL iA).take iQ)) ⟨⟨by omega, by omega⟩, by omega⟩
          have hT : evT (mkE (regT8 iR) 2 act ((lineL iA).take iQ)) = .agg [.int .i64 (regT8 iR), .int .i64 2, .sl [bsT (mkD 2 act ((lineL iA).take iQ) 0), bsT (mkD 2 act ((lineL iA).take iQ) 1)], .sl ((((lineL iA).take iQ)).map byteT)] := rfl
          have hG : evG (bC, aC) act = (mkE (regT8 iR) 2 act ((lineL iA).take iQ), (bZ, aZ)) := by simp [evG, evData, evKind, evSep, evDig, eA, eP, eQ, eK, eR, eW, eZ, z3]
          rw [hG]
          generalize evT (mkE (regT8 iR) 2 act ((lineL iA).take iQ)) = X at *
          generalize mkD 2 act ((lineL iA).take iQ) 0 = D0 at *
          generalize mkD 2 act ((lineL iA).take iQ) 1 = D1 at *
          simp only [bsT_def, sep4, List.map_cons, List.map_nil] at hm hT
          simp (config := { maxSteps := 2000000 }) (disch := (first | omega | (simp only [lens, lenm]; omega))) only [go_sem, ↓reduceIte, Nat.reduceAdd, Nat.reduceEqDiff, Nat.reduceSub, Nat.reduceMul, Nat.reduceLT, Nat.reduceLeDiff, Nat.reduceBEq, Int.reduceEq, Int.reduceLT, Int.reduceLE, Int.reduceToNat, Int.reduceNeg, Int.reduceAdd, Int.reduceSub, Int.reduceMul, Int.reduceMod, Int.reduceDiv, reduceCtorEq, Nat.reducePow, Int.reducePow, ac_draw_Codes_Event, cdOb_eq, h1, hL, h2, hP, hQ, hK, hR, hg, hW, hZ, z3b, h3, hm, hT]
          all_goals rfl
      · have w1 : 0 < iW := by omega
        have l4 : sep4.length = 4 := rfl
        obtain ⟨iV, bV, aV, eV, lV, okV, hV⟩ := nxF 8 okW (by omega) (by omega)
        simp only [k2, k4, k5, k8] at hV
        obtain ⟨iZ, bZ, aZ, eZ, lZ, okZ, hZ⟩ := nxF 4 okV (by omega) (by omega)
        simp only [k2, k4, k5, k8] at hZ
        by_cases z3 : iZ = 3
        · subst z3
          simp only [k3] at hZ
          obtain ⟨iY, bY, aY, eY, lY, okY, hY⟩ := nxF 4 okZ (by omega) (by omega)
          simp only [k2, k4, k5, k8] at hY
          have hm := make_eq (r := ((iV : Nat) : Int)) (k := 2) (act := act) (d := sep4) ⟨⟨by omega, by omega⟩, by omega⟩
          have hd : ct_ddg.fs [.t (.int .i64 act), .t (.sl [byteT (UInt8.ofNat iY), byteT (UInt8.ofNat 2)])] [] = some (.sl 0 0 2, [.live 1 [.t (bsT (dgb act 0 [UInt8.ofNat iY, UInt8.ofNat 2])), .t (bsT (dgb act 1 [UInt8.ofNat iY, UInt8.ofNat 2]))] true false]) := ct_ddg.eq (act, [UInt8.ofNat iY, UInt8.ofNat 2]) trivial
          have hG : evG (bC, aC) act = ((((iV : Nat) : Int), 2, dgB act [UInt8.ofNat iY, UInt8.ofNat 2], sep4), (bY, aY)) := by simp [evG, evData, evKind, evSep, evDig, eA, eP, eQ, eK, eR, eW, w1, eV, eZ, eY]
          have hT : evT (((iV : Nat) : Int), 2, dgB act [UInt8.ofNat iY, UInt8.ofNat 2], sep4) = .agg [.int .i64 ((iV : Nat) : Int), .int .i64 2, .sl [bsT (dgb act 0 [UInt8.ofNat iY, UInt8.ofNat 2]), bsT (dgb act 1 [UInt8.ofNat iY, UInt8.ofNat 2])], .sl ((sep4).map byteT)] := rfl
          rw [hG]
          generalize evT (((iV : Nat) : Int), 2, dgB act [UInt8.ofNat iY, UInt8.ofNat 2], sep4) = X at *
          generalize mkD 2 act sep4 0 = D0 at *
          generalize mkD 2 act sep4 1 = D1 at *
          generalize dgb act 0 [UInt8.ofNat iY, UInt8.ofNat 2] = E0 at *
          generalize dgb act 1 [UInt8.ofNat iY, UInt8.ofNat 2] = E1 at *
          simp only [bsT_def, sep4, List.map_cons, List.map_nil] at hm hT hd
          simp (config := { maxSteps := 2000000 }) (disch := (first | omega | (simp only [lens, lenm]; omega))) only [go_sem, ↓reduceIte, Nat.reduceAdd, Nat.reduceEqDiff, Nat.reduceSub, Nat.reduceMul, Nat.reduceLT, Nat.reduceLeDiff, Nat.reduceBEq, Int.reduceEq, Int.reduceLT, Int.reduceLE, Int.reduceToNat, Int.reduceNeg, Int.reduceAdd, Int.reduceSub, Int.reduceMul, Int.reduceMod, Int.reduceDiv, reduceCtorEq, Nat.reducePow, Int.reducePow, ac_draw_Codes_Event, cdOb_eq, h1, hL, h2, hP, hQ, hK, hR, hg, hW, w1, hV, hZ, hY, h3, hm, hT, h4, hd, w2]
          all_goals rfl
        · have z3b : ((iZ : Int) == 3) = false := by simpa using (by omega : ¬ (iZ : Int) = 3)
          have hm := make_eq (r := ((iV : Nat) : Int)) (k := 2) (act := act) (d := sep4) ⟨⟨by omega, by omega⟩, by omega⟩
          have hT : evT (mkE ((iV : Nat) : Int) 2 act sep4) = .agg [.int .i64 ((iV : Nat) : Int), .int .i64 2, .sl [bsT (mkD 2 act sep4 0), bsT (mkD 2 act sep4 1)], .sl ((sep4).map byteT)] := rfl
          have hG : evG (bC, aC) act = (mkE ((iV : Nat) : Int) 2 act sep4, (bZ, aZ)) := by simp [evG, evData, evKind, evSep, evDig, eA, eP, eQ, eK, eR, eW, w1, eV, eZ, z3]
          rw [hG]
          generalize evT (mkE ((iV : Nat) : Int) 2 act sep4) = X at *
          generalize mkD 2 act sep4 0 = D0 at *
          generalize mkD 2 act sep4 1 = D1 at *
          simp only [bsT_def, sep4, List.map_cons, List.map_nil] at hm hT
          simp (config := { maxSteps := 2000000 }) (disch := (first | omega | (simp only [lens, lenm]; omega))) only [go_sem, ↓reduceIte, Nat.reduceAdd, Nat.reduceEqDiff, Nat.reduceSub, Nat.reduceMul, Nat.reduceLT, Nat.reduceLeDiff, Nat.reduceBEq, Int.reduceEq, Int.reduceLT, Int.reduceLE, Int.reduceToNat, Int.reduceNeg, Int.reduceAdd, Int.reduceSub, Int.reduceMul, Int.reduceMod, Int.reduceDiv, reduceCtorEq, Nat.reducePow, Int.reducePow, ac_draw_Codes_Event, cdOb_eq, h1, hL, h2, hP, hQ, hK, hR, hg, hW, w1, hV, hZ, z3b, h3, hm, hT]
          all_goals rfl
    · by_cases q4 : iK = 4
      · subst q4
        simp only [k4] at hK
        have hm := make_eq (r := (regT8 iR)) (k := 5) (act := act) (d := ((lineL iA).take iQ)) ⟨⟨by omega, by omega⟩, by omega⟩
        have hT : evT (mkE (regT8 iR) 5 act ((lineL iA).take iQ)) = .agg [.int .i64 (regT8 iR), .int .i64 5, .sl [bsT (mkD 5 act ((lineL iA).take iQ) 0), bsT (mkD 5 act ((lineL iA).take iQ) 1)], .sl ((((lineL iA).take iQ)).map byteT)] := rfl
        have hG : evG (bC, aC) act = (mkE (regT8 iR) 5 act ((lineL iA).take iQ), (bR, aR)) := by simp [evG, evData, evKind, evSep, evDig, eA, eP, eQ, eK, eR]
        rw [hG]
        generalize evT (mkE (regT8 iR) 5 act ((lineL iA).take iQ)) = X at *
        generalize mkD 5 act ((lineL iA).take iQ) 0 = D0 at *
        generalize mkD 5 act ((lineL iA).take iQ) 1 = D1 at *
        simp only [bsT_def, sep4, List.map_cons, List.map_nil] at hm hT
        simp (config := { maxSteps := 2000000 }) (disch := (first | omega | (simp only [lens, lenm]; omega))) only [go_sem, ↓reduceIte, Nat.reduceAdd, Nat.reduceEqDiff, Nat.reduceSub, Nat.reduceMul, Nat.reduceLT, Nat.reduceLeDiff, Nat.reduceBEq, Int.reduceEq, Int.reduceLT, Int.reduceLE, Int.reduceToNat, Int.reduceNeg, Int.reduceAdd, Int.reduceSub, Int.reduceMul, Int.reduceMod, Int.reduceDiv, reduceCtorEq, Nat.reducePow, Int.reducePow, ac_draw_Codes_Event, cdOb_eq, h1, hL, h2, hP, hQ, hK, hR, hg, h3, hm, hT]
        all_goals rfl
      · have n2 : ¬ (1 + (iK : Int) = 2) := by omega
        have n5 : ¬ (1 + (iK : Int) = 5) := by omega
        have n2b : ((1 + iK : Nat) : Int) ≠ 2 := by omega
        have n5b : ((1 + iK : Nat) : Int) ≠ 5 := by omega
        have m2 : (((1 + iK : Nat) : Int) == 2) = false := by simpa using n2b
        have m5 : (((1 + iK : Nat) : Int) != 5) = true := by simpa using n5b
        have m5c : (((1 + iK : Nat) : Int) == 5) = false := by simpa using n5b
        have ek : (1 + (iK : Int)) = ((1 + iK : Nat) : Int) := by omega
        obtain ⟨iZ, bZ, aZ, eZ, lZ, okZ, hZ⟩ := nxF 4 okR (by omega) (by omega)
        simp only [k2, k4, k5, k8] at hZ
        by_cases z3 : iZ = 3
        · subst z3
          simp only [k3] at hZ
          obtain ⟨iY, bY, aY, eY, lY, okY, hY⟩ := nxF 4 okZ (by omega) (by omega)
          simp only [k2, k4, k5, k8] at hY
          have hm := make_eq (r := (regT8 iR)) (k := ((1 + iK : Nat) : Int)) (act := act) (d := ((lineL iA).take iQ)) ⟨⟨by omega, by omega⟩, by omega⟩
          have hd : ct_ddg.fs [.t (.int .i64 act), .t (.sl [byteT (UInt8.ofNat iY), byteT (UInt8.ofNat (1 + iK))])] [] = some (.sl 0 0 2, [.live 1 [.t (bsT (dgb act 0 [UInt8.ofNat iY, UInt8.ofNat (1 + iK)])), .t (bsT (dgb act 1 [UInt8.ofNat iY, UInt8.ofNat (1 + iK)]))] true false]) := ct_ddg.eq (act, [UInt8.ofNat iY, UInt8.ofNat (1 + iK)]) trivial
          have hG : evG (bC, aC) act = (((regT8 iR), (1 + (iK : Int)), dgB act [UInt8.ofNat iY, UInt8.ofNat (1 + (iK : Int)).toNat], ((lineL iA).take iQ)), (bY, aY)) := by simp only [evG, evData, evKind, evSep, evDig, eA, eP, eQ, eK, eR, n2, n5, eZ, eY, ↓reduceIte, Nat.reduceEqDiff]
          rw [ek, Int.toNat_natCast] at hG
          have hT : evT ((regT8 iR), ((1 + iK : Nat) : Int), dgB act [UInt8.ofNat iY, UInt8.ofNat (1 + iK)], ((lineL iA).take iQ)) = .agg [.int .i64 (regT8 iR), .int .i64 ((1 + iK : Nat) : Int), .sl [bsT (dgb act 0 [UInt8.ofNat iY, UInt8.ofNat (1 + iK)]), bsT (dgb act 1 [UInt8.ofNat iY, UInt8.ofNat (1 + iK)])], .sl ((((lineL iA).take iQ)).map byteT)] := rfl
          rw [hG]
          generalize evT ((regT8 iR), ((1 + iK : Nat) : Int), dgB act [UInt8.ofNat iY, UInt8.ofNat (1 + iK)], ((lineL iA).take iQ)) = X at *
          generalize mkD ((1 + iK : Nat) : Int) act ((lineL iA).take iQ) 0 = D0 at *
          generalize mkD ((1 + iK : Nat) : Int) act ((lineL iA).take iQ) 1 = D1 at *
          generalize dgb act 0 [UInt8.ofNat iY, UInt8.ofNat (1 + iK)] = E0 at *
          generalize dgb act 1 [UInt8.ofNat iY, UInt8.ofNat (1 + iK)] = E1 at *
          simp only [bsT_def, sep4, List.map_cons, List.map_nil] at hm hT hd
          simp (config := { maxSteps := 2000000 }) (disch := (first | omega | (simp only [lens, lenm]; omega))) only [go_sem, ↓reduceIte, Nat.reduceAdd, Nat.reduceEqDiff, Nat.reduceSub, Nat.reduceMul, Nat.reduceLT, Nat.reduceLeDiff, Nat.reduceBEq, Int.reduceEq, Int.reduceLT, Int.reduceLE, Int.reduceToNat, Int.reduceNeg, Int.reduceAdd, Int.reduceSub, Int.reduceMul, Int.reduceMod, Int.reduceDiv, reduceCtorEq, Nat.reducePow, Int.reducePow, ac_draw_Codes_Event, cdOb_eq, h1, hL, h2, hP, hQ, hK, hR, hg, m2, m5, m5c, hZ, hY, h3, hm, hT, h4, hd, w2]
          all_goals rfl
        · have z3b : ((iZ : Int) == 3) = false := by simpa using (by omega : ¬ (iZ : Int) = 3)
          have hm := make_eq (r := (regT8 iR)) (k := ((1 + iK : Nat) : Int)) (act := act) (d := ((lineL iA).take iQ)) ⟨⟨by omega, by omega⟩, by omega⟩
          have hT : evT (mkE (regT8 iR) ((1 + iK : Nat) : Int) act ((lineL iA).take iQ)) = .agg [.int .i64 (regT8 iR), .int .i64 ((1 + iK : Nat) : Int), .sl [bsT (mkD ((1 + iK : Nat) : Int) act ((lineL iA).take iQ) 0), bsT (mkD ((1 + iK : Nat) : Int) act ((lineL iA).take iQ) 1)], .sl ((((lineL iA).take iQ)).map byteT)] := rfl
          have hG : evG (bC, aC) act = (mkE (regT8 iR) (1 + (iK : Int)) act ((lineL iA).take iQ), (bZ, aZ)) := by simp only [evG, evData, evKind, evSep, evDig, eA, eP, eQ, eK, eR, n2, n5, eZ, z3, ↓reduceIte, Nat.reduceEqDiff]
          rw [ek] at hG
          rw [hG]
          generalize evT (mkE (regT8 iR) ((1 + iK : Nat) : Int) act ((lineL iA).take iQ)) = X at *
          generalize mkD ((1 + iK : Nat) : Int) act ((lineL iA).take iQ) 0 = D0 at *
          generalize mkD ((1 + iK : Nat) : Int) act ((lineL iA).take iQ) 1 = D1 at *
          simp only [bsT_def, sep4, List.map_cons, List.map_nil] at hm hT
          simp (config := { maxSteps := 2000000 }) (disch := (first | omega | (simp only [lens, lenm]; omega))) only [go_sem, ↓reduceIte, Nat.reduceAdd, Nat.reduceEqDiff, Nat.reduceSub, Nat.reduceMul, Nat.reduceLT, Nat.reduceLeDiff, Nat.reduceBEq, Int.reduceEq, Int.reduceLT, Int.reduceLE, Int.reduceToNat, Int.reduceNeg, Int.reduceAdd, Int.reduceSub, Int.reduceMul, Int.reduceMod, Int.reduceDiv, reduceCtorEq, Nat.reducePow, Int.reducePow, ac_draw_Codes_Event, cdOb_eq, h1, hL, h2, hP, hQ, hK, hR, hg, m2, m5, m5c, hZ, z3b, h3, hm, hT]
          all_goals rfl
  · have p3b : ((iP : Int) == 3) = false := by simpa using (by omega : ¬ (iP : Int) = 3)
    obtain ⟨iK, bK, aK, eK, lK, okK, hK⟩ := nxF 5 okP (by omega) (by omega)
    simp only [k2, k4, k5, k8] at hK
    obtain ⟨iR, bR, aR, eR, lR, okR, hR⟩ := nxF 8 okK (by omega) (by omega)
    simp only [k2, k4, k5, k8] at hR
    have hg := regT8_get lR
    have hg2 := regT8_le (i := iR)
    by_cases q1 : iK = 1
    · subst q1
      simp only [Int.natCast_one] at hK
      obtain ⟨iW, bW, aW, eW, lW, okW, hW⟩ := nxF 4 okR (by omega) (by omega)
      simp only [k2, k4, k5, k8] at hW
      by_cases w0 : iW = 0
      · subst w0
        simp only [Int.natCast_zero] at hW
        obtain ⟨iZ, bZ, aZ, eZ, lZ, okZ, hZ⟩ := nxF 4 okW (by omega) (by omega)
        simp only [k2, k4, k5, k8] at hZ
        by_cases z3 : iZ = 3
        · subst z3
          simp only [k3] at hZ
          obtain ⟨iY, bY, aY, eY, lY, okY, hY⟩ := nxF 4 okZ (by omega) (by omega)
          simp only [k2, k4, k5, k8] at hY
          have hm := make_eq (r := (regT8 iR)) (k := 2) (act := act) (d := (lineL iA)) ⟨⟨by omega, by omega⟩, by omega⟩
          have hd : ct_ddg.fs [.t (.int .i64 act), .t (.sl [byteT (UInt8.ofNat iY), byteT (UInt8.ofNat 2)])] [] = some (.sl 0 0 2, [.live 1 [.t (bsT (dgb act 0 [UInt8.ofNat iY, UInt8.ofNat 2])), .t (bsT (dgb act 1 [UInt8.ofNat iY, UInt8.ofNat 2]))] true false]) := ct_ddg.eq (act, [UInt8.ofNat iY, UInt8.ofNat 2]) trivial
          have hG : evG (bC, aC) act = (((regT8 iR), 2, dgB act [UInt8.ofNat iY, UInt8.ofNat 2], (lineL iA)), (bY, aY)) := by simp [evG, evData, evKind, evSep, evDig, eA, eP, p3, eK, eR, eW, eZ, eY]
          have hT : evT ((regT8 iR), 2, dgB act [UInt8.ofNat iY, UInt8.ofNat 2], (lineL iA)) = .agg [.int .i64 (regT8 iR), .int .i64 2, .sl [bsT (dgb act 0 [UInt8.ofNat iY, UInt8.ofNat 2]), bsT (dgb act 1 [UInt8.ofNat iY, UInt8.ofNat 2])], .sl (((lineL iA)).map byteT)] := rfl
          rw [hG]
          generalize evT ((regT8 iR), 2, dgB act [UInt8.ofNat iY, UInt8.ofNat 2], (lineL iA)) = X at *
          generalize mkD 2 act (lineL iA) 0 = D0 at *
          generalize mkD 2 act (lineL iA) 1 = D1 at *
          generalize dgb act 0 [UInt8.ofNat iY, UInt8.ofNat 2] = E0 at *
          generalize dgb act 1 [UInt8.ofNat iY, UInt8.ofNat 2] = E1 at *
          simp only [bsT_def, sep4, List.map_cons, List.map_nil] at hm hT hd
          simp (config := { maxSteps := 2000000 }) (disch := (first | omega | (simp only [lens, lenm]; omega))) only [go_sem, ↓reduceIte, Nat.reduceAdd, Nat.reduceEqDiff, Nat.reduceSub, Nat.reduceMul, Nat.reduceLT, Nat.reduceLeDiff, Nat.reduceBEq, Int.reduceEq, Int.reduceLT, Int.reduceLE, Int.reduceToNat, Int.reduceNeg, Int.reduceAdd, Int.reduceSub, Int.reduceMul, Int.reduceMod, Int.reduceDiv, reduceCtorEq, Nat.reducePow, Int.reducePow, ac_draw_Codes_Event, cdOb_eq, h1, hL, h2, hP, p3b, hK, hR, hg, hW, hZ, hY, h3, hm, hT, h4, hd, w2]
          all_goals rfl
        · have z3b : ((iZ : Int) == 3) = false := by simpa using (by omega : ¬ (iZ : Int) = 3)
          have hm := make_eq (r := (regT8 iR)) (k := 2) (act := act) (d := (lineL iA)) ⟨⟨by omega, by omega⟩, by omega⟩
          have hT : evT (mkE (regT8 iR) 2 act (lineL iA)) = .agg [.int .i64 (regT8 iR), .int .i64 2, .sl [bsT (mkD 2 act (lineL iA) 0), bsT (mkD 2 act (lineL iA) 1)], .sl (((lineL iA)).map byteT)] := rfl
          have hG : evG (bC, aC) act = (mkE (regT8 iR) 2 act (lineL iA), (bZ, aZ)) := by simp [evG, evData, evKind, evSep, evDig, eA, eP, p3, eK, eR, eW, eZ, z3]
          rw [hG]
          generalize evT (mkE (regT8 iR) 2 act (lineL iA)) = X at *
          generalize mkD 2 act (lineL iA) 0 = D0 at *
          generalize mkD 2 act (lineL iA) 1 = D1 at *
          simp only [bsT_def, sep4, List.map_cons, List.map_nil] at hm hT
          simp (config := { maxSteps := 2000000 }) (disch := (first | omega | (simp only [lens, lenm]; omega))) only [go_sem, ↓reduceIte, Nat.reduceAdd, Nat.reduceEqDiff, Nat.reduceSub, Nat.reduceMul, Nat.reduceLT, Nat.reduceLeDiff, Nat.reduceBEq, Int.reduceEq, Int.reduceLT, Int.reduceLE, Int.reduceToNat, Int.reduceNeg, Int.reduceAdd, Int.reduceSub, Int.reduceMul, Int.reduceMod, Int.reduceDiv, reduceCtorEq, Nat.reducePow, Int.reducePow, ac_draw_Codes_Event, cdOb_eq, h1, hL, h2, hP, p3b, hK, hR, hg, hW, hZ, z3b, h3, hm, hT]
          all_goals rfl
      · have w1 : 0 < iW := by omega
        have l4 : sep4.length = 4 := rfl
        obtain ⟨iV, bV, aV, eV, lV, okV, hV⟩ := nxF 8 okW (by omega) (by omega)
        simp only [k2, k4, k5, k8] at hV
        obtain ⟨iZ, bZ, aZ, eZ, lZ, okZ, hZ⟩ := nxF 4 okV (by omega) (by omega)
        simp only [k2, k4, k5, k8] at hZ
        by_cases z3 : iZ = 3
        · subst z3
          simp only [k3] at hZ
          obtain ⟨iY, bY, aY, eY, lY, okY, hY⟩ := nxF 4 okZ (by omega) (by omega)
          simp only [k2, k4, k5, k8] at hY
          have hm := make_eq (r := ((iV : Nat) : Int)) (k := 2) (act := act) (d := sep4) ⟨⟨by omega, by omega⟩, by omega⟩
          have hd : ct_ddg.fs [.t (.int .i64 act), .t (.sl [byteT (UInt8.ofNat iY), byteT (UInt8.ofNat 2)])] [] = some (.sl 0 0 2, [.live 1 [.t (bsT (dgb act 0 [UInt8.ofNat iY, UInt8.ofNat 2])), .t (bsT (dgb act 1 [UInt8.ofNat iY, UInt8.ofNat 2]))] true false]) := ct_ddg.eq (act, [UInt8.ofNat iY, UInt8.ofNat 2]) trivial
          have hG : evG (bC, aC) act = ((((iV : Nat) : Int), 2, dgB act [UInt8.ofNat iY, UInt8.ofNat 2], sep4), (bY, aY)) := by simp [evG, evData, evKind, evSep, evDig, eA, eP, p3, eK, eR, eW, w1, eV, eZ, eY]
          have hT : evT (((iV : Nat) : Int), 2, dgB act [UInt8.ofNat iY, UInt8.ofNat 2], sep4) = .agg [.int .i64 ((iV : Nat) : Int), .int .i64 2, .sl [bsT (dgb act 0 [UInt8.ofNat iY, UInt8.ofNat 2]), bsT (dgb act 1 [UInt8.ofNat iY, UInt8.ofNat 2])], .sl ((sep4).map byteT)] := rfl
          rw [hG]
          generalize evT (((iV : Nat) : Int), 2, dgB act [UInt8.ofNat iY, UInt8.ofNat 2], sep4) = X at *
          generalize mkD 2 act sep4 0 = D0 at *
          generalize mkD 2 act sep4 1 = D1 at *
          generalize dgb act 0 [UInt8.ofNat iY, UInt8.ofNat 2] = E0 at *
          generalize dgb act 1 [UInt8.ofNat iY, UInt8.ofNat 2] = E1 at *
          simp only [bsT_def, sep4, List.map_cons, List.map_nil] at hm hT hd
          simp (config := { maxSteps := 2000000 }) (disch := (first | omega | (simp only [lens, lenm]; omega))) only [go_sem, ↓reduceIte, Nat.reduceAdd, Nat.reduceEqDiff, Nat.reduceSub, Nat.reduceMul, Nat.reduceLT, Nat.reduceLeDiff, Nat.reduceBEq, Int.reduceEq, Int.reduceLT, Int.reduceLE, Int.reduceToNat, Int.reduceNeg, Int.reduceAdd, Int.reduceSub, Int.reduceMul, Int.reduceMod, Int.reduceDiv, reduceCtorEq, Nat.reducePow, Int.reducePow, ac_draw_Codes_Event, cdOb_eq, h1, hL, h2, hP, p3b, hK, hR, hg, hW, w1, hV, hZ, hY, h3, hm, hT, h4, hd, w2]
          all_goals rfl
        · have z3b : ((iZ : Int) == 3) = false := by simpa using (by omega : ¬ (iZ : Int) = 3)
          have hm := make_eq (r := ((iV : Nat) : Int)) (k := 2) (act := act) (d := sep4) ⟨⟨by omega, by omega⟩, by omega⟩
          have hT : evT (mkE ((iV : Nat) : Int) 2 act sep4) = .agg [.int .i64 ((iV : Nat) : Int), .int .i64 2, .sl [bsT (mkD 2 act sep4 0), bsT (mkD 2 act sep4 1)], .sl ((sep4).map byteT)] := rfl
          have hG : evG (bC, aC) act = (mkE ((iV : Nat) : Int) 2 act sep4, (bZ, aZ)) := by simp [evG, evData, evKind, evSep, evDig, eA, eP, p3, eK, eR, eW, w1, eV, eZ, z3]
          rw [hG]
          generalize evT (mkE ((iV : Nat) : Int) 2 act sep4) = X at *
          generalize mkD 2 act sep4 0 = D0 at *
          generalize mkD 2 act sep4 1 = D1 at *
          simp only [bsT_def, sep4, List.map_cons, List.map_nil] at hm hT
          simp (config := { maxSteps := 2000000 }) (disch := (first | omega | (simp only [lens, lenm]; omega))) only [go_sem, ↓reduceIte, Nat.reduceAdd, Nat.reduceEqDiff, Nat.reduceSub, Nat.reduceMul, Nat.reduceLT, Nat.reduceLeDiff, Nat.reduceBEq, Int.reduceEq, Int.reduceLT, Int.reduceLE, Int.reduceToNat, Int.reduceNeg, Int.reduceAdd, Int.reduceSub, Int.reduceMul, Int.reduceMod, Int.reduceDiv, reduceCtorEq, Nat.reducePow, Int.reducePow, ac_draw_Codes_Event, cdOb_eq, h1, hL, h2, hP, p3b, hK, hR, hg, hW, w1, hV, hZ, z3b, h3, hm, hT]
          all_goals rfl
    · by_cases q4 : iK = 4
      · subst q4
        simp only [k4] at hK
        have hm := make_eq (r := (regT8 iR)) (k := 5) (act := act) (d := (lineL iA)) ⟨⟨by omega, by omega⟩, by omega⟩
        have hT : evT (mkE (regT8 iR) 5 act (lineL iA)) = .agg [.int .i64 (regT8 iR), .int .i64 5, .sl [bsT (mkD 5 act (lineL iA) 0), bsT (mkD 5 act (lineL iA) 1)], .sl (((lineL iA)).map byteT)] := rfl
        have hG : evG (bC, aC) act = (mkE (regT8 iR) 5 act (lineL iA), (bR, aR)) := by simp [evG, evData, evKind, evSep, evDig, eA, eP, p3, eK, eR]
        rw [hG]
        generalize evT (mkE (regT8 iR) 5 act (lineL iA)) = X at *
        generalize mkD 5 act (lineL iA) 0 = D0 at *
        generalize mkD 5 act (lineL iA) 1 = D1 at *
        simp only [bsT_def, sep4, List.map_cons, List.map_nil] at hm hT
        simp (config := { maxSteps := 2000000 }) (disch := (first | omega | (simp only [lens, lenm]; omega))) only [go_sem, ↓reduceIte, Nat.reduceAdd, Nat.reduceEqDiff, Nat.reduceSub, Nat.reduceMul, Nat.reduceLT, Nat.reduceLeDiff, Nat.reduceBEq, Int.reduceEq, Int.reduceLT, Int.reduceLE, Int.reduceToNat, Int.reduceNeg, Int.reduceAdd, Int.reduceSub, Int.reduceMul, Int.reduceMod, Int.reduceDiv, reduceCtorEq, Nat.reducePow, Int.reducePow, ac_draw_Codes_Event, cdOb_eq, h1, hL, h2, hP, p3b, hK, hR, hg, h3, hm, hT]
        all_goals rfl
      · have n2 : ¬ (1 + (iK : Int) = 2) := by omega
        have n5 : ¬ (1 + (iK : Int) = 5) := by omega
        have n2b : ((1 + iK : Nat) : Int) ≠ 2 := by omega
        have n5b : ((1 + iK : Nat) : Int) ≠ 5 := by omega
        have m2 : (((1 + iK : Nat) : Int) == 2) = false := by simpa using n2b
        have m5 : (((1 + iK : Nat) : Int) != 5) = true := by simpa using n5b
        have m5c : (((1 + iK : Nat) : Int) == 5) = false := by simpa using n5b
        have ek : (1 + (iK : Int)) = ((1 + iK : Nat) : Int) := by omega
        obtain ⟨iZ, bZ, aZ, eZ, lZ, okZ, hZ⟩ := nxF 4 okR (by omega) (by omega)
        simp only [k2, k4, k5, k8] at hZ
        by_cases z3 : iZ = 3
        · subst z3
          simp only [k3] at hZ
          obtain ⟨iY, bY, aY, eY, lY, okY, hY⟩ := nxF 4 okZ (by omega) (by omega)
          simp only [k2, k4, k5, k8] at hY
          have hm := make_eq (r := (regT8 iR)) (k := ((1 + iK : Nat) : Int)) (act := act) (d := (lineL iA)) ⟨⟨by omega, by omega⟩, by omega⟩
          have hd : ct_ddg.fs [.t (.int .i64 act), .t (.sl [byteT (UInt8.ofNat iY), byteT (UInt8.ofNat (1 + iK))])] [] = some (.sl 0 0 2, [.live 1 [.t (bsT (dgb act 0 [UInt8.ofNat iY, UInt8.ofNat (1 + iK)])), .t (bsT (dgb act 1 [UInt8.ofNat iY, UInt8.ofNat (1 + iK)]))] true false]) := ct_ddg.eq (act, [UInt8.ofNat iY, UInt8.ofNat (1 + iK)]) trivial
          have hG : evG (bC, aC) act = (((regT8 iR), (1 + (iK : Int)), dgB act [UInt8.ofNat iY, UInt8.ofNat (1 + (iK : Int)).toNat], (lineL iA)), (bY, aY)) := by simp only [evG, evData, evKind, evSep, evDig, eA, eP, p3, eK, eR, n2, n5, eZ, eY, ↓reduceIte, Nat.reduceEqDiff]
          rw [ek, Int.toNat_natCast] at hG
          have hT : evT ((regT8 iR), ((1 + iK : Nat) : Int), dgB act [UInt8.ofNat iY, UInt8.ofNat (1 + iK)], (lineL iA)) = .agg [.int .i64 (regT8 iR), .int .i64 ((1 + iK : Nat) : Int), .sl [bsT (dgb act 0 [UInt8.ofNat iY, UInt8.ofNat (1 + iK)]), bsT (dgb act 1 [UInt8.ofNat iY, UInt8.ofNat (1 + iK)])], .sl (((lineL iA)).map byteT)] := rfl
          rw [hG]
          generalize evT ((regT8 iR), ((1 + iK : Nat) : Int), dgB act [UInt8.ofNat iY, UInt8.ofNat (1 + iK)], (lineL iA)) = X at *
          generalize mkD ((1 + iK : Nat) : Int) act (lineL iA) 0 = D0 at *
          generalize mkD ((1 + iK : Nat) : Int) act (lineL iA) 1 = D1 at *
          generalize dgb act 0 [UInt8.ofNat iY, UInt8.ofNat (1 + iK)] = E0 at *
          generalize dgb act 1 [UInt8.ofNat iY, UInt8.ofNat (1 + iK)] = E1 at *
          simp only [bsT_def, sep4, List.map_cons, List.map_nil] at hm hT hd
          simp (config := { maxSteps := 2000000 }) (disch := (first | omega | (simp only [lens, lenm]; omega))) only [go_sem, ↓reduceIte, Nat.reduceAdd, Nat.reduceEqDiff, Nat.reduceSub, Nat.reduceMul, Nat.reduceLT, Nat.reduceLeDiff, Nat.reduceBEq, Int.reduceEq, Int.reduceLT, Int.reduceLE, Int.reduceToNat, Int.reduceNeg, Int.reduceAdd, Int.reduceSub, Int.reduceMul, Int.reduceMod, Int.reduceDiv, reduceCtorEq, Nat.reducePow, Int.reducePow, ac_draw_Codes_Event, cdOb_eq, h1, hL, h2, hP, p3b, hK, hR, hg, m2, m5, m5c, hZ, hY, h3, hm, hT, h4, hd, w2]
          all_goals rfl
        · have z3b : ((iZ : Int) == 3) = false := by simpa using (by omega : ¬ (iZ : Int) = 3)
          have hm := make_eq (r := (regT8 iR)) (k := ((1 + iK : Nat) : Int)) (act := act) (d := (lineL iA)) ⟨⟨by omega, by omega⟩, by omega⟩
          have hT : evT (mkE (regT8 iR) ((1 + iK : Nat) : Int) act (lineL iA)) = .agg [.int .i64 (regT8 iR), .int .i64 ((1 + iK : Nat) : Int), .sl [bsT (mkD ((1 + iK : Nat) : Int) act (lineL iA) 0), bsT (mkD ((1 + iK : Nat) : Int) act (lineL iA) 1)], .sl (((lineL iA)).map byteT)] := rfl
          have hG : evG (bC, aC) act = (mkE (regT8 iR) (1 + (iK : Int)) act (lineL iA), (bZ, aZ)) := by simp only [evG, evData, evKind, evSep, evDig, eA, eP, p3, eK, eR, n2, n5, eZ, z3, ↓reduceIte, Nat.reduceEqDiff]
          rw [ek] at hG
          rw [hG]
          generalize evT (mkE (regT8 iR) ((1 + iK : Nat) : Int) act (lineL iA)) = X at *
          generalize mkD ((1 + iK : Nat) : Int) act (lineL iA) 0 = D0 at *
          generalize mkD ((1 + iK : Nat) : Int) act (lineL iA) 1 = D1 at *
          simp only [bsT_def, sep4, List.map_cons, List.map_nil] at hm hT
          simp (config := { maxSteps := 2000000 }) (disch := (first | omega | (simp only [lens, lenm]; omega))) only [go_sem, ↓reduceIte, Nat.reduceAdd, Nat.reduceEqDiff, Nat.reduceSub, Nat.reduceMul, Nat.reduceLT, Nat.reduceLeDiff, Nat.reduceBEq, Int.reduceEq, Int.reduceLT, Int.reduceLE, Int.reduceToNat, Int.reduceNeg, Int.reduceAdd, Int.reduceSub, Int.reduceMul, Int.reduceMod, Int.reduceDiv, reduceCtorEq, Nat.reducePow, Int.reducePow, ac_draw_Codes_Event, cdOb_eq, h1, hL, h2, hP, p3b, hK, hR, hg, m2, m5, m5c, hZ, z3b, h3, hm, hT]
          all_goals rfl
end Go.Eng
end
section
set_option maxRecDepth 20000
set_option maxHeartbeats 64000000
namespace Go.Eng
def rI (n : Int) : Prop := -9223372036854775808 ≤ n ∧ n < 9223372036854775808
def ct_dact : Ct where
  α := Int
  as x := [.t (.int .i64 x)]
  ins _ := []
  pre x := rI x
  r x := .t (.int .i64 (1 + modI x 3))
  outs _ := []
  inj := by
    intro a b h _
    simp only [List.cons.injEq, V.t.injEq, T.int.injEq, true_and, and_true] at h
    subst h; exact ⟨rfl, rfl⟩
theorem dact_eq {a : Int} (h : rI a) : ct_dact.fs [.t (.int .i64 a)] [] = some (.t (.int .i64 (1 + modI a 3)), []) := ct_dact.eq a h
theorem w_draw_Active (tab : Tab) (gl : Gl) (n1 : Nat) (h1 : tab.look n1 = some ct_mod.fs) (a : Int) (ha : rI a) :
    (ac_draw_Active n1).wp tab gl (zipF 0 [.t (.int .i64 a)]) (zipF 0 []) (resW [(2, none)] 0 (fun r o => r = .t (.int .i64 (1 + modI a 3)) ∧ o = [])) := by
  have hm := mod_eq (a := a) (b := 3) ⟨ha, by omega⟩
  have lm := modI_lt (a := a) (m := 3) (by omega)
  generalize modI a 3 = M at *
  simp (config := { maxSteps := 2000000 }) (disch := (first | omega | (simp only [lens, lenm]; omega))) only [go_sem, ↓reduceIte, Nat.reduceAdd, Nat.reduceEqDiff, Nat.reduceSub, Nat.reduceMul, Nat.reduceLT, Nat.reduceLeDiff, Nat.reduceBEq, Int.reduceEq, Int.reduceLT, Int.reduceLE, Int.reduceToNat, Int.reduceNeg, Int.reduceAdd, Int.reduceSub, Int.reduceMul, Int.reduceMod, Int.reduceDiv, reduceCtorEq, Nat.reducePow, Int.reducePow, ac_draw_Active, h1, hm]
def evX (e : Ev) : Prop := e.2.2.1.length ≤ 9223372036854775807 ∧ (∀ x ∈ e.2.2.1, x.length ≤ 9223372036854775807) ∧ e.2.2.2.length ≤ 9223372036854775807
def fewE (e : Ev) : Ev := (e.1, e.2.1, (e.2.2.1.take 5).map (List.take 70), e.2.2.2.take 100)
theorem fewE_m {e : Ev} : evM (fewE e) := by
  refine ⟨⟨?_, fun x hx => ?_⟩, ?_⟩
  · unfold fewE; simp only [List.length_map, List.length_take]; omega
  · unfold fewE at hx
    obtain ⟨y, _, rfl⟩ := List.mem_map.1 hx
    rw [List.length_take]; omega
  · unfold fewE; simp only [List.length_take]; omega
def ct_few : Ct where
  α := Ev
  as x := [.t (evT x)]
  ins _ := []
  pre x := evX x
  r x := .t (evT (fewE x))
  outs _ := []
  inj := by
    intro a b h _
    simp only [List.cons.injEq, V.t.injEq, and_true] at h
    cases evT_inj h
    exact ⟨rfl, rfl⟩
theorem cut_step {l : List (List UInt8)} {i : Nat} (h : i < l.length) : ((l.take i).map (List.take 70) ++ l.drop i).set i ((l.getD i []).take 70) = (l.take (i + 1)).map (List.take 70) ++ l.drop (i + 1) := by
  have h1 : ((l.take i).map (List.take 70)).length = i := by simp; omega
  rw [List.set_append_right _ _ (by omega), h1, Nat.sub_self, List.drop_eq_getElem_cons h, List.set_cons_zero, take_s (d := []) h, List.map_append]
  simp only [List.map_cons, List.map_nil, List.append_assoc, List.cons_append, List.nil_append]
theorem cut_get {l : List (List UInt8)} {i : Nat} (h : i < l.length) : ((l.take i).map (List.take 70) ++ l.drop i).getD i [] = l.getD i [] := by
  have h1 : ((l.take i).map (List.take 70)).length = i := by simp; omega
  simp only [List.getD]
  rw [List.getElem?_append_right (by omega), h1, Nat.sub_self, List.getElem?_drop]; simp
theorem cut_len {l : List (List UInt8)} {i : Nat} (h : i ≤ l.length) : ((l.take i).map (List.take 70) ++ l.drop i).length = l.length := by simp; omega
theorem w_law26_few (tab : Tab) (gl : Gl) (n1 : Nat) (h1 : tab.look n1 = some ct_cut.fs) (e : Ev) (hx : evX e) :
    (ac_law26_few n1).wp tab gl (zipF 0 [.t (evT e)]) (zipF 0 []) (resW [(2, some (4, true))] 0 (fun r o => r = .t (evT (fewE e)) ∧ o = [])) := by
  obtain ⟨r, k, ds, d⟩ := e
  obtain ⟨x1, x2, x3⟩ := hx
  simp only at x1 x2 x3
  have cd : ct_cut.fs [.t (.sl (d.map byteT)), .t (.int .i64 100)] [] = _ := cut_eq (b := d) (n := 100) ⟨x3, by omega⟩
  have hE : evT (fewE (r, k, ds, d)) = .agg [.int .i64 r, .int .i64 k, .sl (((ds.take 5).map (List.take 70)).map bsT), .sl ((d.take 100).map byteT)] := rfl
  have l5 : (ds.take 5).length ≤ 5 := by rw [List.length_take]; omega
  have fin : ∀ (l : List (List UInt8)) (fs : Fs) (hs : Hs), l.length ≤ 5 → (∀ x ∈ l, x.length ≤ 9223372036854775807) → evT (fewE (r, k, ds, d)) = .agg [.int .i64 r, .int .i64 k, .sl ((l.map (List.take 70)).map bsT), .sl ((d.take 100).map byteT)] →
      Weak fs hs [(1, .ref 4096 0 0), (2, .ref 4112 0 0), (3, .sl 16432 0 l.length), (4, .t (.int .i64 0))] [(16432, .live 1 ((l.map bsT).map V.t) true false), (4112, .live 4 [.agg [.t (.int .i64 0), .t (.int .i64 0), .nil, .nil]] true true), (4096, .live 4 [.t (.agg [.int .i64 r, .int .i64 k, .sl (l.map bsT), .sl (d.map byteT)])] true true)] →
      loopW tab gl (ac_law26_few_L0 n1) fs hs (blockK 0 (seqK tab gl ((rG 36864 [mv 31 3, oO 32 (.faddr 3) [.tmp 1], oO 33 (.load 1 false) [.tmp 32], cL 34 n1 true [.tmp 33, .cst (.t (.int .i64 100))], oO 35 (.faddr 2) [.tmp 1], oS 1 35 31, oO 36 (.faddr 3) [.tmp 1], oS 1 36 34]).seq ((rG 40960 [oO 37 (.load 4 true) [.tmp 1], oS 4 2 37]).seq .ret)) (resW [(2, some (4, true))] 0 (fun r' o => r' = .t (evT (fewE (r, k, ds, d))) ∧ o = [])))) := by
    intro l fs hs hl hlx hT hw
    refine loopW_weak hw ?_
    rw [hT]
    refine loop_upto l.length (fun i => [(1, .ref 4096 0 0), (2, .ref 4112 0 0), (3, .sl 16432 0 l.length), (4, .t (.int .i64 (i : Nat)))]) (fun i => [(16432, .live 1 ((((l.take i).map (List.take 70) ++ l.drop i).map bsT).map V.t) true false), (4112, .live 4 [.agg [.t (.int .i64 0), .t (.int .i64 0), .nil, .nil]] true true), (4096, .live 4 [.t (.agg [.int .i64 r, .int .i64 k, .sl (l.map bsT), .sl (d.map byteT)])] true true)]) ?_ (fun i hi => ?_)
    · refine Weak.rd id ?_ ?_ rfl
      all_goals simp (config := { maxSteps := 2000000 }) (disch := (first | omega | (simp only [lens, lenm]; omega))) only [go_sem, ↓reduceIte, Nat.reduceAdd, Nat.reduceEqDiff, Nat.reduceSub, Nat.reduceMul, Nat.reduceLT, Nat.reduceLeDiff, Nat.reduceBEq, Int.reduceEq, Int.reduceLT, Int.reduceLE, Int.reduceToNat, Int.reduceNeg, Int.reduceAdd, Int.reduceSub, Int.reduceMul, Int.reduceMod, Int.reduceDiv, reduceCtorEq, Nat.reducePow, Int.reducePow, id, List.take_zero, List.map_nil, List.nil_append, List.drop_zero]
    · have hcl := cut_len hi
      by_cases hlt : i < l.length
      · have hcs := cut_step hlt
        have hcg := cut_get hlt
        have hgl : (l.getD i []).length ≤ 9223372036854775807 := by
          have e : l.getD i [] = l[i] := by simp [List.getD, hlt]
          rw [e]; exact hlx _ (List.getElem_mem hlt)
        have hc : ct_cut.fs [.t (.sl ((l.getD i []).map byteT)), .t (.int .i64 70)] [] = _ := cut_eq (b := l.getD i []) (n := 70) ⟨hgl, by omega⟩
        generalize hL : (l.take i).map (List.take 70) ++ l.drop i = L at *
        simp (config := { maxSteps := 2000000 }) (disch := (first | omega | (simp only [lens, lenm]; omega))) only [go_sem, ↓reduceIte, Nat.reduceAdd, Nat.reduceEqDiff, Nat.reduceSub, Nat.reduceMul, Nat.reduceLT, Nat.reduceLeDiff, Nat.reduceBEq, Int.reduceEq, Int.reduceLT, Int.reduceLE, Int.reduceToNat, Int.reduceNeg, Int.reduceAdd, Int.reduceSub, Int.reduceMul, Int.reduceMod, Int.reduceDiv, reduceCtorEq, Nat.reducePow, Int.reducePow, ac_law26_few_L0, h1, hcg, hc, hcl]
        refine ⟨hlt, Weak.rd id ?_ ?_ rfl⟩
        all_goals simp (config := { maxSteps := 2000000 }) (disch := (first | omega | (simp only [lens, lenm]; omega))) only [go_sem, ↓reduceIte, Nat.reduceAdd, Nat.reduceEqDiff, Nat.reduceSub, Nat.reduceMul, Nat.reduceLT, Nat.reduceLeDiff, Nat.reduceBEq, Int.reduceEq, Int.reduceLT, Int.reduceLE, Int.reduceToNat, Int.reduceNeg, Int.reduceAdd, Int.reduceSub, Int.reduceMul, Int.reduceMod, Int.reduceDiv, reduceCtorEq, Nat.reducePow, Int.reducePow, id, hcs]
      · have e : i = l.length := by omega
        subst e
        rw [List.take_length, List.drop_length, List.append_nil]
        have hq : List.take l.length (l.map (List.take 70)) = l.map (List.take 70) := List.take_of_length_le (by simp)
        have hq2 : (l.map (List.take 70)).length = l.length := List.length_map _
        generalize l.map (List.take 70) = L at *
        simp (config := { maxSteps := 2000000 }) (disch := (first | omega | (simp only [lens, lenm]; omega))) only [go_sem, ↓reduceIte, Nat.reduceAdd, Nat.reduceEqDiff, Nat.reduceSub, Nat.reduceMul, Nat.reduceLT, Nat.reduceLeDiff, Nat.reduceBEq, Int.reduceEq, Int.reduceLT, Int.reduceLE, Int.reduceToNat, Int.reduceNeg, Int.reduceAdd, Int.reduceSub, Int.reduceMul, Int.reduceMod, Int.reduceDiv, reduceCtorEq, Nat.reducePow, Int.reducePow, ac_law26_few_L0, h1, cd, hq, hq2]
  have cat : ∀ l : List (List UInt8), ([] : List (List UInt8)) ++ l = l := fun l => rfl
  by_cases h5 : 5 < ds.length
  · have l5' : (ds.take 5).length = 5 := by rw [List.length_take]; omega
    have x5 : ∀ x ∈ ds.take 5, x.length ≤ 9223372036854775807 := fun x hx => x2 x (List.mem_of_mem_take hx)
    generalize hQ : ds.take 5 = Q at *
    simp (config := { maxSteps := 2000000 }) (disch := (first | omega | (simp only [lens, lenm]; omega))) only [go_sem, ↓reduceIte, Nat.reduceAdd, Nat.reduceEqDiff, Nat.reduceSub, Nat.reduceMul, Nat.reduceLT, Nat.reduceLeDiff, Nat.reduceBEq, Int.reduceEq, Int.reduceLT, Int.reduceLE, Int.reduceToNat, Int.reduceNeg, Int.reduceAdd, Int.reduceSub, Int.reduceMul, Int.reduceMod, Int.reduceDiv, reduceCtorEq, Nat.reducePow, Int.reducePow, ac_law26_few, evT_def, h5, hQ, l5']
    refine fin Q _ _ (by omega) x5 hE (Weak.rd id ?_ ?_ rfl)
    all_goals simp (config := { maxSteps := 2000000 }) (disch := (first | omega | (simp only [lens, lenm]; omega))) only [go_sem, ↓reduceIte, Nat.reduceAdd, Nat.reduceEqDiff, Nat.reduceSub, Nat.reduceMul, Nat.reduceLT, Nat.reduceLeDiff, Nat.reduceBEq, Int.reduceEq, Int.reduceLT, Int.reduceLE, Int.reduceToNat, Int.reduceNeg, Int.reduceAdd, Int.reduceSub, Int.reduceMul, Int.reduceMod, Int.reduceDiv, reduceCtorEq, Nat.reducePow, Int.reducePow, id, l5']
  · have e5 : ds.take 5 = ds := List.take_of_length_le (by omega)
    rw [e5] at hE
    simp (config := { maxSteps := 2000000 }) (disch := (first | omega | (simp only [lens, lenm]; omega))) only [go_sem, ↓reduceIte, Nat.reduceAdd, Nat.reduceEqDiff, Nat.reduceSub, Nat.reduceMul, Nat.reduceLT, Nat.reduceLeDiff, Nat.reduceBEq, Int.reduceEq, Int.reduceLT, Int.reduceLE, Int.reduceToNat, Int.reduceNeg, Int.reduceAdd, Int.reduceSub, Int.reduceMul, Int.reduceMod, Int.reduceDiv, reduceCtorEq, Nat.reducePow, Int.reducePow, ac_law26_few, evT_def, h5]
    refine fin ds _ _ (by omega) x2 hE (Weak.rd id ?_ ?_ rfl)
    all_goals simp (config := { maxSteps := 2000000 }) (disch := (first | omega | (simp only [lens, lenm]; omega))) only [go_sem, ↓reduceIte, Nat.reduceAdd, Nat.reduceEqDiff, Nat.reduceSub, Nat.reduceMul, Nat.reduceLT, Nat.reduceLeDiff, Nat.reduceBEq, Int.reduceEq, Int.reduceLT, Int.reduceLE, Int.reduceToNat, Int.reduceNeg, Int.reduceAdd, Int.reduceSub, Int.reduceMul, Int.reduceMod, Int.reduceDiv, reduceCtorEq, Nat.reducePow, Int.reducePow, id]
theorem few_eq {a b : Int} {c : List (List UInt8)} {d : List UInt8} (h : evX (a, b, c, d)) : ct_few.fs [.t (.agg [.int .i64 a, .int .i64 b, .sl (c.map bsT), .sl (d.map byteT)])] [] = some (.t (evT (fewE (a, b, c, d))), []) := ct_few.eq (a, b, c, d) h
theorem evG_two {c : Cd} {act : Int} : ∃ r k D0 D1 d, (evG c act).1 = (r, k, [D0, D1], d) := by
  unfold evG evDig
  simp only
  split
  · exact ⟨_, _, _, _, _, rfl⟩
  · split
    · exact ⟨_, _, _, _, _, rfl⟩
    · exact ⟨_, _, _, _, _, rfl⟩
theorem dgb_want {act : Int} {a : Nat} {b : List UInt8} {k : Int} (hk : k ≠ 5) : (dgb act a b).length = wantL k act a := by
  unfold dgb wantL
  have e : ((2 ^ a : Nat) : Int) = (2 : Int) ^ a := by norm_cast
  rw [e]
  by_cases h : act / 2 ^ a % 2 = 1
  · rw [if_pos h, if_pos ⟨hk, h⟩, dg1_length]
  · rw [if_neg h, if_neg (fun q => h q.2)]; rfl
theorem evG_ok {c : Cd} {act : Int} (ha : 1 ≤ act ∧ act ≤ 3) : chkE (evG c act).1 act = 0 ∧ wrE (evG c act).1 = true ∧ evM (evG c act).1 := by
  have hk := evKind_le (c := (evData c).2)
  have hs := evSep_le (k := (evKind (evData c).2).1) (r := (evKind (evData c).2).2.1) (d := (evData c).1) (c := (evKind (evData c).2).2.2) hk.2 evData_le
  have hG : evG c act = evDig (evKind (evData c).2).1 (evSep (evKind (evData c).2).1 (evKind (evData c).2).2.1 (evData c).1 (evKind (evData c).2).2.2).1 act (evSep (evKind (evData c).2).1 (evKind (evData c).2).2.1 (evData c).1 (evKind (evData c).2).2.2).2.1 (evSep (evKind (evData c).2).1 (evKind (evData c).2).2.1 (evData c).1 (evKind (evData c).2).2.2).2.2 := rfl
  rw [hG]
  obtain ⟨hs1, hs2⟩ := hs
  generalize (evSep (evKind (evData c).2).1 (evKind (evData c).2).2.1 (evData c).1 (evKind (evData c).2).2.2) = S at *
  obtain ⟨r, d, c'⟩ := S
  have hk1 := hk.1
  generalize (evKind (evData c).2).1 = k at *
  simp only at hs1 hs2 ⊢
  have mk : chkE (mkE r k act d) act = 0 ∧ wrE (mkE r k act d) = true ∧ evM (mkE r k act d) := ⟨mkE_ok hs1 hk1 ha (by omega), mkE_wr hs1 hk1 (by omega), mkE_m (by omega)⟩
  unfold evDig
  split
  · exact mk
  · split
    · rename_i h5 _
      generalize [UInt8.ofNat (nx (nx c' 4).2 4).1, UInt8.ofNat k.toNat] = x
      have g0 : (dgb act 0 x).length = wantL k act 0 := dgb_want h5
      have g1 : (dgb act 1 x).length = wantL k act 1 := dgb_want h5
      have w0 := wantL_le (k := k) (act := act) (a := 0)
      have w1 := wantL_le (k := k) (act := act) (a := 1)
      refine ⟨?_, ?_, ⟨⟨by simp [dgB], fun y hy => ?_⟩, by simp only; omega⟩⟩
      · unfold chkE dgB
        simp only
        rw [if_neg (by unfold badE; omega), if_neg (by omega), if_pos]
        rw [fitE_two, g0, g1, decide_eq_true rfl, decide_eq_true rfl]; rfl
      · show wrE (r, k, [dgb act 0 x, dgb act 1 x], d) = true
        rw [wrE_two (by unfold wrBad; omega), g0, g1, decide_eq_true w0, decide_eq_true w1]; rfl
      · simp only [dgB, List.mem_cons, List.not_mem_nil, or_false] at hy
        rcases hy with rfl | rfl <;> omega
    · exact mk
theorem devt_eq {c : Cd} {act : Int} (h : cdOk c ∧ 1 ≤ act ∧ act ≤ 3) : ct_devt.fs [.ref 0 0 0, .t (.int .i64 act)] [cdO c] = some (.t (evT (evG c act).1), [cdO (evG c act).2]) := ct_devt.eq (c, act) h
end Go.Eng
end
section
set_option maxRecDepth 20000
set_option maxHeartbeats 64000000
namespace Go.Eng
def chgE (cs : List UInt8) (act : Int) (raw : Ev) (w n : Int) : Ev :=
  let e := (evG (cs.take 20, 0) act).1
  if modI w 8 = 0 then (raw.1, e.2)
  else if modI w 8 = 1 then (modI n 14 - 1, e.2)
  else if modI w 8 = 2 then (e.1, modI n 7, e.2.2)
  else if modI w 8 = 3 then (e.1, e.2.1, raw.2.2.1, e.2.2.2)
  else if modI w 8 = 4 then (e.1, e.2.1, e.2.2.1.set (modI n 2).toNat [], e.2.2.2)
  else if modI w 8 = 5 then (e.1, e.2.1, [e.2.2.1.getD 1 [], e.2.2.1.getD 0 []], e.2.2.2)
  else if modI w 8 = 6 then (e.1, e.2.1, e.2.2.1, raw.2.2.2)
  else (e.1, e.2.1, [e.2.2.1.getD 0 []], e.2.2.2)
def ct_chg : Ct where
  α := List UInt8 × Int × Ev × Int × Int
  as x := [.t (.sl (x.1.map byteT)), .t (.int .i64 x.2.1), .t (evT x.2.2.1), .t (.int .i64 x.2.2.2.1), .t (.int .i64 x.2.2.2.2)]
  ins _ := []
  pre x := x.1.length ≤ 9223372036854775807 ∧ (1 ≤ x.2.1 ∧ x.2.1 ≤ 3) ∧ evM x.2.2.1 ∧ rI x.2.2.2.1 ∧ rI x.2.2.2.2
  r x := .t (evT (chgE x.1 x.2.1 x.2.2.1 x.2.2.2.1 x.2.2.2.2))
  outs _ := []
  inj := by
    rintro ⟨a, b, c, d, e⟩ ⟨a', b', c', d', e'⟩ h _
    simp only [List.cons.injEq, V.t.injEq, T.sl.injEq, T.int.injEq, true_and, and_true, mapB_inj] at h
    obtain ⟨rfl, rfl, h, rfl, rfl⟩ := h
    cases evT_inj h
    exact ⟨rfl, rfl⟩
theorem modL_set {l : List (List UInt8)} {i : Nat} (h : modL l) : modL (l.set i []) := by
  refine ⟨by rw [List.length_set]; exact h.1, fun x hx => ?_⟩
  rcases List.mem_or_eq_of_mem_set hx with h1 | rfl
  · exact h.2 x h1
  · simp
theorem chgE_m {cs : List UInt8} {act : Int} {raw : Ev} {w n : Int} (ha : 1 ≤ act ∧ act ≤ 3) (hr : evM raw) : evM (chgE cs act raw w n) := by
  have hm := (evG_ok (c := (cs.take 20, 0)) ha).2.2
  unfold chgE
  simp only
  generalize (evG (cs.take 20, 0) act).1 = e at *
  have g0 := modL_get hm.1 0
  have g1 := modL_get hm.1 1
  split
  · exact hm
  · split
    · exact hm
    · split
      · exact hm
      · split
        · exact ⟨hr.1, hm.2⟩
        · split
          · exact ⟨modL_set hm.1, hm.2⟩
          · split
            · exact ⟨⟨by simp, fun x hx => by simp only [List.mem_cons, List.not_mem_nil, or_false] at hx; rcases hx with rfl | rfl <;> assumption⟩, hm.2⟩
            · split
              · exact ⟨hm.1, hr.2⟩
              · exact ⟨⟨by simp, fun x hx => by simp only [List.mem_cons, List.not_mem_nil, or_false] at hx; subst hx; assumption⟩, hm.2⟩
theorem w_law26_changed (tab : Tab) (gl : Gl) (n1 n2 n3 : Nat) (h1 : tab.look n1 = some ct_dnew.fs) (h2 : tab.look n2 = some ct_devt.fs) (h3 : tab.look n3 = some ct_mod.fs) (cs : List UInt8) (hcs : cs.length ≤ 9223372036854775807) (act : Int) (ha : 1 ≤ act ∧ act ≤ 3) (raw : Ev) (hr : evM raw) (w n : Int) (hw : rI w) (hn : rI n) :
    (ac_law26_changed n1 n2 n3).wp tab gl (zipF 0 [.t (.sl (cs.map byteT)), .t (.int .i64 act), .t (evT raw), .t (.int .i64 w), .t (.int .i64 n)]) (zipF 0 []) (resW [(10, some (4, true))] 0 (fun r o => r = .t (evT (chgE cs act raw w n)) ∧ o = [])) := by
  have hN : ct_dnew.fs [.t (.sl (cs.map byteT)), .t (.int .i64 20)] [] = _ := dnew_eq (b := cs) (n := 20) ⟨hcs, by omega⟩
  have okN : cdOk (cs.take 20, 0) := ⟨Nat.zero_le _, by simp only [List.length_take]; omega⟩
  have hE := devt_eq (act := act) ⟨okN, ha⟩
  have mW := mod_eq (a := w) (b := 8) ⟨hw, by omega⟩
  have m14 := mod_eq (a := n) (b := 14) ⟨hn, by omega⟩
  have m7 := mod_eq (a := n) (b := 7) ⟨hn, by omega⟩
  have m2 := mod_eq (a := n) (b := 2) ⟨hn, by omega⟩
  have lW := modI_lt (a := w) (m := 8) (by omega)
  have l14 := modI_lt (a := n) (m := 14) (by omega)
  have l2 := modI_lt (a := n) (m := 2) (by omega)
  have hC : chgE cs act raw w n = chgE cs act raw w n := rfl
  conv at hC => rhs; unfold chgE
  simp only at hC
  obtain ⟨r, k, D0, D1, d, hG⟩ := evG_two (c := (cs.take 20, 0)) (act := act)
  have hgm := (evG_ok (c := (cs.take 20, 0)) ha).2.2
  rw [hG] at hE hC hgm
  have dl0 := hgm.1.2 D0 (by simp)
  have dl1 := hgm.1.2 D1 (by simp)
  generalize (evG (cs.take 20, 0) act).2 = c' at *
  obtain ⟨bc, ac⟩ := c'
  generalize cs.take 20 = cs' at *
  obtain ⟨rr, rk, rds, rd⟩ := raw
  rw [hC]
  simp only [cdO, evT_def, List.map_cons, List.map_nil, bsT_def, Int.natCast_zero] at hN hE
  generalize modI n 14 = N14 at *
  generalize modI n 7 = N7 at *
  generalize modI n 2 = N2 at *
  generalize modI w 8 = W at *
  rcases (show W = 0 ∨ W = 1 ∨ W = 2 ∨ W = 3 ∨ W = 4 ∨ W = 5 ∨ W = 6 ∨ W = 7 by omega) with rfl | rfl | rfl | rfl | rfl | rfl | rfl | rfl
  case inr.inr.inr.inr.inl =>
    rcases (show N2 = 0 ∨ N2 = 1 by omega) with rfl | rfl
    all_goals simp (config := { maxSteps := 2000000 }) (disch := (first | omega | (simp only [lens, lenm]; omega))) only [go_sem, ↓reduceIte, Nat.reduceAdd, Nat.reduceEqDiff, Nat.reduceSub, Nat.reduceMul, Nat.reduceLT, Nat.reduceLeDiff, Nat.reduceBEq, Int.reduceEq, Int.reduceLT, Int.reduceLE, Int.reduceToNat, Int.reduceNeg, Int.reduceAdd, Int.reduceSub, Int.reduceMul, Int.reduceMod, Int.reduceDiv, reduceCtorEq, Nat.reducePow, Int.reducePow, ac_law26_changed, evT_def, h1, hN, h2, hE, h3, mW, m2, List.map_cons, List.map_nil]
    all_goals rfl
  all_goals simp (config := { maxSteps := 2000000 }) (disch := (first | omega | (simp only [lens, lenm]; omega))) only [go_sem, ↓reduceIte, Nat.reduceAdd, Nat.reduceEqDiff, Nat.reduceSub, Nat.reduceMul, Nat.reduceLT, Nat.reduceLeDiff, Nat.reduceBEq, Int.reduceEq, Int.reduceLT, Int.reduceLE, Int.reduceToNat, Int.reduceNeg, Int.reduceAdd, Int.reduceSub, Int.reduceMul, Int.reduceMod, Int.reduceDiv, reduceCtorEq, Nat.reducePow, Int.reducePow, ac_law26_changed, evT_def, h1, hN, h2, hE, h3, mW, m14, m7, m2, List.map_cons, List.map_nil]
  all_goals first | rfl | exact ⟨rfl, rfl, rfl⟩
theorem chg_eq {cs : List UInt8} {act : Int} {a b : Int} {c : List (List UInt8)} {d : List UInt8} {w n : Int} (h : cs.length ≤ 9223372036854775807 ∧ (1 ≤ act ∧ act ≤ 3) ∧ evM (a, b, c, d) ∧ rI w ∧ rI n) :
    ct_chg.fs [.t (.sl (cs.map byteT)), .t (.int .i64 act), .t (.agg [.int .i64 a, .int .i64 b, .sl (c.map bsT), .sl (d.map byteT)]), .t (.int .i64 w), .t (.int .i64 n)] [] = some (.t (evT (chgE cs act (a, b, c, d) w n)), []) := ct_chg.eq (cs, act, (a, b, c, d), w, n) h
theorem w_EventCheck (tab : Tab) (gl : Gl) (n1 n2 n3 n4 n5 n6 n7 n8 : Nat) (h1 : tab.look n1 = some ct_awake.fs) (h2 : tab.look n2 = some ct_few.fs) (h3 : tab.look n3 = some ct_chk.fs) (h4 : tab.look n4 = some ct_chk.fs) (h5 : tab.look n5 = some ct_dact.fs) (h6 : tab.look n6 = some ct_chg.fs) (h7 : tab.look n7 = some ct_dnew.fs) (h8 : tab.look n8 = some ct_devt.fs)
    (raw : Ev) (hx : evX raw) (a : Int) (ha : rI a) (cs : List UInt8) (hcs : cs.length ≤ 9223372036854775807) (w n : Int) (hw : rI w) (hn : rI n) :
    (ac_law26_EventCheck n1 n2 n3 n4 n5 n6 n7 n8).wp tab gl (zipF 0 [.t (evT raw), .t (.int .i64 a), .t (.sl (cs.map byteT)), .t (.int .i64 w), .t (.int .i64 n)]) (zipF 0 []) (resW [(10, none)] 0 (fun r' o => r' = .t (.bool true) ∧ o = [])) := by
  have lA := modI_lt (a := a) (m := 3) (by omega)
  have hA := dact_eq ha
  have hN : ct_dnew.fs [.t (.sl (cs.map byteT)), .t (.int .i64 20)] [] = _ := dnew_eq (b := cs) (n := 20) ⟨hcs, by omega⟩
  have okN : cdOk (cs.take 20, 0) := ⟨Nat.zero_le _, by simp only [List.length_take]; omega⟩
  obtain ⟨A, hAe⟩ : ∃ A, 1 + modI a 3 = A := ⟨_, rfl⟩
  rw [hAe] at hA
  have lA2 : 1 ≤ A ∧ A ≤ 3 := by omega
  have hE := devt_eq (act := A) ⟨okN, lA2⟩
  obtain ⟨g1, g2, g3⟩ := evG_ok (c := (cs.take 20, 0)) lA2
  have hfm := fewE_m (e := raw)
  have hcm := chgE_m (cs := cs) (w := w) (n := n) lA2 hfm
  obtain ⟨rr, rk, rds, rd⟩ := raw
  have hF := few_eq hx
  generalize fewE (rr, rk, rds, rd) = F at *
  obtain ⟨fr, fk, fds, fd⟩ := F
  have hC := chg_eq (act := A) (w := w) (n := n) ⟨hcs, lA2, hfm, hw, hn⟩
  generalize chgE cs A (fr, fk, fds, fd) w n = C at *
  obtain ⟨cr, ck, cds, cd⟩ := C
  generalize (evG (cs.take 20, 0) A).2 = c' at *
  generalize (evG (cs.take 20, 0) A).1 = G at *
  obtain ⟨gr, gk, gds, gd⟩ := G
  obtain ⟨bc, ac⟩ := c'
  have k1 := chk_eq (act := a) hfm
  have k2 := chk_eq (act := A) hcm
  have k3 := chk_eq (act := A) g3
  rw [g1] at k3
  simp only [cdO, evT_def, Int.natCast_zero] at hN hE hF hC
  generalize cs.take 20 = cs' at *
  simp (config := { maxSteps := 2000000 }) (disch := (first | omega | (simp only [lens, lenm]; omega))) only [go_sem, ↓reduceIte, Nat.reduceAdd, Nat.reduceEqDiff, Nat.reduceSub, Nat.reduceMul, Nat.reduceLT, Nat.reduceLeDiff, Nat.reduceBEq, Int.reduceEq, Int.reduceLT, Int.reduceLE, Int.reduceToNat, Int.reduceNeg, Int.reduceAdd, Int.reduceSub, Int.reduceMul, Int.reduceMod, Int.reduceDiv, reduceCtorEq, Nat.reducePow, Int.reducePow, ac_law26_EventCheck, evT_def, h1, awake_eq, h2, hF, h3, h4, k1, k2, k3, h5, hA, h6, hC, h7, hN, h8, hE, bne_self_eq_false, beq_self_eq_true]
  all_goals exact ⟨rfl, rfl⟩
theorem w_EventConsistent (tab : Tab) (gl : Gl) (n1 n2 n5 n6 n7 n8 n3 n4 : Nat) (h1 : tab.look n1 = some ct_awake.fs) (h2 : tab.look n2 = some ct_few.fs) (h5 : tab.look n5 = some ct_dact.fs) (h6 : tab.look n6 = some ct_chg.fs) (h7 : tab.look n7 = some ct_dnew.fs) (h8 : tab.look n8 = some ct_devt.fs) (h3 : tab.look n3 = some ct_con.fs) (h4 : tab.look n4 = some ct_con.fs)
    (raw : Ev) (hx : evX raw) (a : Int) (ha : rI a) (cs : List UInt8) (hcs : cs.length ≤ 9223372036854775807) (w n : Int) (hw : rI w) (hn : rI n) :
    (ac_law26_EventConsistent n1 n2 n5 n6 n7 n8 n3 n4).wp tab gl (zipF 0 [.t (evT raw), .t (.int .i64 a), .t (.sl (cs.map byteT)), .t (.int .i64 w), .t (.int .i64 n)]) (zipF 0 []) (resW [(10, none)] 0 (fun r' o => r' = .t (.bool true) ∧ o = [])) := by
  have lA := modI_lt (a := a) (m := 3) (by omega)
  have hA := dact_eq ha
  have hN : ct_dnew.fs [.t (.sl (cs.map byteT)), .t (.int .i64 20)] [] = _ := dnew_eq (b := cs) (n := 20) ⟨hcs, by omega⟩
  have okN : cdOk (cs.take 20, 0) := ⟨Nat.zero_le _, by simp only [List.length_take]; omega⟩
  obtain ⟨A, hAe⟩ : ∃ A, 1 + modI a 3 = A := ⟨_, rfl⟩
  rw [hAe] at hA
  have lA2 : 1 ≤ A ∧ A ≤ 3 := by omega
  have hE := devt_eq (act := A) ⟨okN, lA2⟩
  obtain ⟨g1, g2, g3⟩ := evG_ok (c := (cs.take 20, 0)) lA2
  have hfm := fewE_m (e := raw)
  have hcm := chgE_m (cs := cs) (w := w) (n := n) lA2 hfm
  obtain ⟨rr, rk, rds, rd⟩ := raw
  have hF := few_eq hx
  generalize fewE (rr, rk, rds, rd) = F at *
  obtain ⟨fr, fk, fds, fd⟩ := F
  have hC := chg_eq (act := A) (w := w) (n := n) ⟨hcs, lA2, hfm, hw, hn⟩
  generalize chgE cs A (fr, fk, fds, fd) w n = C at *
  obtain ⟨cr, ck, cds, cd⟩ := C
  generalize (evG (cs.take 20, 0) A).2 = c' at *
  generalize (evG (cs.take 20, 0) A).1 = G at *
  obtain ⟨gr, gk, gds, gd⟩ := G
  obtain ⟨bc, ac⟩ := c'
  have k1 := con_eq hfm
  have k2 := con_eq hcm
  have k3 := con_eq g3
  simp only [cdO, evT_def, Int.natCast_zero] at hN hE hF hC
  generalize cs.take 20 = cs' at *
  generalize conE (fr, fk, fds, fd) = c1 at *
  generalize conE (cr, ck, cds, cd) = c2 at *
  generalize conE (gr, gk, gds, gd) = c3 at *
  simp (config := { maxSteps := 2000000 }) (disch := (first | omega | (simp only [lens, lenm]; omega))) only [go_sem, ↓reduceIte, Nat.reduceAdd, Nat.reduceEqDiff, Nat.reduceSub, Nat.reduceMul, Nat.reduceLT, Nat.reduceLeDiff, Nat.reduceBEq, Int.reduceEq, Int.reduceLT, Int.reduceLE, Int.reduceToNat, Int.reduceNeg, Int.reduceAdd, Int.reduceSub, Int.reduceMul, Int.reduceMod, Int.reduceDiv, reduceCtorEq, Nat.reducePow, Int.reducePow, ac_law26_EventConsistent, evT_def, h1, awake_eq, h2, hF, h3, h4, k1, k2, k3, h5, hA, h6, hC, h7, hN, h8, hE, beq_self_eq_true]
  all_goals rfl
theorem dcEv_nil : dcEv [] = ((0, 0, [], []), 30) := by
  unfold dcEv rdEv
  simp [rdUint, rdBlob, rdEnd]
theorem encX_eq {a b : Int} {c : List (List UInt8)} {d : List UInt8} (h : evM (a, b, c, d)) (hw : wrE (a, b, c, d) = true) : ct_encX.fs [.t (.agg [.int .i64 a, .int .i64 b, .sl (c.map bsT), .sl (d.map byteT)])] [] = some (.sl 0 0 (encE (a, b, c, d)).length, [.live 1 (((encE (a, b, c, d)).map byteT).map V.t) true false]) := by
  have := ct_encX.eq (a, b, c, d) h
  have e1 : ct_encX.r (a, b, c, d) = .sl 0 0 (encE (a, b, c, d)).length := if_pos hw
  have e2 : ct_encX.outs (a, b, c, d) = [.live 1 (((encE (a, b, c, d)).map byteT).map V.t) true false] := if_pos hw
  rw [e1, e2] at this
  exact this
theorem encX_no {a b : Int} {c : List (List UInt8)} {d : List UInt8} (h : evM (a, b, c, d)) (hw : wrE (a, b, c, d) = false) : ct_encX.fs [.t (.agg [.int .i64 a, .int .i64 b, .sl (c.map bsT), .sl (d.map byteT)])] [] = some (.nil, []) := by
  have := ct_encX.eq (a, b, c, d) h
  have e1 : ct_encX.r (a, b, c, d) = .nil := if_neg (by rw [hw]; simp)
  have e2 : ct_encX.outs (a, b, c, d) = [] := if_neg (by rw [hw]; simp)
  rw [e1, e2] at this
  exact this
theorem encE_len {r k : Int} {ds : List (List UInt8)} {d : List UInt8} (h : wrE (r, k, ds, d) = true) : 0 < (encE (r, k, ds, d)).length ∧ (encE (r, k, ds, d)).length ≤ 1000 := by
  obtain ⟨_, _, hd, d0, d1, rfl, q0, q1⟩ := wrE_true h
  rw [encE_two, blL_len, blL_len, blL_len, List.length_append, beI_len, beI_len]
  omega
theorem w_EventCodec (tab : Tab) (gl : Gl) (n1 n2 n5 n7 n8 n3 n4 n6 n9 n10 : Nat) (h1 : tab.look n1 = some ct_awake.fs) (h2 : tab.look n2 = some ct_few.fs) (h5 : tab.look n5 = some ct_dact.fs) (h7 : tab.look n7 = some ct_dnew.fs) (h8 : tab.look n8 = some ct_devt.fs) (h3 : tab.look n3 = some ct_encE.fs) (h4 : tab.look n4 = some ct_decE.fs) (h6 : tab.look n6 = some ct_sameE.fs) (h9 : tab.look n9 = some ct_encX.fs) (h10 : tab.look n10 = some ct_same.fs)
    (raw : Ev) (hx : evX raw) (a : Int) (ha : rI a) (cs : List UInt8) (hcs : cs.length ≤ 9223372036854775807) :
    (ac_law26_EventCodec n1 n2 n5 n7 n8 n3 n4 n6 n9 n10).wp tab gl (zipF 0 [.t (evT raw), .t (.int .i64 a), .t (.sl (cs.map byteT))]) (zipF 0 []) (resW [(6, none)] 0 (fun r' o => r' = .t (.bool true) ∧ o = [])) := by
  have lA := modI_lt (a := a) (m := 3) (by omega)
  have hA := dact_eq ha
  have hN : ct_dnew.fs [.t (.sl (cs.map byteT)), .t (.int .i64 20)] [] = _ := dnew_eq (b := cs) (n := 20) ⟨hcs, by omega⟩
  have okN : cdOk (cs.take 20, 0) := ⟨Nat.zero_le _, by simp only [List.length_take]; omega⟩
  obtain ⟨A, hAe⟩ : ∃ A, 1 + modI a 3 = A := ⟨_, rfl⟩
  rw [hAe] at hA
  have lA2 : 1 ≤ A ∧ A ≤ 3 := by omega
  have hE := devt_eq (act := A) ⟨okN, lA2⟩
  obtain ⟨g1, g2, g3⟩ := evG_ok (c := (cs.take 20, 0)) lA2
  have hfm := fewE_m (e := raw)
  obtain ⟨rr, rk, rds, rd⟩ := raw
  have hF := few_eq hx
  generalize fewE (rr, rk, rds, rd) = F at *
  obtain ⟨fr, fk, fds, fd⟩ := F
  generalize (evG (cs.take 20, 0) A).2 = c' at *
  generalize (evG (cs.take 20, 0) A).1 = G at *
  obtain ⟨gr, gk, gds, gd⟩ := G
  obtain ⟨bc, ac⟩ := c'
  have e1 := encE_eq g3
  have e1' : encE' (gr, gk, gds, gd) = encE (gr, gk, gds, gd) := if_pos g2
  rw [e1'] at e1
  have x1 := encX_eq g3 g2
  have l1 := encE_len g2
  have d1 := decE_eq (b := encE (gr, gk, gds, gd)) (by omega)
  rw [dcEv_enc g2] at d1
  have s1 := same_refl (a := encE (gr, gk, gds, gd)) (by omega)
  have q1 := sameE_refl g3
  have t1 : List.take (encE (gr, gk, gds, gd)).length (encE (gr, gk, gds, gd)) = encE (gr, gk, gds, gd) := List.take_length
  generalize encE (gr, gk, gds, gd) = B at *
  have e2 := encE_eq hfm
  simp only [cdO, evT_def, Int.natCast_zero] at hN hE hF d1
  generalize cs.take 20 = cs' at *
  cases hq : wrE (fr, fk, fds, fd)
  · have e2' : encE' (fr, fk, fds, fd) = [] := if_neg (by rw [hq]; simp)
    rw [e2'] at e2
    have x2 := encX_no hfm hq
    have d2 := decE_eq (b := []) (by decide)
    rw [dcEv_nil] at d2
    simp only [evT_def, List.map_nil] at d2 e2
    simp (config := { maxSteps := 2000000 }) (disch := (first | omega | (simp only [lens, lenm]; omega))) only [go_sem, ↓reduceIte, Nat.reduceAdd, Nat.reduceEqDiff, Nat.reduceSub, Nat.reduceMul, Nat.reduceLT, Nat.reduceLeDiff, Nat.reduceBEq, Int.reduceEq, Int.reduceLT, Int.reduceLE, Int.reduceToNat, Int.reduceNeg, Int.reduceAdd, Int.reduceSub, Int.reduceMul, Int.reduceMod, Int.reduceDiv, reduceCtorEq, Nat.reducePow, Int.reducePow, ac_law26_EventCodec, evT_def, h1, awake_eq, h2, hF, h5, hA, h7, hN, h8, hE, h3, e1, h4, d1, h6, q1, h9, x1, t1, h10, s1, e2, x2, d2, same_nil]
  · have e2' : encE' (fr, fk, fds, fd) = encE (fr, fk, fds, fd) := if_pos hq
    rw [e2'] at e2
    have x2 := encX_eq hfm hq
    have l2 := encE_len hq
    have d2 := decE_eq (b := encE (fr, fk, fds, fd)) (by omega)
    rw [dcEv_enc hq] at d2
    have s2 := same_refl (a := encE (fr, fk, fds, fd)) (by omega)
    have q2 := sameE_refl hfm
    have t2 : List.take (encE (fr, fk, fds, fd)).length (encE (fr, fk, fds, fd)) = encE (fr, fk, fds, fd) := List.take_length
    generalize encE (fr, fk, fds, fd) = C at *
    simp only [evT_def] at d2
    simp (config := { maxSteps := 2000000 }) (disch := (first | omega | (simp only [lens, lenm]; omega))) only [go_sem, ↓reduceIte, Nat.reduceAdd, Nat.reduceEqDiff, Nat.reduceSub, Nat.reduceMul, Nat.reduceLT, Nat.reduceLeDiff, Nat.reduceBEq, Int.reduceEq, Int.reduceLT, Int.reduceLE, Int.reduceToNat, Int.reduceNeg, Int.reduceAdd, Int.reduceSub, Int.reduceMul, Int.reduceMod, Int.reduceDiv, reduceCtorEq, Nat.reducePow, Int.reducePow, ac_law26_EventCodec, evT_def, h1, awake_eq, h2, hF, h5, hA, h7, hN, h8, hE, h3, e1, h4, d1, h6, q1, h9, x1, t1, h10, s1, e2, x2, d2, t2, s2, q2]
end Go.Eng
end
section
set_option maxRecDepth 20000
namespace Go.Eng
open Go.MuLone
theorem tieW {P : Program} {G : Gl} {tab : Tab} {f : FuncId} {fn : Func} {c : Code} {ac : AC} {hints : List (Nat × List Nat)} {rs : List (Nat × Option (Nat × Bool))} (hf : P.funcs[f]? = some fn) (hname : (fn.name == "runtime.NumGoroutine") = false) (hb : fn.body = some c) (hann : ann P fn.ntmps hints c = some ac) (hmx : P.follows .mixedOrders = true)
    (ht : TabOk P G tab) (hrs : resOf P fn.results.toList = some rs) (ct : Ct) (hn : ∀ x, (ct.as x).length ≤ fn.ntmps) (hi : ∀ x, (ct.ins x).length ≤ 100)
    (h : ∀ x, ct.pre x → ac.wp tab G (zipF 0 (ct.as x)) (zipF 0 (ct.ins x)) (resW rs (ct.ins x).length (fun r' o' => r' = ct.r x ∧ o' = ct.outs x))) : FOk P G f ct.fs :=
  ct.ok (fun args w => run_callFunc_enter hf hname hb args w) (fun x hx => spec_of hf hb hann hmx ht hrs (hn x) (hi x) (h x hx))
theorem tieF {P : Program} {G : Gl} {tab : Tab} {f : FuncId} {fn : Func} {c : Code} {ac : AC} {hints : List (Nat × List Nat)} {rs : List (Nat × Option (Nat × Bool))} (fz : List Nat) (hf : P.funcs[f]? = some fn) (hname : (fn.name == "runtime.NumGoroutine") = false) (hb : fn.body = some c) (hann : ann P fn.ntmps hints c = some ac) (hmx : P.follows .mixedOrders = true)
    (ht : TabOk P G tab) (hrs : resOf P fn.results.toList = some rs) (ct : Ct) (hn : ∀ x, (ct.as x).length ≤ fn.ntmps) (hi : ∀ x, (ct.ins x).length ≤ 100)
    (h : ∀ x, ct.pre x → ac.wp tab G (zipF 0 (ct.as x)) (zipF 0 (ct.ins x)) (resF fz rs (ct.ins x).length (fun r' o' => r' = ct.r x ∧ o' = ct.outs x))) : FOk P G f ct.fs :=
  ct.ok (fun args w => run_callFunc_enter hf hname hb args w) (fun x hx => spec_live fz hf hb hann hmx ht hrs (hn x) (hi x) (h x hx))
theorem tieL {P : Program} {G : Gl} {tab : Tab} {f : FuncId} {fn : Func} {c : Code} {ac : AC} {hints : List (Nat × List Nat)} {rs : List (Nat × Option (Nat × Bool))} (hf : P.funcs[f]? = some fn) (hb : fn.body = some c) (hann : ann P fn.ntmps hints c = some ac) (hmx : P.follows .mixedOrders = true)
    (ht : TabOk P G tab) (hrs : resOf P fn.results.toList = some rs) {as : List V} (hn : as.length ≤ fn.ntmps)
    (h : ac.wp tab G (zipF 0 as) (zipF 0 []) (resW rs 0 (fun r o => r = .t (.bool true) ∧ o = []))) : Spec P G f as [] (.t (.bool true)) [] :=
  spec_of hf hb hann hmx ht hrs hn (Nat.zero_le _) h
end Go.Eng
end
