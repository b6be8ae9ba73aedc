/- My own text: an abstract machine, its walks over the functions reached, and their tie to the program. -/
import Derived.Test.YtpeekafhlgkjdaaDoorQ3
import Derived.Conc.MuLone
import Derived.Lib.MakeNoZero
import Derived.Laws.Externs
set_option linter.unusedSimpArgs false
set_option linter.unusedVariables false
section
set_option maxRecDepth 20000
set_option maxHeartbeats 64000000
namespace Go.Eng
def ct_eqB : Ct where
  α := List UInt8 × List UInt8
  as x := [.t (.sl (x.1.map byteT)), .t (.sl (x.2.map byteT))]
  ins _ := []
  pre _ := True
  r x := .t (.bool (decide (x.1 = x.2)))
  outs _ := []
  inj := by
    rintro ⟨a, b⟩ ⟨c, d⟩ h _
    simp only [List.cons.injEq, V.t.injEq, T.sl.injEq, and_true, mapB_inj] at h
    obtain ⟨rfl, rfl⟩ := h
    exact ⟨rfl, rfl⟩
theorem eqB_eq {a b : List UInt8} : ct_eqB.fs [.t (.sl (a.map byteT)), .t (.sl (b.map byteT))] [] = some (.t (.bool (decide (a = b))), []) := ct_eqB.eq (a, b) trivial
theorem w_bytes_Equal (tab : Tab) (gl : Gl) (x : ct_eqB.α) : ac_bytes_Equal.wp tab gl (zipF 0 (ct_eqB.as x)) (zipF 0 []) (resW [(4, none)] 0 (fun r o => r = ct_eqB.r x ∧ o = [])) := by
  obtain ⟨a, b⟩ := x
  show ac_bytes_Equal.wp tab gl (zipF 0 [.t (.sl (a.map byteT)), .t (.sl (b.map byteT))]) (zipF 0 []) (resW [(4, none)] 0 (fun r o => r = .t (.bool (decide (a = b))) ∧ o = []))
  simp (disch := omega) only [go_sem, ↓reduceIte, Nat.reduceAdd, Nat.reduceEqDiff, reduceCtorEq, ac_bytes_Equal]
def sep4 : List UInt8 := [0, 0, 0, 0]
def okC (c : UInt8) : Bool := !decide (c.toNat < 32) && !decide (c.toNat > 126)
def prL (d : List UInt8) : Bool := decide (0 < d.length) && d.all okC
theorem all_take {d : List UInt8} {i : Nat} (h : i < d.length) : (d.take (i + 1)).all okC = ((d.take i).all okC && okC (d.getD i 0)) := by
  rw [take_s (d := 0) h]; simp
theorem all_not {d : List UInt8} {i : Nat} (h : i < d.length) (hc : okC (d.getD i 0) = false) : d.all okC = false := by
  have e : d.getD i 0 = d[i] := by simp [List.getD, h]
  rw [e] at hc
  cases hq : d.all okC
  · rfl
  · have := List.all_eq_true.1 hq _ (List.getElem_mem h)
    rw [hc] at this; cases this
def conA (k : Int) (ds : List (List UInt8)) (d : List UInt8) (a : Nat) : Bool := decide (ds.length ≤ a) || (decide ((ds.getD a []).length = 0) || (decide (k ≠ 5) && decide (ds.getD a [] = sumA a d)))
def conD (k : Int) (ds : List (List UInt8)) (d : List UInt8) : Bool := conA k ds d 0 && conA k ds d 1
def conE (e : Ev) : Bool := if e.2.1 = 1 then true else if e.2.1 < 1 ∨ 5 < e.2.1 then false else if e.2.1 = 2 ∧ e.2.2.2 ≠ sep4 then false else if e.2.1 = 3 ∧ prL e.2.2.2 = false then false else conD e.2.1 e.2.2.1 e.2.2.2
def ct_con : Ct where
  α := Ev
  as x := [.t (evT x)]
  ins _ := []
  pre x := evM x
  r x := .t (.bool (conE x))
  outs _ := []
  inj := by
    intro a b h _
    simp only [List.cons.injEq, V.t.injEq, and_true] at h
    cases evT_inj h
    exact ⟨rfl, rfl⟩
theorem conA_z {k : Int} {ds : List (List UInt8)} {d : List UInt8} {a : Nat} (h : (ds.getD a []).length = 0) : conA k ds d a = true := by unfold conA; rw [decide_eq_true h]; simp
theorem conA_n {k : Int} {ds : List (List UInt8)} {d : List UInt8} {a : Nat} (h1 : a < ds.length) (h2 : ¬ (ds.getD a []).length = 0) : conA k ds d a = (decide (k ≠ 5) && decide (ds.getD a [] = sumA a d)) := by
  unfold conA; rw [decide_eq_false (by omega), decide_eq_false h2]; rfl
theorem conD_f {k : Int} {ds : List (List UInt8)} {d : List UInt8} {a : Nat} (ha : a < 2) (h : conA k ds d a = false) : conD k ds d = false := by
  unfold conD; rcases (show a = 0 ∨ a = 1 by omega) with rfl | rfl <;> rw [h] <;> simp
theorem minI {n : Nat} : ((Nat.min n 2 : Nat) : Int) = if 2 < (n : Int) then 2 else (n : Int) := by
  have : Nat.min n 2 = min n 2 := rfl
  split <;> omega
theorem up1 {P : Nat → Prop} {i : Nat} (h : ∀ a, a < i → P a) (hi : P i) : ∀ a, a < i + 1 → P a := by
  intro a ha
  rcases Nat.lt_or_ge a i with h1 | h1
  · exact h a h1
  · have : a = i := by omega
    subst this; exact hi
theorem w_event_Consistent (tab : Tab) (gl : Gl) (n1 n2 : Nat) (h1 : tab.look n1 = some ct_eqB.fs) (h2 : tab.look n2 = some ct_sumA.fs) (e : Ev) (hm : evM e) :
    (ac_event_Consistent n1 n2).wp tab gl (zipF 0 [.t (evT e)]) (zipF 0 []) (resW [(2, none)] 0 (fun r o => r = .t (.bool (conE e)) ∧ o = [])) := by
  obtain ⟨r, k, ds, d⟩ := e
  have hd := hm.2
  simp only at hd
  by_cases k1 : k = 1
  · subst k1
    simp (disch := omega) only [go_sem, ↓reduceIte, Nat.reduceAdd, Nat.reduceEqDiff, Nat.reduceLeDiff, reduceCtorEq, ac_event_Consistent, evT_def, conE]
  by_cases kb : k < 1 ∨ 5 < k
  · have q1 : (k == 1) = false := by simpa using k1
    have q2 : (k == 2) = false := by simpa using (by omega : ¬ k = 2)
    have q3 : (k == 3) = false := by simpa using (by omega : ¬ k = 3)
    have q4 : (k == 4) = false := by simpa using (by omega : ¬ k = 4)
    have q5 : (k == 5) = false := by simpa using (by omega : ¬ k = 5)
    have n5 : (k != 5) = true := by simpa using (by omega : ¬ k = 5)
    have n1 : (k != 1) = true := by simpa using k1
    have hr : conE (r, k, ds, d) = false := by unfold conE; simp only; rw [if_neg k1, if_pos kb]
    rw [hr]
    simp (disch := omega) only [go_sem, ↓reduceIte, Nat.reduceAdd, Nat.reduceEqDiff, Nat.reduceLeDiff, reduceCtorEq, ac_event_Consistent, evT_def, q1, q2, q3, q4, q5, n1, n5]
  have hd0 : ∀ a, (ds.getD a []).length < 1000000000 := modL_get hm.1
  have fin : ∀ (fs : Fs) (hs : Hs), conE (r, k, ds, d) = conD k ds d → Weak fs hs [(1, .ref 4096 0 0), (3, .t (.bool (decide (k ≠ 5)))), (53, .t (.int .i64 (Nat.min ds.length 2 : Nat))), (54, .t (.int .i64 0))] [(4096, .live 4 [.t (evT (r, k, ds, d))] true true)] →
      loopW tab gl (ac_event_Consistent_L1 n2 n1) fs hs (blockK 3 (seqK tab gl ((rG 114688 [mC 2 (.t (.bool true))]).seq AC.ret) (resW [(2, none)] 0 (fun r' o => r' = .t (.bool (conE (r, k, ds, d))) ∧ o = [])))) := by
    intro fs hs hE hw
    refine loopW_weak hw ?_
    rw [hE]
    refine loop_uptoP (Nat.min ds.length 2) (fun i => ∀ a, a < i → conA k ds d a = true) (fun i => [(1, .ref 4096 0 0), (3, .t (.bool (decide (k ≠ 5)))), (53, .t (.int .i64 (Nat.min ds.length 2 : Nat))), (54, .t (.int .i64 (i : Nat)))]) (fun _ => [(4096, .live 4 [.t (evT (r, k, ds, d))] true true)]) (by intro a ha; omega) ?_ (fun i hi hP => ?_)
    · refine Weak.rd id ?_ ?_ rfl
      all_goals simp (disch := omega) only [go_sem, ↓reduceIte, Nat.reduceEqDiff, id]
    · have hmin : Nat.min ds.length 2 ≤ ds.length ∧ Nat.min ds.length 2 ≤ 2 := ⟨Nat.min_le_left _ _, Nat.min_le_right _ _⟩
      have hle : Nat.min ds.length 2 = ds.length ∨ Nat.min ds.length 2 = 2 := by
        have : Nat.min ds.length 2 = min ds.length 2 := rfl
        omega
      generalize hn : Nat.min ds.length 2 = n at *
      by_cases hlt : i < n
      · have hi2 : i < ds.length := by omega
        have mi := hd0 i
        by_cases z : (ds.getD i []).length = 0
        · have hc := conA_z (k := k) (d := d) z
          simp (disch := omega) only [go_sem, ↓reduceIte, Nat.reduceAdd, Nat.reduceEqDiff, Nat.reduceLeDiff, reduceCtorEq, ac_event_Consistent_L1, evT_def, z]
          refine ⟨hlt, up1 hP hc, Weak.rd id ?_ ?_ rfl⟩
          all_goals simp (disch := omega) only [go_sem, ↓reduceIte, Nat.reduceEqDiff, id, evT_def]
        · by_cases k5 : k = 5
          · subst k5
            have hf : conD 5 ds d = false := conD_f (a := i) (by omega) (by rw [conA_n hi2 z]; simp)
            simp (disch := omega) only [go_sem, ↓reduceIte, Nat.reduceAdd, Nat.reduceEqDiff, Nat.reduceLeDiff, reduceCtorEq, ac_event_Consistent_L1, evT_def, z, hf, ne_eq]
          · have hcn := conA_n (k := k) (d := d) hi2 z
            rw [decide_eq_true k5, Bool.true_and] at hcn
            have s0 := sumA_eq0 hd
            have s1 := sumA_eq1 hd
            have l0 : (sum1 d).length = 20 := sum1_length
            have l1 : (sum256 d).length = 32 := sum256_length
            have t0 : List.take 20 (sum1 d) = sum1 d := take_sum1
            have t1 : List.take 32 (sum256 d) = sum256 d := take_sum256
            have a0 : sumA 0 d = sum1 d := rfl
            have a1 : sumA 1 d = sum256 d := rfl
            rcases (show i = 0 ∨ i = 1 by omega) with rfl | rfl
            · rw [a0] at hcn
              generalize sum1 d = S0 at *
              have hq := eqB_eq (a := ds.getD 0 []) (b := S0)
              rw [← hcn] at hq
              cases hx : conA k ds d 0
              · rw [hx] at hq
                have hf := conD_f (a := 0) (by omega) hx
                simp (disch := omega) only [go_sem, ↓reduceIte, Nat.reduceAdd, Nat.reduceEqDiff, Nat.reduceLeDiff, Int.reduceLE, reduceCtorEq, ac_event_Consistent_L1, evT_def, z, k5, h2, s0, l0, t0, h1, hq, hf, ne_eq]
                all_goals rfl
              · rw [hx] at hq
                simp (disch := omega) only [go_sem, ↓reduceIte, Nat.reduceAdd, Nat.reduceEqDiff, Nat.reduceLeDiff, Int.reduceLE, Int.reduceAdd, reduceCtorEq, ac_event_Consistent_L1, evT_def, z, k5, h2, s0, l0, t0, h1, hq, ne_eq]
                refine ⟨hlt, up1 hP hx, Weak.rd id ?_ ?_ rfl⟩
                all_goals simp (disch := omega) only [go_sem, ↓reduceIte, Nat.reduceEqDiff, id, evT_def]
            · rw [a1] at hcn
              generalize sum256 d = S0 at *
              have hq := eqB_eq (a := ds.getD 1 []) (b := S0)
              rw [← hcn] at hq
              cases hx : conA k ds d 1
              · rw [hx] at hq
                have hf := conD_f (a := 1) (by omega) hx
                simp (disch := omega) only [go_sem, ↓reduceIte, Nat.reduceAdd, Nat.reduceEqDiff, Nat.reduceLeDiff, Int.reduceLE, reduceCtorEq, ac_event_Consistent_L1, evT_def, z, k5, h2, s1, l1, t1, h1, hq, hf, ne_eq]
                all_goals rfl
              · rw [hx] at hq
                simp (disch := omega) only [go_sem, ↓reduceIte, Nat.reduceAdd, Nat.reduceEqDiff, Nat.reduceLeDiff, Int.reduceLE, Int.reduceAdd, reduceCtorEq, ac_event_Consistent_L1, evT_def, z, k5, h2, s1, l1, t1, h1, hq, ne_eq]
                refine ⟨hlt, up1 hP hx, Weak.rd id ?_ ?_ rfl⟩
                all_goals simp (disch := omega) only [go_sem, ↓reduceIte, Nat.reduceEqDiff, id, evT_def]
      · have e : i = n := by omega
        subst e
        have hc : conD k ds d = true := by
          have hA : ∀ a, a < 2 → conA k ds d a = true := by
            intro a ha
            by_cases h : a < i
            · exact hP a h
            · unfold conA; rw [decide_eq_true (by omega), Bool.true_or]
          unfold conD; rw [hA 0 (by omega), hA 1 (by omega)]; rfl
        simp (disch := omega) only [go_sem, ↓reduceIte, Nat.reduceAdd, Nat.reduceEqDiff, ac_event_Consistent_L1, hc]
  rcases (show k = 2 ∨ k = 3 ∨ k = 4 ∨ k = 5 by omega) with rfl | rfl | rfl | rfl
  · by_cases hs : d = sep4
    · have hq : ct_eqB.fs [.t (.sl (d.map byteT)), .t (.sl [byteT 0, byteT 0, byteT 0, byteT 0])] [] = some (.t (.bool true), []) := by
        have := eqB_eq (a := d) (b := sep4)
        rw [decide_eq_true hs] at this
        exact this
      simp (disch := omega) only [go_sem, ↓reduceIte, Nat.reduceAdd, Nat.reduceEqDiff, Nat.reduceLeDiff, Int.reduceLE, reduceCtorEq, ac_event_Consistent, evT_def, h1, hq]
      repeat refine And.intro rfl ?_
      refine fin _ _ (by unfold conE; simp [hs]) (Weak.rd id ?_ ?_ rfl)
      all_goals simp (disch := omega) only [go_sem, ↓reduceIte, Nat.reduceEqDiff, id, evT_def, minI]
    · have hq : ct_eqB.fs [.t (.sl (d.map byteT)), .t (.sl [byteT 0, byteT 0, byteT 0, byteT 0])] [] = some (.t (.bool false), []) := by
        have := eqB_eq (a := d) (b := sep4)
        rw [decide_eq_false hs] at this
        exact this
      have hr : conE (r, 2, ds, d) = false := by unfold conE; simp [hs]
      rw [hr]
      simp (disch := omega) only [go_sem, ↓reduceIte, Nat.reduceAdd, Nat.reduceEqDiff, Nat.reduceLeDiff, Int.reduceLE, reduceCtorEq, ac_event_Consistent, evT_def, h1, hq]
      all_goals rfl
  · by_cases hz : d.length = 0
    · have hp : prL d = false := by unfold prL; rw [decide_eq_false (by omega)]; rfl
      have hr : conE (r, 3, ds, d) = false := by unfold conE; simp [hp]
      rw [hr]
      simp (disch := omega) only [go_sem, ↓reduceIte, Nat.reduceAdd, Nat.reduceEqDiff, Nat.reduceLeDiff, reduceCtorEq, ac_event_Consistent, evT_def, hz]
    · have hzi : ((d.length : Int) == 0) = false := by simpa using (by omega : ¬ (d.length : Int) = 0)
      have hp : prL d = d.all okC := by unfold prL; rw [decide_eq_true (by omega)]; rfl
      simp (disch := omega) only [go_sem, ↓reduceIte, Nat.reduceAdd, Nat.reduceEqDiff, Nat.reduceLeDiff, reduceCtorEq, ac_event_Consistent, evT_def, hz, hzi]
      refine loop_uptoP d.length (fun i => (d.take i).all okC = true) (fun i => [(1, .ref 4096 0 0), (3, .t (.bool true)), (34, .t (.sl (d.map byteT))), (35, .t (.int .i64 d.length)), (36, .t (.int .i64 (i : Nat)))]) (fun _ => [(4096, .live 4 [.t (evT (r, 3, ds, d))] true true)]) rfl ?_ (fun i hi hP => ?_)
      · refine Weak.rd id ?_ ?_ rfl
        all_goals simp (disch := omega) only [go_sem, ↓reduceIte, Nat.reduceEqDiff, id, evT_def]
      · by_cases hlt : i < d.length
        · have hs := all_take hlt
          rw [hP, Bool.true_and] at hs
          cases hc : okC (d.getD i 0)
          · have hn := all_not hlt hc
            have hr : conE (r, 3, ds, d) = false := by unfold conE; simp [hp, hn]
            by_cases c1 : (d.getD i 0).toNat < 32
            · simp (disch := omega) only [go_sem, ↓reduceIte, Nat.reduceAdd, Nat.reduceEqDiff, Nat.reduceLeDiff, ac_event_Consistent_L0, c1, hr]
            · have c2 : 126 < (d.getD i 0).toNat := by
                unfold okC at hc
                rw [decide_eq_false c1] at hc
                simp only [Bool.not_false, Bool.true_and, Bool.not_eq_false', decide_eq_true_eq] at hc
                exact hc
              simp (disch := omega) only [go_sem, ↓reduceIte, Nat.reduceAdd, Nat.reduceEqDiff, Nat.reduceLeDiff, ac_event_Consistent_L0, c1, c2, hr]
          · have hc' := hc
            unfold okC at hc'
            simp only [Bool.and_eq_true, Bool.not_eq_true', decide_eq_false_iff_not] at hc'
            obtain ⟨c1, c2⟩ := hc'
            have c3 : ¬ 126 < (d.getD i 0).toNat := c2
            rw [hc] at hs
            simp (disch := omega) only [go_sem, ↓reduceIte, Nat.reduceAdd, Nat.reduceEqDiff, Nat.reduceLeDiff, ac_event_Consistent_L0, c1, c2, c3]
            refine ⟨hlt, hs, Weak.rd id ?_ ?_ rfl⟩
            all_goals simp (disch := omega) only [go_sem, ↓reduceIte, Nat.reduceEqDiff, id, evT_def]
        · have e : i = d.length := by omega
          subst e
          rw [List.take_length] at hP
          have hr : conE (r, 3, ds, d) = conD 3 ds d := by unfold conE; simp [hp, hP]
          simp (disch := omega) only [go_sem, ↓reduceIte, Nat.reduceAdd, Nat.reduceEqDiff, Nat.reduceLeDiff, reduceCtorEq, ac_event_Consistent_L0, evT_def]
          refine fin _ _ hr (Weak.rd id ?_ ?_ rfl)
          all_goals simp (disch := omega) only [go_sem, ↓reduceIte, Nat.reduceEqDiff, id, evT_def, minI]
  · have hr : conE (r, 4, ds, d) = conD 4 ds d := by unfold conE; simp
    simp (disch := omega) only [go_sem, ↓reduceIte, Nat.reduceAdd, Nat.reduceEqDiff, Nat.reduceLeDiff, reduceCtorEq, ac_event_Consistent, evT_def]
    refine fin _ _ hr (Weak.rd id ?_ ?_ rfl)
    all_goals simp (disch := omega) only [go_sem, ↓reduceIte, Nat.reduceEqDiff, id, evT_def, minI]
  · have hr : conE (r, 5, ds, d) = conD 5 ds d := by unfold conE; simp
    simp (disch := omega) only [go_sem, ↓reduceIte, Nat.reduceAdd, Nat.reduceEqDiff, Nat.reduceLeDiff, reduceCtorEq, ac_event_Consistent, evT_def]
    refine fin _ _ hr (Weak.rd id ?_ ?_ rfl)
    all_goals simp (disch := omega) only [go_sem, ↓reduceIte, Nat.reduceEqDiff, id, evT_def, minI]
end Go.Eng
end
section
set_option maxRecDepth 20000
set_option maxHeartbeats 64000000
namespace Go.Eng
def blL (b x : List UInt8) : List UInt8 := b ++ beI 2 (x.length : Int) 2 ++ x
theorem blL_len {b x : List UInt8} : (blL b x).length = b.length + 2 + x.length := by unfold blL; rw [List.length_append, List.length_append, beI_len]
def ct_blob : Ct where
  α := List UInt8 × List UInt8
  as x := [.t (.sl (x.1.map byteT)), .t (.sl (x.2.map byteT))]
  ins _ := []
  pre x := x.1.length < 100000000 ∧ x.2.length ≤ 65535
  r x := .sl 0 0 (x.1.length + 2 + x.2.length)
  outs x := [.live 1 (((blL x.1 x.2).map byteT).map V.t) true false]
  inj := by
    rintro ⟨a, b⟩ ⟨c, d⟩ h _
    simp only [List.cons.injEq, V.t.injEq, T.sl.injEq, and_true, mapB_inj] at h
    obtain ⟨rfl, rfl⟩ := h
    exact ⟨rfl, rfl⟩
theorem blob_eq {b x : List UInt8} (h : b.length < 100000000 ∧ x.length ≤ 65535) : ct_blob.fs [.t (.sl (b.map byteT)), .t (.sl (x.map byteT))] [] = some (.sl 0 0 (b.length + 2 + x.length), [.live 1 (((blL b x).map byteT).map V.t) true false]) := ct_blob.eq (b, x) h
theorem w_wire_Blob (tab : Tab) (gl : Gl) (n1 : Nat) (h1 : tab.look n1 = some ct_uint.fs) (b x : List UInt8) (hb : b.length < 100000000) (hx : x.length ≤ 65535) :
    (ac_wire_Blob n1).wp tab gl (zipF 0 [.t (.sl (b.map byteT)), .t (.sl (x.map byteT))]) (zipF 0 []) (resF [] [(4, none)] 0 (fun r o => r = .sl 0 0 (b.length + 2 + x.length) ∧ o = [.live 1 (((blL b x).map byteT).map V.t) true false])) := by
  have hu := uint2 (b := b) (n := (x.length : Int)) (by omega)
  have hl : (b ++ beI 2 (x.length : Int) 2).length = b.length + 2 := by rw [List.length_append, beI_len]
  have hbl : blL b x = b ++ beI 2 (x.length : Int) 2 ++ x := rfl
  have hno : ¬ 65535 < (x.length : Int) := by omega
  rw [hbl]
  generalize b ++ beI 2 (x.length : Int) 2 = B at *
  simp (disch := omega) only [go_sem, ↓reduceIte, Nat.reduceAdd, Nat.reduceEqDiff, Nat.reduceLeDiff, Int.reduceLE, reduceCtorEq, ac_wire_Blob, h1, hu, hl, hno, List.take_length]
theorem w_ref3_Blob (tab : Tab) (gl : Gl) (n1 : Nat) (h1 : tab.look n1 = some ct_uint.fs) (b x : List UInt8) (hb : b.length < 100000000) (hx : x.length ≤ 65535) :
    (ac_ref3_Blob n1).wp tab gl (zipF 0 [.t (.sl (b.map byteT)), .t (.sl (x.map byteT))]) (zipF 0 []) (resF [] [(4, none)] 0 (fun r o => r = .sl 0 0 (b.length + 2 + x.length) ∧ o = [.live 1 (((blL b x).map byteT).map V.t) true false])) := by
  have hu := uint2 (b := b) (n := (x.length : Int)) (by omega)
  have hl : (b ++ beI 2 (x.length : Int) 2).length = b.length + 2 := by rw [List.length_append, beI_len]
  have hbl : blL b x = b ++ beI 2 (x.length : Int) 2 ++ x := rfl
  have hno : ¬ 65535 < (x.length : Int) := by omega
  rw [hbl]
  generalize b ++ beI 2 (x.length : Int) 2 = B at *
  simp (disch := omega) only [go_sem, ↓reduceIte, Nat.reduceAdd, Nat.reduceEqDiff, Nat.reduceLeDiff, reduceCtorEq, ac_ref3_Blob, h1, hu, hl, hno, List.take_length]
def wrBad (r k : Int) (n m : Nat) : Prop := r < 0 ∨ 11 < r ∨ k < 1 ∨ 5 < k ∨ n ≠ 2 ∨ 64 < m
instance {r k : Int} {n m : Nat} : Decidable (wrBad r k n m) := by unfold wrBad; infer_instance
def wrE (e : Ev) : Bool := !decide (wrBad e.1 e.2.1 e.2.2.1.length e.2.2.2.length) && (decide ((e.2.2.1.getD 0 []).length ≤ 32) && decide ((e.2.2.1.getD 1 []).length ≤ 32))
def ct_wr : Ct where
  α := Ev
  as x := [.t (evT x)]
  ins _ := []
  pre x := evM x
  r x := .t (.bool (wrE x))
  outs _ := []
  inj := by
    intro a b h _
    simp only [List.cons.injEq, V.t.injEq, and_true] at h
    cases evT_inj h
    exact ⟨rfl, rfl⟩
theorem wr_eq {a b : Int} {c : List (List UInt8)} {d : List UInt8} (h : evM (a, b, c, d)) : ct_wr.fs [.t (.agg [.int .i64 a, .int .i64 b, .sl (c.map bsT), .sl (d.map byteT)])] [] = some (.t (.bool (wrE (a, b, c, d))), []) := ct_wr.eq (a, b, c, d) h
theorem wrE_two {r k : Int} {d0 d1 d : List UInt8} (h : ¬ wrBad r k 2 d.length) : wrE (r, k, [d0, d1], d) = (decide (d0.length ≤ 32) && decide (d1.length ≤ 32)) := by
  unfold wrE
  simp only [List.length_cons, List.length_nil]
  rw [decide_eq_false h]; rfl
theorem wrE_bad {r k : Int} {ds : List (List UInt8)} {d : List UInt8} (h : wrBad r k ds.length d.length) : wrE (r, k, ds, d) = false := by
  unfold wrE
  rw [decide_eq_true h]; rfl
theorem w_event_encodable (tab : Tab) (gl : Gl) (n1 : Nat) (h1 : tab.look n1 = some ct_size.fs) (e : Ev) (hm : evM e) :
    (ac_event_encodable n1).wp tab gl (zipF 0 [.t (evT e)]) (zipF 0 []) (resW [(2, none)] 0 (fun r o => r = .t (.bool (wrE e)) ∧ o = [])) := by
  obtain ⟨r, k, ds, d⟩ := e
  have hl := hm.2
  have hd := hm.1.1
  simp only at hl hd
  by_cases hb : wrBad r k ds.length d.length
  · rw [wrE_bad hb]
    by_cases c1 : r < 0
    · simp (disch := omega) only [go_sem, ↓reduceIte, Nat.reduceAdd, Nat.reduceEqDiff, Nat.reduceLeDiff, ac_event_encodable, evT_def, c1]
    by_cases c2 : 11 < r
    · simp (disch := omega) only [go_sem, ↓reduceIte, Nat.reduceAdd, Nat.reduceEqDiff, Nat.reduceLeDiff, ac_event_encodable, evT_def, c1, c2]
    by_cases c3 : k < 1
    · simp (disch := omega) only [go_sem, ↓reduceIte, Nat.reduceAdd, Nat.reduceEqDiff, Nat.reduceLeDiff, reduceCtorEq, ac_event_encodable, evT_def, c1, c2, c3]
    by_cases c4 : 5 < k
    · simp (disch := omega) only [go_sem, ↓reduceIte, Nat.reduceAdd, Nat.reduceEqDiff, Nat.reduceLeDiff, reduceCtorEq, ac_event_encodable, evT_def, c1, c2, c3, c4]
    by_cases c5 : ds.length = 2
    · have c6 : 64 < d.length := by unfold wrBad at hb; omega
      simp (disch := omega) only [go_sem, ↓reduceIte, Nat.reduceAdd, Nat.reduceEqDiff, Nat.reduceLeDiff, reduceCtorEq, ac_event_encodable, evT_def, c1, c2, c3, c4, c5, c6]
    · have c9 : ((ds.length : Int) != 2) = true := by simpa using (by omega : ¬ (ds.length : Int) = 2)
      simp (disch := omega) only [go_sem, ↓reduceIte, Nat.reduceAdd, Nat.reduceEqDiff, Nat.reduceLeDiff, reduceCtorEq, ac_event_encodable, evT_def, c1, c2, c3, c4, c9]
  · have hb' := hb
    unfold wrBad at hb'
    have c1 : ¬ r < 0 := by omega
    have c2 : ¬ 11 < r := by omega
    have c3 : ¬ k < 1 := by omega
    have c4 : ¬ 5 < k := by omega
    have c6 : ¬ 64 < d.length := by omega
    have c5 : ds.length = 2 := by omega
    obtain ⟨d0, d1, rfl⟩ := len2 c5
    have m0 := hm.1.2 d0 (by simp)
    have m1 := hm.1.2 d1 (by simp)
    rw [wrE_two hb]
    by_cases l0 : d0.length ≤ 32 <;> by_cases l1 : d1.length ≤ 32
    all_goals simp (disch := omega) only [go_sem, ↓reduceIte, Nat.reduceAdd, Nat.reduceEqDiff, Nat.reduceLeDiff, reduceCtorEq, ac_event_encodable, evT_def, c1, c2, c3, c4, c6, List.map_cons, List.map_nil]
    all_goals refine loop_fuel 3 ?_
    all_goals simp (disch := omega) only [go_sem, ↓reduceIte, Nat.reduceAdd, Nat.reduceEqDiff, Nat.reduceLeDiff, Int.reduceLT, Int.reduceLE, Int.reduceAdd, loopN_succ, ac_event_encodable_L0, h1, size_eq1, l0, l1]
theorem w_ref25_Writable (tab : Tab) (gl : Gl) (e : Ev) (hm : evM e) :
    ac_ref25_Writable.wp tab gl (zipF 0 [.t (evT e)]) (zipF 0 []) (resW [(2, none)] 0 (fun r o => r = .t (.bool (wrE e)) ∧ o = [])) := by
  obtain ⟨r, k, ds, d⟩ := e
  have hl := hm.2
  have hd := hm.1.1
  simp only at hl hd
  by_cases hb : wrBad r k ds.length d.length
  · rw [wrE_bad hb]
    by_cases c1 : r < 0
    · simp (disch := omega) only [go_sem, ↓reduceIte, Nat.reduceAdd, Nat.reduceEqDiff, Nat.reduceLeDiff, ac_ref25_Writable, evT_def, c1]
    by_cases c2 : 11 < r
    · simp (disch := omega) only [go_sem, ↓reduceIte, Nat.reduceAdd, Nat.reduceEqDiff, Nat.reduceLeDiff, ac_ref25_Writable, evT_def, c1, c2]
    by_cases c3 : k < 1
    · simp (disch := omega) only [go_sem, ↓reduceIte, Nat.reduceAdd, Nat.reduceEqDiff, Nat.reduceLeDiff, reduceCtorEq, ac_ref25_Writable, evT_def, c1, c2, c3]
    by_cases c4 : 5 < k
    · simp (disch := omega) only [go_sem, ↓reduceIte, Nat.reduceAdd, Nat.reduceEqDiff, Nat.reduceLeDiff, reduceCtorEq, ac_ref25_Writable, evT_def, c1, c2, c3, c4]
    by_cases c6 : 64 < d.length
    · simp (disch := omega) only [go_sem, ↓reduceIte, Nat.reduceAdd, Nat.reduceEqDiff, Nat.reduceLeDiff, reduceCtorEq, ac_ref25_Writable, evT_def, c1, c2, c3, c4, c6]
    · have c5 : ¬ ds.length = 2 := by unfold wrBad at hb; omega
      have c9 : ((ds.length : Int) != 2) = true := by simpa using (by omega : ¬ (ds.length : Int) = 2)
      simp (disch := omega) only [go_sem, ↓reduceIte, Nat.reduceAdd, Nat.reduceEqDiff, Nat.reduceLeDiff, reduceCtorEq, ac_ref25_Writable, evT_def, c1, c2, c3, c4, c6, c9]
  · have hb' := hb
    unfold wrBad at hb'
    have c1 : ¬ r < 0 := by omega
    have c2 : ¬ 11 < r := by omega
    have c3 : ¬ k < 1 := by omega
    have c4 : ¬ 5 < k := by omega
    have c6 : ¬ 64 < d.length := by omega
    have c5 : ds.length = 2 := by omega
    obtain ⟨d0, d1, rfl⟩ := len2 c5
    have m0 := hm.1.2 d0 (by simp)
    have m1 := hm.1.2 d1 (by simp)
    rw [wrE_two hb]
    by_cases l0 : d0.length ≤ 32 <;> by_cases l1 : d1.length ≤ 32
    all_goals simp (disch := omega) only [go_sem, ↓reduceIte, Nat.reduceAdd, Nat.reduceEqDiff, Nat.reduceLeDiff, Int.reduceLE, reduceCtorEq, ac_ref25_Writable, evT_def, c1, c2, c3, c4, c6, l0, l1, List.map_cons, List.map_nil]
def encE (e : Ev) : List UInt8 := blL (blL (blL (beI 1 e.1 1 ++ beI 1 e.2.1 1) (e.2.2.1.getD 0 [])) (e.2.2.1.getD 1 [])) e.2.2.2
def encE' (e : Ev) : List UInt8 := if wrE e then encE e else []
def ct_encE : Ct where
  α := Ev
  as x := [.t (evT x)]
  ins _ := []
  pre x := evM x
  r x := .t (.sl ((encE' x).map byteT))
  outs _ := []
  inj := by
    intro a b h _
    simp only [List.cons.injEq, V.t.injEq, and_true] at h
    cases evT_inj h
    exact ⟨rfl, rfl⟩
theorem encE_eq {a b : Int} {c : List (List UInt8)} {d : List UInt8} (h : evM (a, b, c, d)) : ct_encE.fs [.t (.agg [.int .i64 a, .int .i64 b, .sl (c.map bsT), .sl (d.map byteT)])] [] = some (.t (.sl ((encE' (a, b, c, d)).map byteT)), []) := ct_encE.eq (a, b, c, d) h
def ct_encX : Ct where
  α := Ev
  as x := [.t (evT x)]
  ins _ := []
  pre x := evM x
  r x := if wrE x then .sl 0 0 (encE x).length else .nil
  outs x := if wrE x then [.live 1 (((encE x).map byteT).map V.t) true false] else []
  inj := by
    intro a b h _
    simp only [List.cons.injEq, V.t.injEq, and_true] at h
    cases evT_inj h
    exact ⟨rfl, rfl⟩
theorem uint1 {b : List UInt8} {n : Int} (hb : b.length < 1000000000) : ct_uint.fs [.t (.sl (b.map byteT)), .t (.int .i64 1), .t (.int .i64 n)] [] = some (.sl 0 0 (b.length + 1), [.live 1 (((b ++ beI 1 n 1).map byteT).map V.t) true false]) := ct_uint.eq (b, 1, n) ⟨hb, Nat.le_refl 1, by show 1 ≤ 8; omega⟩
theorem wrE_true {r k : Int} {ds : List (List UInt8)} {d : List UInt8} (h : wrE (r, k, ds, d) = true) : (0 ≤ r ∧ r ≤ 11) ∧ (1 ≤ k ∧ k ≤ 5) ∧ d.length ≤ 64 ∧ ∃ d0 d1, ds = [d0, d1] ∧ d0.length ≤ 32 ∧ d1.length ≤ 32 := by
  by_cases hb : wrBad r k ds.length d.length
  · rw [wrE_bad hb] at h; cases h
  · have hb' := hb
    unfold wrBad at hb'
    obtain ⟨d0, d1, rfl⟩ := len2 (show ds.length = 2 by omega)
    rw [wrE_two hb] at h
    simp only [Bool.and_eq_true, decide_eq_true_eq] at h
    exact ⟨by omega, by omega, by omega, d0, d1, rfl, h.1, h.2⟩
theorem encE_two {r k : Int} {d0 d1 d : List UInt8} : encE (r, k, [d0, d1], d) = blL (blL (blL (beI 1 r 1 ++ beI 1 k 1) d0) d1) d := rfl
theorem w_event_Encode (tab : Tab) (gl : Gl) (n1 n2 n3 : Nat) (h1 : tab.look n1 = some ct_wr.fs) (h2 : tab.look n2 = some ct_uint.fs) (h3 : tab.look n3 = some ct_blob.fs) (e : Ev) (hm : evM e) :
    (ac_event_Encode n1 n2 n3).wp tab gl (zipF 0 [.t (evT e)]) (zipF 0 []) (resW [(2, none)] 0 (fun r o => r = .t (.sl ((encE' e).map byteT)) ∧ o = [])) := by
  obtain ⟨r, k, ds, d⟩ := e
  have hw := wr_eq hm
  unfold encE'
  cases hq : wrE (r, k, ds, d)
  · rw [hq] at hw
    simp (disch := omega) only [go_sem, ↓reduceIte, Nat.reduceAdd, Nat.reduceEqDiff, Nat.reduceLeDiff, ac_event_Encode, evT_def, h1, hw, List.map_nil]
  · rw [hq] at hw
    obtain ⟨_, _, hd, d0, d1, rfl, q0, q1⟩ := wrE_true hq
    simp only [List.map_cons, List.map_nil, bsT_def] at hw
    have u0 : ct_uint.fs [.t (.sl []), .t (.int .i64 1), .t (.int .i64 r)] [] = some (.sl 0 0 1, [.live 1 (((beI 1 r 1).map byteT).map V.t) true false]) := uint1 (b := []) (by decide)
    have u1 := uint1 (b := beI 1 r 1) (n := k) (by rw [beI_len]; decide)
    have z1 : (beI 1 r 1).length = 1 := beI_len
    have t1 : List.take 1 (beI 1 r 1) = beI 1 r 1 := List.take_of_length_le (by omega)
    have zB : (beI 1 r 1 ++ beI 1 k 1).length = 2 := by rw [List.length_append, beI_len, beI_len]
    rw [encE_two]
    generalize hB : beI 1 r 1 ++ beI 1 k 1 = B at *
    generalize beI 1 r 1 = A at *
    have zC : (blL B d0).length = 2 + 2 + d0.length := by rw [blL_len, zB]
    have zD : (blL (blL B d0) d1).length = 2 + 2 + d0.length + 2 + d1.length := by rw [blL_len, zC]
    have b0 := blob_eq (b := B) (x := d0) ⟨by omega, by omega⟩
    have b1 := blob_eq (b := blL B d0) (x := d1) ⟨by omega, by omega⟩
    have b2 := blob_eq (b := blL (blL B d0) d1) (x := d) ⟨by omega, by omega⟩
    have zE : (blL (blL (blL B d0) d1) d).length = (blL (blL B d0) d1).length + 2 + d.length := blL_len
    have tB : List.take 2 B = B := List.take_of_length_le (by omega)
    simp (disch := omega) only [go_sem, ↓reduceIte, Nat.reduceAdd, Nat.reduceEqDiff, Nat.reduceLeDiff, reduceCtorEq, ac_event_Encode, evT_def, h1, hw, h2, u0, z1, t1, u1, hB, List.map_cons, List.map_nil]
    repeat refine And.intro rfl ?_
    refine loop_upto 2 (fun i => [(1, .ref 4096 0 0), (3, .sl 9100 0 (match i with | 0 => B | 1 => blL B d0 | _ => blL (blL B d0) d1).length), (17, .t (.sl [bsT d0, bsT d1])), (18, .t (.int .i64 2)), (19, .t (.int .i64 (i : Nat)))]) (fun i => [(9100, .live 1 (((match i with | 0 => B | 1 => blL B d0 | _ => blL (blL B d0) d1).map byteT).map V.t) true false), (4096, .live 4 [.t (evT (r, k, [d0, d1], d))] true true)]) ?_ (fun i hi => ?_)
    · refine Weak.rd (fun j => if j = 9100 then 20528 else j) ?_ ?_ rfl
      all_goals simp (disch := omega) only [go_sem, ↓reduceIte, Nat.reduceAdd, Nat.reduceEqDiff, Nat.reduceBEq, evT_def, zB, List.map_cons, List.map_nil]
    · rcases (show i = 0 ∨ i = 1 ∨ i = 2 by omega) with rfl | rfl | rfl
      · simp (disch := omega) only [go_sem, ↓reduceIte, Nat.reduceAdd, Nat.reduceEqDiff, Nat.reduceLT, Nat.reduceLeDiff, Int.reduceLT, Int.reduceLE, Int.reduceAdd, ac_event_Encode_L0, h3, b0, zB, tB]
        refine Weak.rd (fun j => if j = 9100 then 36896 else j) ?_ ?_ rfl
        all_goals simp (disch := omega) only [go_sem, ↓reduceIte, Nat.reduceAdd, Nat.reduceEqDiff, Nat.reduceBEq, evT_def, zC, List.map_cons, List.map_nil]
      · have tC : List.take (2 + 2 + d0.length) (blL B d0) = blL B d0 := List.take_of_length_le (by omega)
        rw [zC] at b1
        simp (disch := omega) only [go_sem, ↓reduceIte, Nat.reduceAdd, Nat.reduceEqDiff, Nat.reduceLT, Nat.reduceLeDiff, Int.reduceLT, Int.reduceLE, Int.reduceAdd, ac_event_Encode_L0, h3, b1, zC, tC]
        refine Weak.rd (fun j => if j = 9100 then 36896 else j) ?_ ?_ rfl
        all_goals simp (disch := omega) only [go_sem, ↓reduceIte, Nat.reduceAdd, Nat.reduceEqDiff, Nat.reduceBEq, evT_def, zD, List.map_cons, List.map_nil]
      · have tD : List.take (2 + 2 + d0.length + 2 + d1.length) (blL (blL B d0) d1) = blL (blL B d0) d1 := List.take_of_length_le (by omega)
        rw [zD] at b2 zE
        have tE : List.take (2 + 2 + d0.length + 2 + d1.length + 2 + d.length) (blL (blL (blL B d0) d1) d) = blL (blL (blL B d0) d1) d := List.take_of_length_le (by omega)
        simp (disch := omega) only [go_sem, ↓reduceIte, Nat.reduceAdd, Nat.reduceEqDiff, Nat.reduceLeDiff, Int.reduceLT, reduceCtorEq, ac_event_Encode_L0, evT_def, h3, b2, zD, tD, zE, tE]
theorem byteW {n : Int} (h : 0 ≤ n ∧ n < 256) : T.int .u8 (IntKind.u8.wrap n) = byteT (UInt8.ofNat (m64 n)) := by
  have e : m64 n = n.toNat := by unfold m64; omega
  rw [wrap_u8, e]
  unfold byteT
  rw [UInt8.toNat_ofNat']
  congr 1
  omega
theorem beI_one {n : Int} : beI 1 n 1 = [UInt8.ofNat (m64 n)] := by simp [beI]
theorem w_ref25_EncodeEvent (tab : Tab) (gl : Gl) (n1 n2 : Nat) (h1 : tab.look n1 = some ct_wr.fs) (h3 : tab.look n2 = some ct_blob.fs) (e : Ev) (hm : evM e) :
    (ac_ref25_EncodeEvent n1 n2).wp tab gl (zipF 0 [.t (evT e)]) (zipF 0 []) (resF [] [(2, none)] 0 (fun r o => r = ct_encX.r e ∧ o = ct_encX.outs e)) := by
  obtain ⟨r, k, ds, d⟩ := e
  have hw := wr_eq hm
  have hr : ct_encX.r (r, k, ds, d) = if wrE (r, k, ds, d) then .sl 0 0 (encE (r, k, ds, d)).length else .nil := rfl
  have ho : ct_encX.outs (r, k, ds, d) = if wrE (r, k, ds, d) then [.live 1 (((encE (r, k, ds, d)).map byteT).map V.t) true false] else [] := rfl
  rw [hr, ho]
  cases hq : wrE (r, k, ds, d)
  · rw [hq] at hw
    simp (disch := omega) only [go_sem, ↓reduceIte, Nat.reduceAdd, Nat.reduceEqDiff, Nat.reduceLeDiff, ac_ref25_EncodeEvent, evT_def, h1, hw, List.map_nil]
  · rw [hq] at hw
    obtain ⟨rb, kb, hd, d0, d1, rfl, q0, q1⟩ := wrE_true hq
    simp only [List.map_cons, List.map_nil, bsT_def] at hw
    have w0 := byteW (n := r) (by omega)
    have w1 := byteW (n := k) (by omega)
    rw [encE_two]
    have hB : beI 1 r 1 ++ beI 1 k 1 = [UInt8.ofNat (m64 r), UInt8.ofNat (m64 k)] := by rw [beI_one, beI_one]; rfl
    have b0 : ct_blob.fs [.t (.sl [byteT (UInt8.ofNat (m64 r)), byteT (UInt8.ofNat (m64 k))]), .t (.sl (d0.map byteT))] [] = _ := blob_eq (b := [UInt8.ofNat (m64 r), UInt8.ofNat (m64 k)]) (x := d0) ⟨by show 2 < 100000000; omega, by omega⟩
    rw [hB]
    generalize UInt8.ofNat (m64 r) = R at *
    generalize UInt8.ofNat (m64 k) = K at *
    have zC : (blL [R, K] d0).length = 2 + 2 + d0.length := blL_len
    have zD : (blL (blL [R, K] d0) d1).length = 2 + 2 + d0.length + 2 + d1.length := by rw [blL_len, zC]
    have b1 := blob_eq (b := blL [R, K] d0) (x := d1) ⟨by omega, by omega⟩
    have b2 := blob_eq (b := blL (blL [R, K] d0) d1) (x := d) ⟨by omega, by omega⟩
    have zE : (blL (blL (blL [R, K] d0) d1) d).length = 2 + 2 + d0.length + 2 + d1.length + 2 + d.length := by rw [blL_len, zD]
    have tC : List.take (2 + 2 + d0.length) (blL [R, K] d0) = blL [R, K] d0 := List.take_of_length_le (by omega)
    have tD : List.take (2 + 2 + d0.length + 2 + d1.length) (blL (blL [R, K] d0) d1) = blL (blL [R, K] d0) d1 := List.take_of_length_le (by omega)
    rw [zC] at b1
    rw [zD] at b2
    have l2 : [R, K].length = 2 := rfl
    rw [l2] at b0
    simp (disch := omega) only [go_sem, ↓reduceIte, Nat.reduceAdd, Nat.reduceEqDiff, Nat.reduceLT, Nat.reduceLeDiff, Int.reduceLE, reduceCtorEq, ac_ref25_EncodeEvent, evT_def, h1, hw, w0, w1, h3, b0, zC, tC, b1, zD, tD, b2, zE, List.map_cons, List.map_nil]
end Go.Eng
end
section
set_option maxRecDepth 20000
set_option maxHeartbeats 64000000
namespace Go.Eng
theorem shl8_i64 {a : Nat} {k' : IntKind} (h : a < 1000000) : binI .shl .i64 (a : Int) k' 8 = some (.int .i64 ((256 * a : Nat) : Int)) := by
  change (if (8 : Int) < 0 then none else some (T.int .i64 (IntKind.i64.wrap ((a : Int) * 2 ^ min (8 : Int).toNat 64)))) = _
  rw [if_neg (by omega), show (a : Int) * 2 ^ min (8 : Int).toNat 64 = ((256 * a : Nat) : Int) by
    rw [show min (8 : Int).toNat 64 = 8 from rfl]; omega, wrap_i64_id (by omega)]
theorem or8_i64 {a : Nat} {x : UInt8} (h : a < 1000000) : binI .or .i64 ((256 * a : Nat) : Int) .i64 (x.toNat : Int) = some (.int .i64 ((256 * a + x.toNat : Nat) : Int)) := by
  have hx := x.toNat_lt
  change some (T.int .i64 (IntKind.i64.wrap ((BitVec.ofInt 64 ((256 * a : Nat) : Int) ||| BitVec.ofInt 64 (x.toNat : Int)).toNat : Int))) = _
  have e : (BitVec.ofInt 64 ((256 * a : Nat) : Int) ||| BitVec.ofInt 64 (x.toNat : Int)).toNat = 256 * a + x.toNat := by
    rw [BitVec.toNat_or, BitVec.toNat_ofInt, BitVec.toNat_ofInt, Int.emod_eq_of_lt (by omega) (by omega), Int.emod_eq_of_lt (by omega) (by omega), Int.toNat_natCast, Int.toNat_natCast, or8 (by omega)]
  rw [e, wrap_i64_id (by omega)]
attribute [go_sem ↓] shl8_i64 or8_i64
def rdBlob (s : Rd) (most : Nat) : List UInt8 × Rd :=
  if s.2.2 ≠ 0 then ([], s) else if s.1.length < s.2.1 + 2 then ([], (s.1, s.2.1, 2))
  else if most < beV ((s.1.drop s.2.1).take 2) then ([], (s.1, s.2.1, 4))
  else if s.1.length < s.2.1 + 2 + beV ((s.1.drop s.2.1).take 2) then ([], (s.1, s.2.1, 2))
  else ((s.1.drop (s.2.1 + 2)).take (beV ((s.1.drop s.2.1).take 2)), (s.1, s.2.1 + 2 + beV ((s.1.drop s.2.1).take 2), 0))
def ct_rblob : Ct where
  α := Rd × Nat
  as x := [.ref 0 0 0, .t (.int .i64 x.2)]
  ins x := [rdOb x.1]
  pre x := rdOk x.1 ∧ x.2 ≤ 65535
  r x := .t (.sl ((rdBlob x.1 x.2).1.map byteT))
  outs x := [rdOb (rdBlob x.1 x.2).2]
  inj := by
    rintro ⟨s, a⟩ ⟨t, c⟩ h1 h2
    simp only [List.cons.injEq, V.t.injEq, T.int.injEq, true_and, and_true, Int.natCast_inj] at h1
    simp only [List.cons.injEq, and_true] at h2
    subst h1
    cases rdOb_inj h2
    exact ⟨rfl, rfl⟩
theorem rblob_eq {s : Rd} {k : Nat} (h : rdOk s ∧ k ≤ 65535) : ct_rblob.fs [.ref 0 0 0, .t (.int .i64 k)] [rdO s] = some (.t (.sl ((rdBlob s k).1.map byteT)), [rdO (rdBlob s k).2]) := ct_rblob.eq (s, k) h
theorem take2 {b : List UInt8} {a : Nat} (h : a + 2 ≤ b.length) : List.take 2 (List.drop a b) = [b.getD a 0, b.getD (a + 1) 0] := by
  have e : List.drop a b = b[a]'(by omega) :: b[a + 1]'(by omega) :: List.drop (a + 2) b := by
    rw [List.drop_eq_getElem_cons (by omega), List.drop_eq_getElem_cons (by omega)]
  have g0 : b.getD a 0 = b[a]'(by omega) := by simp [List.getD, show a < b.length by omega]
  have g1 : b.getD (a + 1) 0 = b[a + 1]'(by omega) := by simp [List.getD, show a + 1 < b.length by omega]
  rw [e, g0, g1]; rfl
theorem beV2 {x y : UInt8} : beV [x, y] = 256 * x.toNat + y.toNat := by simp [beV]
theorem rdBlob_le {s : Rd} {k : Nat} : (rdBlob s k).1.length ≤ k := by
  unfold rdBlob
  split
  · simp
  · split
    · simp
    · split
      · simp
      · split
        · simp
        · simp only [List.length_take]; omega
theorem rdBlob_ok {s : Rd} {k : Nat} (h : rdOk s) : rdOk (rdBlob s k).2 := by
  unfold rdBlob
  unfold rdOk at *
  split
  · exact h
  · split
    · exact h
    · split
      · exact h
      · split
        · exact h
        · exact ⟨by simp only; omega, h.2⟩
theorem w_wire_Reader_Blob (tab : Tab) (gl : Gl) (n1 n2 : Nat) (h1 : tab.look n1 = some ct_take.fs) (h2 : tab.look n2 = some ct_fail.fs) (s : Rd) (hs : rdOk s) (k : Nat) (hk : k ≤ 65535) :
    (ac_wire_Reader_Blob n1 n2).wp tab gl (zipF 0 [.ref 0 0 0, .t (.int .i64 k)]) (zipF 0 [rdOb s]) (resW [(4, none)] 1 (fun r o => r = .t (.sl ((rdBlob s k).1.map byteT)) ∧ o = [rdOb (rdBlob s k).2])) := by
  obtain ⟨b, a, e⟩ := s
  have ha : a ≤ b.length ∧ b.length < 1000000000 := hs
  by_cases he : e = 0
  · subst he
    by_cases hl : b.length < a + 2
    · have hr : rdBlob (b, a, 0) k = ([], (b, a, 2)) := by unfold rdBlob; simp [hl]
      rw [hr]
      have ht := take_no (b := b) (a := a) (p := a) (n := 2) (e := 0) ⟨ha.1, ha.2, ha.1, by omega, by omega⟩
      have k2 : ((2 : Nat) : Int) = 2 := rfl
      rw [k2] at ht
      simp (disch := omega) only [go_sem, ↓reduceIte, Nat.reduceAdd, Nat.reduceEqDiff, Nat.reduceSub, Nat.reduceLeDiff, reduceCtorEq, ac_wire_Reader_Blob, rdOb_eq, h1, h2, ht, fail_eq, List.map_nil]
    · have t2 := take2 (b := b) (a := a) (by omega)
      have ht := take_ok (b := b) (a := a) (p := a) (n := 2) (e := 0) ⟨ha.1, ha.2, by omega⟩
      have k2 : ((2 : Nat) : Int) = 2 := rfl
      rw [k2, t2] at ht
      have hb := beV2 (x := b.getD a 0) (y := b.getD (a + 1) 0)
      have hx := (b.getD a 0).toNat_lt
      have hy := (b.getD (a + 1) 0).toNat_lt
      have hr : rdBlob (b, a, 0) k = if k < 256 * (b.getD a 0).toNat + (b.getD (a + 1) 0).toNat then ([], (b, a, 4)) else if b.length < a + 2 + (256 * (b.getD a 0).toNat + (b.getD (a + 1) 0).toNat) then ([], (b, a, 2)) else ((b.drop (a + 2)).take (256 * (b.getD a 0).toNat + (b.getD (a + 1) 0).toNat), (b, a + 2 + (256 * (b.getD a 0).toNat + (b.getD (a + 1) 0).toNat), 0)) := by
        unfold rdBlob
        simp only [t2, hb]
        rw [if_neg (by simp), if_neg hl]
      rw [hr]
      simp only [List.map_cons, List.map_nil] at ht
      by_cases c1 : k < 256 * (b.getD a 0).toNat + (b.getD (a + 1) 0).toNat
      · rw [if_pos c1]
        simp (disch := omega) only [go_sem, ↓reduceIte, Nat.reduceAdd, Nat.reduceEqDiff, Nat.reduceSub, Nat.reduceLeDiff, Int.reduceLE, reduceCtorEq, ac_wire_Reader_Blob, rdOb_eq, h1, h2, ht, fail_eq, c1, List.map_nil]
        rfl
      · rw [if_neg c1]
        have hn : ((b.getD a 0).toNat < 256) ∧ (b.getD (a + 1) 0).toNat < 256 := ⟨hx, hy⟩
        generalize hN : 256 * (b.getD a 0).toNat + (b.getD (a + 1) 0).toNat = N at *
        have hN2 : N ≤ 65535 := by omega
        by_cases c2 : b.length < a + 2 + N
        · rw [if_pos c2]
          have ht2 := take_no (b := b) (a := a) (p := a + 2) (n := N) (e := 0) ⟨ha.1, ha.2, by omega, by omega, c2⟩
          simp (disch := omega) only [go_sem, ↓reduceIte, Nat.reduceAdd, Nat.reduceEqDiff, Nat.reduceSub, Nat.reduceLeDiff, Int.reduceLE, reduceCtorEq, ac_wire_Reader_Blob, rdOb_eq, h1, h2, ht, hN, ht2, fail_eq, c1, List.map_nil]
          rfl
        · rw [if_neg c2]
          have ht2 := take_ok (b := b) (a := a) (p := a + 2) (n := N) (e := 0) ⟨ha.1, ha.2, by omega⟩
          have hc : (List.take N (List.drop (a + 2) b)).length = N := by simp only [List.length_take, List.length_drop]; omega
          have tt : List.take N (List.take N (List.drop (a + 2) b)) = List.take N (List.drop (a + 2) b) := List.take_of_length_le (by omega)
          simp (disch := omega) only [go_sem, ↓reduceIte, Nat.reduceAdd, Nat.reduceEqDiff, Nat.reduceSub, Nat.reduceLeDiff, Nat.reduceBEq, Int.reduceLE, reduceCtorEq, ac_wire_Reader_Blob, rdOb_eq, h1, h2, ht, hN, ht2, fail_eq, c1, hc, tt]
          exact ⟨rfl, by omega⟩
  · have hr : rdBlob (b, a, e) k = ([], (b, a, e)) := by unfold rdBlob; rw [if_pos he]
    rw [hr]
    simp (disch := omega) only [go_sem, ↓reduceIte, Nat.reduceAdd, Nat.reduceLeDiff, reduceCtorEq, ac_wire_Reader_Blob, rdOb_eq, ne_eq, he, List.map_nil]
theorem w_ref3_Reader_Blob (tab : Tab) (gl : Gl) (n1 : Nat) (h1 : tab.look n1 = some ct_need.fs) (s : Rd) (hs : rdOk s) (k : Nat) (hk : k ≤ 65535) :
    (ac_ref3_Reader_Blob n1).wp tab gl (zipF 0 [.ref 0 0 0, .t (.int .i64 k)]) (zipF 0 [rdOb s]) (resW [(4, none)] 1 (fun r o => r = .t (.sl ((rdBlob s k).1.map byteT)) ∧ o = [rdOb (rdBlob s k).2])) := by
  obtain ⟨b, a, e⟩ := s
  have ha : a ≤ b.length ∧ b.length < 1000000000 := hs
  by_cases he : e = 0
  · subst he
    by_cases hl : b.length < a + 2
    · have hr : rdBlob (b, a, 0) k = ([], (b, a, 2)) := by unfold rdBlob; simp [hl]
      rw [hr]
      have ht := need_no (b := b) (a := a) (k := 2) ⟨ha.1, ha.2, by omega, by omega⟩
      have k2 : ((2 : Nat) : Int) = 2 := rfl
      rw [k2] at ht
      simp (disch := omega) only [go_sem, ↓reduceIte, Nat.reduceAdd, Nat.reduceEqDiff, Nat.reduceSub, Nat.reduceLeDiff, reduceCtorEq, ac_ref3_Reader_Blob, rdOb_eq, h1, ht, List.map_nil]
    · have t2 := take2 (b := b) (a := a) (by omega)
      have ht := need_ok (b := b) (a := a) (k := 2) ⟨ha.1, ha.2, by omega⟩
      have k2 : ((2 : Nat) : Int) = 2 := rfl
      rw [k2] at ht
      have hb := beV2 (x := b.getD a 0) (y := b.getD (a + 1) 0)
      have hx := (b.getD a 0).toNat_lt
      have hy := (b.getD (a + 1) 0).toNat_lt
      have hr : rdBlob (b, a, 0) k = if k < 256 * (b.getD a 0).toNat + (b.getD (a + 1) 0).toNat then ([], (b, a, 4)) else if b.length < a + 2 + (256 * (b.getD a 0).toNat + (b.getD (a + 1) 0).toNat) then ([], (b, a, 2)) else ((b.drop (a + 2)).take (256 * (b.getD a 0).toNat + (b.getD (a + 1) 0).toNat), (b, a + 2 + (256 * (b.getD a 0).toNat + (b.getD (a + 1) 0).toNat), 0)) := by
        unfold rdBlob
        simp only [t2, hb]
        rw [if_neg (by simp), if_neg hl]
      rw [hr]
      have hn : ((b.getD a 0).toNat < 256) ∧ (b.getD (a + 1) 0).toNat < 256 := ⟨hx, hy⟩
      generalize hN : 256 * (b.getD a 0).toNat + (b.getD (a + 1) 0).toNat = N at *
      have hN2 : N ≤ 65535 := by omega
      by_cases c1 : k < N
      · rw [if_pos c1]
        simp (disch := omega) only [go_sem, ↓reduceIte, Nat.reduceAdd, Nat.reduceEqDiff, Nat.reduceSub, Nat.reduceLeDiff, reduceCtorEq, ac_ref3_Reader_Blob, rdOb_eq, h1, ht, hN, c1, List.map_nil]
        rfl
      · rw [if_neg c1]
        by_cases c2 : b.length < a + 2 + N
        · rw [if_pos c2]
          have ht2 := need_no (b := b) (a := a) (k := 2 + N) ⟨ha.1, ha.2, by omega, by omega⟩
          simp (disch := omega) only [go_sem, ↓reduceIte, Nat.reduceAdd, Nat.reduceEqDiff, Nat.reduceSub, Nat.reduceLeDiff, reduceCtorEq, ac_ref3_Reader_Blob, rdOb_eq, h1, ht, hN, ht2, c1, List.map_nil]
          rfl
        · rw [if_neg c2]
          have ht2 := need_ok (b := b) (a := a) (k := 2 + N) ⟨ha.1, ha.2, by omega⟩
          have hc : (List.take N (List.drop (a + 2) b)).length = N := by simp only [List.length_take, List.length_drop]; omega
          have tt : List.take N (List.take N (List.drop (a + 2) b)) = List.take N (List.drop (a + 2) b) := List.take_of_length_le (by omega)
          have e1 : a + (2 + N) - N = a + 2 := by omega
          have e2 : a + (2 + N) - (a + 2) = N := by omega
          have e3 : a + 2 + N = a + (2 + N) := by omega
          rw [e3]
          simp (disch := omega) only [go_sem, ↓reduceIte, Nat.reduceAdd, Nat.reduceEqDiff, Nat.reduceSub, Nat.reduceLeDiff, Nat.reduceBEq, reduceCtorEq, ac_ref3_Reader_Blob, rdOb_eq, h1, ht, hN, ht2, c1, e1, e2, hc, tt]
          exact ⟨rfl, rfl⟩
  · have hr : rdBlob (b, a, e) k = ([], (b, a, e)) := by unfold rdBlob; rw [if_pos he]
    rw [hr]
    simp (disch := omega) only [go_sem, ↓reduceIte, Nat.reduceAdd, Nat.reduceEqDiff, Nat.reduceLeDiff, reduceCtorEq, ac_ref3_Reader_Blob, rdOb_eq, ne_eq, he, List.map_nil]
end Go.Eng
end
section
set_option maxRecDepth 20000
set_option maxHeartbeats 64000000
namespace Go.Eng
def rdEv (s : Rd) : Ev × Rd :=
  let u := rdUint s 1
  let v := rdUint u.2 1
  let x := rdBlob v.2 32
  let y := rdBlob x.2 32
  let z := rdBlob y.2 64
  ((u.1, v.1, [x.1, y.1], z.1), z.2)
def dcEv (b : List UInt8) : Ev × Int := if rdEnd (rdEv (b, 0, 0)).2 = 0 ∧ wrE (rdEv (b, 0, 0)).1 = true then ((rdEv (b, 0, 0)).1, 0) else ((0, 0, [], []), 30)
def ct_decE : Ct where
  α := List UInt8
  as x := [.t (.sl (x.map byteT))]
  ins _ := []
  pre x := x.length < 1000000000
  r x := .tup [.t (evT (dcEv x).1), .t (.int .i64 (dcEv x).2)]
  outs _ := []
  inj := by
    intro a b h _
    simp only [List.cons.injEq, V.t.injEq, T.sl.injEq, and_true, mapB_inj] at h
    subst h; exact ⟨rfl, rfl⟩
theorem w_event_Decode (tab : Tab) (gl : Gl) (n1 n2 n3 n4 n5 n6 : Nat) (h1 : tab.look n1 = some ct_rnew.fs) (h2 : tab.look n2 = some ct_rint.fs) (h3 : tab.look n3 = some ct_size.fs) (h4 : tab.look n4 = some ct_rblob.fs) (h5 : tab.look n5 = some ct_rend.fs) (h6 : tab.look n6 = some ct_wr.fs) (b : List UInt8) (hb : b.length < 1000000000) :
    (ac_event_Decode n1 n2 n3 n4 n5 n6).wp tab gl (zipF 0 [.t (.sl (b.map byteT))]) (zipF 0 []) (resW [(2, some (4, true)), (3, none)] 0 (fun r o => r = .tup [.t (evT (dcEv b).1), .t (.int .i64 (dcEv b).2)] ∧ o = [])) := by
  have ok0 : rdOk (b, 0, 0) := ⟨Nat.zero_le _, hb⟩
  have hN := rnew_eq hb
  have hD : dcEv b = dcEv b := rfl
  conv at hD => rhs; unfold dcEv rdEv
  obtain ⟨⟨r, b1, a1, e1⟩, hU1⟩ : ∃ x, rdUint (b, 0, 0) 1 = x := ⟨_, rfl⟩
  have hI1 := rint_eq (k := 1) ⟨ok0, by omega, by omega⟩
  have ok1 := rdUint_ok (k := 1) ok0
  rw [hU1] at hI1 ok1
  obtain ⟨⟨k, b2, a2, e2⟩, hU2⟩ : ∃ x, rdUint (b1, a1, e1) 1 = x := ⟨_, rfl⟩
  have hI2 := rint_eq (k := 1) ⟨ok1, by omega, by omega⟩
  have ok2 := rdUint_ok (k := 1) ok1
  simp only at hI2 ok2
  rw [hU2] at hI2 ok2
  obtain ⟨⟨d0, b3, a3, e3⟩, hU3⟩ : ∃ x, rdBlob (b2, a2, e2) 32 = x := ⟨_, rfl⟩
  have hI3 := rblob_eq (k := 32) ⟨ok2, by omega⟩
  have ok3 := rdBlob_ok (k := 32) ok2
  have l0 := rdBlob_le (s := (b2, a2, e2)) (k := 32)
  simp only at hI3 ok3
  rw [hU3] at hI3 ok3 l0
  obtain ⟨⟨d1, b4, a4, e4⟩, hU4⟩ : ∃ x, rdBlob (b3, a3, e3) 32 = x := ⟨_, rfl⟩
  have hI4 := rblob_eq (k := 32) ⟨ok3, by omega⟩
  have ok4 := rdBlob_ok (k := 32) ok3
  have l1 := rdBlob_le (s := (b3, a3, e3)) (k := 32)
  simp only at hI4 ok4
  rw [hU4] at hI4 ok4 l1
  obtain ⟨⟨d, b5, a5, e5⟩, hU5⟩ : ∃ x, rdBlob (b4, a4, e4) 64 = x := ⟨_, rfl⟩
  have hI5 := rblob_eq (k := 64) ⟨ok4, by omega⟩
  have ok5 := rdBlob_ok (k := 64) ok4
  have l2 := rdBlob_le (s := (b4, a4, e4)) (k := 64)
  simp only at hI5 ok5
  rw [hU5] at hI5 ok5 l2
  have hend := rend_eq ok5
  simp only [hU1, hU2, hU3, hU4, hU5] at hD
  simp only at l0 l1 l2
  have hm : evM (r, k, [d0, d1], d) := ⟨⟨by simp, fun x hx => by simp at hx; rcases hx with rfl | rfl <;> omega⟩, by simp only; omega⟩
  have hw := wr_eq hm
  simp only [List.map_cons, List.map_nil, bsT_def] at hw
  have k32 : ((32 : Nat) : Int) = 32 := rfl
  have k64 : ((64 : Nat) : Int) = 64 := rfl
  simp only [rdO, Int.natCast_zero, Int.natCast_one, k32, k64] at hN hI1 hI2 hI3 hI4 hI5 hend
  simp (disch := omega) only [go_sem, ↓reduceIte, Nat.reduceAdd, Nat.reduceEqDiff, Nat.reduceSub, Nat.reduceLeDiff, reduceCtorEq, ac_event_Decode, h1, hN, h2, hI1, hI2]
  refine loop_upto 2 (fun i => [(2, .ref 4096 0 0), (4, .ref 8208 0 0), (5, .ref 12288 0 0), (14, .t (.int .i64 (i : Nat)))]) (fun i => match i with
    | 0 => [(12288, .live 4 [.agg [.t (.int .i64 r), .t (.int .i64 k), .nil, .nil]] true true), (8208, rdO (b2, a2, e2)), (4096, .live 4 [.agg [.t (.int .i64 0), .t (.int .i64 0), .nil, .nil]] true true)]
    | 1 => [(12288, .live 4 [.agg [.t (.int .i64 r), .t (.int .i64 k), .sl 9100 0 1, .nil]] true true), (9100, .live 1 [.t (.sl (d0.map byteT))] true false), (8208, rdO (b3, a3, e3)), (4096, .live 4 [.agg [.t (.int .i64 0), .t (.int .i64 0), .nil, .nil]] true true)]
    | _ => [(12288, .live 4 [.agg [.t (.int .i64 r), .t (.int .i64 k), .sl 9100 0 2, .nil]] true true), (9100, .live 1 [.t (.sl (d0.map byteT)), .t (.sl (d1.map byteT))] true false), (8208, rdO (b4, a4, e4)), (4096, .live 4 [.agg [.t (.int .i64 0), .t (.int .i64 0), .nil, .nil]] true true)]) ?_ (fun i hi => ?_)
  · refine Weak.rd id ?_ ?_ rfl
    all_goals simp (disch := omega) only [go_sem, ↓reduceIte, Nat.reduceEqDiff, Nat.reduceBEq, id, rdO]
  · rcases (show i = 0 ∨ i = 1 ∨ i = 2 by omega) with rfl | rfl | rfl
    · simp (disch := omega) only [go_sem, ↓reduceIte, Nat.reduceAdd, Nat.reduceEqDiff, Nat.reduceSub, Nat.reduceLT, Nat.reduceLeDiff, Int.reduceLT, Int.reduceAdd, reduceCtorEq, ac_event_Decode_L0, rdO, h3, size_eq1, h4, hI3]
      refine ⟨rfl, Weak.rd (fun j => if j = 9100 then 32864 else j) ?_ ?_ rfl⟩
      all_goals simp (disch := omega) only [go_sem, ↓reduceIte, Nat.reduceAdd, Nat.reduceEqDiff, Nat.reduceBEq, rdO]
    · simp (disch := omega) only [go_sem, ↓reduceIte, Nat.reduceAdd, Nat.reduceEqDiff, Nat.reduceSub, Nat.reduceMul, Nat.reduceLT, Nat.reduceLeDiff, Int.reduceLT, Int.reduceAdd, reduceCtorEq, ac_event_Decode_L0, rdO, h3, size_eq1, h4, hI4]
      refine ⟨rfl, Weak.rd (fun j => if j = 9100 then 32864 else j) ?_ ?_ rfl⟩
      all_goals simp (disch := omega) only [go_sem, ↓reduceIte, Nat.reduceAdd, Nat.reduceEqDiff, Nat.reduceBEq, rdO]
    · by_cases hz : rdEnd (b5, a5, e5) = 0
      · rw [hz] at hend
        cases hq : wrE (r, k, [d0, d1], d)
        · rw [hq] at hw
          rw [if_neg (by simp [hq])] at hD
          rw [hD]
          simp (disch := omega) only [go_sem, ↓reduceIte, Nat.reduceAdd, Nat.reduceEqDiff, Nat.reduceSub, Nat.reduceLeDiff, Int.reduceLT, reduceCtorEq, ac_event_Decode_L0, rdO, h4, hI5, h5, hend, h6, hw, evT_def, List.map_nil]
          all_goals rfl
        · rw [hq] at hw
          rw [if_pos ⟨hz, hq⟩] at hD
          rw [hD]
          simp (disch := omega) only [go_sem, ↓reduceIte, Nat.reduceAdd, Nat.reduceEqDiff, Nat.reduceSub, Nat.reduceLeDiff, Int.reduceLT, reduceCtorEq, ac_event_Decode_L0, rdO, h4, hI5, h5, hend, h6, hw, evT_def, List.map_cons, List.map_nil]
          all_goals rfl
      · have hz2 : (rdEnd (b5, a5, e5) == 0) = false := by simpa using hz
        rw [if_neg (by simp [hz])] at hD
        rw [hD]
        simp (disch := omega) only [go_sem, ↓reduceIte, Nat.reduceAdd, Nat.reduceEqDiff, Nat.reduceSub, Nat.reduceLeDiff, Int.reduceLT, reduceCtorEq, ac_event_Decode_L0, rdO, h4, hI5, h5, hend, hz2, evT_def, List.map_nil]
        all_goals rfl
theorem w_ref25_DecodeEvent (tab : Tab) (gl : Gl) (n1 n2 n4 n5 n6 : Nat) (h1 : tab.look n1 = some ct_rnew.fs) (h2 : tab.look n2 = some ct_rint.fs) (h4 : tab.look n4 = some ct_rblob.fs) (h5 : tab.look n5 = some ct_rend.fs) (h6 : tab.look n6 = some ct_wr.fs) (b : List UInt8) (hb : b.length < 1000000000) :
    (ac_ref25_DecodeEvent n1 n2 n4 n5 n6).wp tab gl (zipF 0 [.t (.sl (b.map byteT))]) (zipF 0 []) (resW [(2, some (4, true)), (3, none)] 0 (fun r o => r = .tup [.t (evT (dcEv b).1), .t (.int .i64 (dcEv b).2)] ∧ o = [])) := by
  have ok0 : rdOk (b, 0, 0) := ⟨Nat.zero_le _, hb⟩
  have hN := rnew_eq hb
  have hD : dcEv b = dcEv b := rfl
  conv at hD => rhs; unfold dcEv rdEv
  obtain ⟨⟨r, b1, a1, e1⟩, hU1⟩ : ∃ x, rdUint (b, 0, 0) 1 = x := ⟨_, rfl⟩
  have hI1 := rint_eq (k := 1) ⟨ok0, by omega, by omega⟩
  have ok1 := rdUint_ok (k := 1) ok0
  rw [hU1] at hI1 ok1
  obtain ⟨⟨k, b2, a2, e2⟩, hU2⟩ : ∃ x, rdUint (b1, a1, e1) 1 = x := ⟨_, rfl⟩
  have hI2 := rint_eq (k := 1) ⟨ok1, by omega, by omega⟩
  have ok2 := rdUint_ok (k := 1) ok1
  simp only at hI2 ok2
  rw [hU2] at hI2 ok2
  obtain ⟨⟨d0, b3, a3, e3⟩, hU3⟩ : ∃ x, rdBlob (b2, a2, e2) 32 = x := ⟨_, rfl⟩
  have hI3 := rblob_eq (k := 32) ⟨ok2, by omega⟩
  have ok3 := rdBlob_ok (k := 32) ok2
  have l0 := rdBlob_le (s := (b2, a2, e2)) (k := 32)
  simp only at hI3 ok3
  rw [hU3] at hI3 ok3 l0
  obtain ⟨⟨d1, b4, a4, e4⟩, hU4⟩ : ∃ x, rdBlob (b3, a3, e3) 32 = x := ⟨_, rfl⟩
  have hI4 := rblob_eq (k := 32) ⟨ok3, by omega⟩
  have ok4 := rdBlob_ok (k := 32) ok3
  have l1 := rdBlob_le (s := (b3, a3, e3)) (k := 32)
  simp only at hI4 ok4
  rw [hU4] at hI4 ok4 l1
  obtain ⟨⟨d, b5, a5, e5⟩, hU5⟩ : ∃ x, rdBlob (b4, a4, e4) 64 = x := ⟨_, rfl⟩
  have hI5 := rblob_eq (k := 64) ⟨ok4, by omega⟩
  have ok5 := rdBlob_ok (k := 64) ok4
  have l2 := rdBlob_le (s := (b4, a4, e4)) (k := 64)
  simp only at hI5 ok5
  rw [hU5] at hI5 ok5 l2
  have hend := rend_eq ok5
  simp only [hU1, hU2, hU3, hU4, hU5] at hD
  simp only at l0 l1 l2
  have hm : evM (r, k, [d0, d1], d) := ⟨⟨by simp, fun x hx => by simp at hx; rcases hx with rfl | rfl <;> omega⟩, by simp only; omega⟩
  have hw := wr_eq hm
  simp only [List.map_cons, List.map_nil, bsT_def] at hw
  have k32 : ((32 : Nat) : Int) = 32 := rfl
  have k64 : ((64 : Nat) : Int) = 64 := rfl
  simp only [rdO, Int.natCast_zero, Int.natCast_one, k32, k64] at hN hI1 hI2 hI3 hI4 hI5 hend
  by_cases hz : rdEnd (b5, a5, e5) = 0
  · rw [hz] at hend
    cases hq : wrE (r, k, [d0, d1], d)
    · rw [hq] at hw
      rw [if_neg (by simp [hq])] at hD
      rw [hD]
      simp (disch := omega) only [go_sem, ↓reduceIte, Nat.reduceAdd, Nat.reduceEqDiff, Nat.reduceSub, Nat.reduceLT, Nat.reduceLeDiff, reduceCtorEq, ac_ref25_DecodeEvent, h1, hN, h2, hI1, hI2, hI3, hI4, h4, hI5, h5, hend, h6, hw, evT_def, List.map_nil]
      all_goals rfl
    · rw [hq] at hw
      rw [if_pos ⟨hz, hq⟩] at hD
      rw [hD]
      simp (disch := omega) only [go_sem, ↓reduceIte, Nat.reduceAdd, Nat.reduceEqDiff, Nat.reduceSub, Nat.reduceLT, Nat.reduceLeDiff, reduceCtorEq, ac_ref25_DecodeEvent, h1, hN, h2, hI1, hI2, hI3, hI4, h4, hI5, h5, hend, h6, hw, evT_def, List.map_cons, List.map_nil]
      all_goals rfl
  · have hz2 : (rdEnd (b5, a5, e5) == 0) = false := by simpa using hz
    rw [if_neg (by simp [hz])] at hD
    rw [hD]
    simp (disch := omega) only [go_sem, ↓reduceIte, Nat.reduceAdd, Nat.reduceEqDiff, Nat.reduceSub, Nat.reduceLT, Nat.reduceLeDiff, reduceCtorEq, ac_ref25_DecodeEvent, h1, hN, h2, hI1, hI2, hI3, hI4, h4, hI5, h5, hend, hz2, evT_def, List.map_nil]
    all_goals rfl
end Go.Eng
end
section
set_option maxRecDepth 20000
set_option maxHeartbeats 64000000
namespace Go.Eng
abbrev Cd := List UInt8 × Nat
def cdOb (c : Cd) : Ob := .live 2 [.t (.agg [.sl (c.1.map byteT), .int .i64 (c.2 : Int)])] true true
abbrev cdO (c : Cd) : Ob := .live 2 [.t (.agg [.sl (c.1.map byteT), .int .i64 (c.2 : Int)])] true true
theorem cdOb_eq {b : List UInt8} {a : Nat} : cdOb (b, a) = .live 2 [.t (.agg [.sl (b.map byteT), .int .i64 (a : Int)])] true true := rfl
theorem cdOb_inj {s t : Cd} (h : cdOb s = cdOb t) : s = t := by
  obtain ⟨b, a⟩ := s
  obtain ⟨b', a'⟩ := t
  simp only [cdOb_eq, Ob.live.injEq, List.cons.injEq, V.t.injEq, T.agg.injEq, T.sl.injEq, T.int.injEq, mapB_inj, Int.natCast_inj] at h
  simp only [Prod.mk.injEq]
  exact ⟨h.2.1.1.1, h.2.1.1.2.1.2⟩
def cdOk (c : Cd) : Prop := c.2 ≤ c.1.length ∧ c.1.length < 1000000000
def nx (c : Cd) (n : Nat) : Nat × Cd := if c.1.length ≤ c.2 then (0, c) else ((c.1.getD c.2 0).toNat % n, (c.1, c.2 + 1))
theorem nx_ok {c : Cd} {n : Nat} (h : cdOk c) : cdOk (nx c n).2 := by
  unfold nx cdOk at *
  split
  · exact h
  · exact ⟨by simp only; omega, h.2⟩
theorem nx_lt {c : Cd} {n : Nat} (h : 1 ≤ n) : (nx c n).1 < n := by
  unfold nx
  split
  · exact h
  · exact Nat.mod_lt _ (by omega)
def ct_next : Ct where
  α := Cd × Nat
  as x := [.ref 0 0 0, .t (.int .i64 x.2)]
  ins x := [cdOb x.1]
  pre x := cdOk x.1 ∧ 1 ≤ x.2 ∧ x.2 ≤ 1000000000
  r x := .t (.int .i64 (nx x.1 x.2).1)
  outs x := [cdOb (nx x.1 x.2).2]
  inj := by
    rintro ⟨s, a⟩ ⟨t, c⟩ h1 h2
    simp only [List.cons.injEq, V.t.injEq, T.int.injEq, true_and, and_true, Int.natCast_inj] at h1
    simp only [List.cons.injEq, and_true] at h2
    subst h1
    cases cdOb_inj h2
    exact ⟨rfl, rfl⟩
theorem next_eq {c : Cd} {n : Nat} (h : cdOk c ∧ 1 ≤ n ∧ n ≤ 1000000000) : ct_next.fs [.ref 0 0 0, .t (.int .i64 n)] [cdO c] = some (.t (.int .i64 (nx c n).1), [cdO (nx c n).2]) := ct_next.eq (c, n) h
theorem w_draw_Next (tab : Tab) (gl : Gl) (c : Cd) (n : Nat) (hc : cdOk c) (h1 : 1 ≤ n) (h2 : n ≤ 1000000000) :
    ac_draw_Codes_Next.wp tab gl (zipF 0 [.ref 0 0 0, .t (.int .i64 n)]) (zipF 0 [cdOb c]) (resW [(4, none)] 1 (fun r o => r = .t (.int .i64 (nx c n).1) ∧ o = [cdOb (nx c n).2])) := by
  obtain ⟨b, a⟩ := c
  obtain ⟨q1, q2⟩ := hc
  simp only at q1 q2
  by_cases h : b.length ≤ a
  · have e : nx (b, a) n = (0, (b, a)) := if_pos h
    rw [e]
    simp (disch := omega) only [go_sem, ↓reduceIte, Nat.reduceAdd, Nat.reduceEqDiff, Nat.reduceLeDiff, reduceCtorEq, ac_draw_Codes_Next, cdOb_eq, h]
    rfl
  · have e : nx (b, a) n = ((b.getD a 0).toNat % n, (b, a + 1)) := if_neg h
    rw [e]
    simp (disch := omega) only [go_sem, ↓reduceIte, Nat.reduceAdd, Nat.reduceEqDiff, Nat.reduceLeDiff, reduceCtorEq, ac_draw_Codes_Next, cdOb_eq, h]
    exact ⟨rfl, rfl, by rw [Int.tmod_eq_emod_of_nonneg (Int.natCast_nonneg _)]; norm_cast⟩
def ct_dnew : Ct where
  α := List UInt8 × Nat
  as x := [.t (.sl (x.1.map byteT)), .t (.int .i64 x.2)]
  ins _ := []
  pre x := x.1.length ≤ 9223372036854775807 ∧ x.2 ≤ 1000000
  r _ := .ref 0 0 0
  outs x := [cdOb (x.1.take x.2, 0)]
  inj := by
    rintro ⟨a, b⟩ ⟨c, d⟩ h _
    simp only [List.cons.injEq, V.t.injEq, T.sl.injEq, T.int.injEq, true_and, and_true, mapB_inj, Int.natCast_inj] at h
    obtain ⟨rfl, rfl⟩ := h
    exact ⟨rfl, rfl⟩
theorem dnew_eq {b : List UInt8} {n : Nat} (h : b.length ≤ 9223372036854775807 ∧ n ≤ 1000000) : ct_dnew.fs [.t (.sl (b.map byteT)), .t (.int .i64 n)] [] = some (.ref 0 0 0, [cdO (b.take n, 0)]) := ct_dnew.eq (b, n) h
theorem w_draw_New (tab : Tab) (gl : Gl) (b : List UInt8) (n : Nat) (h1 : b.length ≤ 9223372036854775807) (h2 : n ≤ 1000000) :
    ac_draw_New.wp tab gl (zipF 0 [.t (.sl (b.map byteT)), .t (.int .i64 n)]) (zipF 0 []) (resF [] [(4, none)] 0 (fun r o => r = .ref 0 0 0 ∧ o = [cdOb (b.take n, 0)])) := by
  by_cases h : n < b.length
  · simp (disch := omega) only [go_sem, ↓reduceIte, Nat.reduceAdd, Nat.reduceEqDiff, Nat.reduceLeDiff, Int.reduceLE, reduceCtorEq, ac_draw_New, cdOb_eq, h]
  · have e : b.take n = b := List.take_of_length_le (by omega)
    simp (disch := omega) only [go_sem, ↓reduceIte, Nat.reduceAdd, Nat.reduceEqDiff, Nat.reduceLeDiff, reduceCtorEq, ac_draw_New, cdOb_eq, h, e]
def ct_cut : Ct where
  α := List UInt8 × Nat
  as x := [.t (.sl (x.1.map byteT)), .t (.int .i64 x.2)]
  ins _ := []
  pre x := x.1.length ≤ 9223372036854775807 ∧ x.2 ≤ 1000000
  r x := .t (.sl ((x.1.take x.2).map byteT))
  outs _ := []
  inj := by
    rintro ⟨a, b⟩ ⟨c, d⟩ h _
    simp only [List.cons.injEq, V.t.injEq, T.sl.injEq, T.int.injEq, true_and, and_true, mapB_inj, Int.natCast_inj] at h
    obtain ⟨rfl, rfl⟩ := h
    exact ⟨rfl, rfl⟩
theorem cut_eq {b : List UInt8} {n : Nat} (h : b.length ≤ 9223372036854775807 ∧ n ≤ 1000000) : ct_cut.fs [.t (.sl (b.map byteT)), .t (.int .i64 n)] [] = some (.t (.sl ((b.take n).map byteT)), []) := ct_cut.eq (b, n) h
theorem w_draw_Cut (tab : Tab) (gl : Gl) (b : List UInt8) (n : Nat) (h1 : b.length ≤ 9223372036854775807) (h2 : n ≤ 1000000) :
    ac_draw_Cut.wp tab gl (zipF 0 [.t (.sl (b.map byteT)), .t (.int .i64 n)]) (zipF 0 []) (resW [(4, none)] 0 (fun r o => r = .t (.sl ((b.take n).map byteT)) ∧ o = [])) := by
  by_cases h : n < b.length
  · simp (disch := omega) only [go_sem, ↓reduceIte, Nat.reduceAdd, Nat.reduceEqDiff, Int.reduceLE, reduceCtorEq, ac_draw_Cut, h]
  · have e : b.take n = b := List.take_of_length_le (by omega)
    simp (disch := omega) only [go_sem, ↓reduceIte, Nat.reduceAdd, Nat.reduceEqDiff, reduceCtorEq, ac_draw_Cut, h, e]
end Go.Eng
end
section
namespace Go.Eng
def ac_law26_awake (n_event_Make n_event_Encode n_event_Decode n_ref25_SameEvent n_event_Check n_event_Consistent : Nat) : AC :=
 (.seq
 (rG 4096 [
 mC 0 (.t (.bool false))])
 (.seq
 (rG 8192 [
 oO 5 (.bslice 1 4 (.t (byteT 0)) [0, 1, 2, 3]) [.cst (.t (byteT 0)), .cst (.t (byteT 0)), .cst (.t (byteT 0)), .cst (.t (byteT 0))],
 cL 6 n_event_Make true [.cst (.t (.int .i64 4)), .cst (.t (.int .i64 2)), .cst (.t (.int .i64 2)), .tmp 5],
 oO 1 (.new 4 [(.agg [(.t (.int .i64 0)), (.t (.int .i64 0)), .nil, .nil])]) [],
 oS 4 1 6])
 (.seq
 (rG 12288 [
 oO 7 (.load 4 true) [.tmp 1],
 cL 8 n_event_Encode true [.tmp 7],
 mv 2 8])
 (.seq
 (rG 16384 [
 mv 10 2,
 cL 11 n_event_Decode true [.tmp 10],
 mv 9 11,
 oO 12 (.extract 0) [.tmp 9],
 oO 13 (.extract 1) [.tmp 9],
 oO 3 (.new 4 [(.agg [(.t (.int .i64 0)), (.t (.int .i64 0)), .nil, .nil])]) [],
 oS 4 3 12,
 mv 4 13])
 (.seq
 (rG 20480 [
 mv 14 2,
 oO 15 .len [.tmp 14],
 bN 16 .eql 15 44,
 mv 17 16,
 mG 18 4 17,
 oG 19 17 (.bin .eql) [.tmp 18, .cst (.t (.int .i64 0))],
 oO 20 .pick [.tmp 17, .tmp 19, .cst (.t (.bool false))],
 mv 21 20,
 oG 22 21 (.load 4 true) [.tmp 1],
 oG 23 21 (.load 4 true) [.tmp 3],
 cG 24 21 n_ref25_SameEvent false [.tmp 22, .tmp 23],
 oO 25 .pick [.tmp 21, .tmp 24, .cst (.t (.bool false))],
 mv 26 25,
 oG 27 26 (.load 4 true) [.tmp 1],
 cG 28 26 n_event_Check false [.tmp 27, .cst (.t (.int .i64 2))],
 oG 29 26 (.bin .eql) [.tmp 28, .cst (.t (.int .i64 0))],
 oO 30 .pick [.tmp 26, .tmp 29, .cst (.t (.bool false))],
 mv 31 30,
 oG 32 31 (.load 4 true) [.tmp 1],
 cG 33 31 n_event_Check false [.tmp 32, .cst (.t (.int .i64 3))],
 oG 34 31 (.bin .eql) [.tmp 33, .cst (.t (.int .i64 27))],
 oO 35 .pick [.tmp 31, .tmp 34, .cst (.t (.bool false))],
 mv 36 35,
 oG 37 36 (.load 4 true) [.tmp 1],
 cG 38 36 n_event_Consistent false [.tmp 37],
 oO 39 .pick [.tmp 36, .tmp 38, .cst (.t (.bool false))],
 mv 40 39,
 oG 41 40 (.bslice 1 1 (.t (byteT 0)) [0]) [.cst (.t (byteT 120))],
 oG 42 40 .idsl [.tmp 41],
 cG 43 40 n_event_Make true [.cst (.t (.int .i64 4)), .cst (.t (.int .i64 2)), .cst (.t (.int .i64 2)), .tmp 42],
 cG 44 40 n_event_Consistent false [.tmp 43],
 oG 45 40 (.un .not) [.tmp 44],
 oO 46 .pick [.tmp 40, .tmp 45, .cst (.t (.bool false))],
 mv 0 46])
 .ret)))))
def hints_law26_awake : List (Nat × List Nat) := [(1, [1]), (2, [1]), (3, [1]), (4, [29])]
def ac_law26_EventDecode_L0 (n_event_Decode n_ref25_DecodeEvent n_ref25_SameEvent n_event_Encode n_ref1_Same : Nat) : AC :=
 (.seq
 (rG 36864 [
 bT 52 .lss 51 50])
 (.seq
 (.cond (.tmp 52)
 .skip
 (.exit 0))
 (.seq
 (.block 1
 (.seq
 (rG 40960 [
 oO 53 (.iaddr 1) [.tmp 49, .tmp 51],
 oO 54 (.load 1 false) [.tmp 53],
 mv 15 54])
 (.seq
 (rG 45056 [
 mv 56 15,
 cL 57 n_event_Decode true [.tmp 56],
 mv 55 57,
 oO 58 (.extract 0) [.tmp 55],
 oO 59 (.extract 1) [.tmp 55],
 oO 16 (.new 4 [(.agg [(.t (.int .i64 0)), (.t (.int .i64 0)), .nil, .nil])]) [],
 oS 4 16 58,
 mv 17 59])
 (.seq
 (rG 49152 [
 mv 61 15,
 cL 62 n_ref25_DecodeEvent true [.tmp 61],
 mv 60 62,
 oO 63 (.extract 0) [.tmp 60],
 oO 64 (.extract 1) [.tmp 60],
 oO 18 (.new 4 [(.agg [(.t (.int .i64 0)), (.t (.int .i64 0)), .nil, .nil])]) [],
 oS 4 18 63,
 mv 19 64])
 (.seq
 (rG 53248 [
 mv 65 17,
 mv 66 19,
 bT 67 .neq 65 66,
 mv 68 67,
 oF 69 68 (.load 4 true) [.tmp 16],
 oF 70 68 (.load 4 true) [.tmp 18],
 cF 71 68 n_ref25_SameEvent false [.tmp 69, .tmp 70],
 oF 72 68 (.un .not) [.tmp 71],
 oO 73 .pick [.tmp 68, .cst (.t (.bool true)), .tmp 72],
 mv 74 73,
 mF 75 17 74,
 oF 76 74 (.bin .eql) [.tmp 75, .cst (.t (.int .i64 0))],
 mF 77 76 74,
 oG 78 77 (.load 4 true) [.tmp 16],
 cG 79 77 n_event_Encode true [.tmp 78],
 mG 80 15 77,
 cG 81 77 n_ref1_Same false [.tmp 79, .tmp 80],
 oG 82 77 (.un .not) [.tmp 81],
 oF 83 74 .pick [.tmp 77, .tmp 82, .cst (.t (.bool false))],
 oO 84 .pick [.tmp 74, .cst (.t (.bool true)), .tmp 83]])
 (.cond (.tmp 84)
 (.seq
 (rG 57344 [
 mC 12 (.t (.bool false))])
 .ret)
 .skip))))))
 (rG 61440 [
 bN 85 .add 51 1,
 mv 51 85]))))
def ac_law26_EventDecode (n_law26_awake n_draw_New n_draw_Active n_draw_Codes_Event n_ref25_EncodeEvent n_draw_Mod n_draw_Cut n_event_Decode n_ref25_DecodeEvent n_ref25_SameEvent n_event_Encode n_ref1_Same : Nat) : AC :=
 (.seq
 (rG 4096 [
 mC 12 (.t (.bool false))])
 (.seq
 (.seq
 (rG 8192 [
 cL 20 n_law26_awake false [],
 oO 21 (.un .not) [.tmp 20]])
 (.cond (.tmp 21)
 (.seq
 (rG 12288 [
 mC 12 (.t (.bool false))])
 .ret)
 .skip))
 (.seq
 (rG 16384 [
 mv 22 2,
 cL 23 n_draw_New true [.tmp 22, .cst (.t (.int .i64 20))],
 mv 24 1,
 cL 25 n_draw_Active false [.tmp 24],
 cL 26 n_draw_Codes_Event true [.tmp 23, .tmp 25],
 cL 27 n_ref25_EncodeEvent false [.tmp 26],
 mv 13 27])
 (.seq
 (rG 20480 [
 mv 28 13,
 mv 29 3,
 mv 30 13,
 oO 31 .len [.tmp 30],
 cL 32 n_draw_Mod false [.tmp 29, .tmp 31],
 mv 33 4,
 oO 34 (.iaddr 1) [.tmp 28, .tmp 32],
 oS 1 34 33])
 (.seq
 (.seq
 (rG 24576 [
 mv 35 5,
 bN 36 .and 35 1,
 bN 37 .eql 36 1])
 (.cond (.tmp 37)
 (rG 28672 [
 mv 38 13,
 mv 39 5,
 oO 40 (.bin .shr) [.tmp 39, .cst (.t (.int .u64 1))],
 mv 41 13,
 oO 42 .len [.tmp 41],
 bN 43 .add 42 1,
 cL 44 n_draw_Mod false [.tmp 40, .tmp 43],
 oO 45 (.slice 1 false true false) [.tmp 38, .tmp 44],
 mv 13 45])
 .skip))
 (.seq
 (.seq
 (rG 32768 [
 mv 46 0,
 cL 47 n_draw_Cut true [.tmp 46, .cst (.t (.int .i64 300))],
 mv 48 13,
 oO 49 (.bslice 1 2 .nil [0, 1]) [.tmp 47, .tmp 48],
 oO 50 .len [.tmp 49],
 mC 51 (.t (.int .i64 0))])
 (.block 0
 (.loop (ac_law26_EventDecode_L0 n_event_Decode n_ref25_DecodeEvent n_ref25_SameEvent n_event_Encode n_ref1_Same))))
 (.seq
 (rG 65536 [
 mC 12 (.t (.bool true))])
 .ret)))))))
def hints_law26_EventDecode : List (Nat × List Nat) := [(3, [1, 4]), (7, [1]), (10, [1]), (11, [1]), (12, [14])]
end Go.Eng
end
section
set_option maxRecDepth 20000
set_option maxHeartbeats 64000000
namespace Go.Eng
theorem rdBlob_of {b p x t : List UInt8} {most : Nat} (hb : b = p ++ beI 2 (x.length : Int) 2 ++ x ++ t) (hx : x.length ≤ most) (hm : most ≤ 65535) : rdBlob (b, p.length, 0) most = (x, (b, p.length + 2 + x.length, 0)) := by
  have hlen : b.length = p.length + 2 + x.length + t.length := by rw [hb]; simp only [List.length_append, beI_len]
  have h1 : List.take 2 (List.drop p.length b) = beI 2 (x.length : Int) 2 := take_mid (t := x ++ t) (by rw [hb]; simp only [List.append_assoc]) beI_len
  have h2 : beV (beI 2 (x.length : Int) 2) = x.length := by
    rw [beV_all]
    have e : (256 : Nat) ^ 2 = 65536 := by decide
    have := m64_of (n := (x.length : Int)) (by omega)
    rw [e]; omega
  have h3 : List.take x.length (List.drop (p.length + 2) b) = x := by
    have := take_mid (b := b) (p := p ++ beI 2 (x.length : Int) 2) (q := x) (t := t) (k := x.length) hb rfl
    rw [List.length_append, beI_len] at this
    exact this
  unfold rdBlob
  simp only [h1, h2]
  rw [if_neg (by simp), if_neg (by omega), if_neg (by omega), if_neg (by omega), h3]
theorem beV_beI1 {n : Int} (h : 0 ≤ n ∧ n < 256) : ((beV (beI 1 n 1) : Nat) : Int) = n := by
  rw [beV_all]
  have := m64_of (n := n) (by omega)
  omega
theorem dcEv_enc {e : Ev} (h : wrE e = true) : dcEv (encE e) = (e, 0) := by
  obtain ⟨r, k, ds, d⟩ := e
  obtain ⟨rb, kb, hd, d0, d1, rfl, q0, q1⟩ := wrE_true h
  have hE : encE (r, k, [d0, d1], d) = beI 1 r 1 ++ beI 1 k 1 ++ beI 2 (d0.length : Int) 2 ++ d0 ++ beI 2 (d1.length : Int) 2 ++ d1 ++ beI 2 (d.length : Int) 2 ++ d := by
    rw [encE_two]; unfold blL; simp only [List.append_assoc]
  generalize hb : encE (r, k, [d0, d1], d) = b at *
  have v1 := beV_beI1 (n := r) (by omega)
  have v2 := beV_beI1 (n := k) (by omega)
  have r1 : rdUint (b, 0, 0) 1 = (r, (b, 1, 0)) := by
    have := rdUint_of (b := b) (p := []) (q := beI 1 r 1) (t := beI 1 k 1 ++ beI 2 (d0.length : Int) 2 ++ d0 ++ beI 2 (d1.length : Int) 2 ++ d1 ++ beI 2 (d.length : Int) 2 ++ d) (k := 1) (by rw [hE]; simp only [List.nil_append, List.append_assoc]) beI_len (by omega)
    rw [v1] at this
    exact this
  have r2 : rdUint (b, 1, 0) 1 = (k, (b, 2, 0)) := by
    have := rdUint_of (b := b) (p := beI 1 r 1) (q := beI 1 k 1) (t := beI 2 (d0.length : Int) 2 ++ d0 ++ beI 2 (d1.length : Int) 2 ++ d1 ++ beI 2 (d.length : Int) 2 ++ d) (k := 1) (by rw [hE]; simp only [List.append_assoc]) beI_len (by omega)
    rw [v2, beI_len] at this
    exact this
  have r3 : rdBlob (b, 2, 0) 32 = (d0, (b, 2 + 2 + d0.length, 0)) := by
    have := rdBlob_of (b := b) (p := beI 1 r 1 ++ beI 1 k 1) (x := d0) (t := beI 2 (d1.length : Int) 2 ++ d1 ++ beI 2 (d.length : Int) 2 ++ d) (most := 32) (by rw [hE]; simp only [List.append_assoc]) q0 (by omega)
    rw [List.length_append, beI_len, beI_len] at this
    exact this
  have r4 : rdBlob (b, 2 + 2 + d0.length, 0) 32 = (d1, (b, 2 + 2 + d0.length + 2 + d1.length, 0)) := by
    have := rdBlob_of (b := b) (p := beI 1 r 1 ++ beI 1 k 1 ++ beI 2 (d0.length : Int) 2 ++ d0) (x := d1) (t := beI 2 (d.length : Int) 2 ++ d) (most := 32) (by rw [hE]; simp only [List.append_assoc]) q1 (by omega)
    rw [List.length_append, List.length_append, List.length_append, beI_len, beI_len, beI_len] at this
    exact this
  have r5 : rdBlob (b, 2 + 2 + d0.length + 2 + d1.length, 0) 64 = (d, (b, 2 + 2 + d0.length + 2 + d1.length + 2 + d.length, 0)) := by
    have := rdBlob_of (b := b) (p := beI 1 r 1 ++ beI 1 k 1 ++ beI 2 (d0.length : Int) 2 ++ d0 ++ beI 2 (d1.length : Int) 2 ++ d1) (x := d) (t := []) (most := 64) (by rw [hE]; simp only [List.append_assoc, List.append_nil]) hd (by omega)
    simp only [List.length_append, beI_len] at this
    have e : 1 + 1 + 2 + d0.length + 2 + d1.length = 2 + 2 + d0.length + 2 + d1.length := by omega
    rw [e] at this
    exact this
  have hl : b.length = 2 + 2 + d0.length + 2 + d1.length + 2 + d.length := by rw [hE]; simp only [List.length_append, beI_len]
  have hR : rdEv (b, 0, 0) = ((r, k, [d0, d1], d), (b, b.length, 0)) := by
    unfold rdEv
    simp only [r1, r2, r3, r4, r5, hl]
  unfold dcEv
  rw [hR]
  have hend : rdEnd (b, b.length, 0) = 0 := by unfold rdEnd; rw [if_neg (by simp)]
  simp only
  rw [if_pos ⟨hend, h⟩]
theorem decE_eq {b : List UInt8} (h : b.length < 1000000000) : ct_decE.fs [.t (.sl (b.map byteT))] [] = some (.tup [.t (evT (dcEv b).1), .t (.int .i64 (dcEv b).2)], []) := ct_decE.eq b h
theorem con_eq {a b : Int} {c : List (List UInt8)} {d : List UInt8} (h : evM (a, b, c, d)) : ct_con.fs [.t (.agg [.int .i64 a, .int .i64 b, .sl (c.map bsT), .sl (d.map byteT)])] [] = some (.t (.bool (conE (a, b, c, d))), []) := ct_con.eq (a, b, c, d) h
theorem sameE_refl {a b : Int} {c : List (List UInt8)} {d : List UInt8} (h : evM (a, b, c, d)) : ct_sameE.fs [.t (.agg [.int .i64 a, .int .i64 b, .sl (c.map bsT), .sl (d.map byteT)]), .t (.agg [.int .i64 a, .int .i64 b, .sl (c.map bsT), .sl (d.map byteT)])] [] = some (.t (.bool true), []) := by
  have := ct_sameE.eq ((a, b, c, d), (a, b, c, d)) ⟨h, h⟩
  have e : ct_sameE.r ((a, b, c, d), (a, b, c, d)) = .t (.bool true) := by
    show V.t (.bool (decide ((a, b, c, d) = (a, b, c, d)))) = _
    rw [decide_eq_true rfl]
  rw [e] at this
  exact this
theorem w_awake26 (tab : Tab) (gl : Gl) (n1 n2 n3 n4 n5 n6 : Nat) (h1 : tab.look n1 = some ct_make.fs) (h2 : tab.look n2 = some ct_encE.fs) (h3 : tab.look n3 = some ct_decE.fs) (h4 : tab.look n4 = some ct_sameE.fs) (h5 : tab.look n5 = some ct_chk.fs) (h6 : tab.look n6 = some ct_con.fs) :
    (ac_law26_awake n1 n2 n3 n4 n5 n6).wp tab gl (zipF 0 []) (zipF 0 []) (resW [(0, none)] 0 (fun r o => r = .t (.bool true) ∧ o = [])) := by
  have hm0 := make_eq (r := 4) (k := 2) (act := 2) (d := sep4) ⟨by omega, by decide⟩
  have hx0 := make_eq (r := 4) (k := 2) (act := 2) (d := [120]) ⟨by omega, by decide⟩
  have a0 : mkD 2 2 sep4 0 = [] := by rw [mkD0]; simp
  have a1 : mkD 2 2 sep4 1 = sum256 sep4 := by rw [mkD1]; simp
  have x0 : mkD 2 2 [120] 0 = [] := by rw [mkD0]; simp
  have x1 : mkD 2 2 [120] 1 = sum256 [120] := by rw [mkD1]; simp
  rw [a0, a1] at hm0
  rw [x0, x1] at hx0
  have ls : (sum256 sep4).length = 32 := sum256_length
  have lx : (sum256 [120]).length = 32 := sum256_length
  have hcA : sumA 1 sep4 = sum256 sep4 := rfl
  have hc1 : conE (4, 2, [[], sum256 sep4], sep4) = true := by
    have q : conE (4, 2, [[], sum256 sep4], sep4) = conD 2 [[], sum256 sep4] sep4 := by unfold conE; simp
    rw [q]
    unfold conD
    have c0 : conA 2 [[], sum256 sep4] sep4 0 = true := conA_z rfl
    have c1 : conA 2 [[], sum256 sep4] sep4 1 = true := by
      unfold conA
      have e : [[], sum256 sep4].getD 1 [] = sum256 sep4 := rfl
      rw [e, hcA, decide_eq_true rfl]; simp
    rw [c0, c1]; rfl
  generalize sum256 sep4 = S at *
  generalize sum256 [120] = X at *
  have em : evM (4, 2, [[], S], sep4) := ⟨⟨by simp, fun x hx => by simp at hx; rcases hx with rfl | rfl <;> simp [ls]⟩, by simp [sep4]⟩
  have xm : evM (4, 2, [[], X], [120]) := ⟨⟨by simp, fun x hx => by simp at hx; rcases hx with rfl | rfl <;> simp [lx]⟩, by simp⟩
  have hwr : wrE (4, 2, [[], S], sep4) = true := by
    have := wrE_two (r := 4) (k := 2) (d0 := []) (d1 := S) (d := sep4) (by unfold wrBad; decide)
    rw [this, ls]; rfl
  have hen := encE_eq em
  have hde := dcEv_enc hwr
  have e1 : encE' (4, 2, [[], S], sep4) = encE (4, 2, [[], S], sep4) := if_pos hwr
  have lb : (encE (4, 2, [[], S], sep4)).length = 44 := by
    rw [encE_two, blL_len, blL_len, blL_len, List.length_append, beI_len, beI_len, ls]; rfl
  rw [e1] at hen
  have hdc := decE_eq (b := encE (4, 2, [[], S], sep4)) (by omega)
  rw [hde] at hdc
  generalize encE (4, 2, [[], S], sep4) = B at *
  have hsa := sameE_refl em
  have w0 : ∀ a : Int, wantL 2 a 0 = if a % 2 = 1 then 20 else 0 := fun a => by rw [wantL0]; simp
  have w1 : ∀ a : Int, wantL 2 a 1 = if a / 2 % 2 = 1 then 32 else 0 := fun a => by rw [wantL1]; simp
  have k2 : chkE (4, 2, [[], S], sep4) 2 = 0 := by
    unfold chkE
    rw [if_neg (by simp [badE]), if_neg (by simp [sep4])]
    simp only [fitE_two, w0, w1, ls]; decide
  have k3 : chkE (4, 2, [[], S], sep4) 3 = 27 := by
    unfold chkE
    rw [if_neg (by simp [badE]), if_neg (by simp [sep4])]
    simp only [fitE_two, w0, w1, ls]; decide
  have hk2 := chk_eq (act := 2) em
  have hk3 := chk_eq (act := 3) em
  rw [k2] at hk2
  rw [k3] at hk3
  have hco := con_eq em
  rw [hc1] at hco
  have hcx := con_eq xm
  have cx : conE (4, 2, [[], X], [120]) = false := by
    unfold conE
    simp only
    rw [if_neg (by decide), if_neg (by decide), if_pos (by simp [sep4])]
  rw [cx] at hcx
  have t44 : List.take 44 B = B := List.take_of_length_le (by omega)
  simp only [evT_def, sep4, List.map_cons, List.map_nil, bsT_def] at hm0 hx0 hen hdc hsa hk2 hk3 hco hcx
  simp (disch := omega) only [go_sem, ↓reduceIte, Nat.reduceAdd, Nat.reduceEqDiff, Nat.reduceLT, Nat.reduceLeDiff, ac_law26_awake, h1, hm0, h2, hen, h3, hdc, h4, hsa, h5, hk2, hk3, h6, hco, hx0, hcx, lb, t44]
  all_goals rfl
end Go.Eng
end
section
set_option maxRecDepth 20000
set_option maxHeartbeats 64000000
namespace Go.Eng
def ct_mod : Ct where
  α := Int × Int
  as x := [.t (.int .i64 x.1), .t (.int .i64 x.2)]
  ins _ := []
  pre x := (-9223372036854775808 ≤ x.1 ∧ x.1 < 9223372036854775808) ∧ (-9223372036854775808 ≤ x.2 ∧ x.2 < 9223372036854775808)
  r x := .t (.int .i64 (modI x.1 x.2))
  outs _ := []
  inj := by
    rintro ⟨a, b⟩ ⟨c, d⟩ h _
    simp only [List.cons.injEq, V.t.injEq, T.int.injEq, true_and, and_true] at h
    obtain ⟨rfl, rfl⟩ := h
    exact ⟨rfl, rfl⟩
theorem mod_eq {a b : Int} (h : (-9223372036854775808 ≤ a ∧ a < 9223372036854775808) ∧ (-9223372036854775808 ≤ b ∧ b < 9223372036854775808)) : ct_mod.fs [.t (.int .i64 a), .t (.int .i64 b)] [] = some (.t (.int .i64 (modI a b)), []) := ct_mod.eq (a, b) h
end Go.Eng
end
section
set_option maxRecDepth 20000
set_option maxHeartbeats 64000000
namespace Go.Eng
theorem mkD_len {k act : Int} {d : List UInt8} {a : Nat} : (mkD k act d a).length = wantL k act a := by
  unfold mkD wantL
  split
  · exact sumA_length
  · rfl
theorem wantL_le {k act : Int} {a : Nat} : wantL k act a ≤ 32 := by
  unfold wantL szA
  split
  · split
    · omega
    · split <;> omega
  · omega
theorem mkE_m {r k act : Int} {d : List UInt8} (h : d.length < 1000000000) : evM (mkE r k act d) := by
  have w0 := wantL_le (k := k) (act := act) (a := 0)
  have w1 := wantL_le (k := k) (act := act) (a := 1)
  refine ⟨⟨by simp [mkE], fun x hx => ?_⟩, h⟩
  simp only [mkE, List.mem_cons, List.not_mem_nil, or_false] at hx
  rcases hx with rfl | rfl <;> (rw [mkD_len]; omega)
theorem mkE_ok {r k act : Int} {d : List UInt8} (hr : 0 ≤ r ∧ r ≤ 11) (hk : 1 ≤ k ∧ k ≤ 5) (ha : 1 ≤ act ∧ act ≤ 3) (hd : d.length ≤ 64) : chkE (mkE r k act d) act = 0 := by
  unfold chkE mkE
  simp only
  rw [if_neg (by unfold badE; omega), if_neg (by omega), if_pos]
  rw [fitE_two, mkD_len, mkD_len, decide_eq_true rfl, decide_eq_true rfl]; rfl
theorem mkE_wr {r k act : Int} {d : List UInt8} (hr : 0 ≤ r ∧ r ≤ 11) (hk : 1 ≤ k ∧ k ≤ 5) (hd : d.length ≤ 64) : wrE (mkE r k act d) = true := by
  have w0 := wantL_le (k := k) (act := act) (a := 0)
  have w1 := wantL_le (k := k) (act := act) (a := 1)
  unfold mkE
  rw [wrE_two (by unfold wrBad; omega), mkD_len, mkD_len, decide_eq_true w0, decide_eq_true w1]; rfl
theorem modI_lt {a m : Int} (h : 1 ≤ m) : 0 ≤ modI a m ∧ modI a m < m := by
  unfold modI
  rw [if_neg (by omega)]
  exact ⟨Int.emod_nonneg _ (by omega), Int.emod_lt_of_pos _ (by omega)⟩
end Go.Eng
end
section
set_option maxRecDepth 20000
set_option maxHeartbeats 64000000
namespace Go.Eng
def lineL (i : Nat) : List UInt8 := match i with
  | 0 => [97, 61, 49]
  | 1 => [99, 111, 117, 110, 116, 61, 53]
  | 2 => [99, 111, 117, 110, 116, 61, 49, 55]
  | 3 => [104, 111, 115, 116, 61, 120]
  | 4 => [109, 111, 100, 101, 32, 98]
  | _ => [126]
theorem lineL_len {i : Nat} : 1 ≤ (lineL i).length ∧ (lineL i).length ≤ 8 := by
  unfold lineL; split <;> decide
def ct_line : Ct where
  α := Cd
  as _ := [.ref 0 0 0]
  ins x := [cdOb x]
  pre x := cdOk x
  r x := .t (.sl ((lineL (nx x 6).1).map byteT))
  outs x := [cdOb (nx x 6).2]
  inj := by
    intro s t _ h2
    simp only [List.cons.injEq, and_true] at h2
    cases cdOb_inj h2
    exact ⟨rfl, rfl⟩
theorem line_eq {c : Cd} (h : cdOk c) : ct_line.fs [.ref 0 0 0] [cdO c] = some (.t (.sl ((lineL (nx c 6).1).map byteT)), [cdO (nx c 6).2]) := ct_line.eq c h
theorem w_draw_Line (tab : Tab) (gl : Gl) (n1 : Nat) (h1 : tab.look n1 = some ct_next.fs) (c : Cd) (hc : cdOk c) :
    (ac_draw_Codes_Line n1).wp tab gl (zipF 0 [.ref 0 0 0]) (zipF 0 [cdOb c]) (resW [(2, none)] 1 (fun r o => r = .t (.sl ((lineL (nx c 6).1).map byteT)) ∧ o = [cdOb (nx c 6).2])) := by
  have hn := next_eq (c := c) (n := 6) ⟨hc, by omega, by omega⟩
  have hl := nx_lt (c := c) (n := 6) (by omega)
  have k6 : ((6 : Nat) : Int) = 6 := rfl
  rw [k6] at hn
  generalize nx c 6 = q at *
  obtain ⟨i, b', a'⟩ := q
  obtain ⟨b, a⟩ := c
  simp only at hl hn
  rcases (show i = 0 ∨ i = 1 ∨ i = 2 ∨ i = 3 ∨ i = 4 ∨ i = 5 by omega) with rfl | rfl | rfl | rfl | rfl | rfl
  all_goals simp only [cdO, Int.natCast_zero, Int.natCast_one, Int.cast_ofNat_Int] at hn
  all_goals simp (config := { maxSteps := 2000000 }) (disch := (first | omega | (simp only [lens, lenm]; omega))) only [go_sem, ↓reduceIte, Nat.reduceAdd, Nat.reduceEqDiff, Nat.reduceSub, Nat.reduceMul, Nat.reduceLT, Nat.reduceLeDiff, Nat.reduceBEq, Int.reduceEq, Int.reduceLT, Int.reduceLE, Int.reduceToNat, Int.reduceNeg, Int.reduceAdd, Int.reduceSub, Int.reduceMul, Int.reduceMod, Int.reduceDiv, reduceCtorEq, Nat.reducePow, Int.reducePow, ac_draw_Codes_Line, cdOb_eq, h1, hn, lineL, List.map_cons, List.map_nil]
def regT8 (i : Nat) : Int := match i with | 2 => 4 | 3 => 8 | 4 => 9 | 5 => 9 | 6 => 1 | 7 => 11 | _ => 0
theorem regT8_le {i : Nat} : 0 ≤ regT8 i ∧ regT8 i ≤ 11 := by unfold regT8; split <;> omega
theorem regT8_get {i : Nat} (h : i < 8) : [V.t (.int .i64 0), V.t (.int .i64 0), V.t (.int .i64 4), V.t (.int .i64 8), V.t (.int .i64 9), V.t (.int .i64 9), V.t (.int .i64 1), V.t (.int .i64 11)][i]? = some (V.t (.int .i64 (regT8 i))) := by
  rcases (show i = 0 ∨ i = 1 ∨ i = 2 ∨ i = 3 ∨ i = 4 ∨ i = 5 ∨ i = 6 ∨ i = 7 by omega) with rfl | rfl | rfl | rfl | rfl | rfl | rfl | rfl <;> rfl
def evData (c : Cd) : List UInt8 × Cd := if (nx (nx c 6).2 4).1 = 3 then ((lineL (nx c 6).1).take (nx (nx (nx c 6).2 4).2 2).1, (nx (nx (nx c 6).2 4).2 2).2) else (lineL (nx c 6).1, (nx (nx c 6).2 4).2)
def evKind (c : Cd) : Int × Int × Cd := (1 + ((nx c 5).1 : Int), regT8 (nx (nx c 5).2 8).1, (nx (nx c 5).2 8).2)
def evSep (k r : Int) (d : List UInt8) (c : Cd) : Int × List UInt8 × Cd :=
  if k = 2 then (if 0 < (nx c 4).1 then ((nx (nx c 4).2 8).1, sep4, (nx (nx c 4).2 8).2) else (r, d, (nx c 4).2)) else (r, d, c)
def evDig (k r act : Int) (d : List UInt8) (c : Cd) : Ev × Cd :=
  if k = 5 then (mkE r k act d, c) else if (nx c 4).1 = 3 then ((r, k, dgB act [UInt8.ofNat (nx (nx c 4).2 4).1, UInt8.ofNat k.toNat], d), (nx (nx c 4).2 4).2) else (mkE r k act d, (nx c 4).2)
def evG (c : Cd) (act : Int) : Ev × Cd :=
  let d := evData c
  let k := evKind d.2
  let s := evSep k.1 k.2.1 d.1 k.2.2
  evDig k.1 s.1 act s.2.1 s.2.2
theorem evData_le {c : Cd} : (evData c).1.length ≤ 8 := by
  unfold evData; split
  · have := (lineL_len (i := (nx c 6).1)).2
    simp only [List.length_take]; omega
  · exact lineL_len.2
theorem evKind_le {c : Cd} : (1 ≤ (evKind c).1 ∧ (evKind c).1 ≤ 5) ∧ 0 ≤ (evKind c).2.1 ∧ (evKind c).2.1 ≤ 11 := by
  have h := nx_lt (c := c) (n := 5) (by omega)
  refine ⟨⟨?_, ?_⟩, regT8_le⟩ <;> (unfold evKind; simp only; omega)
theorem evSep_le {k r : Int} {d : List UInt8} {c : Cd} (hr : 0 ≤ r ∧ r ≤ 11) (hd : d.length ≤ 8) : (0 ≤ (evSep k r d c).1 ∧ (evSep k r d c).1 ≤ 11) ∧ (evSep k r d c).2.1.length ≤ 8 := by
  unfold evSep
  split
  · split
    · have := nx_lt (c := (nx c 4).2) (n := 8) (by omega)
      refine ⟨⟨?_, ?_⟩, ?_⟩
      · simp only; omega
      · simp only; omega
      · show sep4.length ≤ 8
        decide
    · exact ⟨hr, hd⟩
  · exact ⟨hr, hd⟩
def ct_devt : Ct where
  α := Cd × Int
  as x := [.ref 0 0 0, .t (.int .i64 x.2)]
  ins x := [cdOb x.1]
  pre x := cdOk x.1 ∧ 1 ≤ x.2 ∧ x.2 ≤ 3
  r x := .t (evT (evG x.1 x.2).1)
  outs x := [cdOb (evG x.1 x.2).2]
  inj := by
    rintro ⟨s, a⟩ ⟨t, c⟩ h1 h2
    simp only [List.cons.injEq, V.t.injEq, T.int.injEq, true_and, and_true] at h1
    simp only [List.cons.injEq, and_true] at h2
    subst h1
    cases cdOb_inj h2
    exact ⟨rfl, rfl⟩
theorem nxF (n : Nat) {c : Cd} (h : cdOk c) (h1 : 1 ≤ n) (h2 : n ≤ 1000000000) : ∃ i b a, nx c n = (i, (b, a)) ∧ i < n ∧ cdOk (b, a) ∧ ct_next.fs [.ref 0 0 0, .t (.int .i64 n)] [.live 2 [.t (.agg [.sl (c.1.map byteT), .int .i64 (c.2 : Int)])] true true] = some (.t (.int .i64 i), [.live 2 [.t (.agg [.sl (b.map byteT), .int .i64 (a : Int)])] true true]) := by
  have e := next_eq (c := c) (n := n) ⟨h, h1, h2⟩
  have l := nx_lt (c := c) (n := n) h1
  have k := nx_ok (n := n) h
  obtain ⟨⟨i, b, a⟩, hq⟩ : ∃ q, nx c n = q := ⟨_, rfl⟩
  rw [hq] at e l k
  exact ⟨i, b, a, hq, l, k, e⟩
theorem w_draw_Event (tab : Tab) (gl : Gl) (n1 n2 n3 n4 : Nat) (h1 : tab.look n1 = some ct_line.fs) (h2 : tab.look n2 = some ct_next.fs) (h3 : tab.look n3 = some ct_make.fs) (h4 : tab.look n4 = some ct_ddg.fs) (c : Cd) (hc : cdOk c) (act : Int) (ha : 1 ≤ act ∧ act ≤ 3) :
    (ac_draw_Codes_Event n1 n2 n3 n4).wp tab gl (zipF 0 [.ref 0 0 0, .t (.int .i64 act)]) (zipF 0 [cdOb c]) (resW [(4, some (4, true))] 1 (fun r o => r = .t (evT (evG c act).1) ∧ o = [cdOb (evG c act).2])) := by
  have hL := line_eq hc
  have lA := lineL_len (i := (nx c 6).1)
  obtain ⟨iA, bA, aA, eA, _, okA, _⟩ := nxF 6 hc (by omega) (by omega)
  rw [eA] at hL lA
  obtain ⟨bC, aC⟩ := c
  obtain ⟨iP, bP, aP, eP, lP, okP, hP⟩ := nxF 4 okA (by omega) (by omega)
  have k4 : ((4 : Nat) : Int) = 4 := rfl
  have k2 : ((2 : Nat) : Int) = 2 := rfl
  have k5 : ((5 : Nat) : Int) = 5 := rfl
  have k8 : ((8 : Nat) : Int) = 8 := rfl
  have k3 : ((3 : Nat) : Int) = 3 := rfl
  have w2 : T.int .u8 (IntKind.u8.wrap 2) = byteT (UInt8.ofNat 2) := rfl
  simp only [cdO, k4] at hL hP
  simp only at lA
  by_cases p3 : iP = 3
  · subst p3
    simp only [k3] at hP
    obtain ⟨iQ, bQ, aQ, eQ, lQ, okQ, hQ⟩ := nxF 2 okP (by omega) (by omega)
    simp only [k2, k4, k5, k8] at hQ
    have lX : ((lineL iA).take iQ).length ≤ 8 := by rw [List.length_take]; omega
    have lQ1 : iQ ≤ (lineL iA).length := by omega
    obtain ⟨iK, bK, aK, eK, lK, okK, hK⟩ := nxF 5 okQ (by omega) (by omega)
    simp only [k2, k4, k5, k8] at hK
    obtain ⟨iR, bR, aR, eR, lR, okR, hR⟩ := nxF 8 okK (by omega) (by omega)
    simp only [k2, k4, k5, k8] at hR
    have hg := regT8_get lR
    have hg2 := regT8_le (i := iR)
    by_cases q1 : iK = 1
    · subst q1
      simp only [Int.natCast_one] at hK
      obtain ⟨iW, bW, aW, eW, lW, okW, hW⟩ := nxF 4 okR (by omega) (by omega)
      simp only [k2, k4, k5, k8] at hW
      by_cases w0 : iW = 0
      · subst w0
        simp only [Int.natCast_zero] at hW
        obtain ⟨iZ, bZ, aZ, eZ, lZ, okZ, hZ⟩ := nxF 4 okW (by omega) (by omega)
        simp only [k2, k4, k5, k8] at hZ
        by_cases z3 : iZ = 3
        · subst z3
          simp only [k3] at hZ
          obtain ⟨iY, bY, aY, eY, lY, okY, hY⟩ := nxF 4 okZ (by omega) (by omega)
          simp only [k2, k4, k5, k8] at hY
          have hm := make_eq (r := (regT8 iR)) (k := 2) (act := act) (d := ((lineL iA).take iQ)) ⟨⟨by omega, by omega⟩, by omega⟩
          have hd : ct_ddg.fs [.t (.int .i64 act), .t (.sl [byteT (UInt8.ofNat iY), byteT (UInt8.ofNat 2)])] [] = some (.sl 0 0 2, [.live 1 [.t (bsT (dgb act 0 [UInt8.ofNat iY, UInt8.ofNat 2])), .t (bsT (dgb act 1 [UInt8.ofNat iY, UInt8.ofNat 2]))] true false]) := ct_ddg.eq (act, [UInt8.ofNat iY, UInt8.ofNat 2]) trivial
          have hG : evG (bC, aC) act = (((regT8 iR), 2, dgB act [UInt8.ofNat iY, UInt8.ofNat 2], ((lineL iA).take iQ)), (bY, aY)) := by simp [evG, evData, evKind, evSep, evDig, eA, eP, eQ, eK, eR, eW, eZ, eY]
          have hT : evT ((regT8 iR), 2, dgB act [UInt8.ofNat iY, UInt8.ofNat 2], ((lineL iA).take iQ)) = .agg [.int .i64 (regT8 iR), .int .i64 2, .sl [bsT (dgb act 0 [UInt8.ofNat iY, UInt8.ofNat 2]), bsT (dgb act 1 [UInt8.ofNat iY, UInt8.ofNat 2])], .sl ((((lineL iA).take iQ)).map byteT)] := rfl
          rw [hG]
          generalize evT ((regT8 iR), 2, dgB act [UInt8.ofNat iY, UInt8.ofNat 2], ((lineL iA).take iQ)) = X at *
          generalize mkD 2 act ((lineL iA).take iQ) 0 = D0 at *
          generalize mkD 2 act ((lineL iA).take iQ) 1 = D1 at *
          generalize dgb act 0 [UInt8.ofNat iY, UInt8.ofNat 2] = E0 at *
          generalize dgb act 1 [UInt8.ofNat iY, UInt8.ofNat 2] = E1 at *
          simp only [bsT_def, sep4, List.map_cons, List.map_nil] at hm hT hd
          simp (config := { maxSteps := 2000000 }) (disch := (first | omega | (simp only [lens, lenm]; omega))) only [go_sem, ↓reduceIte, Nat.reduceAdd, Nat.reduceEqDiff, Nat.reduceSub, Nat.reduceMul, Nat.reduceLT, Nat.reduceLeDiff, Nat.reduceBEq, Int.reduceEq, Int.reduceLT, Int.reduceLE, Int.reduceToNat, Int.reduceNeg, Int.reduceAdd, Int.reduceSub, Int.reduceMul, Int.reduceMod, Int.reduceDiv, reduceCtorEq, Nat.reducePow, Int.reducePow, ac_draw_Codes_Event, cdOb_eq, h1, hL, h2, hP, hQ, hK, hR, hg, hW, hZ, hY, h3, hm, hT, h4, hd, w2]
          all_goals rfl
        · have z3b : ((iZ : Int) == 3) = false := by simpa using (by omega : ¬ (iZ : Int) = 3)
          have hm := make_eq (r := (regT8 iR)) (k := 2) (act := act) (d := ((lineL iA).take iQ)) ⟨⟨by omega, by omega⟩, by omega⟩
          have hT : evT (mkE (regT8 iR) 2 act ((lineL iA).take iQ)) = .agg [.int .i64 (regT8 iR), .int .i64 2, .sl [bsT (mkD 2 act ((lineL iA).take iQ) 0), bsT (mkD 2 act ((lineL iA).take iQ) 1)], .sl ((((lineL iA).take iQ)).map byteT)] := rfl
          have hG : evG (bC, aC) act = (mkE (regT8 iR) 2 act ((lineL iA).take iQ), (bZ, aZ)) := by simp [evG, evData, evKind, evSep, evDig, eA, eP, eQ, eK, eR, eW, eZ, z3]
          rw [hG]
          generalize evT (mkE (regT8 iR) 2 act ((lineL iA).take iQ)) = X at *
          generalize mkD 2 act ((lineL iA).take iQ) 0 = D0 at *
          generalize mkD 2 act ((lineL iA).take iQ) 1 = D1 at *
          simp only [bsT_def, sep4, List.map_cons, List.map_nil] at hm hT
          simp (config := { maxSteps := 2000000 }) (disch := (first | omega | (simp only [lens, lenm]; omega))) only [go_sem, ↓reduceIte, Nat.reduceAdd, Nat.reduceEqDiff, Nat.reduceSub, Nat.reduceMul, Nat.reduceLT, Nat.reduceLeDiff, Nat.reduceBEq, Int.reduceEq, Int.reduceLT, Int.reduceLE, Int.reduceToNat, Int.reduceNeg, Int.reduceAdd, Int.reduceSub, Int.reduceMul, Int.reduceMod, Int.reduceDiv, reduceCtorEq, Nat.reducePow, Int.reducePow, ac_draw_Codes_Event, cdOb_eq, h1, hL, h2, hP, hQ, hK, hR, hg, hW, hZ, z3b, h3, hm, hT]
          all_goals rfl
      · have w1 : 0 < iW := by omega
        have l4 : sep4.length = 4 := rfl
        obtain ⟨iV, bV, aV, eV, lV, okV, hV⟩ := nxF 8 okW (by omega) (by omega)
        simp only [k2, k4, k5, k8] at hV
        obtain ⟨iZ, bZ, aZ, eZ, lZ, okZ, hZ⟩ := nxF 4 okV (by omega) (by omega)
        simp only [k2, k4, k5, k8] at hZ
        by_cases z3 : iZ = 3
        · subst z3
          simp only [k3] at hZ
          obtain ⟨iY, bY, aY, eY, lY, okY, hY⟩ := nxF 4 okZ (by omega) (by omega)
          simp only [k2, k4, k5, k8] at hY
          have hm := make_eq (r := ((iV : Nat) : Int)) (k := 2) (act := act) (d := sep4) ⟨⟨by omega, by omega⟩, by omega⟩
          have hd : ct_ddg.fs [.t (.int .i64 act), .t (.sl [byteT (UInt8.ofNat iY), byteT (UInt8.ofNat 2)])] [] = some (.sl 0 0 2, [.live 1 [.t (bsT (dgb act 0 [UInt8.ofNat iY, UInt8.ofNat 2])), .t (bsT (dgb act 1 [UInt8.ofNat iY, UInt8.ofNat 2]))] true false]) := ct_ddg.eq (act, [UInt8.ofNat iY, UInt8.ofNat 2]) trivial
          have hG : evG (bC, aC) act = ((((iV : Nat) : Int), 2, dgB act [UInt8.ofNat iY, UInt8.ofNat 2], sep4), (bY, aY)) := by simp [evG, evData, evKind, evSep, evDig, eA, eP, eQ, eK, eR, eW, w1, eV, eZ, eY]
          have hT : evT (((iV : Nat) : Int), 2, dgB act [UInt8.ofNat iY, UInt8.ofNat 2], sep4) = .agg [.int .i64 ((iV : Nat) : Int), .int .i64 2, .sl [bsT (dgb act 0 [UInt8.ofNat iY, UInt8.ofNat 2]), bsT (dgb act 1 [UInt8.ofNat iY, UInt8.ofNat 2])], .sl ((sep4).map byteT)] := rfl
          rw [hG]
          generalize evT (((iV : Nat) : Int), 2, dgB act [UInt8.ofNat iY, UInt8.ofNat 2], sep4) = X at *
          generalize mkD 2 act sep4 0 = D0 at *
          generalize mkD 2 act sep4 1 = D1 at *
          generalize dgb act 0 [UInt8.ofNat iY, UInt8.ofNat 2] = E0 at *
          generalize dgb act 1 [UInt8.ofNat iY, UInt8.ofNat 2] = E1 at *
          simp only [bsT_def, sep4, List.map_cons, List.map_nil] at hm hT hd
          simp (config := { maxSteps := 2000000 }) (disch := (first | omega | (simp only [lens, lenm]; omega))) only [go_sem, ↓reduceIte, Nat.reduceAdd, Nat.reduceEqDiff, Nat.reduceSub, Nat.reduceMul, Nat.reduceLT, Nat.reduceLeDiff, Nat.reduceBEq, Int.reduceEq, Int.reduceLT, Int.reduceLE, Int.reduceToNat, Int.reduceNeg, Int.reduceAdd, Int.reduceSub, Int.reduceMul, Int.reduceMod, Int.reduceDiv, reduceCtorEq, Nat.reducePow, Int.reducePow, ac_draw_Codes_Event, cdOb_eq, h1, hL, h2, hP, hQ, hK, hR, hg, hW, w1, hV, hZ, hY, h3, hm, hT, h4, hd, w2]
          all_goals rfl
        · have z3b : ((iZ : Int) == 3) = false := by simpa using (by omega : ¬ (iZ : Int) = 3)
          have hm := make_eq (r := ((iV : Nat) : Int)) (k := 2) (act := act) (d := sep4) ⟨⟨by omega, by omega⟩, by omega⟩
          have hT : evT (mkE ((iV : Nat) : Int) 2 act sep4) = .agg [.int .i64 ((iV : Nat) : Int), .int .i64 2, .sl [bsT (mkD 2 act sep4 0), bsT (mkD 2 act sep4 1)], .sl ((sep4).map byteT)] := rfl
          have hG : evG (bC, aC) act = (mkE ((iV : Nat) : Int) 2 act sep4, (bZ, aZ)) := by simp [evG, evData, evKind, evSep, evDig, eA, eP, eQ, eK, eR, eW, w1, eV, eZ, z3]
          rw [hG]
          generalize evT (mkE ((iV : Nat) : Int) 2 act sep4) = X at *
          generalize mkD 2 act sep4 0 = D0 at *
          generalize mkD 2 act sep4 1 = D1 at *
          simp only [bsT_def, sep4, List.map_cons, List.map_nil] at hm hT
          simp (config := { maxSteps := 2000000 }) (disch := (first | omega | (simp only [lens, lenm]; omega))) only [go_sem, ↓reduceIte, Nat.reduceAdd, Nat.reduceEqDiff, Nat.reduceSub, Nat.reduceMul, Nat.reduceLT, Nat.reduceLeDiff, Nat.reduceBEq, Int.reduceEq, Int.reduceLT, Int.reduceLE, Int.reduceToNat, Int.reduceNeg, Int.reduceAdd, Int.reduceSub, Int.reduceMul, Int.reduceMod, Int.reduceDiv, reduceCtorEq, Nat.reducePow, Int.reducePow, ac_draw_Codes_Event, cdOb_eq, h1, hL, h2, hP, hQ, hK, hR, hg, hW, w1, hV, hZ, z3b, h3, hm, hT]
          all_goals rfl
    · by_cases q4 : iK = 4
      · subst q4
        simp only [k4] at hK
        have hm := make_eq (r := (regT8 iR)) (k := 5) (act := act) (d := ((lineL iA).take iQ)) ⟨⟨by omega, by omega⟩, by omega⟩
        have hT : evT (mkE (regT8 iR) 5 act ((lineL iA).take iQ)) = .agg [.int .i64 (regT8 iR), .int .i64 5, .sl [bsT (mkD 5 act ((lineL iA).take iQ) 0), bsT (mkD 5 act ((lineL iA).take iQ) 1)], .sl ((((lineL iA).take iQ)).map byteT)] := rfl
        have hG : evG (bC, aC) act = (mkE (regT8 iR) 5 act ((lineL iA).take iQ), (bR, aR)) := by simp [evG, evData, evKind, evSep, evDig, eA, eP, eQ, eK, eR]
        rw [hG]
        generalize evT (mkE (regT8 iR) 5 act ((lineL iA).take iQ)) = X at *
        generalize mkD 5 act ((lineL iA).take iQ) 0 = D0 at *
        generalize mkD 5 act ((lineL iA).take iQ) 1 = D1 at *
        simp only [bsT_def, sep4, List.map_cons, List.map_nil] at hm hT
        simp (config := { maxSteps := 2000000 }) (disch := (first | omega | (simp only [lens, lenm]; omega))) only [go_sem, ↓reduceIte, Nat.reduceAdd, Nat.reduceEqDiff, Nat.reduceSub, Nat.reduceMul, Nat.reduceLT, Nat.reduceLeDiff, Nat.reduceBEq, Int.reduceEq, Int.reduceLT, Int.reduceLE, Int.reduceToNat, Int.reduceNeg, Int.reduceAdd, Int.reduceSub, Int.reduceMul, Int.reduceMod, Int.reduceDiv, reduceCtorEq, Nat.reducePow, Int.reducePow, ac_draw_Codes_Event, cdOb_eq, h1, hL, h2, hP, hQ, hK, hR, hg, h3, hm, hT]
        all_goals rfl
      · have n2 : ¬ (1 + (iK : Int) = 2) := by omega
        have n5 : ¬ (1 + (iK : Int) = 5) := by omega
        have n2b : ((1 + iK : Nat) : Int) ≠ 2 := by omega
        have n5b : ((1 + iK : Nat) : Int) ≠ 5 := by omega
        have m2 : (((1 + iK : Nat) : Int) == 2) = false := by simpa using n2b
        have m5 : (((1 + iK : Nat) : Int) != 5) = true := by simpa using n5b
        have m5c : (((1 + iK : Nat) : Int) == 5) = false := by simpa using n5b
        have ek : (1 + (iK : Int)) = ((1 + iK : Nat) : Int) := by omega
        obtain ⟨iZ, bZ, aZ, eZ, lZ, okZ, hZ⟩ := nxF 4 okR (by omega) (by omega)
        simp only [k2, k4, k5, k8] at hZ
        by_cases z3 : iZ = 3
        · subst z3
          simp only [k3] at hZ
          obtain ⟨iY, bY, aY, eY, lY, okY, hY⟩ := nxF 4 okZ (by omega) (by omega)
          simp only [k2, k4, k5, k8] at hY
          have hm := make_eq (r := (regT8 iR)) (k := ((1 + iK : Nat) : Int)) (act := act) (d := ((lineL iA).take iQ)) ⟨⟨by omega, by omega⟩, by omega⟩
          have hd : ct_ddg.fs [.t (.int .i64 act), .t (.sl [byteT (UInt8.ofNat iY), byteT (UInt8.ofNat (1 + iK))])] [] = some (.sl 0 0 2, [.live 1 [.t (bsT (dgb act 0 [UInt8.ofNat iY, UInt8.ofNat (1 + iK)])), .t (bsT (dgb act 1 [UInt8.ofNat iY, UInt8.ofNat (1 + iK)]))] true false]) := ct_ddg.eq (act, [UInt8.ofNat iY, UInt8.ofNat (1 + iK)]) trivial
          have hG : evG (bC, aC) act = (((regT8 iR), (1 + (iK : Int)), dgB act [UInt8.ofNat iY, UInt8.ofNat (1 + (iK : Int)).toNat], ((lineL iA).take iQ)), (bY, aY)) := by simp only [evG, evData, evKind, evSep, evDig, eA, eP, eQ, eK, eR, n2, n5, eZ, eY, ↓reduceIte, Nat.reduceEqDiff]
          rw [ek, Int.toNat_natCast] at hG
          have hT : evT ((regT8 iR), ((1 + iK : Nat) : Int), dgB act [UInt8.ofNat iY, UInt8.ofNat (1 + iK)], ((lineL iA).take iQ)) = .agg [.int .i64 (regT8 iR), .int .i64 ((1 + iK : Nat) : Int), .sl [bsT (dgb act 0 [UInt8.ofNat iY, UInt8.ofNat (1 + iK)]), bsT (dgb act 1 [UInt8.ofNat iY, UInt8.ofNat (1 + iK)])], .sl ((((lineL iA).take iQ)).map byteT)] := rfl
          rw [hG]
          generalize evT ((regT8 iR), ((1 + iK : Nat) : Int), dgB act [UInt8.ofNat iY, UInt8.ofNat (1 + iK)], ((lineL iA).take iQ)) = X at *
          generalize mkD ((1 + iK : Nat) : Int) act ((lineL iA).take iQ) 0 = D0 at *
          generalize mkD ((1 + iK : Nat) : Int) act ((lineL iA).take iQ) 1 = D1 at *
          generalize dgb act 0 [UInt8.ofNat iY, UInt8.ofNat (1 + iK)] = E0 at *
          generalize dgb act 1 [UInt8.ofNat iY, UInt8.ofNat (1 + iK)] = E1 at *
          simp only [bsT_def, sep4, List.map_cons, List.map_nil] at hm hT hd
          simp (config := { maxSteps := 2000000 }) (disch := (first | omega | (simp only [lens, lenm]; omega))) only [go_sem, ↓reduceIte, Nat.reduceAdd, Nat.reduceEqDiff, Nat.reduceSub, Nat.reduceMul, Nat.reduceLT, Nat.reduceLeDiff, Nat.reduceBEq, Int.reduceEq, Int.reduceLT, Int.reduceLE, Int.reduceToNat, Int.reduceNeg, Int.reduceAdd, Int.reduceSub, Int.reduceMul, Int.reduceMod, Int.reduceDiv, reduceCtorEq, Nat.reducePow, Int.reducePow, ac_draw_Codes_Event, cdOb_eq, h1, hL, h2, hP, hQ, hK, hR, hg, m2, m5, m5c, hZ, hY, h3, hm, hT, h4, hd, w2]
          all_goals rfl
        · have z3b : ((iZ : Int) == 3) = false := by simpa using (by omega : ¬ (iZ : Int) = 3)
          have hm := make_eq (r := (regT8 iR)) (k := ((1 + iK : Nat) : Int)) (act := act) (d := ((lineL iA).take iQ)) ⟨⟨by omega, by omega⟩, by omega⟩
          have hT : evT (mkE (regT8 iR) ((1 + iK : Nat) : Int) act ((lineL iA).take iQ)) = .agg [.int .i64 (regT8 iR), .int .i64 ((1 + iK : Nat) : Int), .sl [bsT (mkD ((1 + iK : Nat) : Int) act ((lineL iA).take iQ) 0), bsT (mkD ((1 + iK : Nat) : Int) act ((lineL iA).take iQ) 1)], .sl ((((lineL iA).take iQ)).map byteT)] := rfl
          have hG : evG (bC, aC) act = (mkE (regT8 iR) (1 + (iK : Int)) act ((lineL iA).take iQ), (bZ, aZ)) := by simp only [evG, evData, evKind, evSep, evDig, eA, eP, eQ, eK, eR, n2, n5, eZ, z3, ↓reduceIte, Nat.reduceEqDiff]
          rw [ek] at hG
          rw [hG]
          generalize evT (mkE (regT8 iR) ((1 + iK : Nat) : Int) act ((lineL iA).take iQ)) = X at *
          generalize mkD ((1 + iK : Nat) : Int) act ((lineL iA).take iQ) 0 = D0 at *
          generalize mkD ((1 + iK : Nat) : Int) act ((lineL iA).take iQ) 1 = D1 at *
          simp only [bsT_def, sep4, List.map_cons, List.map_nil] at hm hT
          simp (config := { maxSteps := 2000000 }) (disch := (first | omega | (simp only [lens, lenm]; omega))) only [go_sem, ↓reduceIte, Nat.reduceAdd, Nat.reduceEqDiff, Nat.reduceSub, Nat.reduceMul, Nat.reduceLT, Nat.reduceLeDiff, Nat.reduceBEq, Int.reduceEq, Int.reduceLT, Int.reduceLE, Int.reduceToNat, Int.reduceNeg, Int.reduceAdd, Int.reduceSub, Int.reduceMul, Int.reduceMod, Int.reduceDiv, reduceCtorEq, Nat.reducePow, Int.reducePow, ac_draw_Codes_Event, cdOb_eq, h1, hL, h2, hP, hQ, hK, hR, hg, m2, m5, m5c, hZ, z3b, h3, hm, hT]
          all_goals rfl
  · have p3b : ((iP : Int) == 3) = false := by simpa using (by omega : ¬ (iP : Int) = 3)
    obtain ⟨iK, bK, aK, eK, lK, okK, hK⟩ := nxF 5 okP (by omega) (by omega)
    simp only [k2, k4, k5, k8] at hK
    obtain ⟨iR, bR, aR, eR, lR, okR, hR⟩ := nxF 8 okK (by omega) (by omega)
    simp only [k2, k4, k5, k8] at hR
    have hg := regT8_get lR
    have hg2 := regT8_le (i := iR)
    by_cases q1 : iK = 1
    · subst q1
      simp only [Int.natCast_one] at hK
      obtain ⟨iW, bW, aW, eW, lW, okW, hW⟩ := nxF 4 okR (by omega) (by omega)
      simp only [k2, k4, k5, k8] at hW
      by_cases w0 : iW = 0
      · subst w0
        simp only [Int.natCast_zero] at hW
        obtain ⟨iZ, bZ, aZ, eZ, lZ, okZ, hZ⟩ := nxF 4 okW (by omega) (by omega)
        simp only [k2, k4, k5, k8] at hZ
        by_cases z3 : iZ = 3
        · subst z3
          simp only [k3] at hZ
          obtain ⟨iY, bY, aY, eY, lY, okY, hY⟩ := nxF 4 okZ (by omega) (by omega)
          simp only [k2, k4, k5, k8] at hY
          have hm := make_eq (r := (regT8 iR)) (k := 2) (act := act) (d := (lineL iA)) ⟨⟨by omega, by omega⟩, by omega⟩
          have hd : ct_ddg.fs [.t (.int .i64 act), .t (.sl [byteT (UInt8.ofNat iY), byteT (UInt8.ofNat 2)])] [] = some (.sl 0 0 2, [.live 1 [.t (bsT (dgb act 0 [UInt8.ofNat iY, UInt8.ofNat 2])), .t (bsT (dgb act 1 [UInt8.ofNat iY, UInt8.ofNat 2]))] true false]) := ct_ddg.eq (act, [UInt8.ofNat iY, UInt8.ofNat 2]) trivial
          have hG : evG (bC, aC) act = (((regT8 iR), 2, dgB act [UInt8.ofNat iY, UInt8.ofNat 2], (lineL iA)), (bY, aY)) := by simp [evG, evData, evKind, evSep, evDig, eA, eP, p3, eK, eR, eW, eZ, eY]
          have hT : evT ((regT8 iR), 2, dgB act [UInt8.ofNat iY, UInt8.ofNat 2], (lineL iA)) = .agg [.int .i64 (regT8 iR), .int .i64 2, .sl [bsT (dgb act 0 [UInt8.ofNat iY, UInt8.ofNat 2]), bsT (dgb act 1 [UInt8.ofNat iY, UInt8.ofNat 2])], .sl (((lineL iA)).map byteT)] := rfl
          rw [hG]
          generalize evT ((regT8 iR), 2, dgB act [UInt8.ofNat iY, UInt8.ofNat 2], (lineL iA)) = X at *
          generalize mkD 2 act (lineL iA) 0 = D0 at *
          generalize mkD 2 act (lineL iA) 1 = D1 at *
          generalize dgb act 0 [UInt8.ofNat iY, UInt8.ofNat 2] = E0 at *
          generalize dgb act 1 [UInt8.ofNat iY, UInt8.ofNat 2] = E1 at *
          simp only [bsT_def, sep4, List.map_cons, List.map_nil] at hm hT hd
          simp (config := { maxSteps := 2000000 }) (disch := (first | omega | (simp only [lens, lenm]; omega))) only [go_sem, ↓reduceIte, Nat.reduceAdd, Nat.reduceEqDiff, Nat.reduceSub, Nat.reduceMul, Nat.reduceLT, Nat.reduceLeDiff, Nat.reduceBEq, Int.reduceEq, Int.reduceLT, Int.reduceLE, Int.reduceToNat, Int.reduceNeg, Int.reduceAdd, Int.reduceSub, Int.reduceMul, Int.reduceMod, Int.reduceDiv, reduceCtorEq, Nat.reducePow, Int.reducePow, ac_draw_Codes_Event, cdOb_eq, h1, hL, h2, hP, p3b, hK, hR, hg, hW, hZ, hY, h3, hm, hT, h4, hd, w2]
          all_goals rfl
        · have z3b : ((iZ : Int) == 3) = false := by simpa using (by omega : ¬ (iZ : Int) = 3)
          have hm := make_eq (r := (regT8 iR)) (k := 2) (act := act) (d := (lineL iA)) ⟨⟨by omega, by omega⟩, by omega⟩
          have hT : evT (mkE (regT8 iR) 2 act (lineL iA)) = .agg [.int .i64 (regT8 iR), .int .i64 2, .sl [bsT (mkD 2 act (lineL iA) 0), bsT (mkD 2 act (lineL iA) 1)], .sl (((lineL iA)).map byteT)] := rfl
          have hG : evG (bC, aC) act = (mkE (regT8 iR) 2 act (lineL iA), (bZ, aZ)) := by simp [evG, evData, evKind, evSep, evDig, eA, eP, p3, eK, eR, eW, eZ, z3]
          rw [hG]
          generalize evT (mkE (regT8 iR) 2 act (lineL iA)) = X at *
          generalize mkD 2 act (lineL iA) 0 = D0 at *
          generalize mkD 2 act (lineL iA) 1 = D1 at *
          simp only [bsT_def, sep4, List.map_cons, List.map_nil] at hm hT
          simp (config := { maxSteps := 2000000 }) (disch := (first | omega | (simp only [lens, lenm]; omega))) only [go_sem, ↓reduceIte, Nat.reduceAdd, Nat.reduceEqDiff, Nat.reduceSub, Nat.reduceMul, Nat.reduceLT, Nat.reduceLeDiff, Nat.reduceBEq, Int.reduceEq, Int.reduceLT, Int.reduceLE, Int.reduceToNat, Int.reduceNeg, Int.reduceAdd, Int.reduceSub, Int.reduceMul, Int.reduceMod, Int.reduceDiv, reduceCtorEq, Nat.reducePow, Int.reducePow, ac_draw_Codes_Event, cdOb_eq, h1, hL, h2, hP, p3b, hK, hR, hg, hW, hZ, z3b, h3, hm, hT]
          all_goals rfl
      · have w1 : 0 < iW := by omega
        have l4 : sep4.length = 4 := rfl
        obtain ⟨iV, bV, aV, eV, lV, okV, hV⟩ := nxF 8 okW (by omega) (by omega)
        simp only [k2, k4, k5, k8] at hV
        obtain ⟨iZ, bZ, aZ, eZ, lZ, okZ, hZ⟩ := nxF 4 okV (by omega) (by omega)
        simp only [k2, k4, k5, k8] at hZ
        by_cases z3 : iZ = 3
        · subst z3
          simp only [k3] at hZ
          obtain ⟨iY, bY, aY, eY, lY, okY, hY⟩ := nxF 4 okZ (by omega) (by omega)
          simp only [k2, k4, k5, k8] at hY
          have hm := make_eq (r := ((iV : Nat) : Int)) (k := 2) (act := act) (d := sep4) ⟨⟨by omega, by omega⟩, by omega⟩
          have hd : ct_ddg.fs [.t (.int .i64 act), .t (.sl [byteT (UInt8.ofNat iY), byteT (UInt8.ofNat 2)])] [] = some (.sl 0 0 2, [.live 1 [.t (bsT (dgb act 0 [UInt8.ofNat iY, UInt8.ofNat 2])), .t (bsT (dgb act 1 [UInt8.ofNat iY, UInt8.ofNat 2]))] true false]) := ct_ddg.eq (act, [UInt8.ofNat iY, UInt8.ofNat 2]) trivial
          have hG : evG (bC, aC) act = ((((iV : Nat) : Int), 2, dgB act [UInt8.ofNat iY, UInt8.ofNat 2], sep4), (bY, aY)) := by simp [evG, evData, evKind, evSep, evDig, eA, eP, p3, eK, eR, eW, w1, eV, eZ, eY]
          have hT : evT (((iV : Nat) : Int), 2, dgB act [UInt8.ofNat iY, UInt8.ofNat 2], sep4) = .agg [.int .i64 ((iV : Nat) : Int), .int .i64 2, .sl [bsT (dgb act 0 [UInt8.ofNat iY, UInt8.ofNat 2]), bsT (dgb act 1 [UInt8.ofNat iY, UInt8.ofNat 2])], .sl ((sep4).map byteT)] := rfl
          rw [hG]
          generalize evT (((iV : Nat) : Int), 2, dgB act [UInt8.ofNat iY, UInt8.ofNat 2], sep4) = X at *
          generalize mkD 2 act sep4 0 = D0 at *
          generalize mkD 2 act sep4 1 = D1 at *
          generalize dgb act 0 [UInt8.ofNat iY, UInt8.ofNat 2] = E0 at *
          generalize dgb act 1 [UInt8.ofNat iY, UInt8.ofNat 2] = E1 at *
          simp only [bsT_def, sep4, List.map_cons, List.map_nil] at hm hT hd
          simp (config := { maxSteps := 2000000 }) (disch := (first | omega | (simp only [lens, lenm]; omega))) only [go_sem, ↓reduceIte, Nat.reduceAdd, Nat.reduceEqDiff, Nat.reduceSub, Nat.reduceMul, Nat.reduceLT, Nat.reduceLeDiff, Nat.reduceBEq, Int.reduceEq, Int.reduceLT, Int.reduceLE, Int.reduceToNat, Int.reduceNeg, Int.reduceAdd, Int.reduceSub, Int.reduceMul, Int.reduceMod, Int.reduceDiv, reduceCtorEq, Nat.reducePow, Int.reducePow, ac_draw_Codes_Event, cdOb_eq, h1, hL, h2, hP, p3b, hK, hR, hg, hW, w1, hV, hZ, hY, h3, hm, hT, h4, hd, w2]
          all_goals rfl
        · have z3b : ((iZ : Int) == 3) = false := by simpa using (by omega : ¬ (iZ : Int) = 3)
          have hm := make_eq (r := ((iV : Nat) : Int)) (k := 2) (act := act) (d := sep4) ⟨⟨by omega, by omega⟩, by omega⟩
          have hT : evT (mkE ((iV : Nat) : Int) 2 act sep4) = .agg [.int .i64 ((iV : Nat) : Int), .int .i64 2, .sl [bsT (mkD 2 act sep4 0), bsT (mkD 2 act sep4 1)], .sl ((sep4).map byteT)] := rfl
          have hG : evG (bC, aC) act = (mkE ((iV : Nat) : Int) 2 act sep4, (bZ, aZ)) := by simp [evG, evData, evKind, evSep, evDig, eA, eP, p3, eK, eR, eW, w1, eV, eZ, z3]
          rw [hG]
          generalize evT (mkE ((iV : Nat) : Int) 2 act sep4) = X at *
          generalize mkD 2 act sep4 0 = D0 at *
          generalize mkD 2 act sep4 1 = D1 at *
          simp only [bsT_def, sep4, List.map_cons, List.map_nil] at hm hT
          simp (config := { maxSteps := 2000000 }) (disch := (first | omega | (simp only [lens, lenm]; omega))) only [go_sem, ↓reduceIte, Nat.reduceAdd, Nat.reduceEqDiff, Nat.reduceSub, Nat.reduceMul, Nat.reduceLT, Nat.reduceLeDiff, Nat.reduceBEq, Int.reduceEq, Int.reduceLT, Int.reduceLE, Int.reduceToNat, Int.reduceNeg, Int.reduceAdd, Int.reduceSub, Int.reduceMul, Int.reduceMod, Int.reduceDiv, reduceCtorEq, Nat.reducePow, Int.reducePow, ac_draw_Codes_Event, cdOb_eq, h1, hL, h2, hP, p3b, hK, hR, hg, hW, w1, hV, hZ, z3b, h3, hm, hT]
          all_goals rfl
    · by_cases q4 : iK = 4
      · subst q4
        simp only [k4] at hK
        have hm := make_eq (r := (regT8 iR)) (k := 5) (act := act) (d := (lineL iA)) ⟨⟨by omega, by omega⟩, by omega⟩
        have hT : evT (mkE (regT8 iR) 5 act (lineL iA)) = .agg [.int .i64 (regT8 iR), .int .i64 5, .sl [bsT (mkD 5 act (lineL iA) 0), bsT (mkD 5 act (lineL iA) 1)], .sl (((lineL iA)).map byteT)] := rfl
        have hG : evG (bC, aC) act = (mkE (regT8 iR) 5 act (lineL iA), (bR, aR)) := by simp [evG, evData, evKind, evSep, evDig, eA, eP, p3, eK, eR]
        rw [hG]
        generalize evT (mkE (regT8 iR) 5 act (lineL iA)) = X at *
        generalize mkD 5 act (lineL iA) 0 = D0 at *
        generalize mkD 5 act (lineL iA) 1 = D1 at *
        simp only [bsT_def, sep4, List.map_cons, List.map_nil] at hm hT
        simp (config := { maxSteps := 2000000 }) (disch := (first | omega | (simp only [lens, lenm]; omega))) only [go_sem, ↓reduceIte, Nat.reduceAdd, Nat.reduceEqDiff, Nat.reduceSub, Nat.reduceMul, Nat.reduceLT, Nat.reduceLeDiff, Nat.reduceBEq, Int.reduceEq, Int.reduceLT, Int.reduceLE, Int.reduceToNat, Int.reduceNeg, Int.reduceAdd, Int.reduceSub, Int.reduceMul, Int.reduceMod, Int.reduceDiv, reduceCtorEq, Nat.reducePow, Int.reducePow, ac_draw_Codes_Event, cdOb_eq, h1, hL, h2, hP, p3b, hK, hR, hg, h3, hm, hT]
        all_goals rfl
      · have n2 : ¬ (1 + (iK : Int) = 2) := by omega
        have n5 : ¬ (1 + (iK : Int) = 5) := by omega
        have n2b : ((1 + iK : Nat) : Int) ≠ 2 := by omega
        have n5b : ((1 + iK : Nat) : Int) ≠ 5 := by omega
        have m2 : (((1 + iK : Nat) : Int) == 2) = false := by simpa using n2b
        have m5 : (((1 + iK : Nat) : Int) != 5) = true := by simpa using n5b
        have m5c : (((1 + iK : Nat) : Int) == 5) = false := by simpa using n5b
        have ek : (1 + (iK : Int)) = ((1 + iK : Nat) : Int) := by omega
        obtain ⟨iZ, bZ, aZ, eZ, lZ, okZ, hZ⟩ := nxF 4 okR (by omega) (by omega)
        simp only [k2, k4, k5, k8] at hZ
        by_cases z3 : iZ = 3
        · subst z3
          simp only [k3] at hZ
          obtain ⟨iY, bY, aY, eY, lY, okY, hY⟩ := nxF 4 okZ (by omega) (by omega)
          simp only [k2, k4, k5, k8] at hY
          have hm := make_eq (r := (regT8 iR)) (k := ((1 + iK : Nat) : Int)) (act := act) (d := (lineL iA)) ⟨⟨by omega, by omega⟩, by omega⟩
          have hd : ct_ddg.fs [.t (.int .i64 act), .t (.sl [byteT (UInt8.ofNat iY), byteT (UInt8.ofNat (1 + iK))])] [] = some (.sl 0 0 2, [.live 1 [.t (bsT (dgb act 0 [UInt8.ofNat iY, UInt8.ofNat (1 + iK)])), .t (bsT (dgb act 1 [UInt8.ofNat iY, UInt8.ofNat (1 + iK)]))] true false]) := ct_ddg.eq (act, [UInt8.ofNat iY, UInt8.ofNat (1 + iK)]) trivial
          have hG : evG (bC, aC) act = (((regT8 iR), (1 + (iK : Int)), dgB act [UInt8.ofNat iY, UInt8.ofNat (1 + (iK : Int)).toNat], (lineL iA)), (bY, aY)) := by simp only [evG, evData, evKind, evSep, evDig, eA, eP, p3, eK, eR, n2, n5, eZ, eY, ↓reduceIte, Nat.reduceEqDiff]
          rw [ek, Int.toNat_natCast] at hG
          have hT : evT ((regT8 iR), ((1 + iK : Nat) : Int), dgB act [UInt8.ofNat iY, UInt8.ofNat (1 + iK)], (lineL iA)) = .agg [.int .i64 (regT8 iR), .int .i64 ((1 + iK : Nat) : Int), .sl [bsT (dgb act 0 [UInt8.ofNat iY, UInt8.ofNat (1 + iK)]), bsT (dgb act 1 [UInt8.ofNat iY, UInt8.ofNat (1 + iK)])], .sl (((lineL iA)).map byteT)] := rfl
          rw [hG]
          generalize evT ((regT8 iR), ((1 + iK : Nat) : Int), dgB act [UInt8.ofNat iY, UInt8.ofNat (1 + iK)], (lineL iA)) = X at *
          generalize mkD ((1 + iK : Nat) : Int) act (lineL iA) 0 = D0 at *
          generalize mkD ((1 + iK : Nat) : Int) act (lineL iA) 1 = D1 at *
          generalize dgb act 0 [UInt8.ofNat iY, UInt8.ofNat (1 + iK)] = E0 at *
          generalize dgb act 1 [UInt8.ofNat iY, UInt8.ofNat (1 + iK)] = E1 at *
          simp only [bsT_def, sep4, List.map_cons, List.map_nil] at hm hT hd
          simp (config := { maxSteps := 2000000 }) (disch := (first | omega | (simp only [lens, lenm]; omega))) only [go_sem, ↓reduceIte, Nat.reduceAdd, Nat.reduceEqDiff, Nat.reduceSub, Nat.reduceMul, Nat.reduceLT, Nat.reduceLeDiff, Nat.reduceBEq, Int.reduceEq, Int.reduceLT, Int.reduceLE, Int.reduceToNat, Int.reduceNeg, Int.reduceAdd, Int.reduceSub, Int.reduceMul, Int.reduceMod, Int.reduceDiv, reduceCtorEq, Nat.reducePow, Int.reducePow, ac_draw_Codes_Event, cdOb_eq, h1, hL, h2, hP, p3b, hK, hR, hg, m2, m5, m5c, hZ, hY, h3, hm, hT, h4, hd, w2]
          all_goals rfl
        · have z3b : ((iZ : Int) == 3) = false := by simpa using (by omega : ¬ (iZ : Int) = 3)
          have hm := make_eq (r := (regT8 iR)) (k := ((1 + iK : Nat) : Int)) (act := act) (d := (lineL iA)) ⟨⟨by omega, by omega⟩, by omega⟩
          have hT : evT (mkE (regT8 iR) ((1 + iK : Nat) : Int) act (lineL iA)) = .agg [.int .i64 (regT8 iR), .int .i64 ((1 + iK : Nat) : Int), .sl [bsT (mkD ((1 + iK : Nat) : Int) act (lineL iA) 0), bsT (mkD ((1 + iK : Nat) : Int) act (lineL iA) 1)], .sl (((lineL iA)).map byteT)] := rfl
          have hG : evG (bC, aC) act = (mkE (regT8 iR) (1 + (iK : Int)) act (lineL iA), (bZ, aZ)) := by simp only [evG, evData, evKind, evSep, evDig, eA, eP, p3, eK, eR, n2, n5, eZ, z3, ↓reduceIte, Nat.reduceEqDiff]
          rw [ek] at hG
          rw [hG]
          generalize evT (mkE (regT8 iR) ((1 + iK : Nat) : Int) act (lineL iA)) = X at *
          generalize mkD ((1 + iK : Nat) : Int) act (lineL iA) 0 = D0 at *
          generalize mkD ((1 + iK : Nat) : Int) act (lineL iA) 1 = D1 at *
          simp only [bsT_def, sep4, List.map_cons, List.map_nil] at hm hT
          simp (config := { maxSteps := 2000000 }) (disch := (first | omega | (simp only [lens, lenm]; omega))) only [go_sem, ↓reduceIte, Nat.reduceAdd, Nat.reduceEqDiff, Nat.reduceSub, Nat.reduceMul, Nat.reduceLT, Nat.reduceLeDiff, Nat.reduceBEq, Int.reduceEq, Int.reduceLT, Int.reduceLE, Int.reduceToNat, Int.reduceNeg, Int.reduceAdd, Int.reduceSub, Int.reduceMul, Int.reduceMod, Int.reduceDiv, reduceCtorEq, Nat.reducePow, Int.reducePow, ac_draw_Codes_Event, cdOb_eq, h1, hL, h2, hP, p3b, hK, hR, hg, m2, m5, m5c, hZ, z3b, h3, hm, hT]
          all_goals rfl
end Go.Eng
end
section
set_option maxRecDepth 20000
set_option maxHeartbeats 64000000
namespace Go.Eng
def rI (n : Int) : Prop := -9223372036854775808 ≤ n ∧ n < 9223372036854775808
def ct_dact : Ct where
  α := Int
  as x := [.t (.int .i64 x)]
  ins _ := []
  pre x := rI x
  r x := .t (.int .i64 (1 + modI x 3))
  outs _ := []
  inj := by
    intro a b h _
    simp only [List.cons.injEq, V.t.injEq, T.int.injEq, true_and, and_true] at h
    subst h; exact ⟨rfl, rfl⟩
theorem dact_eq {a : Int} (h : rI a) : ct_dact.fs [.t (.int .i64 a)] [] = some (.t (.int .i64 (1 + modI a 3)), []) := ct_dact.eq a h
theorem w_draw_Active (tab : Tab) (gl : Gl) (n1 : Nat) (h1 : tab.look n1 = some ct_mod.fs) (a : Int) (ha : rI a) :
    (ac_draw_Active n1).wp tab gl (zipF 0 [.t (.int .i64 a)]) (zipF 0 []) (resW [(2, none)] 0 (fun r o => r = .t (.int .i64 (1 + modI a 3)) ∧ o = [])) := by
  have hm := mod_eq (a := a) (b := 3) ⟨ha, by omega⟩
  have lm := modI_lt (a := a) (m := 3) (by omega)
  generalize modI a 3 = M at *
  simp (config := { maxSteps := 2000000 }) (disch := (first | omega | (simp only [lens, lenm]; omega))) only [go_sem, ↓reduceIte, Nat.reduceAdd, Nat.reduceEqDiff, Nat.reduceSub, Nat.reduceMul, Nat.reduceLT, Nat.reduceLeDiff, Nat.reduceBEq, Int.reduceEq, Int.reduceLT, Int.reduceLE, Int.reduceToNat, Int.reduceNeg, Int.reduceAdd, Int.reduceSub, Int.reduceMul, Int.reduceMod, Int.reduceDiv, reduceCtorEq, Nat.reducePow, Int.reducePow, ac_draw_Active, h1, hm]
theorem dgb_want {act : Int} {a : Nat} {b : List UInt8} {k : Int} (hk : k ≠ 5) : (dgb act a b).length = wantL k act a := by
  unfold dgb wantL
  have e : ((2 ^ a : Nat) : Int) = (2 : Int) ^ a := by norm_cast
  rw [e]
  by_cases h : act / 2 ^ a % 2 = 1
  · rw [if_pos h, if_pos ⟨hk, h⟩, dg1_length]
  · rw [if_neg h, if_neg (fun q => h q.2)]; rfl
theorem evG_ok {c : Cd} {act : Int} (ha : 1 ≤ act ∧ act ≤ 3) : chkE (evG c act).1 act = 0 ∧ wrE (evG c act).1 = true ∧ evM (evG c act).1 := by
  have hk := evKind_le (c := (evData c).2)
  have hs := evSep_le (k := (evKind (evData c).2).1) (r := (evKind (evData c).2).2.1) (d := (evData c).1) (c := (evKind (evData c).2).2.2) hk.2 evData_le
  have hG : evG c act = evDig (evKind (evData c).2).1 (evSep (evKind (evData c).2).1 (evKind (evData c).2).2.1 (evData c).1 (evKind (evData c).2).2.2).1 act (evSep (evKind (evData c).2).1 (evKind (evData c).2).2.1 (evData c).1 (evKind (evData c).2).2.2).2.1 (evSep (evKind (evData c).2).1 (evKind (evData c).2).2.1 (evData c).1 (evKind (evData c).2).2.2).2.2 := rfl
  rw [hG]
  obtain ⟨hs1, hs2⟩ := hs
  generalize (evSep (evKind (evData c).2).1 (evKind (evData c).2).2.1 (evData c).1 (evKind (evData c).2).2.2) = S at *
  obtain ⟨r, d, c'⟩ := S
  have hk1 := hk.1
  generalize (evKind (evData c).2).1 = k at *
  simp only at hs1 hs2 ⊢
  have mk : chkE (mkE r k act d) act = 0 ∧ wrE (mkE r k act d) = true ∧ evM (mkE r k act d) := ⟨mkE_ok hs1 hk1 ha (by omega), mkE_wr hs1 hk1 (by omega), mkE_m (by omega)⟩
  unfold evDig
  split
  · exact mk
  · split
    · rename_i h5 _
      generalize [UInt8.ofNat (nx (nx c' 4).2 4).1, UInt8.ofNat k.toNat] = x
      have g0 : (dgb act 0 x).length = wantL k act 0 := dgb_want h5
      have g1 : (dgb act 1 x).length = wantL k act 1 := dgb_want h5
      have w0 := wantL_le (k := k) (act := act) (a := 0)
      have w1 := wantL_le (k := k) (act := act) (a := 1)
      refine ⟨?_, ?_, ⟨⟨by simp [dgB], fun y hy => ?_⟩, by simp only; omega⟩⟩
      · unfold chkE dgB
        simp only
        rw [if_neg (by unfold badE; omega), if_neg (by omega), if_pos]
        rw [fitE_two, g0, g1, decide_eq_true rfl, decide_eq_true rfl]; rfl
      · show wrE (r, k, [dgb act 0 x, dgb act 1 x], d) = true
        rw [wrE_two (by unfold wrBad; omega), g0, g1, decide_eq_true w0, decide_eq_true w1]; rfl
      · simp only [dgB, List.mem_cons, List.not_mem_nil, or_false] at hy
        rcases hy with rfl | rfl <;> omega
    · exact mk
theorem devt_eq {c : Cd} {act : Int} (h : cdOk c ∧ 1 ≤ act ∧ act ≤ 3) : ct_devt.fs [.ref 0 0 0, .t (.int .i64 act)] [cdO c] = some (.t (evT (evG c act).1), [cdO (evG c act).2]) := ct_devt.eq (c, act) h
end Go.Eng
end
section
set_option maxRecDepth 20000
set_option maxHeartbeats 64000000
namespace Go.Eng
theorem encX_eq {a b : Int} {c : List (List UInt8)} {d : List UInt8} (h : evM (a, b, c, d)) (hw : wrE (a, b, c, d) = true) : ct_encX.fs [.t (.agg [.int .i64 a, .int .i64 b, .sl (c.map bsT), .sl (d.map byteT)])] [] = some (.sl 0 0 (encE (a, b, c, d)).length, [.live 1 (((encE (a, b, c, d)).map byteT).map V.t) true false]) := by
  have := ct_encX.eq (a, b, c, d) h
  have e1 : ct_encX.r (a, b, c, d) = .sl 0 0 (encE (a, b, c, d)).length := if_pos hw
  have e2 : ct_encX.outs (a, b, c, d) = [.live 1 (((encE (a, b, c, d)).map byteT).map V.t) true false] := if_pos hw
  rw [e1, e2] at this
  exact this
theorem encE_len {r k : Int} {ds : List (List UInt8)} {d : List UInt8} (h : wrE (r, k, ds, d) = true) : 0 < (encE (r, k, ds, d)).length ∧ (encE (r, k, ds, d)).length ≤ 1000 := by
  obtain ⟨_, _, hd, d0, d1, rfl, q0, q1⟩ := wrE_true h
  rw [encE_two, blL_len, blL_len, blL_len, List.length_append, beI_len, beI_len]
  omega
end Go.Eng
end
section
set_option maxRecDepth 20000
set_option maxHeartbeats 64000000
namespace Go.Eng
theorem beI1_inv {x : UInt8} : beI 1 ((beV [x] : Nat) : Int) 1 = [x] := by
  have e : beV [x] = x.toNat := by simp [beV]
  have hx := x.toNat_lt
  have m : m64 ((x.toNat : Nat) : Int) = x.toNat := by unfold m64; omega
  rw [beI_one, e, m, UInt8.ofNat_toNat]
theorem beI2_inv {x y : UInt8} : beI 2 ((beV [x, y] : Nat) : Int) 2 = [x, y] := by
  have hx := x.toNat_lt
  have hy := y.toNat_lt
  have m : m64 ((256 * x.toNat + y.toNat : Nat) : Int) = 256 * x.toNat + y.toNat := by unfold m64; omega
  have e1 : (256 * x.toNat + y.toNat) / 2 ^ (8 * (2 - 1 - 0)) = x.toNat := by
    rw [show (2 : Nat) ^ (8 * (2 - 1 - 0)) = 256 from rfl]; omega
  have e2 : UInt8.ofNat ((256 * x.toNat + y.toNat) / 2 ^ (8 * (2 - 1 - 1))) = y := by
    rw [show (2 : Nat) ^ (8 * (2 - 1 - 1)) = 1 from rfl, Nat.div_one]
    apply UInt8.toNat_inj.mp
    rw [UInt8.toNat_ofNat']
    omega
  rw [beV2, beI_succ, beI_succ, beI_zero, m, e1, e2, UInt8.ofNat_toNat]
  rfl
theorem drop1 {b : List UInt8} {a : Nat} (h : a + 1 ≤ b.length) : List.take 1 (List.drop a b) = [b.getD a 0] := by
  have e : List.drop a b = b[a]'(by omega) :: List.drop (a + 1) b := List.drop_eq_getElem_cons (by omega)
  have g0 : b.getD a 0 = b[a]'(by omega) := by simp [List.getD, show a < b.length by omega]
  rw [e, g0]; rfl
theorem take_add' {b : List UInt8} {a k : Nat} : b.take (a + k) = b.take a ++ (b.drop a).take k := List.take_add
theorem rdUint_inv {b : List UInt8} {a : Nat} {e : Int} (h : (rdUint (b, a, e) 1).2.2.2 = 0) : e = 0 ∧ (rdUint (b, a, e) 1).2 = (b, a + 1, 0) ∧ a + 1 ≤ b.length ∧ b.take (a + 1) = b.take a ++ beI 1 (rdUint (b, a, e) 1).1 1 := by
  unfold rdUint at *
  simp only at *
  by_cases c1 : e = 0
  · subst c1
    rw [if_neg (by simp)] at *
    by_cases c2 : b.length < a + 1
    · rw [if_pos c2] at h; simp at h
    · rw [if_neg c2] at *
      by_cases c3 : 9223372036854775808 ≤ beV (List.take 1 (List.drop a b))
      · rw [if_pos c3] at h; simp at h
      · rw [if_neg c3] at *
        refine ⟨rfl, rfl, by omega, ?_⟩
        rw [take_add', drop1 (by omega), beI1_inv]
  · rw [if_pos c1] at h; exact absurd h c1
theorem rdBlob_inv {b : List UInt8} {a k : Nat} {e : Int} (hk : k ≤ 65535) (h : (rdBlob (b, a, e) k).2.2.2 = 0) : e = 0 ∧ (rdBlob (b, a, e) k).2 = (b, a + 2 + (rdBlob (b, a, e) k).1.length, 0) ∧ a + 2 + (rdBlob (b, a, e) k).1.length ≤ b.length ∧ b.take (a + 2 + (rdBlob (b, a, e) k).1.length) = b.take a ++ (beI 2 ((rdBlob (b, a, e) k).1.length : Int) 2 ++ (rdBlob (b, a, e) k).1) := by
  unfold rdBlob at *
  simp only at *
  by_cases c1 : e = 0
  · subst c1
    rw [if_neg (by simp)] at *
    by_cases c2 : b.length < a + 2
    · rw [if_pos c2] at h; simp at h
    · rw [if_neg c2] at *
      by_cases c3 : k < beV (List.take 2 (List.drop a b))
      · rw [if_pos c3] at h; simp at h
      · rw [if_neg c3] at *
        by_cases c4 : b.length < a + 2 + beV (List.take 2 (List.drop a b))
        · rw [if_pos c4] at h; simp at h
        · rw [if_neg c4] at *
          have t2 := take2 (b := b) (a := a) (by omega)
          have hl : (List.take (beV (List.take 2 (List.drop a b))) (List.drop (a + 2) b)).length = beV (List.take 2 (List.drop a b)) := by
            rw [List.length_take, List.length_drop]; omega
          simp only [hl]
          refine ⟨trivial, trivial, by omega, ?_⟩
          rw [take_add' (a := a + 2), take_add' (a := a), List.append_assoc]
          congr 2
          rw [t2, beI2_inv]
  · rw [if_pos c1] at h; exact absurd h c1
theorem enc_dcEv {b : List UInt8} (h : (dcEv b).2 = 0) : encE' (dcEv b).1 = b := by
  have hc : rdEnd (rdEv (b, 0, 0)).2 = 0 ∧ wrE (rdEv (b, 0, 0)).1 = true := by
    by_cases c : rdEnd (rdEv (b, 0, 0)).2 = 0 ∧ wrE (rdEv (b, 0, 0)).1 = true
    · exact c
    · unfold dcEv at h; rw [if_neg c] at h; simp at h
  have hd : dcEv b = ((rdEv (b, 0, 0)).1, 0) := if_pos hc
  rw [hd]
  simp only
  unfold encE'
  rw [if_pos hc.2]
  obtain ⟨h1, -⟩ := hc
  unfold rdEv at *
  simp only at *
  obtain ⟨⟨r, b1, a1, e1⟩, hU1⟩ : ∃ x, rdUint (b, 0, 0) 1 = x := ⟨_, rfl⟩
  simp only [hU1] at h1 ⊢
  obtain ⟨⟨k, b2, a2, e2⟩, hU2⟩ : ∃ x, rdUint (b1, a1, e1) 1 = x := ⟨_, rfl⟩
  simp only [hU2] at h1 ⊢
  obtain ⟨⟨d0, b3, a3, e3⟩, hU3⟩ : ∃ x, rdBlob (b2, a2, e2) 32 = x := ⟨_, rfl⟩
  simp only [hU3] at h1 ⊢
  obtain ⟨⟨d1, b4, a4, e4⟩, hU4⟩ : ∃ x, rdBlob (b3, a3, e3) 32 = x := ⟨_, rfl⟩
  simp only [hU4] at h1 ⊢
  obtain ⟨⟨d, b5, a5, e5⟩, hU5⟩ : ∃ x, rdBlob (b4, a4, e4) 64 = x := ⟨_, rfl⟩
  simp only [hU5] at h1 ⊢
  have z5 : e5 = 0 ∧ ¬ a5 < b5.length := by
    unfold rdEnd at h1
    simp only at h1
    split at h1
    · simp at h1
    · rename_i hh; exact ⟨h1, fun x => hh ⟨h1, x⟩⟩
  have i5 := rdBlob_inv (b := b4) (a := a4) (e := e4) (k := 64) (by omega) (by rw [hU5]; exact z5.1)
  rw [hU5] at i5
  simp only [Prod.mk.injEq] at i5
  have i4 := rdBlob_inv (b := b3) (a := a3) (e := e3) (k := 32) (by omega) (by rw [hU4]; exact i5.1)
  rw [hU4] at i4
  simp only [Prod.mk.injEq] at i4
  have i3 := rdBlob_inv (b := b2) (a := a2) (e := e2) (k := 32) (by omega) (by rw [hU3]; exact i4.1)
  rw [hU3] at i3
  simp only [Prod.mk.injEq] at i3
  have i2 := rdUint_inv (b := b1) (a := a1) (e := e1) (by rw [hU2]; exact i3.1)
  rw [hU2] at i2
  simp only [Prod.mk.injEq] at i2
  have i1 := rdUint_inv (b := b) (a := 0) (e := 0) (by rw [hU1]; exact i2.1)
  rw [hU1] at i1
  simp only [Prod.mk.injEq] at i1
  obtain ⟨-, ⟨rfl, rfl, -⟩, l1, t1⟩ := i1
  obtain ⟨-, ⟨rfl, rfl, -⟩, l2, t2⟩ := i2
  obtain ⟨-, ⟨rfl, rfl, -⟩, l3, t3⟩ := i3
  obtain ⟨-, ⟨rfl, rfl, -⟩, l4, t4⟩ := i4
  obtain ⟨-, ⟨rfl, rfl, -⟩, l5, t5⟩ := i5
  rw [encE_two]
  unfold blL
  rw [t4, t3, t2, t1] at t5
  rw [List.take_of_length_le (by omega)] at t5
  rw [List.take_zero, List.nil_append] at t5
  rw [t5]
  simp only [List.append_assoc]
theorem wrE_m {e : Ev} (h : wrE e = true) : evM e := by
  obtain ⟨r, k, ds, d⟩ := e
  obtain ⟨-, -, hd, d0, d1, rfl, q0, q1⟩ := wrE_true h
  refine ⟨⟨?_, fun x hx => ?_⟩, ?_⟩
  · simp
  · simp only [List.mem_cons, List.not_mem_nil, or_false] at hx
    rcases hx with rfl | rfl <;> omega
  · simp only; omega
theorem dcEv_cases (b : List UInt8) : (∃ r k ds d, dcEv b = ((r, k, ds, d), 0) ∧ evM (r, k, ds, d) ∧ encE' (r, k, ds, d) = b) ∨ dcEv b = ((0, 0, [], []), 30) := by
  by_cases hc : rdEnd (rdEv (b, 0, 0)).2 = 0 ∧ wrE (rdEv (b, 0, 0)).1 = true
  · have hd : dcEv b = ((rdEv (b, 0, 0)).1, 0) := if_pos hc
    have he := enc_dcEv (b := b) (by rw [hd])
    rw [hd] at he
    have hm := wrE_m hc.2
    rw [hd]
    generalize (rdEv (b, 0, 0)).1 = e at *
    obtain ⟨r, k, ds, d⟩ := e
    exact Or.inl ⟨r, k, ds, d, rfl, hm, he⟩
  · exact Or.inr (if_neg hc)
theorem shr1 {x : Int} : binI .shr .i64 x .u64 1 = some (.int .i64 (x / 2)) := by
  change (if (1 : Int) < 0 then none else some (T.int .i64 (x.fdiv (2 ^ min (1 : Int).toNat 64)))) = _
  rw [if_neg (by omega), show min (1 : Int).toNat 64 = 1 from rfl, Int.fdiv_eq_ediv_of_nonneg _ (by decide)]
  rfl
end Go.Eng
end
section
set_option maxRecDepth 20000
set_option maxHeartbeats 64000000
namespace Go.Eng
theorem dec_facts {D : List UInt8} (hD : D.length < 1000000000) : ∃ r k ds d, ct_decE.fs [.t (.sl (D.map byteT))] [] = some (.tup [.t (.agg [.int .i64 r, .int .i64 k, .sl (ds.map bsT), .sl (d.map byteT)]), .t (.int .i64 (dcEv D).2)], []) ∧ evM (r, k, ds, d) ∧ ((dcEv D).2 = 0 ∧ encE' (r, k, ds, d) = D ∨ (dcEv D).2 = 30) := by
  have h := decE_eq hD
  rcases dcEv_cases D with ⟨r, k, ds, d, e, hm, he⟩ | e
  · rw [e] at h ⊢
    exact ⟨r, k, ds, d, h, hm, .inl ⟨rfl, he⟩⟩
  · rw [e] at h ⊢
    exact ⟨0, 0, [], [], h, ⟨⟨by simp, by simp⟩, by simp⟩, .inr rfl⟩
theorem w_EventDecode (tab : Tab) (gl : Gl) (n1 n2 n3 n4 n5 n6 n7 n8 n9 n10 n11 n12 : Nat) (h1 : tab.look n1 = some ct_awake.fs) (h2 : tab.look n2 = some ct_dnew.fs) (h3 : tab.look n3 = some ct_dact.fs) (h4 : tab.look n4 = some ct_devt.fs) (h5 : tab.look n5 = some ct_encX.fs) (h6 : tab.look n6 = some ct_mod.fs) (h7 : tab.look n7 = some ct_cut.fs) (h8 : tab.look n8 = some ct_decE.fs) (h9 : tab.look n9 = some ct_decE.fs) (h10 : tab.look n10 = some ct_sameE.fs) (h11 : tab.look n11 = some ct_encE.fs) (h12 : tab.look n12 = some ct_same.fs)
    (raw : List UInt8) (hraw : raw.length ≤ 9223372036854775807) (a : Int) (ha : rI a) (cs : List UInt8) (hcs : cs.length ≤ 9223372036854775807) (at' : Int) (hat : rI at') (by' : UInt8) (cut : Int) (hcut : rI cut) :
    (ac_law26_EventDecode n1 n2 n3 n4 n5 n6 n7 n8 n9 n10 n11 n12).wp tab gl (zipF 0 [.t (.sl (raw.map byteT)), .t (.int .i64 a), .t (.sl (cs.map byteT)), .t (.int .i64 at'), .t (byteT by'), .t (.int .i64 cut)]) (zipF 0 []) (resW [(12, none)] 0 (fun r' o => r' = .t (.bool true) ∧ o = [])) := by
  have lA := modI_lt (a := a) (m := 3) (by omega)
  have hA := dact_eq ha
  have hN : ct_dnew.fs [.t (.sl (cs.map byteT)), .t (.int .i64 20)] [] = _ := dnew_eq (b := cs) (n := 20) ⟨hcs, by omega⟩
  have okN : cdOk (cs.take 20, 0) := ⟨Nat.zero_le _, by simp only [List.length_take]; omega⟩
  obtain ⟨A, hAe⟩ : ∃ A, 1 + modI a 3 = A := ⟨_, rfl⟩
  rw [hAe] at hA
  have lA2 : 1 ≤ A ∧ A ≤ 3 := by omega
  have hE := devt_eq (act := A) ⟨okN, lA2⟩
  obtain ⟨g1, g2, g3⟩ := evG_ok (c := (cs.take 20, 0)) lA2
  generalize (evG (cs.take 20, 0) A).2 = c' at *
  generalize (evG (cs.take 20, 0) A).1 = G at *
  obtain ⟨gr, gk, gds, gd⟩ := G
  obtain ⟨bc, ac⟩ := c'
  have x1 := encX_eq g3 g2
  have l1 := encE_len g2
  generalize encE (gr, gk, gds, gd) = B at *
  have mM := mod_eq (a := at') (b := (B.length : Int)) ⟨hat, by omega⟩
  have lM := modI_lt (a := at') (m := (B.length : Int)) (by omega)
  obtain ⟨i, hi⟩ : ∃ i : Nat, modI at' (B.length : Int) = i := ⟨(modI at' (B.length : Int)).toNat, by omega⟩
  rw [hi] at mM lM
  have c1 : ct_cut.fs [.t (.sl (raw.map byteT)), .t (.int .i64 300)] [] = _ := cut_eq (b := raw) (n := 300) ⟨hraw, by omega⟩
  have lC : (raw.take 300).length ≤ 300 := by rw [List.length_take]; omega
  simp only [cdO, evT_def, Int.natCast_zero] at hN hE
  generalize cs.take 20 = cs' at *
  generalize raw.take 300 = C at *
  have hL : (B.set i by').length = B.length := List.length_set
  have rF : rI (cut.fdiv 2) := by
    unfold rI at *
    rw [Int.fdiv_eq_ediv_of_nonneg _ (by decide)]; omega
  have mN := mod_eq (a := cut.fdiv 2) (b := ((B.length + 1 : Nat) : Int)) ⟨rF, by omega⟩
  have lN := modI_lt (a := cut.fdiv 2) (m := ((B.length + 1 : Nat) : Int)) (by omega)
  obtain ⟨j, hj⟩ : ∃ j : Nat, modI (cut.fdiv 2) ((B.length + 1 : Nat) : Int) = j := ⟨(modI (cut.fdiv 2) ((B.length + 1 : Nat) : Int)).toNat, by omega⟩
  rw [hj] at mN lN
  have fin : ∀ (D : List UInt8) (fs : Fs) (hs : Hs), D.length ≤ 1000 → Weak fs hs [(49, .t (.sl [bsT C, bsT D])), (50, .t (.int .i64 2)), (51, .t (.int .i64 0))] [] →
      loopW tab gl (ac_law26_EventDecode_L0 n8 n9 n10 n11 n12) fs hs (blockK 0 (seqK tab gl ((rG 65536 [mC 12 (V.t (T.bool true))]).seq AC.ret) (resW [(12, none)] 0 (fun r' o => r' = .t (.bool true) ∧ o = [])))) := by
    intro D fs hs hD hw
    refine loopW_weak hw ?_
    have one : ∀ (E : List UInt8), E.length ≤ 1000 → ∀ (k : Nat), k < 2 → [bsT C, bsT D][k]? = some (bsT E) → (ac_law26_EventDecode_L0 n8 n9 n10 n11 n12).wp tab gl [(49, .t (.sl [bsT C, bsT D])), (50, .t (.int .i64 2)), (51, .t (.int .i64 (k : Nat)))] [] (upK 2 (fun i => [(49, .t (.sl [bsT C, bsT D])), (50, .t (.int .i64 2)), (51, .t (.int .i64 (i : Nat)))]) (fun _ => []) k (blockK 0 (seqK tab gl ((rG 65536 [mC 12 (V.t (T.bool true))]).seq AC.ret) (resW [(12, none)] 0 (fun r' o => r' = .t (.bool true) ∧ o = []))))) := by
      intro E hE k hk hg
      obtain ⟨r', k', ds', d', hd, hm, hz⟩ := dec_facts (D := E) (by omega)
      have hs := sameE_refl hm
      have he := encE_eq hm
      have hg1 : [T.sl (C.map byteT), T.sl (D.map byteT)][k]? = some (.sl (E.map byteT)) := hg
      rcases hz with ⟨z, hE2⟩ | z
      · rw [hE2] at he
        have hq := same_eq (a := E) (b := E) ⟨by omega, by omega⟩
        rw [decide_eq_true rfl] at hq
        rw [z] at hd
        simp (config := { maxSteps := 2000000 }) (disch := (first | omega | (simp only [lens, lenm]; omega))) only [go_sem, ↓reduceIte, Nat.reduceAdd, Nat.reduceEqDiff, Nat.reduceSub, Nat.reduceMul, Nat.reduceLT, Nat.reduceLeDiff, Nat.reduceBEq, Int.reduceEq, Int.reduceLT, Int.reduceLE, Int.reduceToNat, Int.reduceNeg, Int.reduceAdd, Int.reduceSub, Int.reduceMul, Int.reduceMod, Int.reduceDiv, reduceCtorEq, Nat.reducePow, Int.reducePow, ac_law26_EventDecode_L0, bsT_def, List.map_cons, List.map_nil, hg1, h8, h9, hd, h10, hs, h11, he, h12, hq]
        repeat refine And.intro rfl ?_
        refine ⟨hk, Weak.rd id ?_ ?_ rfl⟩
        all_goals simp (config := { maxSteps := 2000000 }) (disch := (first | omega | (simp only [lens, lenm]; omega))) only [go_sem, ↓reduceIte, Nat.reduceAdd, Nat.reduceEqDiff, Nat.reduceSub, Nat.reduceMul, Nat.reduceLT, Nat.reduceLeDiff, Nat.reduceBEq, Int.reduceEq, Int.reduceLT, Int.reduceLE, Int.reduceToNat, Int.reduceNeg, Int.reduceAdd, Int.reduceSub, Int.reduceMul, Int.reduceMod, Int.reduceDiv, reduceCtorEq, Nat.reducePow, Int.reducePow, id, bsT_def]
      · rw [z] at hd
        simp (config := { maxSteps := 2000000 }) (disch := (first | omega | (simp only [lens, lenm]; omega))) only [go_sem, ↓reduceIte, Nat.reduceAdd, Nat.reduceEqDiff, Nat.reduceSub, Nat.reduceMul, Nat.reduceLT, Nat.reduceLeDiff, Nat.reduceBEq, Int.reduceEq, Int.reduceLT, Int.reduceLE, Int.reduceToNat, Int.reduceNeg, Int.reduceAdd, Int.reduceSub, Int.reduceMul, Int.reduceMod, Int.reduceDiv, reduceCtorEq, Nat.reducePow, Int.reducePow, ac_law26_EventDecode_L0, bsT_def, List.map_cons, List.map_nil, hg1, h8, h9, hd, h10, hs]
        repeat refine And.intro rfl ?_
        refine ⟨hk, Weak.rd id ?_ ?_ rfl⟩
        all_goals simp (config := { maxSteps := 2000000 }) (disch := (first | omega | (simp only [lens, lenm]; omega))) only [go_sem, ↓reduceIte, Nat.reduceAdd, Nat.reduceEqDiff, Nat.reduceSub, Nat.reduceMul, Nat.reduceLT, Nat.reduceLeDiff, Nat.reduceBEq, Int.reduceEq, Int.reduceLT, Int.reduceLE, Int.reduceToNat, Int.reduceNeg, Int.reduceAdd, Int.reduceSub, Int.reduceMul, Int.reduceMod, Int.reduceDiv, reduceCtorEq, Nat.reducePow, Int.reducePow, id, bsT_def]
    refine loop_upto 2 (fun i => [(49, .t (.sl [bsT C, bsT D])), (50, .t (.int .i64 2)), (51, .t (.int .i64 (i : Nat)))]) (fun _ => []) ?_ (fun k hk => ?_)
    · refine Weak.rd id ?_ ?_ rfl
      all_goals simp (config := { maxSteps := 2000000 }) (disch := (first | omega | (simp only [lens, lenm]; omega))) only [go_sem, ↓reduceIte, Nat.reduceAdd, Nat.reduceEqDiff, Nat.reduceSub, Nat.reduceMul, Nat.reduceLT, Nat.reduceLeDiff, Nat.reduceBEq, Int.reduceEq, Int.reduceLT, Int.reduceLE, Int.reduceToNat, Int.reduceNeg, Int.reduceAdd, Int.reduceSub, Int.reduceMul, Int.reduceMod, Int.reduceDiv, reduceCtorEq, Nat.reducePow, Int.reducePow, id]
    · rcases (show k = 0 ∨ k = 1 ∨ k = 2 by omega) with rfl | rfl | rfl
      · exact one C (by omega) 0 (by omega) rfl
      · exact one D hD 1 (by omega) rfl
      · simp (config := { maxSteps := 2000000 }) (disch := (first | omega | (simp only [lens, lenm]; omega))) only [go_sem, ↓reduceIte, Nat.reduceAdd, Nat.reduceEqDiff, Nat.reduceSub, Nat.reduceMul, Nat.reduceLT, Nat.reduceLeDiff, Nat.reduceBEq, Int.reduceEq, Int.reduceLT, Int.reduceLE, Int.reduceToNat, Int.reduceNeg, Int.reduceAdd, Int.reduceSub, Int.reduceMul, Int.reduceMod, Int.reduceDiv, reduceCtorEq, Nat.reducePow, Int.reducePow, ac_law26_EventDecode_L0]
  by_cases hc : cut % 2 = 1
  · have hcb : (cut % 2 == 1) = true := by rw [hc]; rfl
    have lj : j ≤ B.length := by omega
    simp (config := { maxSteps := 2000000 }) (disch := (first | omega | (simp only [lens, lenm]; omega))) only [go_sem, ↓reduceIte, Nat.reduceAdd, Nat.reduceEqDiff, Nat.reduceSub, Nat.reduceMul, Nat.reduceLT, Nat.reduceLeDiff, Nat.reduceBEq, Int.reduceEq, Int.reduceLT, Int.reduceLE, Int.reduceToNat, Int.reduceNeg, Int.reduceAdd, Int.reduceSub, Int.reduceMul, Int.reduceMod, Int.reduceDiv, reduceCtorEq, Nat.reducePow, Int.reducePow, ac_law26_EventDecode, evT_def, h1, awake_eq, h2, hN, h3, hA, h4, hE, h5, x1, h6, mM, h7, c1, and1, shr1, hcb, mN, hL]
    refine fin ((B.set i by').take j) _ _ (by rw [List.length_take]; omega) (Weak.cv (hv := []) (ho := []) [16464, 32816] id ?_ rfl)
    simp (config := { maxSteps := 2000000 }) (disch := (first | omega | (simp only [lens, lenm]; omega))) only [go_sem, ↓reduceIte, Nat.reduceAdd, Nat.reduceEqDiff, Nat.reduceSub, Nat.reduceMul, Nat.reduceLT, Nat.reduceLeDiff, Nat.reduceBEq, Int.reduceEq, Int.reduceLT, Int.reduceLE, Int.reduceToNat, Int.reduceNeg, Int.reduceAdd, Int.reduceSub, Int.reduceMul, Int.reduceMod, Int.reduceDiv, reduceCtorEq, Nat.reducePow, Int.reducePow, id, bsT_def]
    rfl
  · have hcb : (cut % 2 == 1) = false := by simpa using hc
    simp (config := { maxSteps := 2000000 }) (disch := (first | omega | (simp only [lens, lenm]; omega))) only [go_sem, ↓reduceIte, Nat.reduceAdd, Nat.reduceEqDiff, Nat.reduceSub, Nat.reduceMul, Nat.reduceLT, Nat.reduceLeDiff, Nat.reduceBEq, Int.reduceEq, Int.reduceLT, Int.reduceLE, Int.reduceToNat, Int.reduceNeg, Int.reduceAdd, Int.reduceSub, Int.reduceMul, Int.reduceMod, Int.reduceDiv, reduceCtorEq, Nat.reducePow, Int.reducePow, ac_law26_EventDecode, evT_def, h1, awake_eq, h2, hN, h3, hA, h4, hE, h5, x1, h6, mM, h7, c1, and1, shr1, hcb, hL]
    refine fin (B.set i by') _ _ (by omega) (Weak.cv (hv := []) (ho := []) [16464, 32816] id ?_ rfl)
    simp (config := { maxSteps := 2000000 }) (disch := (first | omega | (simp only [lens, lenm]; omega))) only [go_sem, ↓reduceIte, Nat.reduceAdd, Nat.reduceEqDiff, Nat.reduceSub, Nat.reduceMul, Nat.reduceLT, Nat.reduceLeDiff, Nat.reduceBEq, Int.reduceEq, Int.reduceLT, Int.reduceLE, Int.reduceToNat, Int.reduceNeg, Int.reduceAdd, Int.reduceSub, Int.reduceMul, Int.reduceMod, Int.reduceDiv, reduceCtorEq, Nat.reducePow, Int.reducePow, id, bsT_def, hL, List.take_of_length_le]
    rfl
end Go.Eng
end
section
set_option maxRecDepth 20000
namespace Go.Eng
open Go.MuLone
theorem tieW {P : Program} {G : Gl} {tab : Tab} {f : FuncId} {fn : Func} {c : Code} {ac : AC} {hints : List (Nat × List Nat)} {rs : List (Nat × Option (Nat × Bool))} (hf : P.funcs[f]? = some fn) (hname : (fn.name == "runtime.NumGoroutine") = false) (hb : fn.body = some c) (hann : ann P fn.ntmps hints c = some ac) (hmx : P.follows .mixedOrders = true)
    (ht : TabOk P G tab) (hrs : resOf P fn.results.toList = some rs) (ct : Ct) (hn : ∀ x, (ct.as x).length ≤ fn.ntmps) (hi : ∀ x, (ct.ins x).length ≤ 100)
    (h : ∀ x, ct.pre x → ac.wp tab G (zipF 0 (ct.as x)) (zipF 0 (ct.ins x)) (resW rs (ct.ins x).length (fun r' o' => r' = ct.r x ∧ o' = ct.outs x))) : FOk P G f ct.fs :=
  ct.ok (fun args w => run_callFunc_enter hf hname hb args w) (fun x hx => spec_of hf hb hann hmx ht hrs (hn x) (hi x) (h x hx))
theorem tieF {P : Program} {G : Gl} {tab : Tab} {f : FuncId} {fn : Func} {c : Code} {ac : AC} {hints : List (Nat × List Nat)} {rs : List (Nat × Option (Nat × Bool))} (fz : List Nat) (hf : P.funcs[f]? = some fn) (hname : (fn.name == "runtime.NumGoroutine") = false) (hb : fn.body = some c) (hann : ann P fn.ntmps hints c = some ac) (hmx : P.follows .mixedOrders = true)
    (ht : TabOk P G tab) (hrs : resOf P fn.results.toList = some rs) (ct : Ct) (hn : ∀ x, (ct.as x).length ≤ fn.ntmps) (hi : ∀ x, (ct.ins x).length ≤ 100)
    (h : ∀ x, ct.pre x → ac.wp tab G (zipF 0 (ct.as x)) (zipF 0 (ct.ins x)) (resF fz rs (ct.ins x).length (fun r' o' => r' = ct.r x ∧ o' = ct.outs x))) : FOk P G f ct.fs :=
  ct.ok (fun args w => run_callFunc_enter hf hname hb args w) (fun x hx => spec_live fz hf hb hann hmx ht hrs (hn x) (hi x) (h x hx))
theorem tieL {P : Program} {G : Gl} {tab : Tab} {f : FuncId} {fn : Func} {c : Code} {ac : AC} {hints : List (Nat × List Nat)} {rs : List (Nat × Option (Nat × Bool))} (hf : P.funcs[f]? = some fn) (hb : fn.body = some c) (hann : ann P fn.ntmps hints c = some ac) (hmx : P.follows .mixedOrders = true)
    (ht : TabOk P G tab) (hrs : resOf P fn.results.toList = some rs) {as : List V} (hn : as.length ≤ fn.ntmps)
    (h : ac.wp tab G (zipF 0 as) (zipF 0 []) (resW rs 0 (fun r o => r = .t (.bool true) ∧ o = []))) : Spec P G f as [] (.t (.bool true)) [] :=
  spec_of hf hb hann hmx ht hrs hn (Nat.zero_le _) h
end Go.Eng
end
