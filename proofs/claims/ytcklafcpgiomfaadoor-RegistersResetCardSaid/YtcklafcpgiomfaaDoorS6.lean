/- My own text: an abstract machine, its walks over the functions reached, and their tie to the program. -/
import Derived.Test.YtcklafcpgiomfaaDoorS5
import Derived.Test.YtcklafcpgiomfaaDoorS2
import Derived.Conc.MuLone
import Derived.Test.YtcklafcpgiomfaaDoorS4
import Derived.Lib.MakeNoZero
import Derived.Laws.Externs
set_option linter.unusedSimpArgs false
set_option linter.unusedVariables false
section
set_option maxRecDepth 20000
set_option maxHeartbeats 64000000
namespace Go.Eng
theorem bin_b_and {a b : UInt8} : binT .and (byteT a) (byteT b) = some (byteT (a &&& b)) := by
  change some (T.int .u8 (IntKind.u8.wrap ((BitVec.ofInt 8 (a.toNat : Int) &&& BitVec.ofInt 8 (b.toNat : Int)).toNat : Int))) = _
  have e : ∀ x : UInt8, BitVec.ofInt 8 (x.toNat : Int) = x.toBitVec := fun x => BitVec.eq_of_toNat_eq (by simp)
  rw [e, e, ← UInt8.toBitVec_and, wrap_u8]
  have := (a &&& b).toNat_lt
  unfold byteT
  rw [UInt8.toNat_toBitVec]
  congr 2; omega
theorem bin_b_rem {a b : UInt8} (h : b.toNat ≠ 0) : binT .rem (byteT a) (byteT b) = some (byteT (a % b)) := by
  have h2 : (b.toNat : Int) ≠ 0 := by omega
  change (if IntKind.u8 = IntKind.u8 ∧ (b.toNat : Int) ≠ 0 then some (T.int .u8 ((a.toNat : Int).tmod (b.toNat : Int))) else none) = _
  rw [if_pos ⟨rfl, h2⟩]
  have e : (a.toNat : Int).tmod (b.toNat : Int) = ((a % b).toNat : Int) := by rw [UInt8.toNat_mod]; rfl
  rw [e]; rfl
theorem rem6 {a : UInt8} : binT .rem (byteT a) (byteT 6) = some (byteT (a % 6)) := bin_b_rem (by decide)
def ct_mod : Ct where
  α := Int × Int
  as x := [.t (.int .i64 x.1), .t (.int .i64 x.2)]
  ins _ := []
  pre x := (-9223372036854775808 ≤ x.1 ∧ x.1 < 9223372036854775808) ∧ (-9223372036854775808 ≤ x.2 ∧ x.2 < 9223372036854775808)
  r x := .t (.int .i64 (modI x.1 x.2))
  outs _ := []
  inj := by
    rintro ⟨a, b⟩ ⟨c, d⟩ h _
    simp only [List.cons.injEq, V.t.injEq, T.int.injEq, true_and, and_true] at h
    obtain ⟨rfl, rfl⟩ := h
    exact ⟨rfl, rfl⟩
theorem mod_eq {a b : Int} (h : (-9223372036854775808 ≤ a ∧ a < 9223372036854775808) ∧ (-9223372036854775808 ≤ b ∧ b < 9223372036854775808)) : ct_mod.fs [.t (.int .i64 a), .t (.int .i64 b)] [] = some (.t (.int .i64 (modI a b)), []) := ct_mod.eq (a, b) h
theorem w_RegistersExtend (tab : Tab) (gl : Gl) (n1 n2 n3 n4 n5 n6 n7 : Nat) (h1 : tab.look n1 = some ct_awake.fs) (h2 : tab.look n2 = some ct_drR.fs) (h3 : tab.look n3 = some ct_ddg.fs) (h4 : tab.look n4 = some ct_mod.fs) (h5 : tab.look n5 = some ct_ext.fs) (h6 : tab.look n6 = some ct_ext.fs) (h7 : tab.look n7 = some ct_eqR.fs)
    (s : Int) (cs : List UInt8) (hcs : cs.length ≤ 9223372036854775807) (l i : Int) (hl : -9223372036854775808 ≤ l ∧ l < 9223372036854775808) (hi : -9223372036854775808 ≤ i ∧ i < 9223372036854775808) (b : List UInt8) (raw : List (List UInt8)) (hraw : raw.length ≤ 9223372036854775807) (hrw : ∀ d ∈ raw, d.length < 9223372036854775808) (how : UInt8) :
    (ac_law8_RegistersExtend n1 n2 n3 n4 n5 n6 n7).wp tab gl (zipF 0 [.t (.int .i64 s), .t (.sl (cs.map byteT)), .t (.int .i64 l), .t (.int .i64 i), .t (.sl (b.map byteT)), .t (.sl (raw.map bsT)), .t (byteT how)]) (zipF 0 []) (resW [(14, none)] 0 (fun r o => r = .t (.bool true) ∧ o = [])) := by
  by_cases h44 : 4 < raw.length
  · simp (config := { maxSteps := 2000000 }) (disch := (first | omega | (simp only [lens, lenm]; omega))) only [go_sem, ↓reduceIte, Nat.reduceAdd, Nat.reduceEqDiff, Nat.reduceSub, Nat.reduceMul, Nat.reduceLT, Nat.reduceLeDiff, Nat.reduceBEq, Int.reduceEq, Int.reduceLT, Int.reduceLE, Int.reduceToNat, Int.reduceNeg, Int.reduceAdd, Int.reduceSub, Int.reduceMul, Int.reduceMod, Int.reduceDiv, reduceCtorEq, Nat.reducePow, Int.reducePow, ac_law8_RegistersExtend, h1, awake_eq]
  obtain ⟨bk, u, hv, hu0, hu1, hd⟩ := drR_eq (s := s) hcs
  have hX : ∀ (p k : Int) (ds : List (List UInt8)), ds.length < 1000000000 → (∀ d ∈ ds, d.length < 9223372036854775808) → ∃ bk' u' e, ct_ext.fs [.t (.agg [.sl (bk.map bankT), .int .i64 u]), .t (.int .i64 p), .t (.int .i64 k), .t (.sl (ds.map bsT))] [] = some (.tup [.t (.agg [.sl (bk'.map bankT), .int .i64 u']), .t (.int .i64 e)], []) ∧ RM bk' := by
    intro p k ds hs1 hs2
    obtain ⟨bk', u', e, h1, h2, _⟩ := extR_rv (u := u) (l := p) (i := k) (ds := ds) hv
    have hE := ct_ext.eq (bk, u, p, k, ds) ⟨hv, ⟨hu0, by show u < 1000000000; omega⟩, hs1, hs2⟩
    refine ⟨bk', u', e, ?_, h2.rm⟩
    have hE2 : ct_ext.fs [.t (.agg [.sl (bk.map bankT), .int .i64 u]), .t (.int .i64 p), .t (.int .i64 k), .t (.sl (ds.map bsT))] [] = some (extR bk u p k ds, []) := hE
    rw [hE2, h1]; rfl
  have hD : ct_ddg.fs [.t (.int .i64 s), .t (.sl (b.map byteT))] [] = some (.sl 0 0 2, [.live 1 [.t (.sl ((dgb s 0 b).map byteT)), .t (.sl ((dgb s 1 b).map byteT))] true false]) := ct_ddg.eq (s, b) trivial
  have b0 := dgb_len (s := s) (a := 0) (b := b) (by omega)
  have b1 := dgb_len (s := s) (a := 1) (b := b) (by omega)
  have m1 := mod_eq (a := l) (b := 5) ⟨hl, by decide⟩
  have m2 := mod_eq (a := i) (b := 16) ⟨hi, by decide⟩
  by_cases q : how &&& 64 = 0
  · have qd : decide (how &&& 64 = 0) = true := by simp [q]
    by_cases q0 : how % 6 = 0
    · have d0 : decide (how % 6 = 0) = true := by simp [q0]
      obtain ⟨bk', u', e, hE, hm⟩ := hX (modI l 5) (modI i 16) raw (by omega) hrw
      have hs := eqR_eq (u := u') hm
      simp (config := { maxSteps := 2000000 }) (disch := (first | omega | (simp only [lens, lenm]; omega))) only [go_sem, ↓reduceIte, Nat.reduceAdd, Nat.reduceEqDiff, Nat.reduceSub, Nat.reduceMul, Nat.reduceLT, Nat.reduceLeDiff, Nat.reduceBEq, Int.reduceEq, Int.reduceLT, Int.reduceLE, Int.reduceToNat, Int.reduceNeg, Int.reduceAdd, Int.reduceSub, Int.reduceMul, Int.reduceMod, Int.reduceDiv, reduceCtorEq, Nat.reducePow, Int.reducePow, ac_law8_RegistersExtend, h1, h2, h3, h4, h5, h6, h7, awake_eq, hd, hD, rem6, bin_b_and, qd, m1, m2, hE, hs, d0]
    · have d0 : decide (how % 6 = 0) = false := by simp [q0]
      by_cases q1 : how % 6 = 1
      · have d1 : decide (how % 6 = 1) = true := by simp [q1]
        obtain ⟨bk', u', e, hE, hm⟩ := hX (modI l 5) (modI i 16) [[1], dgb s 1 b] (by simp) (by intro d hd; simp at hd; rcases hd with rfl | rfl; simp; omega)
        have hs := eqR_eq (u := u') hm
        simp only [List.map_cons, List.map_nil, bsT_def] at hE
        simp (config := { maxSteps := 2000000 }) (disch := (first | omega | (simp only [lens, lenm]; omega))) only [go_sem, ↓reduceIte, Nat.reduceAdd, Nat.reduceEqDiff, Nat.reduceSub, Nat.reduceMul, Nat.reduceLT, Nat.reduceLeDiff, Nat.reduceBEq, Int.reduceEq, Int.reduceLT, Int.reduceLE, Int.reduceToNat, Int.reduceNeg, Int.reduceAdd, Int.reduceSub, Int.reduceMul, Int.reduceMod, Int.reduceDiv, reduceCtorEq, Nat.reducePow, Int.reducePow, ac_law8_RegistersExtend, h1, h2, h3, h4, h5, h6, h7, awake_eq, hd, hD, rem6, bin_b_and, qd, m1, m2, hE, hs, d0, d1]
        all_goals try rfl
      · have d1 : decide (how % 6 = 1) = false := by simp [q1]
        by_cases q2 : how % 6 = 2
        · have d2 : decide (how % 6 = 2) = true := by simp [q2]
          obtain ⟨bk', u', e, hE, hm⟩ := hX (modI l 5) (modI i 16) [dgb s 0 b, []] (by simp) (by intro d hd; simp at hd; rcases hd with rfl | rfl; omega; simp)
          have hs := eqR_eq (u := u') hm
          simp only [List.map_cons, List.map_nil, bsT_def] at hE
          simp (config := { maxSteps := 2000000 }) (disch := (first | omega | (simp only [lens, lenm]; omega))) only [go_sem, ↓reduceIte, Nat.reduceAdd, Nat.reduceEqDiff, Nat.reduceSub, Nat.reduceMul, Nat.reduceLT, Nat.reduceLeDiff, Nat.reduceBEq, Int.reduceEq, Int.reduceLT, Int.reduceLE, Int.reduceToNat, Int.reduceNeg, Int.reduceAdd, Int.reduceSub, Int.reduceMul, Int.reduceMod, Int.reduceDiv, reduceCtorEq, Nat.reducePow, Int.reducePow, ac_law8_RegistersExtend, h1, h2, h3, h4, h5, h6, h7, awake_eq, hd, hD, rem6, bin_b_and, qd, m1, m2, hE, hs, d0, d1, d2]
          all_goals try rfl
        · have d2 : decide (how % 6 = 2) = false := by simp [q2]
          obtain ⟨bk', u', e, hE, hm⟩ := hX (modI l 5) (modI i 16) [dgb s 0 b, dgb s 1 b] (by simp) (by intro d hd; simp at hd; rcases hd with rfl | rfl <;> omega)
          have hs := eqR_eq (u := u') hm
          simp only [List.map_cons, List.map_nil, bsT_def] at hE
          simp (config := { maxSteps := 2000000 }) (disch := (first | omega | (simp only [lens, lenm]; omega))) only [go_sem, ↓reduceIte, Nat.reduceAdd, Nat.reduceEqDiff, Nat.reduceSub, Nat.reduceMul, Nat.reduceLT, Nat.reduceLeDiff, Nat.reduceBEq, Int.reduceEq, Int.reduceLT, Int.reduceLE, Int.reduceToNat, Int.reduceNeg, Int.reduceAdd, Int.reduceSub, Int.reduceMul, Int.reduceMod, Int.reduceDiv, reduceCtorEq, Nat.reducePow, Int.reducePow, ac_law8_RegistersExtend, h1, h2, h3, h4, h5, h6, h7, awake_eq, hd, hD, rem6, bin_b_and, qd, m1, m2, hE, hs, d0, d1, d2]
          all_goals try rfl
  · have qd : decide (how &&& 64 = 0) = false := by simp [q]
    by_cases q0 : how % 6 = 0
    · have d0 : decide (how % 6 = 0) = true := by simp [q0]
      obtain ⟨bk', u', e, hE, hm⟩ := hX l i raw (by omega) hrw
      have hs := eqR_eq (u := u') hm
      simp (config := { maxSteps := 2000000 }) (disch := (first | omega | (simp only [lens, lenm]; omega))) only [go_sem, ↓reduceIte, Nat.reduceAdd, Nat.reduceEqDiff, Nat.reduceSub, Nat.reduceMul, Nat.reduceLT, Nat.reduceLeDiff, Nat.reduceBEq, Int.reduceEq, Int.reduceLT, Int.reduceLE, Int.reduceToNat, Int.reduceNeg, Int.reduceAdd, Int.reduceSub, Int.reduceMul, Int.reduceMod, Int.reduceDiv, reduceCtorEq, Nat.reducePow, Int.reducePow, ac_law8_RegistersExtend, h1, h2, h3, h4, h5, h6, h7, awake_eq, hd, hD, rem6, bin_b_and, qd, m1, m2, hE, hs, d0]
    · have d0 : decide (how % 6 = 0) = false := by simp [q0]
      by_cases q1 : how % 6 = 1
      · have d1 : decide (how % 6 = 1) = true := by simp [q1]
        obtain ⟨bk', u', e, hE, hm⟩ := hX l i [[1], dgb s 1 b] (by simp) (by intro d hd; simp at hd; rcases hd with rfl | rfl; simp; omega)
        have hs := eqR_eq (u := u') hm
        simp only [List.map_cons, List.map_nil, bsT_def] at hE
        simp (config := { maxSteps := 2000000 }) (disch := (first | omega | (simp only [lens, lenm]; omega))) only [go_sem, ↓reduceIte, Nat.reduceAdd, Nat.reduceEqDiff, Nat.reduceSub, Nat.reduceMul, Nat.reduceLT, Nat.reduceLeDiff, Nat.reduceBEq, Int.reduceEq, Int.reduceLT, Int.reduceLE, Int.reduceToNat, Int.reduceNeg, Int.reduceAdd, Int.reduceSub, Int.reduceMul, Int.reduceMod, Int.reduceDiv, reduceCtorEq, Nat.reducePow, Int.reducePow, ac_law8_RegistersExtend, h1, h2, h3, h4, h5, h6, h7, awake_eq, hd, hD, rem6, bin_b_and, qd, m1, m2, hE, hs, d0, d1]
        all_goals try rfl
      · have d1 : decide (how % 6 = 1) = false := by simp [q1]
        by_cases q2 : how % 6 = 2
        · have d2 : decide (how % 6 = 2) = true := by simp [q2]
          obtain ⟨bk', u', e, hE, hm⟩ := hX l i [dgb s 0 b, []] (by simp) (by intro d hd; simp at hd; rcases hd with rfl | rfl; omega; simp)
          have hs := eqR_eq (u := u') hm
          simp only [List.map_cons, List.map_nil, bsT_def] at hE
          simp (config := { maxSteps := 2000000 }) (disch := (first | omega | (simp only [lens, lenm]; omega))) only [go_sem, ↓reduceIte, Nat.reduceAdd, Nat.reduceEqDiff, Nat.reduceSub, Nat.reduceMul, Nat.reduceLT, Nat.reduceLeDiff, Nat.reduceBEq, Int.reduceEq, Int.reduceLT, Int.reduceLE, Int.reduceToNat, Int.reduceNeg, Int.reduceAdd, Int.reduceSub, Int.reduceMul, Int.reduceMod, Int.reduceDiv, reduceCtorEq, Nat.reducePow, Int.reducePow, ac_law8_RegistersExtend, h1, h2, h3, h4, h5, h6, h7, awake_eq, hd, hD, rem6, bin_b_and, qd, m1, m2, hE, hs, d0, d1, d2]
          all_goals try rfl
        · have d2 : decide (how % 6 = 2) = false := by simp [q2]
          obtain ⟨bk', u', e, hE, hm⟩ := hX l i [dgb s 0 b, dgb s 1 b] (by simp) (by intro d hd; simp at hd; rcases hd with rfl | rfl <;> omega)
          have hs := eqR_eq (u := u') hm
          simp only [List.map_cons, List.map_nil, bsT_def] at hE
          simp (config := { maxSteps := 2000000 }) (disch := (first | omega | (simp only [lens, lenm]; omega))) only [go_sem, ↓reduceIte, Nat.reduceAdd, Nat.reduceEqDiff, Nat.reduceSub, Nat.reduceMul, Nat.reduceLT, Nat.reduceLeDiff, Nat.reduceBEq, Int.reduceEq, Int.reduceLT, Int.reduceLE, Int.reduceToNat, Int.reduceNeg, Int.reduceAdd, Int.reduceSub, Int.reduceMul, Int.reduceMod, Int.reduceDiv, reduceCtorEq, Nat.reducePow, Int.reducePow, ac_law8_RegistersExtend, h1, h2, h3, h4, h5, h6, h7, awake_eq, hd, hD, rem6, bin_b_and, qd, m1, m2, hE, hs, d0, d1, d2]
          all_goals try rfl
theorem w_RegistersEvent (tab : Tab) (gl : Gl) (n1 n2 n3 n4 n5 n6 : Nat) (h1 : tab.look n1 = some ct_awake.fs) (h2 : tab.look n2 = some ct_drR.fs) (h3 : tab.look n3 = some ct_mod.fs) (h4 : tab.look n4 = some ct_ev.fs) (h5 : tab.look n5 = some ct_ev.fs) (h6 : tab.look n6 = some ct_eqR.fs)
    (s : Int) (cs : List UInt8) (hcs : cs.length ≤ 9223372036854775807) (l i : Int) (hl : -9223372036854775808 ≤ l ∧ l < 9223372036854775808) (hi : -9223372036854775808 ≤ i ∧ i < 9223372036854775808) (data : List UInt8) (hda : data.length ≤ 9223372036854775807) (long : Bool) :
    (ac_law8_RegistersEvent n1 n2 n3 n4 n5 n6).wp tab gl (zipF 0 [.t (.int .i64 s), .t (.sl (cs.map byteT)), .t (.int .i64 l), .t (.int .i64 i), .t (.sl (data.map byteT)), .t (.bool long)]) (zipF 0 []) (resW [(12, none)] 0 (fun r o => r = .t (.bool true) ∧ o = [])) := by
  by_cases h128 : 128 < data.length
  · simp (config := { maxSteps := 2000000 }) (disch := (first | omega | (simp only [lens, lenm]; omega))) only [go_sem, ↓reduceIte, Nat.reduceAdd, Nat.reduceEqDiff, Nat.reduceSub, Nat.reduceMul, Nat.reduceLT, Nat.reduceLeDiff, Nat.reduceBEq, Int.reduceEq, Int.reduceLT, Int.reduceLE, Int.reduceToNat, Int.reduceNeg, Int.reduceAdd, Int.reduceSub, Int.reduceMul, Int.reduceMod, Int.reduceDiv, reduceCtorEq, Nat.reducePow, Int.reducePow, ac_law8_RegistersEvent, h1, awake_eq]
  obtain ⟨bk, u, hv, hu0, hu1, hd⟩ := drR_eq (s := s) hcs
  have hX : ∀ (p k : Int) (x : List UInt8), x.length < 1000000000 → ∃ bk' u' e, ct_ev.fs [.t (.agg [.sl (bk.map bankT), .int .i64 u]), .t (.int .i64 p), .t (.int .i64 k), .t (.sl (x.map byteT))] [] = some (.tup [.t (.agg [.sl (bk'.map bankT), .int .i64 u']), .t (.int .i64 e)], []) ∧ RM bk' := by
    intro p k x hs1
    obtain ⟨bk', u', e, h1, h2, _⟩ := evR_rv (u := u) (l := p) (i := k) (d := x) hv
    have hE := ct_ev.eq (bk, u, p, k, x) ⟨hv, ⟨hu0, by show u < 1000000000; omega⟩, hs1⟩
    refine ⟨bk', u', e, ?_, h2.rm⟩
    have hE2 : ct_ev.fs [.t (.agg [.sl (bk.map bankT), .int .i64 u]), .t (.int .i64 p), .t (.int .i64 k), .t (.sl (x.map byteT))] [] = some (evR bk u p k x, []) := hE
    rw [hE2, h1]; rfl
  have m1 := mod_eq (a := l) (b := 6) ⟨hl, by decide⟩
  have m2 := mod_eq (a := i) (b := 17) ⟨hi, by decide⟩
  cases long with
  | false =>
    obtain ⟨bk', u', e, hE, hm⟩ := hX (modI l 6) (modI i 17) data (by omega)
    have hs := eqR_eq (u := u') hm
    simp (config := { maxSteps := 2000000 }) (disch := (first | omega | (simp only [lens, lenm]; omega))) only [go_sem, ↓reduceIte, Nat.reduceAdd, Nat.reduceEqDiff, Nat.reduceSub, Nat.reduceMul, Nat.reduceLT, Nat.reduceLeDiff, Nat.reduceBEq, Int.reduceEq, Int.reduceLT, Int.reduceLE, Int.reduceToNat, Int.reduceNeg, Int.reduceAdd, Int.reduceSub, Int.reduceMul, Int.reduceMod, Int.reduceDiv, reduceCtorEq, Nat.reducePow, Int.reducePow, ac_law8_RegistersEvent, h1, h2, h3, h4, h5, h6, awake_eq, hd, m1, m2, hE, hs]
  | true =>
    obtain ⟨bk', u', e, hE, hm⟩ := hX (modI l 6) (modI i 17) (List.replicate 120 0 ++ data) (by simp; omega)
    have hs := eqR_eq (u := u') hm
    have hz : List.replicate 120 (V.t (byteT 0)) = ((List.replicate 120 (0 : UInt8)).map byteT).map V.t := by simp
    have ht : List.take (120 + data.length) (List.replicate 120 0 ++ data) = List.replicate 120 0 ++ data := List.take_of_length_le (by rw [List.length_append, List.length_replicate]; exact Nat.le_refl _)
    simp (config := { maxSteps := 2000000 }) (disch := (first | omega | (simp only [lens, lenm]; omega))) only [go_sem, ↓reduceIte, Nat.reduceAdd, Nat.reduceEqDiff, Nat.reduceSub, Nat.reduceMul, Nat.reduceLT, Nat.reduceLeDiff, Nat.reduceBEq, Int.reduceEq, Int.reduceLT, Int.reduceLE, Int.reduceToNat, Int.reduceNeg, Int.reduceAdd, Int.reduceSub, Int.reduceMul, Int.reduceMod, Int.reduceDiv, reduceCtorEq, Nat.reducePow, Int.reducePow, ac_law8_RegistersEvent, h1, h2, h3, h4, h5, h6, awake_eq, hd, m1, m2, hE, hs, hz, ht]
end Go.Eng
end
section
set_option maxRecDepth 20000
set_option maxHeartbeats 64000000
namespace Go.Eng
def evB (bk : List Bank) (n : Nat) (data : List UInt8) : List Bank := extBk bk n (digB bk data)
theorem RK.cases {bk : List Bank} (h : RK bk) : bk = [] ∨ ∃ b0 b1, bk = [b0, b1] ∧ bkOk b0 ∧ bkOk b1 := by
  cases h with
  | nil => exact .inl rfl
  | two b0 b1 h0 h1 => exact .inr ⟨b0, b1, rfl, h0, h1⟩
theorem digB_len0 {bk : List Bank} {data : List UInt8} : ((digB bk data).getD 0 []).length = if (bk.getD 0 []).length = 16 then 20 else 0 := by
  show (if onB bk 0 then sum1 data else []).length = _
  unfold onB
  by_cases h : (bk.getD 0 []).length = 16
  · rw [if_pos h, decide_eq_true h, if_pos rfl, sum1_length]
  · rw [if_neg h, decide_eq_false h]; rfl
theorem digB_len1 {bk : List Bank} {data : List UInt8} : ((digB bk data).getD 1 []).length = if (bk.getD 1 []).length = 16 then 32 else 0 := by
  show (if onB bk 1 then sum256 data else []).length = _
  unfold onB
  by_cases h : (bk.getD 1 []).length = 16
  · rw [if_pos h, decide_eq_true h, if_pos rfl, sum256_length]
  · rw [if_neg h, decide_eq_false h]; rfl
theorem ev_ok {bk : List Bank} {u i : Int} {data : List UInt8} (hi : 0 ≤ i ∧ i < 16) (hd : data.length ≤ 128) : evR bk u 4 i data = .tup [.t (regT (evB bk i.toNat data) (u + 1)), .t (.int .i64 0)] := by
  have hl : leastI i false ≤ 3 := by unfold leastI; split <;> (try split) <;> (try split) <;> simp_all
  have he : extE (bk.getD 0 []).length (bk.getD 1 []).length 4 i (digB bk data).length ((digB bk data).getD 0 []).length ((digB bk data).getD 1 []).length = 0 := by
    rw [digB_len0, digB_len1]
    have h2 : (digB bk data).length = 2 := rfl
    rw [h2]
    unfold extE
    rw [if_neg (by omega), if_neg (by omega), if_neg (by rintro (⟨h1, h2⟩ | ⟨h1, h2⟩) <;> (rw [if_neg h1] at h2; omega)), if_neg (by rintro (⟨h1, h2⟩ | ⟨h1, h2⟩) <;> exact h2 (if_pos h1))]
  rw [evR, if_neg (by omega), extR, if_pos he]; rfl
theorem evB_getD_length {bk : List Bank} {n : Nat} {data : List UInt8} (hk : RK bk) (a : Nat) : ((evB bk n data).getD a []).length = (bk.getD a []).length := by
  rcases hk.cases with rfl | ⟨b0, b1, rfl, h0, h1⟩
  · rfl
  · match a with
    | 0 => exact ext1_length
    | 1 => exact ext1_length
    | a + 2 => rfl
theorem onB_ev {bk : List Bank} {n : Nat} {data : List UInt8} (hk : RK bk) (a : Nat) : onB (evB bk n data) a = onB bk a := by
  unfold onB; rw [evB_getD_length hk]
theorem digB_ev {bk : List Bank} {n : Nat} {d data : List UInt8} (hk : RK bk) : digB (evB bk n d) data = digB bk data := by
  unfold digB; rw [onB_ev hk, onB_ev hk]
theorem getD_set {α : Type} {l : List α} {i j : Nat} {x d : α} (h : i ≠ j) : (l.set i x).getD j d = l.getD j d := by
  rw [List.getD_eq_getElem?_getD, List.getD_eq_getElem?_getD, List.getElem?_set_ne h]
theorem ext1_comm {a : Nat} {b : Bank} {i j : Nat} {d e : List UInt8} (h : i ≠ j) : ext1 a (ext1 a b i d) j e = ext1 a (ext1 a b j e) i d := by
  unfold ext1
  by_cases hb : List.length b = 16
  · rw [if_pos hb, if_pos hb, if_pos (by rw [List.length_set]; exact hb), if_pos (by rw [List.length_set]; exact hb), getD_set h, getD_set (Ne.symm h), List.set_comm _ _ h]
  · simp [hb]
theorem extBk_nil {i : Nat} {ds : List (List UInt8)} : extBk [] i ds = [] := rfl
theorem extBk_two {b0 b1 : Bank} {i : Nat} {ds : List (List UInt8)} : extBk [b0, b1] i ds = [ext1 0 b0 i (ds.getD 0 []), ext1 1 b1 i (ds.getD 1 [])] := rfl
theorem evB_comm {bk : List Bank} (hk : RK bk) {i j : Nat} {a b : List UInt8} (h : i ≠ j) : evB (evB bk i a) j b = evB (evB bk j b) i a := by
  have e0 : ∀ (n m : Nat) (d e : List UInt8), evB (evB bk n d) m e = extBk (extBk bk n (digB bk d)) m (digB bk e) := by
    intro n m d e
    rw [evB, digB_ev hk, evB]
  rw [e0, e0]
  rcases hk.cases with rfl | ⟨b0, b1, rfl, h0, h1⟩
  · simp only [extBk_nil]
  · rw [extBk_two, extBk_two, extBk_two, extBk_two, ext1_comm h, ext1_comm h]
theorem ev_eq4 {bk : List Bank} {u i : Int} {data : List UInt8} (hv : RV bk) (hu : 0 ≤ u ∧ u < 1000000000) (hi : 0 ≤ i ∧ i < 16) (hd : data.length ≤ 128) : ct_ev.fs [.t (.agg [.sl (bk.map bankT), .int .i64 u]), .t (.int .i64 4), .t (.int .i64 i), .t (.sl (data.map byteT))] [] = some (.tup [.t (.agg [.sl ((evB bk i.toNat data).map bankT), .int .i64 (u + 1)]), .t (.int .i64 0)], []) := by
  have hE := ct_ev.eq (bk, u, 4, i, data) ⟨hv, hu, by show data.length < 1000000000; omega⟩
  have hE2 : ct_ev.fs [.t (.agg [.sl (bk.map bankT), .int .i64 u]), .t (.int .i64 4), .t (.int .i64 i), .t (.sl (data.map byteT))] [] = some (evR bk u 4 i data, []) := hE
  rw [hE2, ev_ok hi hd]; rfl
theorem RV.ev {bk : List Bank} (h : RV bk) (n : Nat) (d : List UInt8) : RV (evB bk n d) := h.ext _ _
theorem w_RegistersCommute (tab : Tab) (gl : Gl) (n1 n2 n3 n4 : Nat) (h1 : tab.look n1 = some ct_awake.fs) (h2 : tab.look n2 = some ct_drR.fs) (h3 : tab.look n3 = some ct_ev.fs) (h4 : tab.look n4 = some ct_eqR.fs)
    (s : Int) (cs : List UInt8) (hcs : cs.length ≤ 9223372036854775807) (i j : Int) (a b : List UInt8) (ha : a.length ≤ 9223372036854775807) (hb : b.length ≤ 9223372036854775807) :
    (ac_law8_RegistersCommute n1 n2 n3 n4).wp tab gl (zipF 0 [.t (.int .i64 s), .t (.sl (cs.map byteT)), .t (.int .i64 i), .t (.int .i64 j), .t (.sl (a.map byteT)), .t (.sl (b.map byteT))]) (zipF 0 []) (resW [(12, none)] 0 (fun r o => r = .t (.bool true) ∧ o = [])) := by
  by_cases la : 60 < a.length
  · simp (config := { maxSteps := 2000000 }) (disch := (first | omega | (simp only [lens, lenm]; omega))) only [go_sem, ↓reduceIte, Nat.reduceAdd, Nat.reduceEqDiff, Nat.reduceSub, Nat.reduceMul, Nat.reduceLT, Nat.reduceLeDiff, Nat.reduceBEq, Int.reduceEq, Int.reduceLT, Int.reduceLE, Int.reduceToNat, Int.reduceNeg, Int.reduceAdd, Int.reduceSub, Int.reduceMul, Int.reduceMod, Int.reduceDiv, reduceCtorEq, Nat.reducePow, Int.reducePow, ac_law8_RegistersCommute, h1, awake_eq, la]
  by_cases lb : 60 < b.length
  · simp (config := { maxSteps := 2000000 }) (disch := (first | omega | (simp only [lens, lenm]; omega))) only [go_sem, ↓reduceIte, Nat.reduceAdd, Nat.reduceEqDiff, Nat.reduceSub, Nat.reduceMul, Nat.reduceLT, Nat.reduceLeDiff, Nat.reduceBEq, Int.reduceEq, Int.reduceLT, Int.reduceLE, Int.reduceToNat, Int.reduceNeg, Int.reduceAdd, Int.reduceSub, Int.reduceMul, Int.reduceMod, Int.reduceDiv, reduceCtorEq, Nat.reducePow, Int.reducePow, ac_law8_RegistersCommute, h1, awake_eq, la, lb]
  by_cases hij : i % 16 = j % 16
  · simp (config := { maxSteps := 2000000 }) (disch := (first | omega | (simp only [lens, lenm]; omega))) only [go_sem, ↓reduceIte, Nat.reduceAdd, Nat.reduceEqDiff, Nat.reduceSub, Nat.reduceMul, Nat.reduceLT, Nat.reduceLeDiff, Nat.reduceBEq, Int.reduceEq, Int.reduceLT, Int.reduceLE, Int.reduceToNat, Int.reduceNeg, Int.reduceAdd, Int.reduceSub, Int.reduceMul, Int.reduceMod, Int.reduceDiv, reduceCtorEq, Nat.reducePow, Int.reducePow, ac_law8_RegistersCommute, h1, awake_eq, la, lb, hij]
  obtain ⟨bk, u, hv, hu0, hu1, hd⟩ := drR_eq (s := s) hcs
  have hi : 0 ≤ i % 16 ∧ i % 16 < 16 := ⟨Int.emod_nonneg _ (by decide), Int.emod_lt_of_pos _ (by decide)⟩
  have hj : 0 ≤ j % 16 ∧ j % 16 < 16 := ⟨Int.emod_nonneg _ (by decide), Int.emod_lt_of_pos _ (by decide)⟩
  have hne : (i % 16).toNat ≠ (j % 16).toNat := by omega
  have hA := ev_eq4 (u := u) (data := a) hv ⟨hu0, by omega⟩ hi (by omega)
  have hB := ev_eq4 (u := u) (data := b) hv ⟨hu0, by omega⟩ hj (by omega)
  have hC := ev_eq4 (u := u + 1) (data := b) (hv.ev (i % 16).toNat a) ⟨by omega, by omega⟩ hj (by omega)
  have hD := ev_eq4 (u := u + 1) (data := a) (hv.ev (j % 16).toNat b) ⟨by omega, by omega⟩ hi (by omega)
  rw [← evB_comm hv.1 hne] at hD
  have e2 : u + 1 + 1 = u + 2 := by omega
  rw [e2] at hC hD
  have hS := eqR_eq (u := u + 2) ((hv.ev (i % 16).toNat a).ev (j % 16).toNat b).rm
  have dij : (i % 16 == j % 16) = false := by simpa using hij
  simp (config := { maxSteps := 2000000 }) (disch := (first | omega | (simp only [lens, lenm]; omega))) only [go_sem, ↓reduceIte, Nat.reduceAdd, Nat.reduceEqDiff, Nat.reduceSub, Nat.reduceMul, Nat.reduceLT, Nat.reduceLeDiff, Nat.reduceBEq, Int.reduceEq, Int.reduceLT, Int.reduceLE, Int.reduceToNat, Int.reduceNeg, Int.reduceAdd, Int.reduceSub, Int.reduceMul, Int.reduceMod, Int.reduceDiv, reduceCtorEq, Nat.reducePow, Int.reducePow, ac_law8_RegistersCommute, h1, h2, h3, h4, awake_eq, hd, la, lb, dij, hA, hB, hC, hD, hS]
end Go.Eng
end
section
set_option maxRecDepth 20000
set_option maxHeartbeats 64000000
namespace Go.Eng
theorem new_casesX (s : Int) : (newBk s = [] ∧ ct_new.fs [.t (.int .i64 s)] [] = some (.agg [.nil, .t (.int .i64 0)], [])) ∨ ∃ b0 b1 : Bank, newBk s = [b0, b1] ∧ bkOk b0 ∧ bkOk b1 ∧ ct_new.fs [.t (.int .i64 s)] [] = some (.agg [.sl 0 0 2, .t (.int .i64 0)], [.live 1 [.sl 1 0 b0.length, .sl 2 0 b1.length] true false, .live 1 ((b0.map bsT).map V.t) true false, .live 1 ((b1.map bsT).map V.t) true false]) := by
  have h := ct_new.eq s trivial
  rcases (newBk_rv (s := s)).cases with e | ⟨b0, b1, e, h0, h1, _, _⟩
  · refine .inl ⟨e, h.trans ?_⟩
    show some (twR (newBk s) 0, twO (newBk s)) = _
    rw [e]; rfl
  · refine .inr ⟨b0, b1, e, h0, h1, h.trans ?_⟩
    show some (twR (newBk s) 0, twO (newBk s)) = _
    rw [e]; rfl
theorem w_draw_Registers (tab : Tab) (gl : Gl) (n1 n2 n3 n4 n5 n6 : Nat) (h1 : tab.look n1 = some ct_new.fs) (h2 : tab.look n2 = some ct_ev.fs) (h3 : tab.look n3 = some ct_ddg.fs) (h4 : tab.look n4 = some ct_ext.fs) (h5 : tab.look n5 = some ct_rst.fs) (h6 : tab.look n6 = some ct_rsm.fs) (s : Int) (cs : List UInt8) (hcs : cs.length ≤ 9223372036854775807) :
    (ac_draw_Registers n1 n2 n3 n4 n5 n6).wp tab gl (zipF 0 [.t (.int .i64 s), .t (.sl (cs.map byteT))]) (zipF 0 []) (resW [(4, some (2, true))] 0 (fun r o => r = .t (regT (dr s cs).1 (dr s cs).2) ∧ o = [])) := by
  have body : ∀ (fs : Fs) (hs : Hs), Weak fs hs [(0, .t (.int .i64 s)), (1, .t (.sl (cs.map byteT))), (4, .ref 4096 0 0), (5, .ref 8224 0 0), (6, .t (.int .i64 0))] [(8224, .live 2 [.t (regT (newBk s) 0)] true true), (4096, .live 2 [.agg [.nil, .t (.int .i64 0)]] true true)] →
      loopW tab gl (ac_draw_Registers_L0 n2 n3 n4 n5 n6) fs hs (blockK 0 (seqK tab gl ((AC.reg 90112 none
        [⟨some 82, (.op (.load 2 true)), [.tmp 5], none⟩, ⟨none, (.op (.store 2)), [.tmp 4, .tmp 82], none⟩]).seq AC.ret) (resW [(4, some (2, true))] 0 (fun r o => r = .t (regT (dr s cs).1 (dr s cs).2) ∧ o = [])))) := by
    intro fs hs hw
    refine loopW_weak hw ?_
    refine loop_upto (min cs.length 12) (fun k => [(0, .t (.int .i64 s)), (1, .t (.sl (cs.map byteT))), (4, .ref 4096 0 0), (5, .ref 8224 0 0), (6, .t (.int .i64 k))]) (fun k => [(8224, .live 2 [.t (regT (drN s cs k).1 (drN s cs k).2)] true true), (4096, .live 2 [.agg [.nil, .t (.int .i64 0)]] true true)]) Weak.refl (fun k hk => ?_)
    by_cases hlt : k < min cs.length 12
    · have hlt1 : k < cs.length := by omega
      have hlt2 : k < 12 := by omega
      have hrs := drN_rs (s := s) (cs := cs) k
      have hstep : drN s cs (k + 1) = drS s k (cs.getD k 0).toNat (drN s cs k) := rfl
      obtain ⟨⟨bk, u⟩, hx⟩ : ∃ x, drN s cs k = x := ⟨_, rfl⟩
      rw [hx] at hrs hstep
      obtain ⟨hv, hu0, hu1⟩ := hrs
      simp only at hu0 hu1
      obtain ⟨c, hc⟩ : ∃ c, (cs.getD k 0).toNat = c := ⟨_, rfl⟩
      have hc8 : c < 256 := by rw [← hc]; exact UInt8.toNat_lt _
      rw [hc] at hstep
      have hu2 : u < 1000000000 := by omega
      by_cases hA : c % 8 < 3
      · have hst : drN s cs (k + 1) = evP (bk, u) 4 (c / 8 % 16 : Nat) [UInt8.ofNat c, UInt8.ofNat k] := by rw [hstep, drS, if_pos hA]
        obtain ⟨bk', u', e, he, hy⟩ := evR_ans (x := (bk, u)) (l := 4) (i := (c / 8 % 16 : Nat)) (d := [UInt8.ofNat c, UInt8.ofNat k])
        have hE := ct_ev.eq (bk, u, 4, ((c / 8 % 16 : Nat) : Int), [UInt8.ofNat c, UInt8.ofNat k]) ⟨hv, ⟨hu0, hu2⟩, by simp⟩
        have hE2 : ct_ev.fs [.t (.agg [.sl (bk.map bankT), .int .i64 u]), .t (.int .i64 4), .t (.int .i64 (c / 8 % 16 : Nat)), .t (.sl [byteT (UInt8.ofNat c), byteT (UInt8.ofNat k)])] [] = some (.tup [.t (.agg [.sl (bk'.map bankT), .int .i64 u']), .t (.int .i64 e)], []) := by rw [← he]; exact hE
        clear hE he
        by_cases he0 : e = 0
        · subst he0
          have hz : drN s cs (k + 1) = (bk', u') := by
            rw [hst]; rcases hy with ⟨h, h'⟩ | ⟨h, h'⟩
            · exact h'
            · exact absurd rfl h
          rcases (show c % 8 = 0 ∨ c % 8 = 1 ∨ c % 8 = 2 by omega) with h | h | h
          · simp (config := { maxSteps := 2000000 }) (disch := (first | omega | (simp only [lens, lenm]; omega))) only [go_sem, ↓reduceIte, Nat.reduceAdd, Nat.reduceEqDiff, Nat.reduceSub, Nat.reduceMul, Nat.reduceLT, Nat.reduceLeDiff, Nat.reduceBEq, Int.reduceEq, Int.reduceLT, Int.reduceLE, Int.reduceToNat, Int.reduceNeg, Int.reduceAdd, Int.reduceSub, Int.reduceMul, Int.reduceMod, Int.reduceDiv, reduceCtorEq, Nat.reducePow, Int.reducePow, ac_draw_Registers_L0, hx, hc, h, h2, hE2]
            repeat refine And.intro rfl ?_
            refine ⟨hlt, Weak.rd id ?_ ?_ rfl⟩
            all_goals simp (config := { maxSteps := 2000000 }) (disch := (first | omega | (simp only [lens, lenm]; omega))) only [go_sem, ↓reduceIte, Nat.reduceAdd, Nat.reduceEqDiff, Nat.reduceSub, Nat.reduceMul, Nat.reduceLT, Nat.reduceLeDiff, Nat.reduceBEq, Int.reduceEq, Int.reduceLT, Int.reduceLE, Int.reduceToNat, Int.reduceNeg, Int.reduceAdd, Int.reduceSub, Int.reduceMul, Int.reduceMod, Int.reduceDiv, reduceCtorEq, Nat.reducePow, Int.reducePow, id, hz]
          · simp (config := { maxSteps := 2000000 }) (disch := (first | omega | (simp only [lens, lenm]; omega))) only [go_sem, ↓reduceIte, Nat.reduceAdd, Nat.reduceEqDiff, Nat.reduceSub, Nat.reduceMul, Nat.reduceLT, Nat.reduceLeDiff, Nat.reduceBEq, Int.reduceEq, Int.reduceLT, Int.reduceLE, Int.reduceToNat, Int.reduceNeg, Int.reduceAdd, Int.reduceSub, Int.reduceMul, Int.reduceMod, Int.reduceDiv, reduceCtorEq, Nat.reducePow, Int.reducePow, ac_draw_Registers_L0, hx, hc, h, h2, hE2]
            repeat refine And.intro rfl ?_
            refine ⟨hlt, Weak.rd id ?_ ?_ rfl⟩
            all_goals simp (config := { maxSteps := 2000000 }) (disch := (first | omega | (simp only [lens, lenm]; omega))) only [go_sem, ↓reduceIte, Nat.reduceAdd, Nat.reduceEqDiff, Nat.reduceSub, Nat.reduceMul, Nat.reduceLT, Nat.reduceLeDiff, Nat.reduceBEq, Int.reduceEq, Int.reduceLT, Int.reduceLE, Int.reduceToNat, Int.reduceNeg, Int.reduceAdd, Int.reduceSub, Int.reduceMul, Int.reduceMod, Int.reduceDiv, reduceCtorEq, Nat.reducePow, Int.reducePow, id, hz]
          · simp (config := { maxSteps := 2000000 }) (disch := (first | omega | (simp only [lens, lenm]; omega))) only [go_sem, ↓reduceIte, Nat.reduceAdd, Nat.reduceEqDiff, Nat.reduceSub, Nat.reduceMul, Nat.reduceLT, Nat.reduceLeDiff, Nat.reduceBEq, Int.reduceEq, Int.reduceLT, Int.reduceLE, Int.reduceToNat, Int.reduceNeg, Int.reduceAdd, Int.reduceSub, Int.reduceMul, Int.reduceMod, Int.reduceDiv, reduceCtorEq, Nat.reducePow, Int.reducePow, ac_draw_Registers_L0, hx, hc, h, h2, hE2]
            repeat refine And.intro rfl ?_
            refine ⟨hlt, Weak.rd id ?_ ?_ rfl⟩
            all_goals simp (config := { maxSteps := 2000000 }) (disch := (first | omega | (simp only [lens, lenm]; omega))) only [go_sem, ↓reduceIte, Nat.reduceAdd, Nat.reduceEqDiff, Nat.reduceSub, Nat.reduceMul, Nat.reduceLT, Nat.reduceLeDiff, Nat.reduceBEq, Int.reduceEq, Int.reduceLT, Int.reduceLE, Int.reduceToNat, Int.reduceNeg, Int.reduceAdd, Int.reduceSub, Int.reduceMul, Int.reduceMod, Int.reduceDiv, reduceCtorEq, Nat.reducePow, Int.reducePow, id, hz]
        · have hz : drN s cs (k + 1) = (bk, u) := by
            rw [hst]; rcases hy with ⟨h, h'⟩ | ⟨h, h'⟩
            · exact absurd h he0
            · exact h'
          rcases (show c % 8 = 0 ∨ c % 8 = 1 ∨ c % 8 = 2 by omega) with h | h | h
          · simp (config := { maxSteps := 2000000 }) (disch := (first | omega | (simp only [lens, lenm]; omega))) only [go_sem, ↓reduceIte, Nat.reduceAdd, Nat.reduceEqDiff, Nat.reduceSub, Nat.reduceMul, Nat.reduceLT, Nat.reduceLeDiff, Nat.reduceBEq, Int.reduceEq, Int.reduceLT, Int.reduceLE, Int.reduceToNat, Int.reduceNeg, Int.reduceAdd, Int.reduceSub, Int.reduceMul, Int.reduceMod, Int.reduceDiv, reduceCtorEq, Nat.reducePow, Int.reducePow, ac_draw_Registers_L0, hx, hc, h, he0, h2, hE2]
            repeat refine And.intro rfl ?_
            refine ⟨hlt, Weak.rd id ?_ ?_ rfl⟩
            all_goals simp (config := { maxSteps := 2000000 }) (disch := (first | omega | (simp only [lens, lenm]; omega))) only [go_sem, ↓reduceIte, Nat.reduceAdd, Nat.reduceEqDiff, Nat.reduceSub, Nat.reduceMul, Nat.reduceLT, Nat.reduceLeDiff, Nat.reduceBEq, Int.reduceEq, Int.reduceLT, Int.reduceLE, Int.reduceToNat, Int.reduceNeg, Int.reduceAdd, Int.reduceSub, Int.reduceMul, Int.reduceMod, Int.reduceDiv, reduceCtorEq, Nat.reducePow, Int.reducePow, id, hz]
          · simp (config := { maxSteps := 2000000 }) (disch := (first | omega | (simp only [lens, lenm]; omega))) only [go_sem, ↓reduceIte, Nat.reduceAdd, Nat.reduceEqDiff, Nat.reduceSub, Nat.reduceMul, Nat.reduceLT, Nat.reduceLeDiff, Nat.reduceBEq, Int.reduceEq, Int.reduceLT, Int.reduceLE, Int.reduceToNat, Int.reduceNeg, Int.reduceAdd, Int.reduceSub, Int.reduceMul, Int.reduceMod, Int.reduceDiv, reduceCtorEq, Nat.reducePow, Int.reducePow, ac_draw_Registers_L0, hx, hc, h, he0, h2, hE2]
            repeat refine And.intro rfl ?_
            refine ⟨hlt, Weak.rd id ?_ ?_ rfl⟩
            all_goals simp (config := { maxSteps := 2000000 }) (disch := (first | omega | (simp only [lens, lenm]; omega))) only [go_sem, ↓reduceIte, Nat.reduceAdd, Nat.reduceEqDiff, Nat.reduceSub, Nat.reduceMul, Nat.reduceLT, Nat.reduceLeDiff, Nat.reduceBEq, Int.reduceEq, Int.reduceLT, Int.reduceLE, Int.reduceToNat, Int.reduceNeg, Int.reduceAdd, Int.reduceSub, Int.reduceMul, Int.reduceMod, Int.reduceDiv, reduceCtorEq, Nat.reducePow, Int.reducePow, id, hz]
          · simp (config := { maxSteps := 2000000 }) (disch := (first | omega | (simp only [lens, lenm]; omega))) only [go_sem, ↓reduceIte, Nat.reduceAdd, Nat.reduceEqDiff, Nat.reduceSub, Nat.reduceMul, Nat.reduceLT, Nat.reduceLeDiff, Nat.reduceBEq, Int.reduceEq, Int.reduceLT, Int.reduceLE, Int.reduceToNat, Int.reduceNeg, Int.reduceAdd, Int.reduceSub, Int.reduceMul, Int.reduceMod, Int.reduceDiv, reduceCtorEq, Nat.reducePow, Int.reducePow, ac_draw_Registers_L0, hx, hc, h, he0, h2, hE2]
            repeat refine And.intro rfl ?_
            refine ⟨hlt, Weak.rd id ?_ ?_ rfl⟩
            all_goals simp (config := { maxSteps := 2000000 }) (disch := (first | omega | (simp only [lens, lenm]; omega))) only [go_sem, ↓reduceIte, Nat.reduceAdd, Nat.reduceEqDiff, Nat.reduceSub, Nat.reduceMul, Nat.reduceLT, Nat.reduceLeDiff, Nat.reduceBEq, Int.reduceEq, Int.reduceLT, Int.reduceLE, Int.reduceToNat, Int.reduceNeg, Int.reduceAdd, Int.reduceSub, Int.reduceMul, Int.reduceMod, Int.reduceDiv, reduceCtorEq, Nat.reducePow, Int.reducePow, id, hz]
      · by_cases hB : c % 8 < 6
        · have hst : drN s cs (k + 1) = extP (bk, u) 4 (c / 8 % 16 : Nat) (dgB s [UInt8.ofNat c, UInt8.ofNat k]) := by rw [hstep, drS, if_neg hA, if_pos hB]
          obtain ⟨bk', u', e, he, hy⟩ := extR_ans (x := (bk, u)) (l := 4) (i := (c / 8 % 16 : Nat)) (ds := dgB s [UInt8.ofNat c, UInt8.ofNat k])
          have hD : ct_ddg.fs [.t (.int .i64 s), .t (.sl [byteT (UInt8.ofNat c), byteT (UInt8.ofNat k)])] [] = some (.sl 0 0 2, [.live 1 [.t (.sl ((dgb s 0 [UInt8.ofNat c, UInt8.ofNat k]).map byteT)), .t (.sl ((dgb s 1 [UInt8.ofNat c, UInt8.ofNat k]).map byteT))] true false]) := ct_ddg.eq (s, [UInt8.ofNat c, UInt8.ofNat k]) trivial
          have hE := ct_ext.eq (bk, u, 4, ((c / 8 % 16 : Nat) : Int), dgB s [UInt8.ofNat c, UInt8.ofNat k]) ⟨hv, ⟨hu0, hu2⟩, dgB_pre⟩
          have hE2 : ct_ext.fs [.t (.agg [.sl (bk.map bankT), .int .i64 u]), .t (.int .i64 4), .t (.int .i64 (c / 8 % 16 : Nat)), .t (.sl [.sl ((dgb s 0 [UInt8.ofNat c, UInt8.ofNat k]).map byteT), .sl ((dgb s 1 [UInt8.ofNat c, UInt8.ofNat k]).map byteT)])] [] = some (.tup [.t (.agg [.sl (bk'.map bankT), .int .i64 u']), .t (.int .i64 e)], []) := by rw [← he]; exact hE
          clear hE he
          by_cases he0 : e = 0
          · subst he0
            have hz : drN s cs (k + 1) = (bk', u') := by
              rw [hst]; rcases hy with ⟨h, h'⟩ | ⟨h, h'⟩
              · exact h'
              · exact absurd rfl h
            rcases (show c % 8 = 3 ∨ c % 8 = 4 ∨ c % 8 = 5 by omega) with h | h | h
            · simp (config := { maxSteps := 2000000 }) (disch := (first | omega | (simp only [lens, lenm]; omega))) only [go_sem, ↓reduceIte, Nat.reduceAdd, Nat.reduceEqDiff, Nat.reduceSub, Nat.reduceMul, Nat.reduceLT, Nat.reduceLeDiff, Nat.reduceBEq, Int.reduceEq, Int.reduceLT, Int.reduceLE, Int.reduceToNat, Int.reduceNeg, Int.reduceAdd, Int.reduceSub, Int.reduceMul, Int.reduceMod, Int.reduceDiv, reduceCtorEq, Nat.reducePow, Int.reducePow, ac_draw_Registers_L0, hx, hc, h, h3, h4, hD, hE2]
              repeat refine And.intro rfl ?_
              refine ⟨hlt, Weak.rd id ?_ ?_ rfl⟩
              all_goals simp (config := { maxSteps := 2000000 }) (disch := (first | omega | (simp only [lens, lenm]; omega))) only [go_sem, ↓reduceIte, Nat.reduceAdd, Nat.reduceEqDiff, Nat.reduceSub, Nat.reduceMul, Nat.reduceLT, Nat.reduceLeDiff, Nat.reduceBEq, Int.reduceEq, Int.reduceLT, Int.reduceLE, Int.reduceToNat, Int.reduceNeg, Int.reduceAdd, Int.reduceSub, Int.reduceMul, Int.reduceMod, Int.reduceDiv, reduceCtorEq, Nat.reducePow, Int.reducePow, id, hz]
            · simp (config := { maxSteps := 2000000 }) (disch := (first | omega | (simp only [lens, lenm]; omega))) only [go_sem, ↓reduceIte, Nat.reduceAdd, Nat.reduceEqDiff, Nat.reduceSub, Nat.reduceMul, Nat.reduceLT, Nat.reduceLeDiff, Nat.reduceBEq, Int.reduceEq, Int.reduceLT, Int.reduceLE, Int.reduceToNat, Int.reduceNeg, Int.reduceAdd, Int.reduceSub, Int.reduceMul, Int.reduceMod, Int.reduceDiv, reduceCtorEq, Nat.reducePow, Int.reducePow, ac_draw_Registers_L0, hx, hc, h, h3, h4, hD, hE2]
              repeat refine And.intro rfl ?_
              refine ⟨hlt, Weak.rd id ?_ ?_ rfl⟩
              all_goals simp (config := { maxSteps := 2000000 }) (disch := (first | omega | (simp only [lens, lenm]; omega))) only [go_sem, ↓reduceIte, Nat.reduceAdd, Nat.reduceEqDiff, Nat.reduceSub, Nat.reduceMul, Nat.reduceLT, Nat.reduceLeDiff, Nat.reduceBEq, Int.reduceEq, Int.reduceLT, Int.reduceLE, Int.reduceToNat, Int.reduceNeg, Int.reduceAdd, Int.reduceSub, Int.reduceMul, Int.reduceMod, Int.reduceDiv, reduceCtorEq, Nat.reducePow, Int.reducePow, id, hz]
            · simp (config := { maxSteps := 2000000 }) (disch := (first | omega | (simp only [lens, lenm]; omega))) only [go_sem, ↓reduceIte, Nat.reduceAdd, Nat.reduceEqDiff, Nat.reduceSub, Nat.reduceMul, Nat.reduceLT, Nat.reduceLeDiff, Nat.reduceBEq, Int.reduceEq, Int.reduceLT, Int.reduceLE, Int.reduceToNat, Int.reduceNeg, Int.reduceAdd, Int.reduceSub, Int.reduceMul, Int.reduceMod, Int.reduceDiv, reduceCtorEq, Nat.reducePow, Int.reducePow, ac_draw_Registers_L0, hx, hc, h, h3, h4, hD, hE2]
              repeat refine And.intro rfl ?_
              refine ⟨hlt, Weak.rd id ?_ ?_ rfl⟩
              all_goals simp (config := { maxSteps := 2000000 }) (disch := (first | omega | (simp only [lens, lenm]; omega))) only [go_sem, ↓reduceIte, Nat.reduceAdd, Nat.reduceEqDiff, Nat.reduceSub, Nat.reduceMul, Nat.reduceLT, Nat.reduceLeDiff, Nat.reduceBEq, Int.reduceEq, Int.reduceLT, Int.reduceLE, Int.reduceToNat, Int.reduceNeg, Int.reduceAdd, Int.reduceSub, Int.reduceMul, Int.reduceMod, Int.reduceDiv, reduceCtorEq, Nat.reducePow, Int.reducePow, id, hz]
          · have hz : drN s cs (k + 1) = (bk, u) := by
              rw [hst]; rcases hy with ⟨h, h'⟩ | ⟨h, h'⟩
              · exact absurd h he0
              · exact h'
            rcases (show c % 8 = 3 ∨ c % 8 = 4 ∨ c % 8 = 5 by omega) with h | h | h
            · simp (config := { maxSteps := 2000000 }) (disch := (first | omega | (simp only [lens, lenm]; omega))) only [go_sem, ↓reduceIte, Nat.reduceAdd, Nat.reduceEqDiff, Nat.reduceSub, Nat.reduceMul, Nat.reduceLT, Nat.reduceLeDiff, Nat.reduceBEq, Int.reduceEq, Int.reduceLT, Int.reduceLE, Int.reduceToNat, Int.reduceNeg, Int.reduceAdd, Int.reduceSub, Int.reduceMul, Int.reduceMod, Int.reduceDiv, reduceCtorEq, Nat.reducePow, Int.reducePow, ac_draw_Registers_L0, hx, hc, h, he0, h3, h4, hD, hE2]
              repeat refine And.intro rfl ?_
              refine ⟨hlt, Weak.rd id ?_ ?_ rfl⟩
              all_goals simp (config := { maxSteps := 2000000 }) (disch := (first | omega | (simp only [lens, lenm]; omega))) only [go_sem, ↓reduceIte, Nat.reduceAdd, Nat.reduceEqDiff, Nat.reduceSub, Nat.reduceMul, Nat.reduceLT, Nat.reduceLeDiff, Nat.reduceBEq, Int.reduceEq, Int.reduceLT, Int.reduceLE, Int.reduceToNat, Int.reduceNeg, Int.reduceAdd, Int.reduceSub, Int.reduceMul, Int.reduceMod, Int.reduceDiv, reduceCtorEq, Nat.reducePow, Int.reducePow, id, hz]
            · simp (config := { maxSteps := 2000000 }) (disch := (first | omega | (simp only [lens, lenm]; omega))) only [go_sem, ↓reduceIte, Nat.reduceAdd, Nat.reduceEqDiff, Nat.reduceSub, Nat.reduceMul, Nat.reduceLT, Nat.reduceLeDiff, Nat.reduceBEq, Int.reduceEq, Int.reduceLT, Int.reduceLE, Int.reduceToNat, Int.reduceNeg, Int.reduceAdd, Int.reduceSub, Int.reduceMul, Int.reduceMod, Int.reduceDiv, reduceCtorEq, Nat.reducePow, Int.reducePow, ac_draw_Registers_L0, hx, hc, h, he0, h3, h4, hD, hE2]
              repeat refine And.intro rfl ?_
              refine ⟨hlt, Weak.rd id ?_ ?_ rfl⟩
              all_goals simp (config := { maxSteps := 2000000 }) (disch := (first | omega | (simp only [lens, lenm]; omega))) only [go_sem, ↓reduceIte, Nat.reduceAdd, Nat.reduceEqDiff, Nat.reduceSub, Nat.reduceMul, Nat.reduceLT, Nat.reduceLeDiff, Nat.reduceBEq, Int.reduceEq, Int.reduceLT, Int.reduceLE, Int.reduceToNat, Int.reduceNeg, Int.reduceAdd, Int.reduceSub, Int.reduceMul, Int.reduceMod, Int.reduceDiv, reduceCtorEq, Nat.reducePow, Int.reducePow, id, hz]
            · simp (config := { maxSteps := 2000000 }) (disch := (first | omega | (simp only [lens, lenm]; omega))) only [go_sem, ↓reduceIte, Nat.reduceAdd, Nat.reduceEqDiff, Nat.reduceSub, Nat.reduceMul, Nat.reduceLT, Nat.reduceLeDiff, Nat.reduceBEq, Int.reduceEq, Int.reduceLT, Int.reduceLE, Int.reduceToNat, Int.reduceNeg, Int.reduceAdd, Int.reduceSub, Int.reduceMul, Int.reduceMod, Int.reduceDiv, reduceCtorEq, Nat.reducePow, Int.reducePow, ac_draw_Registers_L0, hx, hc, h, he0, h3, h4, hD, hE2]
              repeat refine And.intro rfl ?_
              refine ⟨hlt, Weak.rd id ?_ ?_ rfl⟩
              all_goals simp (config := { maxSteps := 2000000 }) (disch := (first | omega | (simp only [lens, lenm]; omega))) only [go_sem, ↓reduceIte, Nat.reduceAdd, Nat.reduceEqDiff, Nat.reduceSub, Nat.reduceMul, Nat.reduceLT, Nat.reduceLeDiff, Nat.reduceBEq, Int.reduceEq, Int.reduceLT, Int.reduceLE, Int.reduceToNat, Int.reduceNeg, Int.reduceAdd, Int.reduceSub, Int.reduceMul, Int.reduceMod, Int.reduceDiv, reduceCtorEq, Nat.reducePow, Int.reducePow, id, hz]
        · by_cases hC : c % 8 = 6
          · have hst : drN s cs (k + 1) = rstP (bk, u) 4 (12 + c / 8 % 4 : Nat) := by rw [hstep, drS, if_neg hA, if_neg hB, if_pos hC]
            obtain ⟨bk', u', e, he, hy⟩ := rstR_ans (x := (bk, u)) (l := 4) (i := (12 + c / 8 % 4 : Nat))
            have hE := ct_rst.eq (bk, u, 4, ((12 + c / 8 % 4 : Nat) : Int)) ⟨hv.rm, hu0, hu2⟩
            have hE2 : ct_rst.fs [.t (.agg [.sl (bk.map bankT), .int .i64 u]), .t (.int .i64 4), .t (.int .i64 (12 + c / 8 % 4 : Nat))] [] = some (.tup [.t (.agg [.sl (bk'.map bankT), .int .i64 u']), .t (.int .i64 e)], []) := by rw [← he]; exact hE
            clear hE he
            have h : c % 8 = 6 := hC
            by_cases he0 : e = 0
            · subst he0
              have hz : drN s cs (k + 1) = (bk', u') := by
                rw [hst]; rcases hy with ⟨h, h'⟩ | ⟨h, h'⟩
                · exact h'
                · exact absurd rfl h
              simp (config := { maxSteps := 2000000 }) (disch := (first | omega | (simp only [lens, lenm]; omega))) only [go_sem, ↓reduceIte, Nat.reduceAdd, Nat.reduceEqDiff, Nat.reduceSub, Nat.reduceMul, Nat.reduceLT, Nat.reduceLeDiff, Nat.reduceBEq, Int.reduceEq, Int.reduceLT, Int.reduceLE, Int.reduceToNat, Int.reduceNeg, Int.reduceAdd, Int.reduceSub, Int.reduceMul, Int.reduceMod, Int.reduceDiv, reduceCtorEq, Nat.reducePow, Int.reducePow, ac_draw_Registers_L0, hx, hc, h, h5, hE2]
              repeat refine And.intro rfl ?_
              refine ⟨hlt, Weak.rd id ?_ ?_ rfl⟩
              all_goals simp (config := { maxSteps := 2000000 }) (disch := (first | omega | (simp only [lens, lenm]; omega))) only [go_sem, ↓reduceIte, Nat.reduceAdd, Nat.reduceEqDiff, Nat.reduceSub, Nat.reduceMul, Nat.reduceLT, Nat.reduceLeDiff, Nat.reduceBEq, Int.reduceEq, Int.reduceLT, Int.reduceLE, Int.reduceToNat, Int.reduceNeg, Int.reduceAdd, Int.reduceSub, Int.reduceMul, Int.reduceMod, Int.reduceDiv, reduceCtorEq, Nat.reducePow, Int.reducePow, id, hz]
            · have hz : drN s cs (k + 1) = (bk, u) := by
                rw [hst]; rcases hy with ⟨h, h'⟩ | ⟨h, h'⟩
                · exact absurd h he0
                · exact h'
              simp (config := { maxSteps := 2000000 }) (disch := (first | omega | (simp only [lens, lenm]; omega))) only [go_sem, ↓reduceIte, Nat.reduceAdd, Nat.reduceEqDiff, Nat.reduceSub, Nat.reduceMul, Nat.reduceLT, Nat.reduceLeDiff, Nat.reduceBEq, Int.reduceEq, Int.reduceLT, Int.reduceLE, Int.reduceToNat, Int.reduceNeg, Int.reduceAdd, Int.reduceSub, Int.reduceMul, Int.reduceMod, Int.reduceDiv, reduceCtorEq, Nat.reducePow, Int.reducePow, ac_draw_Registers_L0, hx, hc, h, he0, h5, hE2]
              repeat refine And.intro rfl ?_
              refine ⟨hlt, Weak.rd id ?_ ?_ rfl⟩
              all_goals simp (config := { maxSteps := 2000000 }) (disch := (first | omega | (simp only [lens, lenm]; omega))) only [go_sem, ↓reduceIte, Nat.reduceAdd, Nat.reduceEqDiff, Nat.reduceSub, Nat.reduceMul, Nat.reduceLT, Nat.reduceLeDiff, Nat.reduceBEq, Int.reduceEq, Int.reduceLT, Int.reduceLE, Int.reduceToNat, Int.reduceNeg, Int.reduceAdd, Int.reduceSub, Int.reduceMul, Int.reduceMod, Int.reduceDiv, reduceCtorEq, Nat.reducePow, Int.reducePow, id, hz]
          · have hz : drN s cs (k + 1) = (resBk bk, u) := by rw [hstep, drS, if_neg hA, if_neg hB, if_neg hC]
            have hE := ct_rsm.eq (bk, u) hv.rm
            have hE2 : ct_rsm.fs [.t (.agg [.sl (bk.map bankT), .int .i64 u])] [] = some (.t (.agg [.sl ((resBk bk).map bankT), .int .i64 u]), []) := hE
            have h : c % 8 = 7 := by omega
            simp (config := { maxSteps := 2000000 }) (disch := (first | omega | (simp only [lens, lenm]; omega))) only [go_sem, ↓reduceIte, Nat.reduceAdd, Nat.reduceEqDiff, Nat.reduceSub, Nat.reduceMul, Nat.reduceLT, Nat.reduceLeDiff, Nat.reduceBEq, Int.reduceEq, Int.reduceLT, Int.reduceLE, Int.reduceToNat, Int.reduceNeg, Int.reduceAdd, Int.reduceSub, Int.reduceMul, Int.reduceMod, Int.reduceDiv, reduceCtorEq, Nat.reducePow, Int.reducePow, ac_draw_Registers_L0, hx, hc, h, h6, hE2]
            repeat refine And.intro rfl ?_
            refine ⟨hlt, Weak.rd id ?_ ?_ rfl⟩
            all_goals simp (config := { maxSteps := 2000000 }) (disch := (first | omega | (simp only [lens, lenm]; omega))) only [go_sem, ↓reduceIte, Nat.reduceAdd, Nat.reduceEqDiff, Nat.reduceSub, Nat.reduceMul, Nat.reduceLT, Nat.reduceLeDiff, Nat.reduceBEq, Int.reduceEq, Int.reduceLT, Int.reduceLE, Int.reduceToNat, Int.reduceNeg, Int.reduceAdd, Int.reduceSub, Int.reduceMul, Int.reduceMod, Int.reduceDiv, reduceCtorEq, Nat.reducePow, Int.reducePow, id, hz]
    · have e : k = min cs.length 12 := by omega
      have hd : dr s cs = drN s cs k := by rw [dr, ← e]
      by_cases h12 : k = 12
      · have h13 : ¬ k < 12 := by omega
        by_cases h14 : k < cs.length
        · simp (config := { maxSteps := 2000000 }) (disch := (first | omega | (simp only [lens, lenm]; omega))) only [go_sem, ↓reduceIte, Nat.reduceAdd, Nat.reduceEqDiff, Nat.reduceSub, Nat.reduceMul, Nat.reduceLT, Nat.reduceLeDiff, Nat.reduceBEq, Int.reduceEq, Int.reduceLT, Int.reduceLE, Int.reduceToNat, Int.reduceNeg, Int.reduceAdd, Int.reduceSub, Int.reduceMul, Int.reduceMod, Int.reduceDiv, reduceCtorEq, Nat.reducePow, Int.reducePow, ac_draw_Registers_L0, h12, hd]
        · simp (config := { maxSteps := 2000000 }) (disch := (first | omega | (simp only [lens, lenm]; omega))) only [go_sem, ↓reduceIte, Nat.reduceAdd, Nat.reduceEqDiff, Nat.reduceSub, Nat.reduceMul, Nat.reduceLT, Nat.reduceLeDiff, Nat.reduceBEq, Int.reduceEq, Int.reduceLT, Int.reduceLE, Int.reduceToNat, Int.reduceNeg, Int.reduceAdd, Int.reduceSub, Int.reduceMul, Int.reduceMod, Int.reduceDiv, reduceCtorEq, Nat.reducePow, Int.reducePow, ac_draw_Registers_L0, h12, hd]
      · have e2 : ¬ k < cs.length := by omega
        simp (config := { maxSteps := 2000000 }) (disch := (first | omega | (simp only [lens, lenm]; omega))) only [go_sem, ↓reduceIte, Nat.reduceAdd, Nat.reduceEqDiff, Nat.reduceSub, Nat.reduceMul, Nat.reduceLT, Nat.reduceLeDiff, Nat.reduceBEq, Int.reduceEq, Int.reduceLT, Int.reduceLE, Int.reduceToNat, Int.reduceNeg, Int.reduceAdd, Int.reduceSub, Int.reduceMul, Int.reduceMod, Int.reduceDiv, reduceCtorEq, Nat.reducePow, Int.reducePow, ac_draw_Registers_L0, hd]
  rcases new_casesX s with ⟨e, hn⟩ | ⟨b0, b1, e, g0, g1, hn⟩
  · simp (config := { maxSteps := 2000000 }) (disch := (first | omega | (simp only [lens, lenm]; omega))) only [go_sem, ↓reduceIte, Nat.reduceAdd, Nat.reduceEqDiff, Nat.reduceSub, Nat.reduceMul, Nat.reduceLT, Nat.reduceLeDiff, Nat.reduceBEq, Int.reduceEq, Int.reduceLT, Int.reduceLE, Int.reduceToNat, Int.reduceNeg, Int.reduceAdd, Int.reduceSub, Int.reduceMul, Int.reduceMod, Int.reduceDiv, reduceCtorEq, Nat.reducePow, Int.reducePow, ac_draw_Registers, h1, hn]
    refine body _ _ ?_
    rw [e]
    refine Weak.rd id ?_ ?_ rfl
    all_goals simp (config := { maxSteps := 2000000 }) (disch := (first | omega | (simp only [lens, lenm]; omega))) only [go_sem, ↓reduceIte, Nat.reduceAdd, Nat.reduceEqDiff, Nat.reduceSub, Nat.reduceMul, Nat.reduceLT, Nat.reduceLeDiff, Nat.reduceBEq, Int.reduceEq, Int.reduceLT, Int.reduceLE, Int.reduceToNat, Int.reduceNeg, Int.reduceAdd, Int.reduceSub, Int.reduceMul, Int.reduceMod, Int.reduceDiv, reduceCtorEq, Nat.reducePow, Int.reducePow, id, List.map_nil, List.map_cons]
  · simp (config := { maxSteps := 2000000 }) (disch := (first | omega | (simp only [lens, lenm]; omega))) only [go_sem, ↓reduceIte, Nat.reduceAdd, Nat.reduceEqDiff, Nat.reduceSub, Nat.reduceMul, Nat.reduceLT, Nat.reduceLeDiff, Nat.reduceBEq, Int.reduceEq, Int.reduceLT, Int.reduceLE, Int.reduceToNat, Int.reduceNeg, Int.reduceAdd, Int.reduceSub, Int.reduceMul, Int.reduceMod, Int.reduceDiv, reduceCtorEq, Nat.reducePow, Int.reducePow, ac_draw_Registers, h1, hn]
    refine body _ _ ?_
    rw [e]
    refine Weak.cv (hv := []) [8209, 8210, 8208] id ?_ rfl
    simp (config := { maxSteps := 2000000 }) (disch := (first | omega | (simp only [lens, lenm]; omega))) only [go_sem, ↓reduceIte, Nat.reduceAdd, Nat.reduceEqDiff, Nat.reduceSub, Nat.reduceMul, Nat.reduceLT, Nat.reduceLeDiff, Nat.reduceBEq, Int.reduceEq, Int.reduceLT, Int.reduceLE, Int.reduceToNat, Int.reduceNeg, Int.reduceAdd, Int.reduceSub, Int.reduceMul, Int.reduceMod, Int.reduceDiv, reduceCtorEq, Nat.reducePow, Int.reducePow, id, List.map_nil, List.map_cons]
    rfl
end Go.Eng
end
section
set_option maxRecDepth 20000
namespace Go.Eng
open Go.MuLone
theorem tieW {P : Program} {G : Gl} {tab : Tab} {f : FuncId} {fn : Func} {c : Code} {ac : AC} {hints : List (Nat × List Nat)} {rs : List (Nat × Option (Nat × Bool))} (hf : P.funcs[f]? = some fn) (hname : (fn.name == "runtime.NumGoroutine") = false) (hb : fn.body = some c) (hann : ann P fn.ntmps hints c = some ac) (hmx : P.follows .mixedOrders = true)
    (ht : TabOk P G tab) (hrs : resOf P fn.results.toList = some rs) (ct : Ct) (hn : ∀ x, (ct.as x).length ≤ fn.ntmps) (hi : ∀ x, (ct.ins x).length ≤ 100)
    (h : ∀ x, ct.pre x → ac.wp tab G (zipF 0 (ct.as x)) (zipF 0 (ct.ins x)) (resW rs (ct.ins x).length (fun r' o' => r' = ct.r x ∧ o' = ct.outs x))) : FOk P G f ct.fs :=
  ct.ok (fun args w => run_callFunc_enter hf hname hb args w) (fun x hx => spec_of hf hb hann hmx ht hrs (hn x) (hi x) (h x hx))
theorem tieF {P : Program} {G : Gl} {tab : Tab} {f : FuncId} {fn : Func} {c : Code} {ac : AC} {hints : List (Nat × List Nat)} {rs : List (Nat × Option (Nat × Bool))} (fz : List Nat) (hf : P.funcs[f]? = some fn) (hname : (fn.name == "runtime.NumGoroutine") = false) (hb : fn.body = some c) (hann : ann P fn.ntmps hints c = some ac) (hmx : P.follows .mixedOrders = true)
    (ht : TabOk P G tab) (hrs : resOf P fn.results.toList = some rs) (ct : Ct) (hn : ∀ x, (ct.as x).length ≤ fn.ntmps) (hi : ∀ x, (ct.ins x).length ≤ 100)
    (h : ∀ x, ct.pre x → ac.wp tab G (zipF 0 (ct.as x)) (zipF 0 (ct.ins x)) (resF fz rs (ct.ins x).length (fun r' o' => r' = ct.r x ∧ o' = ct.outs x))) : FOk P G f ct.fs :=
  ct.ok (fun args w => run_callFunc_enter hf hname hb args w) (fun x hx => spec_live fz hf hb hann hmx ht hrs (hn x) (hi x) (h x hx))
theorem tieL {P : Program} {G : Gl} {tab : Tab} {f : FuncId} {fn : Func} {c : Code} {ac : AC} {hints : List (Nat × List Nat)} {rs : List (Nat × Option (Nat × Bool))} (hf : P.funcs[f]? = some fn) (hb : fn.body = some c) (hann : ann P fn.ntmps hints c = some ac) (hmx : P.follows .mixedOrders = true)
    (ht : TabOk P G tab) (hrs : resOf P fn.results.toList = some rs) {as : List V} (hn : as.length ≤ fn.ntmps)
    (h : ac.wp tab G (zipF 0 as) (zipF 0 []) (resW rs 0 (fun r o => r = .t (.bool true) ∧ o = []))) : Spec P G f as [] (.t (.bool true)) [] :=
  spec_of hf hb hann hmx ht hrs hn (Nat.zero_le _) h
end Go.Eng
end
section
set_option maxRecDepth 20000
namespace Go.Eng
theorem ok_mnz {P : Program} {G : Nat → Option (List T)} {f : FuncId} {fn : Func} {ps : Array TypeId} {t e : TypeId} (hf : P.funcs[f]? = some fn) (hname : (fn.name == "runtime.NumGoroutine") = false) (hb : fn.body.isNone = true) (hn : Extern.findNext fn = none)
    (he : Extern.find fn = some (Extern.BytealgMakeNoZero.makeNoZero ps #[t])) (ht : P.underlying t = some (.slice e)) : FOk P G f ct_mnz.fs := by
  intro as ins r outs hs
  have key : ∃ n : Nat, (n = 20 ∨ n = 32) ∧ as = [.t (.int .i64 n)] ∧ ins = [] ∧ r = .sl 0 0 n ∧ outs = [.live 1 [] true false] := by
    unfold Ct.fs at hs
    split at hs
    · rename_i hx
      cases hs
      have h1 := hx.choose_spec
      generalize hx.choose = y at h1 ⊢
      obtain ⟨⟨rfl, rfl⟩, h3⟩ := h1
      have h4 : (show Int from y) = 20 ∨ (show Int from y) = 32 := h3
      rcases h4 with h4 | h4
      · refine ⟨20, .inl rfl, ?_⟩
        have h5 : y = (20 : Int) := h4
        subst h5
        exact ⟨rfl, rfl, rfl, rfl⟩
      · refine ⟨32, .inr rfl, ?_⟩
        have h5 : y = (32 : Int) := h4
        subst h5
        exact ⟨rfl, rfl, rfl, rfl⟩
    · cases hs
  obtain ⟨n, hn2, rfl, rfl, rfl, rfl⟩ := key
  intro w β F vals env fits hargs
  have hvals : vals = #[.int .i64 n] := by
    obtain ⟨l⟩ := vals
    cases hargs with
    | cons h1 h2 =>
      cases h2
      cases h1 with
      | t h => cases h; rfl
  subst hvals
  obtain ⟨cs, hrun, hle, hmx⟩ := Lib.run_makeNoZero (P := P) w ps t e ht n (by omega)
  refine .inr ⟨.slice (some ⟨w.heap.size, 0, none⟩) n cs.size, w.drew.drew.alloc (.cells cs e), ?_, .slice (some ⟨w.heap.size, 0, none⟩) n cs.size, fun k => if k = 0 then some ⟨some w.heap.size, 1, cs.size⟩ else none, F, rfl, ?_⟩
  · rw [run_callFunc_extern hf hname hb hn he, hrun]; rfl
  · have hsz : (w.drew.drew.alloc (.cells cs e)).heap.size = w.heap.size + 1 := by
      show (w.heap.push _).size = _
      exact Array.size_push _
    have hnew : (w.drew.drew.alloc (.cells cs e)).heap[w.heap.size]? = some (.cells cs e) := by
      show (w.heap.push _)[w.heap.size]? = _
      simp
    have hold : ∀ b, b < w.heap.size → (w.drew.drew.alloc (.cells cs e)).heap[b]? = w.heap[b]? := by
      intro b hb
      show (w.heap.push _)[b]? = _
      rw [Array.getElem?_push, if_neg (by omega)]
    have hFb : ¬ F w.heap.size := fun h => absurd (env.Fw _ h) (by omega)
    have mx : n ≤ maxLen := by have : (32 : Nat) ≤ maxLen := by decide
                               omega
    refine ⟨⟨fun k o hk => ?_, fun k hk => ?_, fun i j bi bj b h1 h2 h3 h4 => ?_, fun k bi b h1 h2 => ?_⟩, ?_, fun k hk => ?_, fun k bi b _ h1 h2 => ?_, fun b _ => Iff.rfl, fun b hb => ?_, rfl, rfl, rfl, ?_, fun b hb _ => hold b hb⟩
    · cases k with
      | succ k => simp at hk
      | zero =>
        simp only [List.getElem?_cons_zero, Option.some.injEq] at hk
        subst hk
        refine ⟨_, if_pos rfl, ⟨rfl, by simp, cs, e, (0, 0), hnew, by omega, by simp, by simp, hmx mx, fun i x h => by simp at h, ?_⟩, 1, [], false, rfl⟩
        simpa using hFb
    · have : k ≠ 0 := by simp at hk; omega
      exact if_neg this
    · split at h1 <;> split at h2 <;> simp_all
    · split at h1
      · cases h1
        cases h2
        exact ⟨by rw [hsz]; omega, hFb⟩
      · cases h1
    · exact .sl 0 0 n cs.size w.heap.size 1 cs.size _ (if_pos rfl) hle (by omega) (fun _ => by simp) rfl
    · simp at hk
    · split at h1
      · cases h1
        cases h2
        exact Nat.le_refl _
      · cases h1
    · have := env.Fw b hb
      rw [hsz]; omega
    · rw [hsz]; omega
end Go.Eng
end
