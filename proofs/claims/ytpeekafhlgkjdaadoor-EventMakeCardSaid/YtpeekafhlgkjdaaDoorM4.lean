/- My own text: an abstract machine, its walks over the functions reached, and their tie to the program. -/
import Derived.Test.YtpeekafhlgkjdaaDoorM3
import Derived.Conc.MuLone
import Derived.Lib.MakeNoZero
import Derived.Laws.Externs
set_option linter.unusedSimpArgs false
set_option linter.unusedVariables false
section
set_option maxRecDepth 20000
set_option maxHeartbeats 64000000
namespace Go.Eng
theorem rdBlob_of {b p x t : List UInt8} {most : Nat} (hb : b = p ++ beI 2 (x.length : Int) 2 ++ x ++ t) (hx : x.length ≤ most) (hm : most ≤ 65535) : rdBlob (b, p.length, 0) most = (x, (b, p.length + 2 + x.length, 0)) := by
  have hlen : b.length = p.length + 2 + x.length + t.length := by rw [hb]; simp only [List.length_append, beI_len]
  have h1 : List.take 2 (List.drop p.length b) = beI 2 (x.length : Int) 2 := take_mid (t := x ++ t) (by rw [hb]; simp only [List.append_assoc]) beI_len
  have h2 : beV (beI 2 (x.length : Int) 2) = x.length := by
    rw [beV_all]
    have e : (256 : Nat) ^ 2 = 65536 := by decide
    have := m64_of (n := (x.length : Int)) (by omega)
    rw [e]; omega
  have h3 : List.take x.length (List.drop (p.length + 2) b) = x := by
    have := take_mid (b := b) (p := p ++ beI 2 (x.length : Int) 2) (q := x) (t := t) (k := x.length) hb rfl
    rw [List.length_append, beI_len] at this
    exact this
  unfold rdBlob
  simp only [h1, h2]
  rw [if_neg (by simp), if_neg (by omega), if_neg (by omega), if_neg (by omega), h3]
theorem beV_beI1 {n : Int} (h : 0 ≤ n ∧ n < 256) : ((beV (beI 1 n 1) : Nat) : Int) = n := by
  rw [beV_all]
  have := m64_of (n := n) (by omega)
  omega
theorem dcEv_enc {e : Ev} (h : wrE e = true) : dcEv (encE e) = (e, 0) := by
  obtain ⟨r, k, ds, d⟩ := e
  obtain ⟨rb, kb, hd, d0, d1, rfl, q0, q1⟩ := wrE_true h
  have hE : encE (r, k, [d0, d1], d) = beI 1 r 1 ++ beI 1 k 1 ++ beI 2 (d0.length : Int) 2 ++ d0 ++ beI 2 (d1.length : Int) 2 ++ d1 ++ beI 2 (d.length : Int) 2 ++ d := by
    rw [encE_two]; unfold blL; simp only [List.append_assoc]
  generalize hb : encE (r, k, [d0, d1], d) = b at *
  have v1 := beV_beI1 (n := r) (by omega)
  have v2 := beV_beI1 (n := k) (by omega)
  have r1 : rdUint (b, 0, 0) 1 = (r, (b, 1, 0)) := by
    have := rdUint_of (b := b) (p := []) (q := beI 1 r 1) (t := beI 1 k 1 ++ beI 2 (d0.length : Int) 2 ++ d0 ++ beI 2 (d1.length : Int) 2 ++ d1 ++ beI 2 (d.length : Int) 2 ++ d) (k := 1) (by rw [hE]; simp only [List.nil_append, List.append_assoc]) beI_len (by omega)
    rw [v1] at this
    exact this
  have r2 : rdUint (b, 1, 0) 1 = (k, (b, 2, 0)) := by
    have := rdUint_of (b := b) (p := beI 1 r 1) (q := beI 1 k 1) (t := beI 2 (d0.length : Int) 2 ++ d0 ++ beI 2 (d1.length : Int) 2 ++ d1 ++ beI 2 (d.length : Int) 2 ++ d) (k := 1) (by rw [hE]; simp only [List.append_assoc]) beI_len (by omega)
    rw [v2, beI_len] at this
    exact this
  have r3 : rdBlob (b, 2, 0) 32 = (d0, (b, 2 + 2 + d0.length, 0)) := by
    have := rdBlob_of (b := b) (p := beI 1 r 1 ++ beI 1 k 1) (x := d0) (t := beI 2 (d1.length : Int) 2 ++ d1 ++ beI 2 (d.length : Int) 2 ++ d) (most := 32) (by rw [hE]; simp only [List.append_assoc]) q0 (by omega)
    rw [List.length_append, beI_len, beI_len] at this
    exact this
  have r4 : rdBlob (b, 2 + 2 + d0.length, 0) 32 = (d1, (b, 2 + 2 + d0.length + 2 + d1.length, 0)) := by
    have := rdBlob_of (b := b) (p := beI 1 r 1 ++ beI 1 k 1 ++ beI 2 (d0.length : Int) 2 ++ d0) (x := d1) (t := beI 2 (d.length : Int) 2 ++ d) (most := 32) (by rw [hE]; simp only [List.append_assoc]) q1 (by omega)
    rw [List.length_append, List.length_append, List.length_append, beI_len, beI_len, beI_len] at this
    exact this
  have r5 : rdBlob (b, 2 + 2 + d0.length + 2 + d1.length, 0) 64 = (d, (b, 2 + 2 + d0.length + 2 + d1.length + 2 + d.length, 0)) := by
    have := rdBlob_of (b := b) (p := beI 1 r 1 ++ beI 1 k 1 ++ beI 2 (d0.length : Int) 2 ++ d0 ++ beI 2 (d1.length : Int) 2 ++ d1) (x := d) (t := []) (most := 64) (by rw [hE]; simp only [List.append_assoc, List.append_nil]) hd (by omega)
    simp only [List.length_append, beI_len] at this
    have e : 1 + 1 + 2 + d0.length + 2 + d1.length = 2 + 2 + d0.length + 2 + d1.length := by omega
    rw [e] at this
    exact this
  have hl : b.length = 2 + 2 + d0.length + 2 + d1.length + 2 + d.length := by rw [hE]; simp only [List.length_append, beI_len]
  have hR : rdEv (b, 0, 0) = ((r, k, [d0, d1], d), (b, b.length, 0)) := by
    unfold rdEv
    simp only [r1, r2, r3, r4, r5, hl]
  unfold dcEv
  rw [hR]
  have hend : rdEnd (b, b.length, 0) = 0 := by unfold rdEnd; rw [if_neg (by simp)]
  simp only
  rw [if_pos ⟨hend, h⟩]
theorem decE_eq {b : List UInt8} (h : b.length < 1000000000) : ct_decE.fs [.t (.sl (b.map byteT))] [] = some (.tup [.t (evT (dcEv b).1), .t (.int .i64 (dcEv b).2)], []) := ct_decE.eq b h
theorem con_eq {a b : Int} {c : List (List UInt8)} {d : List UInt8} (h : evM (a, b, c, d)) : ct_con.fs [.t (.agg [.int .i64 a, .int .i64 b, .sl (c.map bsT), .sl (d.map byteT)])] [] = some (.t (.bool (conE (a, b, c, d))), []) := ct_con.eq (a, b, c, d) h
theorem sameE_refl {a b : Int} {c : List (List UInt8)} {d : List UInt8} (h : evM (a, b, c, d)) : ct_sameE.fs [.t (.agg [.int .i64 a, .int .i64 b, .sl (c.map bsT), .sl (d.map byteT)]), .t (.agg [.int .i64 a, .int .i64 b, .sl (c.map bsT), .sl (d.map byteT)])] [] = some (.t (.bool true), []) := by
  have := ct_sameE.eq ((a, b, c, d), (a, b, c, d)) ⟨h, h⟩
  have e : ct_sameE.r ((a, b, c, d), (a, b, c, d)) = .t (.bool true) := by
    show V.t (.bool (decide ((a, b, c, d) = (a, b, c, d)))) = _
    rw [decide_eq_true rfl]
  rw [e] at this
  exact this
theorem w_awake26 (tab : Tab) (gl : Gl) (n1 n2 n3 n4 n5 n6 : Nat) (h1 : tab.look n1 = some ct_make.fs) (h2 : tab.look n2 = some ct_encE.fs) (h3 : tab.look n3 = some ct_decE.fs) (h4 : tab.look n4 = some ct_sameE.fs) (h5 : tab.look n5 = some ct_chk.fs) (h6 : tab.look n6 = some ct_con.fs) :
    (ac_law26_awake n1 n2 n3 n4 n5 n6).wp tab gl (zipF 0 []) (zipF 0 []) (resW [(0, none)] 0 (fun r o => r = .t (.bool true) ∧ o = [])) := by
  have hm0 := make_eq (r := 4) (k := 2) (act := 2) (d := sep4) ⟨by omega, by decide⟩
  have hx0 := make_eq (r := 4) (k := 2) (act := 2) (d := [120]) ⟨by omega, by decide⟩
  have a0 : mkD 2 2 sep4 0 = [] := by rw [mkD0]; simp
  have a1 : mkD 2 2 sep4 1 = sum256 sep4 := by rw [mkD1]; simp
  have x0 : mkD 2 2 [120] 0 = [] := by rw [mkD0]; simp
  have x1 : mkD 2 2 [120] 1 = sum256 [120] := by rw [mkD1]; simp
  rw [a0, a1] at hm0
  rw [x0, x1] at hx0
  have ls : (sum256 sep4).length = 32 := sum256_length
  have lx : (sum256 [120]).length = 32 := sum256_length
  have hcA : sumA 1 sep4 = sum256 sep4 := rfl
  have hc1 : conE (4, 2, [[], sum256 sep4], sep4) = true := by
    have q : conE (4, 2, [[], sum256 sep4], sep4) = conD 2 [[], sum256 sep4] sep4 := by unfold conE; simp
    rw [q]
    unfold conD
    have c0 : conA 2 [[], sum256 sep4] sep4 0 = true := conA_z rfl
    have c1 : conA 2 [[], sum256 sep4] sep4 1 = true := by
      unfold conA
      have e : [[], sum256 sep4].getD 1 [] = sum256 sep4 := rfl
      rw [e, hcA, decide_eq_true rfl]; simp
    rw [c0, c1]; rfl
  generalize sum256 sep4 = S at *
  generalize sum256 [120] = X at *
  have em : evM (4, 2, [[], S], sep4) := ⟨⟨by simp, fun x hx => by simp at hx; rcases hx with rfl | rfl <;> simp [ls]⟩, by simp [sep4]⟩
  have xm : evM (4, 2, [[], X], [120]) := ⟨⟨by simp, fun x hx => by simp at hx; rcases hx with rfl | rfl <;> simp [lx]⟩, by simp⟩
  have hwr : wrE (4, 2, [[], S], sep4) = true := by
    have := wrE_two (r := 4) (k := 2) (d0 := []) (d1 := S) (d := sep4) (by unfold wrBad; decide)
    rw [this, ls]; rfl
  have hen := encE_eq em
  have hde := dcEv_enc hwr
  have e1 : encE' (4, 2, [[], S], sep4) = encE (4, 2, [[], S], sep4) := if_pos hwr
  have lb : (encE (4, 2, [[], S], sep4)).length = 44 := by
    rw [encE_two, blL_len, blL_len, blL_len, List.length_append, beI_len, beI_len, ls]; rfl
  rw [e1] at hen
  have hdc := decE_eq (b := encE (4, 2, [[], S], sep4)) (by omega)
  rw [hde] at hdc
  generalize encE (4, 2, [[], S], sep4) = B at *
  have hsa := sameE_refl em
  have w0 : ∀ a : Int, wantL 2 a 0 = if a % 2 = 1 then 20 else 0 := fun a => by rw [wantL0]; simp
  have w1 : ∀ a : Int, wantL 2 a 1 = if a / 2 % 2 = 1 then 32 else 0 := fun a => by rw [wantL1]; simp
  have k2 : chkE (4, 2, [[], S], sep4) 2 = 0 := by
    unfold chkE
    rw [if_neg (by simp [badE]), if_neg (by simp [sep4])]
    simp only [fitE_two, w0, w1, ls]; decide
  have k3 : chkE (4, 2, [[], S], sep4) 3 = 27 := by
    unfold chkE
    rw [if_neg (by simp [badE]), if_neg (by simp [sep4])]
    simp only [fitE_two, w0, w1, ls]; decide
  have hk2 := chk_eq (act := 2) em
  have hk3 := chk_eq (act := 3) em
  rw [k2] at hk2
  rw [k3] at hk3
  have hco := con_eq em
  rw [hc1] at hco
  have hcx := con_eq xm
  have cx : conE (4, 2, [[], X], [120]) = false := by
    unfold conE
    simp only
    rw [if_neg (by decide), if_neg (by decide), if_pos (by simp [sep4])]
  rw [cx] at hcx
  have t44 : List.take 44 B = B := List.take_of_length_le (by omega)
  simp only [evT_def, sep4, List.map_cons, List.map_nil, bsT_def] at hm0 hx0 hen hdc hsa hk2 hk3 hco hcx
  simp (disch := omega) only [go_sem, ↓reduceIte, Nat.reduceAdd, Nat.reduceEqDiff, Nat.reduceLT, Nat.reduceLeDiff, ac_law26_awake, h1, hm0, h2, hen, h3, hdc, h4, hsa, h5, hk2, hk3, h6, hco, hx0, hcx, lb, t44]
  all_goals rfl
end Go.Eng
end
section
set_option maxRecDepth 20000
set_option maxHeartbeats 64000000
namespace Go.Eng
def ct_mod : Ct where
  α := Int × Int
  as x := [.t (.int .i64 x.1), .t (.int .i64 x.2)]
  ins _ := []
  pre x := (-9223372036854775808 ≤ x.1 ∧ x.1 < 9223372036854775808) ∧ (-9223372036854775808 ≤ x.2 ∧ x.2 < 9223372036854775808)
  r x := .t (.int .i64 (modI x.1 x.2))
  outs _ := []
  inj := by
    rintro ⟨a, b⟩ ⟨c, d⟩ h _
    simp only [List.cons.injEq, V.t.injEq, T.int.injEq, true_and, and_true] at h
    obtain ⟨rfl, rfl⟩ := h
    exact ⟨rfl, rfl⟩
theorem mod_eq {a b : Int} (h : (-9223372036854775808 ≤ a ∧ a < 9223372036854775808) ∧ (-9223372036854775808 ≤ b ∧ b < 9223372036854775808)) : ct_mod.fs [.t (.int .i64 a), .t (.int .i64 b)] [] = some (.t (.int .i64 (modI a b)), []) := ct_mod.eq (a, b) h
end Go.Eng
end
section
set_option maxRecDepth 20000
set_option maxHeartbeats 64000000
namespace Go.Eng
theorem mkD_len {k act : Int} {d : List UInt8} {a : Nat} : (mkD k act d a).length = wantL k act a := by
  unfold mkD wantL
  split
  · exact sumA_length
  · rfl
theorem wantL_le {k act : Int} {a : Nat} : wantL k act a ≤ 32 := by
  unfold wantL szA
  split
  · split
    · omega
    · split <;> omega
  · omega
theorem mkE_m {r k act : Int} {d : List UInt8} (h : d.length < 1000000000) : evM (mkE r k act d) := by
  have w0 := wantL_le (k := k) (act := act) (a := 0)
  have w1 := wantL_le (k := k) (act := act) (a := 1)
  refine ⟨⟨by simp [mkE], fun x hx => ?_⟩, h⟩
  simp only [mkE, List.mem_cons, List.not_mem_nil, or_false] at hx
  rcases hx with rfl | rfl <;> (rw [mkD_len]; omega)
theorem mkE_ok {r k act : Int} {d : List UInt8} (hr : 0 ≤ r ∧ r ≤ 11) (hk : 1 ≤ k ∧ k ≤ 5) (ha : 1 ≤ act ∧ act ≤ 3) (hd : d.length ≤ 64) : chkE (mkE r k act d) act = 0 := by
  unfold chkE mkE
  simp only
  rw [if_neg (by unfold badE; omega), if_neg (by omega), if_pos]
  rw [fitE_two, mkD_len, mkD_len, decide_eq_true rfl, decide_eq_true rfl]; rfl
theorem mkE_wr {r k act : Int} {d : List UInt8} (hr : 0 ≤ r ∧ r ≤ 11) (hk : 1 ≤ k ∧ k ≤ 5) (hd : d.length ≤ 64) : wrE (mkE r k act d) = true := by
  have w0 := wantL_le (k := k) (act := act) (a := 0)
  have w1 := wantL_le (k := k) (act := act) (a := 1)
  unfold mkE
  rw [wrE_two (by unfold wrBad; omega), mkD_len, mkD_len, decide_eq_true w0, decide_eq_true w1]; rfl
theorem modI_lt {a m : Int} (h : 1 ≤ m) : 0 ≤ modI a m ∧ modI a m < m := by
  unfold modI
  rw [if_neg (by omega)]
  exact ⟨Int.emod_nonneg _ (by omega), Int.emod_lt_of_pos _ (by omega)⟩
theorem w_EventMake (tab : Tab) (gl : Gl) (n1 n2 n3 n4 n5 n6 n7 n8 : Nat) (h1 : tab.look n1 = some ct_awake.fs) (h2 : tab.look n2 = some ct_mod.fs) (h3 : tab.look n3 = some ct_cut.fs) (h4 : tab.look n4 = some ct_make.fs) (h5 : tab.look n5 = some ct_make.fs) (h6 : tab.look n6 = some ct_sameE.fs) (h7 : tab.look n7 = some ct_chk.fs) (h8 : tab.look n8 = some ct_encE.fs)
    (r k a : Int) (hr : -9223372036854775808 ≤ r ∧ r < 9223372036854775808) (hk : -9223372036854775808 ≤ k ∧ k < 9223372036854775808) (ha : -9223372036854775808 ≤ a ∧ a < 9223372036854775808) (data : List UInt8) (hd : data.length ≤ 9223372036854775807) (any : Bool) :
    (ac_law26_EventMake n1 n2 n3 n4 n5 n6 n7 n8).wp tab gl (zipF 0 [.t (.int .i64 r), .t (.int .i64 k), .t (.int .i64 a), .t (.sl (data.map byteT)), .t (.bool any)]) (zipF 0 []) (resW [(10, none)] 0 (fun r' o => r' = .t (.bool true) ∧ o = [])) := by
  have mA := mod_eq (a := a) (b := 4) ⟨ha, by omega⟩
  have mR := mod_eq (a := r) (b := 12) ⟨hr, by omega⟩
  have mK := mod_eq (a := k) (b := 5) ⟨hk, by omega⟩
  have lA := modI_lt (a := a) (m := 4) (by omega)
  have lR := modI_lt (a := r) (m := 12) (by omega)
  have lK := modI_lt (a := k) (m := 5) (by omega)
  have cu : ct_cut.fs [.t (.sl (data.map byteT)), .t (.int .i64 200)] [] = _ := cut_eq (b := data) (n := 200) ⟨hd, by omega⟩
  have lD : (data.take 200).length ≤ 200 := by rw [List.length_take]; omega
  generalize modI a 4 = A at *
  generalize modI r 12 = R at *
  generalize modI k 5 = K at *
  generalize data.take 200 = D at *
  cases any
  · have hm := make_eq (r := R) (k := 1 + K) (act := A) (d := D) ⟨lA, by omega⟩
    have em := mkE_m (r := R) (k := 1 + K) (act := A) (d := D) (by omega)
    have hs := sameE_refl em
    simp only [List.map_cons, List.map_nil] at hs
    have hc := chk_eq (act := A) em
    have hn := encE_eq em
    simp only [List.map_cons, List.map_nil] at hc hn
    by_cases a0 : A = 0
    · subst a0
      generalize mkD (1 + K) 0 D 0 = D0 at *
      generalize mkD (1 + K) 0 D 1 = D1 at *
      simp only [bsT_def] at hm hs
      simp (disch := omega) only [go_sem, ↓reduceIte, Nat.reduceAdd, Nat.reduceEqDiff, Nat.reduceLeDiff, reduceCtorEq, ac_law26_EventMake, h1, awake_eq, h2, mA, mR, mK, h3, cu, h4, h5, hm, h6, hs]
      all_goals rfl
    · have ab : (A == 0) = false := by simpa using a0
      by_cases l64 : 64 < D.length
      · generalize mkD (1 + K) A D 0 = D0 at *
        generalize mkD (1 + K) A D 1 = D1 at *
        simp only [bsT_def] at hm hs
        simp (disch := omega) only [go_sem, ↓reduceIte, Nat.reduceAdd, Nat.reduceEqDiff, Nat.reduceLeDiff, reduceCtorEq, ac_law26_EventMake, h1, awake_eq, h2, mA, mR, mK, h3, cu, h4, h5, hm, h6, hs, ab, l64]
        all_goals rfl
      · have ok := mkE_ok (r := R) (k := 1 + K) (act := A) (d := D) ⟨by omega, by omega⟩ ⟨by omega, by omega⟩ ⟨by omega, by omega⟩ (by omega)
        have wr := mkE_wr (r := R) (k := 1 + K) (act := A) (d := D) ⟨by omega, by omega⟩ ⟨by omega, by omega⟩ (by omega)
        have le : 0 < (encE' (mkE R (1 + K) A D)).length := by
          unfold encE'
          rw [if_pos wr]
          unfold mkE
          rw [encE_two, blL_len]; omega
        unfold mkE at ok le
        rw [ok] at hc
        generalize encE' (R, 1 + K, [mkD (1 + K) A D 0, mkD (1 + K) A D 1], D) = B at *
        generalize mkD (1 + K) A D 0 = D0 at *
        generalize mkD (1 + K) A D 1 = D1 at *
        simp only [bsT_def] at hm hs hc hn
        simp (disch := omega) only [go_sem, ↓reduceIte, Nat.reduceAdd, Nat.reduceEqDiff, Nat.reduceLeDiff, reduceCtorEq, ac_law26_EventMake, h1, awake_eq, h2, mA, mR, mK, h3, cu, h4, h5, hm, h6, hs, ab, l64, h7, hc, h8, hn]
        all_goals rfl
  · have hm := make_eq (r := r) (k := k) (act := A) (d := D) ⟨lA, by omega⟩
    have em := mkE_m (r := r) (k := k) (act := A) (d := D) (by omega)
    have hs := sameE_refl em
    simp only [List.map_cons, List.map_nil] at hs
    generalize mkD k A D 0 = D0 at *
    generalize mkD k A D 1 = D1 at *
    simp only [bsT_def] at hm hs
    simp (disch := omega) only [go_sem, ↓reduceIte, Nat.reduceAdd, Nat.reduceEqDiff, Nat.reduceLeDiff, reduceCtorEq, ac_law26_EventMake, h1, awake_eq, h2, mA, h3, cu, h4, h5, hm, h6, hs]
    all_goals rfl
end Go.Eng
end
section
set_option maxRecDepth 20000
namespace Go.Eng
open Go.MuLone
theorem tieW {P : Program} {G : Gl} {tab : Tab} {f : FuncId} {fn : Func} {c : Code} {ac : AC} {hints : List (Nat × List Nat)} {rs : List (Nat × Option (Nat × Bool))} (hf : P.funcs[f]? = some fn) (hname : (fn.name == "runtime.NumGoroutine") = false) (hb : fn.body = some c) (hann : ann P fn.ntmps hints c = some ac) (hmx : P.follows .mixedOrders = true)
    (ht : TabOk P G tab) (hrs : resOf P fn.results.toList = some rs) (ct : Ct) (hn : ∀ x, (ct.as x).length ≤ fn.ntmps) (hi : ∀ x, (ct.ins x).length ≤ 100)
    (h : ∀ x, ct.pre x → ac.wp tab G (zipF 0 (ct.as x)) (zipF 0 (ct.ins x)) (resW rs (ct.ins x).length (fun r' o' => r' = ct.r x ∧ o' = ct.outs x))) : FOk P G f ct.fs :=
  ct.ok (fun args w => run_callFunc_enter hf hname hb args w) (fun x hx => spec_of hf hb hann hmx ht hrs (hn x) (hi x) (h x hx))
theorem tieF {P : Program} {G : Gl} {tab : Tab} {f : FuncId} {fn : Func} {c : Code} {ac : AC} {hints : List (Nat × List Nat)} {rs : List (Nat × Option (Nat × Bool))} (fz : List Nat) (hf : P.funcs[f]? = some fn) (hname : (fn.name == "runtime.NumGoroutine") = false) (hb : fn.body = some c) (hann : ann P fn.ntmps hints c = some ac) (hmx : P.follows .mixedOrders = true)
    (ht : TabOk P G tab) (hrs : resOf P fn.results.toList = some rs) (ct : Ct) (hn : ∀ x, (ct.as x).length ≤ fn.ntmps) (hi : ∀ x, (ct.ins x).length ≤ 100)
    (h : ∀ x, ct.pre x → ac.wp tab G (zipF 0 (ct.as x)) (zipF 0 (ct.ins x)) (resF fz rs (ct.ins x).length (fun r' o' => r' = ct.r x ∧ o' = ct.outs x))) : FOk P G f ct.fs :=
  ct.ok (fun args w => run_callFunc_enter hf hname hb args w) (fun x hx => spec_live fz hf hb hann hmx ht hrs (hn x) (hi x) (h x hx))
theorem tieL {P : Program} {G : Gl} {tab : Tab} {f : FuncId} {fn : Func} {c : Code} {ac : AC} {hints : List (Nat × List Nat)} {rs : List (Nat × Option (Nat × Bool))} (hf : P.funcs[f]? = some fn) (hb : fn.body = some c) (hann : ann P fn.ntmps hints c = some ac) (hmx : P.follows .mixedOrders = true)
    (ht : TabOk P G tab) (hrs : resOf P fn.results.toList = some rs) {as : List V} (hn : as.length ≤ fn.ntmps)
    (h : ac.wp tab G (zipF 0 as) (zipF 0 []) (resW rs 0 (fun r o => r = .t (.bool true) ∧ o = []))) : Spec P G f as [] (.t (.bool true)) [] :=
  spec_of hf hb hann hmx ht hrs hn (Nat.zero_le _) h
end Go.Eng
end
