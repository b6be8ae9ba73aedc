/- My own text: an abstract machine, its walks over the functions reached, and their tie to the program. -/
import Derived.Test.YtldnhemfgkfiiaaGreatDoorU4
import Derived.Test.YtldnhemfgkfiiaaGreatDoorU3
import Derived.Conc.MuLone
import Derived.KernelRfl
import Derived.Lib.OthersKept
import Derived.Laws.RangeAny
import Derived.Lib.ItoaNum
import Derived.Lib.LaidTab
import Derived.Sort.Grow
import Derived.Deep.Draws
import Derived.Lib.MakeNoZero
import Derived.Laws.Externs
import Derived.WideKeyArgs
import Derived.Handed
import Derived.OpenShut
import Derived.RowKit
import Derived.ProofKit
import Derived.LaidMore
import Derived.MakeChecks
import Derived.Stop.Joined
import Derived.Lib.BytesEntry
set_option linter.unusedSimpArgs false
set_option linter.unusedVariables false
section
set_option maxRecDepth 20000
set_option maxHeartbeats 64000000
namespace Go.Eng
theorem evT_c {e : Ev} : (V.t (evT e)).cells.length = 4 := rfl
theorem evT_p {e : Ev} : (V.t (evT e)).plain = true := rfl
theorem makeO {r k act : Int} {d : List UInt8} (h : (0 ≤ act ∧ act < 4) ∧ d.length < 1000000000) : ct_make.fs [.t (.int .i64 r), .t (.int .i64 k), .t (.int .i64 act), .t (.sl (d.map byteT))] [] = some (.t (evT (mkE r k act d)), []) := ct_make.eq (r, k, act, d) h
def ct_evI : Ct where
 α := List Im × Int
 as x := [.t (.sl (x.1.map imT)), .t (.int .i64 x.2)]
 ins _ := []
 pre x := imsM x.1
 r x := .t (.sl ((evsI x.1 x.2).map evT))
 outs _ := []
 inj := by
   rintro ⟨a, b⟩ ⟨c, d⟩ h _
   simp only [List.cons.injEq, V.t.injEq, T.sl.injEq, T.int.injEq, true_and, and_true, mapI_inj] at h
   obtain ⟨rfl, rfl⟩ := h
   exact ⟨rfl, rfl⟩
theorem evI_eq {l : List Im} {act : Int} (h : imsM l) : ct_evI.fs [.t (.sl (l.map imT)), .t (.int .i64 act)] [] = some (.t (.sl ((evsI l act).map evT)), []) := ct_evI.eq (l, act) h
def outE (act : Int) (l : List Im) : Nat → List Ev
 | 0 => []
 | 1 => evsR act 1 l
 | 2 => evsR act 1 l ++ evsR act 2 l
 | 3 => (evsR act 1 l ++ evsR act 2 l) ++ seps act ++ evsR act 3 l
 | _ => evsC act l
theorem evsR_take {act r : Int} {l : List Im} {x : Im} {i : Nat} (h : l[i]? = some x) : evsR act r (l.take (i + 1)) = evsR act r (l.take i) ++ (if x.1 = r then (if r = 4 then (lnL x.2.2.2).map (mkE 9 3 act) else [ofI x act]) else []) := by
 unfold evsR
 rw [List.take_add_one, h, List.filter_append, List.flatMap_append]
 congr 1
 by_cases hx : x.1 = r <;> simp [List.filter_cons, hx]
theorem evsR_le {act r : Int} {l : List Im} : (evsR act r l).length ≤ l.length * 4 := Nat.le_trans evsR_len (Nat.mul_le_mul_right _ (List.length_filter_le _ _))
theorem map_take_s {α γ : Type} {f : α → γ} {l : List α} {k : Nat} {x : α} (h : l[k]? = some x) : (l.take (k + 1)).map f = (l.take k).map f ++ [f x] := by
 rw [List.take_add_one, h]; simp
def sepN (act : Int) (p : List UInt8) (k : Nat) : List Ev := (List.range k).map fun (i : Nat) => mkE (i : Int) 2 act p
theorem sepN_s {act : Int} {p : List UInt8} {k : Nat} : sepN act p (k + 1) = sepN act p k ++ [mkE (k : Int) 2 act p] := by unfold sepN; rw [List.range_succ, List.map_append]; rfl
theorem sepN_len {act : Int} {p : List UInt8} {k : Nat} : (sepN act p k).length = k := by simp [sepN]
theorem w_ref25_Events (tab : Tab) (gl : Gl) (n1 n2 n3 n4 n5 : Nat) (h1 : tab.look n1 = some ct_chc.fs) (h2 : tab.look n2 = some ct_sep.fs) (h3 : tab.look n3 = some ct_make.fs) (h4 : tab.look n4 = some ct_ofI.fs) (h5 : tab.look n5 = some ct_lns.fs) (l : List Im) (act : Int) (hm : imsM l) :
   (ac_ref25_Events n1 n2 n3 n4 n5).wp tab gl (zipF 0 [.t (.sl (l.map imT)), .t (.int .i64 act)]) (zipF 0 []) (resW [(4, none)] 0 (fun r o => r = .t (.sl ((evsI l act).map evT)) ∧ o = [])) := by
 have hC := chc_eq hm
 by_cases hz : chkC l = 0
 · rw [hz] at hC
   obtain ⟨hok, hl1, hl8⟩ := chkC_ok hz
   by_cases a1 : act < 1
   · have hr : evsI l act = [] := if_pos (.inr (.inl a1))
     rw [hr]
     simp (disch := omega) only [go_sem, seval, ac_ref25_Events, h1, hC, a1, List.map_nil]
   by_cases a3 : 3 < act
   · have hr : evsI l act = [] := if_pos (.inr (.inr a3))
     rw [hr]
     simp (disch := omega) only [go_sem, seval, ac_ref25_Events, h1, hC, a1, a3, List.map_nil]
   have hr : evsI l act = evsC act l := by unfold evsI; rw [if_neg (by omega)]
   rw [hr]
   have ha : 0 ≤ act ∧ act < 4 := by omega
   have b1 := evsR_le (act := act) (r := 1) (l := l)
   have b2 := evsR_le (act := act) (r := 2) (l := l)
   have b3 := evsR_le (act := act) (r := 3) (l := l)
   have b4 := evsR_le (act := act) (r := 4) (l := l)
   have bs := seps_len (act := act)
   have main : ∀ (i r : Nat), i < 4 → r = i + 1 → ∀ (base : List Ev), outE act l (i + 1) = base ++ evsR act r l → base.length ≤ 200 → ∀ (fs : Fs) (hs : Hs), Weak fs hs [(0, .t (.sl (l.map imT))), (1, .t (.int .i64 act)), (5, .sl 9000 0 base.length), (6, .t (.int .i64 r)), (8, .t (.int .i64 0))] [(9000, .live 4 ((base.map evT).map V.t) true false)] →
       loopW tab gl (ac_ref25_Events_L2 n4 n5 n3) fs hs (blockK 4 (blockK 1 (seqK tab gl (rG 28672 [mv 24 6, bN 25 .add 24 1, mv 6 25]) (upK 4 (fun i => [(0, .t (.sl (l.map imT))), (1, .t (.int .i64 act)), (5, .sl 9000 0 (outE act l i).length), (6, .t (.int .i64 ((i + 1 : Nat) : Int)))]) (fun i => [(9000, .live 4 (((outE act l i).map evT).map V.t) true false)]) i (blockK 0 (seqK tab gl ((rG 98304 [mv 83 5, mv 4 83]).seq AC.ret) (resW [(4, none)] 0 (fun r' o => r' = .t (.sl ((evsC act l).map evT)) ∧ o = [])))))))) := by
     intro i r hi hri base hb hbl fs hs hw
     refine loopW_weak hw ?_
     refine loop_upto l.length (fun j => [(0, .t (.sl (l.map imT))), (1, .t (.int .i64 act)), (5, .sl 9000 0 (base ++ evsR act r (l.take j)).length), (6, .t (.int .i64 r)), (8, .t (.int .i64 (j : Nat)))]) (fun j => [(9000, .live 4 (((base ++ evsR act r (l.take j)).map evT).map V.t) true false)]) ?_ (fun j hj => ?_)
     · have e0 : base ++ evsR act r (l.take 0) = base := by simp [evsR]
       simp only [e0]
       exact Weak.refl
     · have bj := evsR_le (act := act) (r := r) (l := l.take j)
       have bl : (base ++ evsR act r (l.take j)).length ≤ 300 := by
         rw [List.length_append]
         simp only [List.length_take] at bj
         omega
       by_cases hlt : j < l.length
       · obtain ⟨⟨xa, xs, xv, xp⟩, hx⟩ : ∃ x, l[j]? = some x := ⟨l[j], by simp [hlt]⟩
         have hxm : imM (xa, xs, xv, xp) := hm.2 _ (List.mem_of_getElem? hx)
         have hst := evsR_take (act := act) (r := r) hx
         simp only at hst
         have hO : base ++ evsR act r (l.take (j + 1)) = (base ++ evsR act r (l.take j)) ++ (if xa = (r : Int) then (if (r : Int) = 4 then (lnL xp).map (mkE 9 3 act) else [ofI (xa, xs, xv, xp) act]) else []) := by rw [hst, List.append_assoc]
         generalize base ++ evsR act r (l.take j) = L at *
         by_cases q : xa = (r : Int)
         · subst q
           by_cases r4 : r = 4
           · subst r4
             rw [if_pos rfl, if_pos (by rfl)] at hO
             have hO : base ++ evsR act 4 (l.take (j + 1)) = L ++ (lnL xp).map (mkE 9 3 act) := hO
             have hN : ct_lns.fs [.t (.agg [.int .i64 4, strT xs, .int .i64 xv, .sl (xp.map byteT)])] [] = some (.t (.sl ((lnL xp).map bsT)), []) := lns_eq hxm
             have ll := lnL_len (p := xp)
             have le := lnL_el (p := xp)
             have lp := hxm.2.1
             simp only at lp
             generalize lnL xp = N at *
             simp (disch := omega) only [go_sem, seval, ac_ref25_Events_L2, imT_def, hx, h5, hN, bne_self_eq_false]
             repeat refine And.intro rfl ?_
             refine loop_upto N.length (fun k => [(0, .t (.sl (l.map imT))), (1, .t (.int .i64 act)), (5, .sl 9000 0 (L ++ (N.take k).map (mkE 9 3 act)).length), (6, .t (.int .i64 4)), (8, .t (.int .i64 (j : Nat))), (9, .t (.sl (N.map bsT))), (10, .t (.int .i64 (k : Nat)))]) (fun k => [(9000, .live 4 (((L ++ (N.take k).map (mkE 9 3 act)).map evT).map V.t) true false)]) ?_ (fun k hk => ?_)
             · have e0 : L ++ (N.take 0).map (mkE 9 3 act) = L := by simp
               simp only [e0]
               refine Weak.rd id ?_ ?_ rfl
               all_goals simp (disch := omega) only [go_sem, seval, id]
             · have bk : (L ++ (N.take k).map (mkE 9 3 act)).length ≤ 400 := by simp; omega
               by_cases hkl : k < N.length
               · obtain ⟨s, hs⟩ : ∃ s, N[k]? = some s := ⟨N[k], by simp [hkl]⟩
                 have hsl := le s (List.mem_of_getElem? hs)
                 have hM := makeO (r := 9) (k := 3) (act := act) (d := s) ⟨ha, by omega⟩
                 have hT : L ++ (N.take (k + 1)).map (mkE 9 3 act) = (L ++ (N.take k).map (mkE 9 3 act)) ++ [mkE 9 3 act s] := by rw [map_take_s hs, List.append_assoc]
                 generalize L ++ (N.take k).map (mkE 9 3 act) = M at *
                 generalize mkE 9 3 act s = e at *
                 simp (disch := omega) only [go_sem, seval, ac_ref25_Events_L3, bsT_def, hs, h3, hM, evT_c, evT_p]
                 refine ⟨hkl, Weak.rd (fun j => if j = 9000 then 94336 else j) ?_ ?_ rfl⟩
                 all_goals simp (disch := omega) only [go_sem, seval, id, hT]
                 all_goals (have hq := congrArg List.length hT; simp only [List.length_append, List.length_cons, List.length_nil, List.length_map, List.length_take, sepN_len] at hq ⊢; omega)
               · have e : k = N.length := by omega
                 subst e
                 rw [List.take_length]
                 simp (disch := omega) only [go_sem, seval, ac_ref25_Events_L3]
                 refine ⟨hlt, Weak.rd id ?_ ?_ rfl⟩
                 all_goals simp (disch := omega) only [go_sem, seval, id, hO]
                 all_goals (have hq := congrArg List.length hO; simp only [List.length_append, List.length_cons, List.length_nil, List.length_map, List.length_take, sepN_len] at hq ⊢; omega)
           · have hE : ct_ofI.fs [.t (.agg [.int .i64 (r : Int), strT xs, .int .i64 xv, .sl (xp.map byteT)]), .t (.int .i64 act)] [] = some (.t (evT (ofI ((r : Int), xs, xv, xp) act)), []) := ofI_eq (x := ((r : Int), xs, xv, xp)) ⟨hxm, ha⟩
             have r4i : ¬ (r : Int) = 4 := by omega
             have r4b : ((r : Int) != 4) = true := by simpa using r4i
             rw [if_pos rfl, if_neg r4i] at hO
             generalize ofI ((r : Int), xs, xv, xp) act = e at *
             simp (disch := omega) only [go_sem, seval, ac_ref25_Events_L2, imT_def, hx, bne_self_eq_false, r4b, h4, hE, evT_c, evT_p]
             repeat refine And.intro rfl ?_
             refine ⟨hlt, Weak.rd (fun j => if j = 9000 then 73856 else j) ?_ ?_ rfl⟩
             all_goals simp (disch := omega) only [go_sem, seval, id, hO]
             all_goals (have hq := congrArg List.length hO; simp only [List.length_append, List.length_cons, List.length_nil, List.length_map, List.length_take, sepN_len] at hq ⊢; omega)
         · rw [if_neg q, List.append_nil] at hO
           have qb : (xa != (r : Int)) = true := by simpa using q
           simp (disch := omega) only [go_sem, seval, ac_ref25_Events_L2, imT_def, hx, qb]
           refine ⟨hlt, Weak.rd id ?_ ?_ rfl⟩
           all_goals simp (disch := omega) only [go_sem, seval, id, hO]
           all_goals (have hq := congrArg List.length hO; simp only [List.length_append, List.length_cons, List.length_nil, List.length_map, List.length_take, sepN_len] at hq ⊢; omega)
       · have e : j = l.length := by omega
         subst e
         rw [List.take_length] at bl ⊢
         subst hri
         rw [← hb] at bl ⊢
         simp (disch := omega) only [go_sem, seval, ac_ref25_Events_L2]
         refine ⟨hi, Weak.rd id ?_ ?_ rfl⟩
         all_goals simp (disch := omega) only [go_sem, seval, id]
   simp (disch := omega) only [go_sem, seval, ac_ref25_Events, h1, hC, a1, a3]
   refine loop_upto 4 (fun i => [(0, .t (.sl (l.map imT))), (1, .t (.int .i64 act)), (5, .sl 9000 0 (outE act l i).length), (6, .t (.int .i64 ((i + 1 : Nat) : Int)))]) (fun i => [(9000, .live 4 (((outE act l i).map evT).map V.t) true false)]) ?_ (fun i hi => ?_)
   · refine Weak.cv0 (hv := [(9000, .live 4 [] true false)]) (ho := []) id ?_ ?_ rfl rfl
     all_goals simp (disch := omega) only [go_sem, seval, id, outE]
   · rcases (show i = 0 ∨ i = 1 ∨ i = 2 ∨ i = 3 ∨ i = 4 by omega) with rfl | rfl | rfl | rfl | rfl
     · have hb : outE act l 0 = [] := rfl
       rw [hb]
       simp (disch := omega) only [go_sem, seval, ac_ref25_Events_L0]
       refine main 0 1 (by omega) rfl [] (by simp [outE]) (by simp) _ _ (Weak.rd id ?_ ?_ rfl)
       all_goals simp (disch := omega) only [go_sem, seval, id]
     · have hb : outE act l 1 = evsR act 1 l := rfl
       rw [hb]
       simp (disch := omega) only [go_sem, seval, ac_ref25_Events_L0]
       refine main 1 2 (by omega) rfl (evsR act 1 l) (by simp [outE]) (by omega) _ _ (Weak.rd id ?_ ?_ rfl)
       all_goals simp (disch := omega) only [go_sem, seval, id]
     · have hb : outE act l 2 = evsR act 1 l ++ evsR act 2 l := rfl
       have h3' : outE act l 3 = ((evsR act 1 l ++ evsR act 2 l) ++ seps act) ++ evsR act 3 l := rfl
       have lb : (evsR act 1 l ++ evsR act 2 l).length ≤ 100 := by rw [List.length_append]; omega
       have hsp := sep_eq
       have l4 : sep4.length = 4 := rfl
       have t4 : List.take 4 sep4 = sep4 := rfl
       have hss : seps act = sepN act sep4 8 := rfl
       rw [hb]
       rw [hss] at h3'
       generalize evsR act 1 l ++ evsR act 2 l = S2 at *
       have hMk : ∀ k : Nat, _ := fun k => makeO (r := (k : Int)) (k := 2) (act := act) (d := sep4) ⟨ha, by rw [l4]; decide⟩
       generalize sep4 = P4 at *
       simp (disch := omega) only [go_sem, seval, ac_ref25_Events_L0]
       refine loop_upto 8 (fun k => [(0, .t (.sl (l.map imT))), (1, .t (.int .i64 act)), (5, .sl 9000 0 (S2 ++ sepN act P4 k).length), (6, .t (.int .i64 3)), (7, .t (.int .i64 (k : Nat)))]) (fun k => [(9000, .live 4 (((S2 ++ sepN act P4 k).map evT).map V.t) true false)]) ?_ (fun k hk => ?_)
       · have e0 : S2 ++ sepN act P4 0 = S2 := by simp [sepN]
         simp only [e0]
         refine Weak.rd id ?_ ?_ rfl
         all_goals simp (disch := omega) only [go_sem, seval, id]
       · have bk : (S2 ++ sepN act P4 k).length ≤ 200 := by rw [List.length_append, sepN_len]; omega
         by_cases hkl : k < 8
         · have hM := hMk k
           have hT : S2 ++ sepN act P4 (k + 1) = (S2 ++ sepN act P4 k) ++ [mkE (k : Int) 2 act P4] := by rw [sepN_s, List.append_assoc]
           generalize S2 ++ sepN act P4 k = M at *
           generalize mkE (k : Int) 2 act P4 = e at *
           simp (disch := omega) only [go_sem, seval, ac_ref25_Events_L1, h2, hsp, l4, t4, h3, hM, evT_c, evT_p]
           refine ⟨hkl, Weak.rd (fun j => if j = 9000 then 49248 else j) ?_ ?_ rfl⟩
           all_goals simp (disch := omega) only [go_sem, seval, id, hT]
           all_goals (have hq := congrArg List.length hT; simp only [List.length_append, List.length_cons, List.length_nil, List.length_map, List.length_take, sepN_len] at hq ⊢; omega)
         · have e : k = 8 := by omega
           subst e
           simp (disch := omega) only [go_sem, seval, ac_ref25_Events_L1]
           refine main 2 3 (by omega) rfl _ h3' bk _ _ (Weak.rd id ?_ ?_ rfl)
           all_goals simp (disch := omega) only [go_sem, seval, id]
     · have hb : outE act l 3 = (evsR act 1 l ++ evsR act 2 l) ++ seps act ++ evsR act 3 l := rfl
       have h4' : outE act l 4 = ((evsR act 1 l ++ evsR act 2 l) ++ seps act ++ evsR act 3 l) ++ evsR act 4 l := by simp [outE, evsC]
       have lb : ((evsR act 1 l ++ evsR act 2 l) ++ seps act ++ evsR act 3 l).length ≤ 200 := by simp only [List.length_append]; omega
       rw [hb]
       generalize (evsR act 1 l ++ evsR act 2 l) ++ seps act ++ evsR act 3 l = S3 at *
       simp (disch := omega) only [go_sem, seval, ac_ref25_Events_L0]
       refine main 3 4 (by omega) rfl S3 h4' lb _ _ (Weak.rd id ?_ ?_ rfl)
       all_goals simp (disch := omega) only [go_sem, seval, id]
     · have hb : outE act l 4 = evsC act l := rfl
       rw [hb]
       simp (disch := omega) only [go_sem, seval, ac_ref25_Events_L0, List.take_length]
 · have hr : evsI l act = [] := if_pos (.inl hz)
   rw [hr]
   have hz' : (chkC l != 0) = true := by simpa using hz
   simp (disch := omega) only [go_sem, seval, ac_ref25_Events, h1, hC, hz', List.map_nil]
theorem zEv {l : List Ev} : zOkT 4 (List.map evT l) = true := by
 unfold zOkT
 refine List.all_eq_true.2 fun x hx => ?_
 obtain ⟨e, -, rfl⟩ := List.mem_map.1 hx
 rfl
def stgS (A B C D : List Ev) : Hs := [(9001, .live 4 ((A.map evT).map V.t) true false), (9002, .live 4 ((B.map evT).map V.t) true false), (9003, .live 4 ((C.map evT).map V.t) true false), (9004, .live 4 ((D.map evT).map V.t) true false), (16384, .live 1 [.nil, .sl 9001 0 A.length, .sl 9002 0 B.length, .sl 9003 0 C.length, .sl 9004 0 D.length] true true)]
theorem w_predict_Events (tab : Tab) (gl : Gl) (n1 n2 n3 n4 n5 : Nat) (h1 : tab.look n1 = some ct_chc.fs) (h2 : tab.look n2 = some ct_ofI.fs) (h3 : tab.look n3 = some ct_lns.fs) (h4 : tab.look n4 = some ct_reg.fs) (h5 : tab.look n5 = some ct_make.fs) (l : List Im) (act : Int) (hm : imsM l) :
   (ac_predict_Events n1 n2 n3 n4 n5).wp tab gl (zipF 0 [.t (.sl (l.map imT)), .t (.int .i64 act)]) (zipF 0 []) (resW [(4, none)] 0 (fun r o => r = .t (.sl ((evsI l act).map evT)) ∧ o = [])) := by
 have hC := chc_eq hm
 by_cases a1 : act < 1
 · have hr : evsI l act = [] := if_pos (.inr (.inl a1))
   rw [hr]
   simp (disch := omega) only [go_sem, seval, ac_predict_Events, h1, hC, a1, List.map_nil]
 by_cases a3 : 3 < act
 · have hr : evsI l act = [] := if_pos (.inr (.inr a3))
   rw [hr]
   simp (disch := omega) only [go_sem, seval, ac_predict_Events, h1, hC, a1, a3, List.map_nil]
 by_cases hz : chkC l = 0
 · rw [hz] at hC
   obtain ⟨hok, hl1, hl8⟩ := chkC_ok hz
   have hr : evsI l act = evsC act l := by unfold evsI; rw [if_neg (by omega)]
   rw [hr]
   have ha : 0 ≤ act ∧ act < 4 := by omega
   have b1 := evsR_le (act := act) (r := 1) (l := l)
   have b2 := evsR_le (act := act) (r := 2) (l := l)
   have b3 := evsR_le (act := act) (r := 3) (l := l)
   have b4 := evsR_le (act := act) (r := 4) (l := l)
   simp (disch := omega) only [go_sem, seval, ac_predict_Events, h1, hC, a1, a3]
   refine loop_upto l.length (fun i => [(1, .t (.int .i64 act)), (5, .ref 16384 0 0), (23, .t (.sl (l.map imT))), (24, .t (.int .i64 l.length)), (25, .t (.int .i64 (i : Nat)))]) (fun i => stgS (evsR act 1 (l.take i)) (evsR act 2 (l.take i)) (evsR act 3 (l.take i)) (evsR act 4 (l.take i))) ?_ (fun i hi => ?_)
   · have e : ∀ r, evsR act r (l.take 0) = [] := fun r => rfl
     simp only [e]
     refine Weak.cv0 (hv := [(9001, .live 4 [] true false), (9002, .live 4 [] true false), (9003, .live 4 [] true false), (9004, .live 4 [] true false)]) (ho := [(16384, .live 1 [.nil, .sl 9001 0 0, .sl 9002 0 0, .sl 9003 0 0, .sl 9004 0 0] true true)]) id ?_ ?_ rfl rfl
     all_goals simp (disch := omega) only [go_sem, seval, id]
   · by_cases hlt : i < l.length
     · obtain ⟨⟨xa, xs, xv, xp⟩, hx⟩ : ∃ x, l[i]? = some x := ⟨l[i], by simp [hlt]⟩
       have hxm : imM (xa, xs, xv, xp) := hm.2 _ (List.mem_of_getElem? hx)
       have hgood := (chkI_good (hok _ (List.mem_of_getElem? hx))).1
       have g1 := evsR_take (act := act) (r := 1) hx
       have g2 := evsR_take (act := act) (r := 2) hx
       have g3 := evsR_take (act := act) (r := 3) hx
       have g4 := evsR_take (act := act) (r := 4) hx
       have c1 := evsR_le (act := act) (r := 1) (l := l.take i)
       have c2 := evsR_le (act := act) (r := 2) (l := l.take i)
       have c3 := evsR_le (act := act) (r := 3) (l := l.take i)
       have c4 := evsR_le (act := act) (r := 4) (l := l.take i)
       rw [List.length_take] at c1 c2 c3 c4
       simp only at hgood g1 g2 g3 g4
       generalize evsR act 1 (l.take i) = A at *
       generalize evsR act 2 (l.take i) = B at *
       generalize evsR act 3 (l.take i) = C at *
       generalize evsR act 4 (l.take i) = D at *
       rcases (show xa = 1 ∨ xa = 2 ∨ xa = 3 ∨ xa = 4 by omega) with rfl | rfl | rfl | rfl
       · rw [if_pos rfl, if_neg (by decide)] at g1
         rw [if_neg (by decide), List.append_nil] at g2 g3 g4
         have hE : ct_ofI.fs [.t (.agg [.int .i64 1, strT xs, .int .i64 xv, .sl (xp.map byteT)]), .t (.int .i64 act)] [] = some (.t (evT (ofI (1, xs, xv, xp) act)), []) := ofI_eq (x := (1, xs, xv, xp)) ⟨hxm, ha⟩
         generalize ofI (1, xs, xv, xp) act = e at *
         simp (disch := omega) only [go_sem, seval, ac_predict_Events_L0, stgS, imT_def, hx, h2, hE, evT_c, evT_p]
         repeat refine And.intro rfl ?_
         refine ⟨hlt, Weak.rd (fun j => if j = 9001 then 37024 else j) ?_ ?_ rfl⟩
         all_goals simp (disch := omega) only [go_sem, seval, id, stgS, g1, g2, g3, g4]
         all_goals (have hq := congrArg List.length g1; simp only [List.length_append, List.length_cons, List.length_nil] at hq ⊢; omega)
       · rw [if_pos rfl, if_neg (by decide)] at g2
         rw [if_neg (by decide), List.append_nil] at g1 g3 g4
         have hE : ct_ofI.fs [.t (.agg [.int .i64 2, strT xs, .int .i64 xv, .sl (xp.map byteT)]), .t (.int .i64 act)] [] = some (.t (evT (ofI (2, xs, xv, xp) act)), []) := ofI_eq (x := (2, xs, xv, xp)) ⟨hxm, ha⟩
         generalize ofI (2, xs, xv, xp) act = e at *
         simp (disch := omega) only [go_sem, seval, ac_predict_Events_L0, stgS, imT_def, hx, h2, hE, evT_c, evT_p]
         repeat refine And.intro rfl ?_
         refine ⟨hlt, Weak.rd (fun j => if j = 9002 then 37024 else j) ?_ ?_ rfl⟩
         all_goals simp (disch := omega) only [go_sem, seval, id, stgS, g1, g2, g3, g4]
         all_goals (have hq := congrArg List.length g2; simp only [List.length_append, List.length_cons, List.length_nil] at hq ⊢; omega)
       · rw [if_pos rfl, if_neg (by decide)] at g3
         rw [if_neg (by decide), List.append_nil] at g1 g2 g4
         have hE : ct_ofI.fs [.t (.agg [.int .i64 3, strT xs, .int .i64 xv, .sl (xp.map byteT)]), .t (.int .i64 act)] [] = some (.t (evT (ofI (3, xs, xv, xp) act)), []) := ofI_eq (x := (3, xs, xv, xp)) ⟨hxm, ha⟩
         generalize ofI (3, xs, xv, xp) act = e at *
         simp (disch := omega) only [go_sem, seval, ac_predict_Events_L0, stgS, imT_def, hx, h2, hE, evT_c, evT_p]
         repeat refine And.intro rfl ?_
         refine ⟨hlt, Weak.rd (fun j => if j = 9003 then 37024 else j) ?_ ?_ rfl⟩
         all_goals simp (disch := omega) only [go_sem, seval, id, stgS, g1, g2, g3, g4]
         all_goals (have hq := congrArg List.length g3; simp only [List.length_append, List.length_cons, List.length_nil] at hq ⊢; omega)
       · rw [if_pos rfl, if_pos trivial] at g4
         rw [if_neg (by decide), List.append_nil] at g1 g2 g3
         have hN : ct_lns.fs [.t (.agg [.int .i64 4, strT xs, .int .i64 xv, .sl (xp.map byteT)])] [] = some (.t (.sl ((lnL xp).map bsT)), []) := lns_eq hxm
         have ll := lnL_len (p := xp)
         have le := lnL_el (p := xp)
         have lp := hxm.2.1
         simp only at lp g4
         generalize lnL xp = N at *
         have hRg : ct_reg.fs [.t (.int .i64 4)] [] = some (.t (.int .i64 9), []) := reg_eq (a := 4)
         simp (disch := omega) only [go_sem, seval, ac_predict_Events_L0, stgS, imT_def, hx, h3, hN]
         repeat refine And.intro rfl ?_
         refine loop_upto N.length (fun k => [(1, .t (.int .i64 act)), (5, .ref 16384 0 0), (7, .ref 28704 0 0), (23, .t (.sl (l.map imT))), (24, .t (.int .i64 l.length)), (25, .t (.int .i64 (i : Nat))), (45, .t (.sl (N.map bsT))), (46, .t (.int .i64 N.length)), (47, .t (.int .i64 (k : Nat)))]) (fun k => (28704, .live 4 [.t (.agg [.int .i64 4, strT xs, .int .i64 xv, .sl (xp.map byteT)])] true true) :: stgS A B C (D ++ (N.take k).map (mkE 9 3 act))) ?_ (fun k hk => ?_)
         · have e0 : D ++ (N.take 0).map (mkE 9 3 act) = D := by simp
           simp only [e0, stgS]
           refine Weak.rd id ?_ ?_ rfl
           all_goals simp (disch := omega) only [go_sem, seval, id]
         · have bk : (D ++ (N.take k).map (mkE 9 3 act)).length ≤ 400 := by simp; omega
           by_cases hkl : k < N.length
           · obtain ⟨s, hs⟩ : ∃ s, N[k]? = some s := ⟨N[k], by simp [hkl]⟩
             have hsl := le s (List.mem_of_getElem? hs)
             have hM := makeO (r := 9) (k := 3) (act := act) (d := s) ⟨ha, by omega⟩
             have hT : D ++ (N.take (k + 1)).map (mkE 9 3 act) = (D ++ (N.take k).map (mkE 9 3 act)) ++ [mkE 9 3 act s] := by rw [map_take_s hs, List.append_assoc]
             generalize D ++ (N.take k).map (mkE 9 3 act) = M at *
             generalize mkE 9 3 act s = e at *
             simp (disch := omega) only [go_sem, seval, ac_predict_Events_L1, stgS, bsT_def, hs, h4, hRg, h5, hM, evT_c, evT_p]
             repeat refine And.intro rfl ?_
             refine ⟨hkl, Weak.rd (fun j => if j = 9004 then 53456 else j) ?_ ?_ rfl⟩
             all_goals simp (disch := omega) only [go_sem, seval, id, stgS, hT]
             all_goals (have hq := congrArg List.length hT; simp only [List.length_append, List.length_cons, List.length_nil, List.length_map, List.length_take] at hq ⊢; omega)
           · have e : k = N.length := by omega
             subst e
             rw [List.take_length]
             simp (disch := omega) only [go_sem, seval, ac_predict_Events_L1, stgS]
             refine ⟨hlt, Weak.rd id ?_ ?_ rfl⟩
             all_goals simp (disch := omega) only [go_sem, seval, id, stgS, g1, g2, g3, g4]
             all_goals (have hq := congrArg List.length g4; simp only [List.length_append, List.length_cons, List.length_nil, List.length_map, List.length_take] at hq ⊢; omega)
     · have e : i = l.length := by omega
       subst e
       have hEv : evsC act l = ((evsR act 1 l ++ evsR act 2 l) ++ sepN act sep4 8) ++ (evsR act 3 l ++ evsR act 4 l) := rfl
       rw [List.take_length, hEv]
       generalize evsR act 1 l = A at *
       generalize evsR act 2 l = B at *
       generalize evsR act 3 l = C at *
       generalize evsR act 4 l = D at *
       have l4 : sep4.length = 4 := rfl
       have hMk : ∀ k : Nat, ct_make.fs [.t (.int .i64 (k : Int)), .t (.int .i64 2), .t (.int .i64 act), .t (.sl [byteT 0, byteT 0, byteT 0, byteT 0])] [] = some (.t (evT (mkE (k : Int) 2 act sep4)), []) := fun k => makeO (r := (k : Int)) (k := 2) (act := act) (d := sep4) ⟨ha, by rw [l4]; decide⟩
       have hAB : (A ++ B).length ≤ 70 := by rw [List.length_append]; omega
       simp (disch := omega) only [go_sem, seval, ac_predict_Events_L0, stgS, zEv]
       repeat refine And.intro rfl ?_
       refine loop_upto 8 (fun k => [(1, .t (.int .i64 act)), (5, .ref 16384 0 0), (10, .sl 9005 0 ((A ++ B) ++ sepN act sep4 k).length), (73, .t (.int .i64 (k : Nat)))]) (fun k => [(9005, .live 4 ((((A ++ B) ++ sepN act sep4 k).map evT).map V.t) true false), (9001, .dead), (9002, .live 4 ((B.map evT).map V.t) true false), (9003, .live 4 ((C.map evT).map V.t) true false), (9004, .live 4 ((D.map evT).map V.t) true false), (16384, .live 1 [.nil, .sl 9001 0 A.length, .sl 9002 0 B.length, .sl 9003 0 C.length, .sl 9004 0 D.length] true true)]) ?_ (fun k hk => ?_)
       · have e0 : (A ++ B) ++ sepN act sep4 0 = A ++ B := by simp [sepN]
         simp only [e0]
         refine Weak.rd (fun j => if j = 9005 then 65600 else j) ?_ ?_ rfl
         all_goals simp (disch := omega) only [go_sem, seval, id]
       · have bk : ((A ++ B) ++ sepN act sep4 k).length ≤ 200 := by rw [List.length_append, sepN_len]; omega
         by_cases hkl : k < 8
         · have hM := hMk k
           have hT : (A ++ B) ++ sepN act sep4 (k + 1) = ((A ++ B) ++ sepN act sep4 k) ++ [mkE (k : Int) 2 act sep4] := by rw [sepN_s, ← List.append_assoc]
           generalize (A ++ B) ++ sepN act sep4 k = M at *
           generalize mkE (k : Int) 2 act sep4 = e at *
           simp (disch := omega) only [go_sem, seval, ac_predict_Events_L2, h5, hM, evT_c, evT_p]
           repeat refine And.intro rfl ?_
           refine ⟨hkl, Weak.rd (fun j => if j = 9005 then 82016 else j) ?_ ?_ rfl⟩
           all_goals simp (disch := omega) only [go_sem, seval, id, hT]
           all_goals (have hq := congrArg List.length hT; simp only [List.length_append, List.length_cons, List.length_nil, sepN_len] at hq ⊢; omega)
         · have e : k = 8 := by omega
           subst e
           have hfin : ((A ++ B) ++ sepN act sep4 8) ++ (C ++ D) = (((A ++ B) ++ sepN act sep4 8) ++ C) ++ D := by rw [List.append_assoc _ C D]
           rw [hfin]
           generalize (A ++ B) ++ sepN act sep4 8 = M at *
           have tk : List.take (M.length + C.length + D.length) (M ++ C ++ D) = M ++ C ++ D := List.take_of_length_le (by simp only [List.length_append]; omega)
           simp (disch := omega) only [go_sem, seval, ac_predict_Events_L2, zEv, tk]
 · have hr : evsI l act = [] := if_pos (.inl hz)
   rw [hr]
   have hz' : (chkC l != 0) = true := by simpa using hz
   simp (disch := omega) only [go_sem, seval, ac_predict_Events, h1, hC, a1, a3, hz', List.map_nil]
theorem ext_valO {act : Int} {bk : List Bank} (h : ShA act bk) {i g : Nat} (hne : g ≠ i) (ds : List (List UInt8)) (a : Nat) : valL (extBk bk i ds) a g = valL bk a g := by
 obtain ⟨b0, b1, rfl, -, -, -, -⟩ := h
 rw [extBk_two]
 match a with
 | 0 => exact ext1_val hne
 | 1 => exact ext1_val hne
 | a + 2 => rfl
theorem ext_valS {act : Int} {bk : List Bank} (h : ShA act bk) {g : Nat} (hg : g < 16) (ds : List (List UInt8)) {a : Nat} (ha : a < 2) : valL (extBk bk g ds) a g = if act / 2 ^ a % 2 = 1 then sumA a (valL bk a g ++ ds.getD a []) else valL bk a g := by
 obtain ⟨b0, b1, rfl, h0, h1, -, -⟩ := h
 rw [extBk_two]
 have key : ∀ (a : Nat) (b : Bank) (d : List UInt8) (q : Prop) [Decidable q], List.length b = (if q then 16 else 0) → (ext1 a b g d).getD g [] = if q then sumA a (b.getD g [] ++ d) else b.getD g [] := by
   intro a b d q _ hb
   unfold ext1
   by_cases hq : q
   · rw [if_pos hq] at hb ⊢
     rw [if_pos hb]
     exact getD_set_eq (by omega)
   · rw [if_neg hq] at hb ⊢
     rw [if_neg (by omega)]
 rcases (show a = 0 ∨ a = 1 by omega) with rfl | rfl
 · have := key 0 b0 (ds.getD 0 []) _ h0
   simpa [valL] using this
 · have := key 1 b1 (ds.getD 1 []) _ h1
   simpa [valL] using this
def eqv (x y : Rg) (g : Nat) : Prop := valL x.1 0 g = valL y.1 0 g ∧ valL x.1 1 g = valL y.1 1 g
instance {x y : Rg} {g : Nat} : Decidable (eqv x y g) := by unfold eqv; infer_instance
theorem eqv_refl {x : Rg} {g : Nat} : eqv x x g := ⟨rfl, rfl⟩
theorem eqv.symm {x y : Rg} {g : Nat} (h : eqv x y g) : eqv y x g := ⟨h.1.symm, h.2.symm⟩
theorem eqv.trans {x y z : Rg} {g : Nat} (h : eqv x y g) (k : eqv y z g) : eqv x z g := ⟨h.1.trans k.1, h.2.trans k.2⟩
def isG (g : Nat) (e : Ev) : Prop := e.2.1 ≠ 5 ∧ e.1 = g
instance {g : Nat} {e : Ev} : Decidable (isG g e) := by unfold isG; infer_instance
def gS (g : Nat) (x : Rg) (e : Ev) : Rg := if isG g e then extP x 0 g e.2.2.1 else x
def gF (act : Int) (g : Nat) (es : List Ev) : Rg := es.foldl (gS g) (rp0 act)
theorem RQ.gS {act : Int} {n g : Nat} {x : Rg} {e : Ev} (h : RQ act n x) : RQ act (n + 1) (gS g x e) := by
 unfold Eng.gS
 split
 · exact h.ext _ _ _
 · exact h.up (by omega)
theorem evV_reg {act : Int} {e : Ev} (h : evV act e) : 0 ≤ e.1 ∧ e.1 ≤ 11 := by
 obtain ⟨h, -⟩ := h
 unfold chkE at h
 split at h
 · simp at h
 · rename_i hb
   exact ⟨by have := (goodE hb).2.1; omega, by have := (goodE hb).2.1; omega⟩
theorem ext_eqv {act : Int} {x y : Rg} {g : Nat} (hx : ShA act x.1) (hy : ShA act y.1) (hg : g < 16) (h : eqv x y g) {e : Ev} (hv : evV act e) (he : isG g e) : eqv (extP x 0 g e.2.2.1) (extP y 0 g e.2.2.1) g := by
 obtain ⟨h5, hr⟩ := he
 have e1 := ext_ok hx hv.1 h5
 have e2 := ext_ok hy hv.1 h5
 rw [hr] at e1 e2
 unfold extP
 rw [if_pos e1, if_pos e2, Int.toNat_natCast]
 refine ⟨?_, ?_⟩
 · simp only; rw [ext_valS hx hg _ (by omega), ext_valS hy hg _ (by omega), h.1]
 · simp only; rw [ext_valS hx hg _ (by omega), ext_valS hy hg _ (by omega), h.2]
theorem rpS_other {act : Int} {x : Rg} {g : Nat} (hx : ShA act x.1) {e : Ev} (hv : evV act e) (he : ¬ isG g e) : eqv (rpS x e) x g := by
 unfold rpS
 split
 · exact eqv_refl
 · rename_i h5
   have hr := evV_reg hv
   have hne : g ≠ e.1.toNat := fun h => he ⟨h5, by omega⟩
   unfold extP
   split
   · exact ⟨ext_valO hx hne _ _, ext_valO hx hne _ _⟩
   · exact eqv_refl
theorem rpS_this {x : Rg} {g : Nat} {e : Ev} (he : isG g e) : rpS x e = extP x 0 g e.2.2.1 := by
 unfold rpS
 rw [if_neg he.1, he.2]
theorem fold_eqv {act : Int} {g : Nat} (hg : g < 16) : ∀ {es : List Ev} {n m : Nat} {x y : Rg}, (∀ e ∈ es, evV act e) → RQ act n x → RQ act m y → eqv x y g → eqv (es.foldl (gS g) x) (es.foldl rpS y) g
 | [], _, _, _, _, _, _, _, h => h
 | e :: es, n, m, x, y, hv, hx, hy, h => by
   have he := hv e (by simp)
   refine fold_eqv hg (es := es) (fun e h => hv e (by simp [h])) (hx.gS (g := g) (e := e)) (hy.step (e := e)) ?_
   by_cases hi : isG g e
   · rw [rpS_this hi]
     unfold Eng.gS
     rw [if_pos hi]
     exact ext_eqv hx.1 hy.1 hg h he hi
   · have := rpS_other hy.1 he hi
     unfold Eng.gS
     rw [if_neg hi]
     exact h.trans this.symm
theorem gF_eqv {act : Int} (ha : 1 ≤ act ∧ act ≤ 3) {g : Nat} (hg : g < 16) {es : List Ev} (hv : ∀ e ∈ es, evV act e) : eqv (gF act g es) (rpF act es) g := fold_eqv hg hv (RQ.zero ha) (RQ.zero ha) eqv_refl
theorem rpE_ok {act : Int} (ha : 1 ≤ act ∧ act ≤ 3) {es : List Ev} (hv : ∀ e ∈ es, evV act e) : rpE act es = 0 := by
 unfold rpE
 rw [if_neg (by omega)]
 exact firstE_all (fun e he => (hv e he).1)
def prE (l : List Im) (act : Int) : Int := if chkC l ≠ 0 then chkC l else if act < 1 ∨ 3 < act then 1 else 0
def prG (l : List Im) (act : Int) : Rg := if prE l act = 0 then rpF act (evsC act l) else ([], 0)
theorem prE_ok {l : List Im} {act : Int} (h : prE l act = 0) : chkC l = 0 ∧ 1 ≤ act ∧ act ≤ 3 := by
 unfold prE at h
 split at h
 · contradiction
 · split at h
   · contradiction
   · omega
def imgs (l : List Im) : List Im := l.filter fun x => decide (x.1 ≠ 4)
def lnsC (l : List Im) : List (List UInt8) := (l.filter fun x => decide (x.1 = 4)).flatMap fun x => lnL x.2.2.2
theorem evsR_imgs {act r : Int} (h : r ≠ 4) {l : List Im} : evsR act r l = evsR act r (imgs l) := by
 unfold evsR imgs
 rw [List.filter_filter]
 congr 1
 refine List.filter_congr fun x _ => ?_
 by_cases hx : x.1 = r
 · rw [decide_eq_true hx, decide_eq_true (by omega)]; rfl
 · rw [decide_eq_false hx]; rfl
theorem evsR_lns {act : Int} {l : List Im} : evsR act 4 l = (lnsC l).map (mkE 9 3 act) := by
 unfold evsR lnsC
 rw [List.map_flatMap]
 rfl
theorem evsC_stages {act : Int} {l m : List Im} (h1 : imgs l = imgs m) (h2 : lnsC l = lnsC m) : evsC act l = evsC act m := by
 unfold evsC
 rw [evsR_imgs (l := l) (r := 1) (by decide), evsR_imgs (l := l) (r := 2) (by decide), evsR_imgs (l := l) (r := 3) (by decide), evsR_lns (l := l), h1, h2, ← evsR_imgs (l := m) (r := 1) (by decide), ← evsR_imgs (l := m) (r := 2) (by decide), ← evsR_imgs (l := m) (r := 3) (by decide), ← evsR_lns (l := m)]
theorem imgs_app {l m : List Im} : imgs (l ++ m) = imgs l ++ imgs m := List.filter_append ..
theorem lnsC_app {l m : List Im} : lnsC (l ++ m) = lnsC l ++ lnsC m := by unfold lnsC; rw [List.filter_append, List.flatMap_append]
theorem lnsC_take {l : List Im} {x : Im} {i : Nat} (h : l[i]? = some x) : lnsC (l.take (i + 1)) = lnsC (l.take i) ++ (if x.1 = 4 then lnL x.2.2.2 else []) := by
 rw [List.take_add_one, h, Option.toList_some, lnsC_app]
 congr 1
 unfold lnsC
 by_cases hx : x.1 = 4 <;> simp [List.filter_cons, hx]
theorem imgs_take {l : List Im} {x : Im} {i : Nat} (h : l[i]? = some x) : imgs (l.take (i + 1)) = imgs (l.take i) ++ (if x.1 = 4 then [] else [x]) := by
 rw [List.take_add_one, h, Option.toList_some, imgs_app]
 congr 1
 unfold imgs
 by_cases hx : x.1 = 4 <;> simp [List.filter_cons, hx]
end Go.Eng
end
section
namespace Go.Eng
def ac_replay_Registers_L0 (n_event_Check n_registers_Extend : Nat) : AC :=
 (.seq
 (rG 24576 [bT 24 .lss 23 22])
 (.seq
 (.cond (.tmp 24)
 .skip
 (.exit 0))
 (.seq
 (.block 1
 (.seq
 (rG 28672 [oO 25 (.iaddr 4) [.tmp 21, .tmp 23],oO 26 (.load 4 true) [.tmp 25],oO 6 (.new 4 [(.agg [(.t (.int .i64 0)), (.t (.int .i64 0)), .nil, .nil])]) [],oS 4 6 26])
 (.seq
 (rG 32768 [oO 27 (.load 4 true) [.tmp 6],oO 28 (.faddr 0) [.tmp 1],oO 29 (.load 1 false) [.tmp 28],cL 30 n_event_Check false [.tmp 27, .tmp 29],mv 7 30])
 (.seq
 (.seq
 (rG 36864 [mv 31 7,bN 32 .eql 31 0,mv 33 32,oG 34 33 (.faddr 1) [.tmp 6],oG 35 33 (.load 1 false) [.tmp 34],oG 36 33 (.bin .neq) [.tmp 35, .cst (.t (.int .i64 5))],oO 37 .pick [.tmp 33, .tmp 36, .cst (.t (.bool false))]])
 (.cond (.tmp 37)
 (rG 40960 [oO 39 (.load 2 true) [.tmp 4],oO 40 (.faddr 0) [.tmp 6],oO 41 (.load 1 false) [.tmp 40],oO 42 (.faddr 2) [.tmp 6],oO 43 (.load 1 false) [.tmp 42],cL 44 n_registers_Extend true [.tmp 39, .cst (.t (.int .i64 0)), .tmp 41, .tmp 43],mv 38 44,oO 45 (.extract 0) [.tmp 38],oO 46 (.extract 1) [.tmp 38],oS 2 4 45,mv 7 46])
 .skip))
 (.seq
 (rG 45056 [mv 47 7,bN 48 .neq 47 0])
 (.cond (.tmp 48)
 (.seq
 (rG 49152 [oO 49 (.build [.nil, (.t (.int .i64 0))] []) [],mv 50 7,oS 2 2 49,mv 3 50])
 .ret)
 .skip))))))
 (rG 53248 [bN 51 .add 23 1,mv 23 51]))))
def ac_replay_Registers (n_registers_New n_event_Check n_registers_Extend : Nat) : AC :=
 (.seq
 (rG 4096 [oO 1 .box [.tmp 0],oO 2 (.new 2 [(.agg [.nil, (.t (.int .i64 0))])]) [],mC 3 (.t (.int .i64 0))])
 (.seq
 (.seq
 (rG 8192 [oO 8 (.faddr 0) [.tmp 1],oO 9 (.load 1 false) [.tmp 8],bN 10 .lss 9 1,mv 11 10,oF 12 11 (.faddr 0) [.tmp 1],oF 13 11 (.load 1 false) [.tmp 12],oF 14 11 (.bin .gtr) [.tmp 13, .cst (.t (.int .i64 3))],oO 15 .pick [.tmp 11, .cst (.t (.bool true)), .tmp 14]])
 (.cond (.tmp 15)
 (.seq
 (rG 12288 [oO 16 (.build [.nil, (.t (.int .i64 0))] []) [],oS 2 2 16,mC 3 (.t (.int .i64 1))])
 .ret)
 .skip))
 (.seq
 (rG 16384 [oO 17 (.faddr 0) [.tmp 1],oO 18 (.load 1 false) [.tmp 17],cL 19 n_registers_New true [.tmp 18],oO 4 (.new 2 [(.agg [.nil, (.t (.int .i64 0))])]) [],oS 2 4 19])
 (.seq
 (.seq
 (rG 20480 [oO 20 (.faddr 2) [.tmp 1],oO 21 (.load 1 false) [.tmp 20],oO 22 .len [.tmp 21],mC 23 (.t (.int .i64 0))])
 (.block 0
 (.loop (ac_replay_Registers_L0 n_event_Check n_registers_Extend))))
 (.seq
 (rG 57344 [oO 52 (.load 2 true) [.tmp 4],oS 2 2 52,mC 3 (.t (.int .i64 0))])
 .ret)))))
def hints_replay_Registers : List (Nat × List Nat) := [(3, [2]), (9, [5])]
def ac_ref25_Replay_L0 (n_ref25_Event : Nat) : AC :=
 (.seq
 (.seq
 (rG 20480 [mv 17 4,oO 18 (.faddr 2) [.tmp 1],oO 19 (.load 1 false) [.tmp 18],oO 20 .len [.tmp 19],bT 21 .lss 17 20])
 (.cond (.tmp 21)
 .skip
 (.exit 0)))
 (.seq
 (.block 1
 (.seq
 (.reg 28672 (some [0, 1, 0, 7, 15, 0, 32, 127, 255]) [oO 24 (.faddr 2) [.tmp 1],oO 25 (.load 1 false) [.tmp 24],mv 26 4,oO 27 (.iaddr 4) [.tmp 25, .tmp 26],oO 28 (.load 4 true) [.tmp 27],oO 29 (.faddr 0) [.tmp 1],oO 30 (.load 1 false) [.tmp 29],cL 31 n_ref25_Event false [.tmp 28, .tmp 30],mv 5 31])
 (.seq
 (rG 32768 [mv 32 5,bN 33 .neq 32 0])
 (.cond (.tmp 33)
 (.seq
 (rG 36864 [oO 34 (.build [.nil, (.t (.int .i64 0))] []) [],mv 35 5,oS 2 2 34,mv 3 35])
 .ret)
 .skip))))
 (rG 24576 [mv 22 4,bN 23 .add 22 1,mv 4 23])))
def ac_ref25_Replay_L1 (n_ref8_Extend : Nat) : AC :=
 (.seq
 (.seq
 (rG 49152 [mv 39 7,oO 40 (.faddr 2) [.tmp 1],oO 41 (.load 1 false) [.tmp 40],oO 42 .len [.tmp 41],bT 43 .lss 39 42])
 (.cond (.tmp 43)
 .skip
 (.exit 2)))
 (.seq
 (.block 3
 (.seq
 (rG 57344 [oO 46 (.faddr 2) [.tmp 1],oO 47 (.load 1 false) [.tmp 46],mv 48 7,oO 49 (.iaddr 4) [.tmp 47, .tmp 48],oO 50 (.faddr 1) [.tmp 49],oO 51 (.load 1 false) [.tmp 50],bN 52 .neq 51 5])
 (.cond (.tmp 52)
 (.reg 61440 (some [0, 0, 2, 0, 14, 30, 62, 0, 128, 0, 896, 1920, 3968, 8191, 16383, 32767, 32767, 65535]) [oO 54 (.load 2 true) [.tmp 6],oO 55 (.faddr 2) [.tmp 1],oO 56 (.load 1 false) [.tmp 55],mv 57 7,oO 58 (.iaddr 4) [.tmp 56, .tmp 57],oO 59 (.faddr 0) [.tmp 58],oO 60 (.load 1 false) [.tmp 59],oO 61 (.faddr 2) [.tmp 1],oO 62 (.load 1 false) [.tmp 61],mv 63 7,oO 64 (.iaddr 4) [.tmp 62, .tmp 63],oO 65 (.faddr 2) [.tmp 64],oO 66 (.load 1 false) [.tmp 65],cL 67 n_ref8_Extend true [.tmp 54, .cst (.t (.int .i64 0)), .tmp 60, .tmp 66],mv 53 67,oO 68 (.extract 0) [.tmp 53],oO 69 (.extract 1) [.tmp 53],oS 2 6 68])
 .skip)))
 (rG 53248 [mv 44 7,bN 45 .add 44 1,mv 7 45])))
def ac_ref25_Replay (n_ref25_Event n_ref8_New n_ref8_Extend : Nat) : AC :=
 (.seq
 (rG 4096 [oO 1 .box [.tmp 0],oO 2 (.new 2 [(.agg [.nil, (.t (.int .i64 0))])]) [],mC 3 (.t (.int .i64 0))])
 (.seq
 (.seq
 (rG 8192 [oO 8 (.faddr 0) [.tmp 1],oO 9 (.load 1 false) [.tmp 8],bN 10 .lss 9 1,mv 11 10,oF 12 11 (.faddr 0) [.tmp 1],oF 13 11 (.load 1 false) [.tmp 12],oF 14 11 (.bin .gtr) [.tmp 13, .cst (.t (.int .i64 3))],oO 15 .pick [.tmp 11, .cst (.t (.bool true)), .tmp 14]])
 (.cond (.tmp 15)
 (.seq
 (rG 12288 [oO 16 (.build [.nil, (.t (.int .i64 0))] []) [],oS 2 2 16,mC 3 (.t (.int .i64 1))])
 .ret)
 .skip))
 (.seq
 (.seq
 (rG 16384 [mC 4 (.t (.int .i64 0))])
 (.block 0
 (.loop (ac_ref25_Replay_L0 n_ref25_Event))))
 (.seq
 (rG 40960 [oO 36 (.faddr 0) [.tmp 1],oO 37 (.load 1 false) [.tmp 36],cL 38 n_ref8_New true [.tmp 37],oO 6 (.new 2 [(.agg [.nil, (.t (.int .i64 0))])]) [],oS 2 6 38])
 (.seq
 (.seq
 (rG 45056 [mC 7 (.t (.int .i64 0))])
 (.block 2
 (.loop (ac_ref25_Replay_L1 n_ref8_Extend))))
 (.seq
 (rG 65536 [oO 70 (.load 2 true) [.tmp 6],oS 2 2 70,mC 3 (.t (.int .i64 0))])
 .ret))))))
def hints_ref25_Replay : List (Nat × List Nat) := [(9, [2]), (14, [13])]
end Go.Eng
end
section
set_option maxRecDepth 20000
set_option maxHeartbeats 64000000
namespace Go.Eng
theorem nat_and2 (n : Nat) : n &&& 2 = n / 2 % 2 * 2 := by
 have h1 : (n &&& 2) / 2 = n / 2 % 2 := by
   rw [Nat.and_div_two]; exact Nat.and_one_is_mod _
 have h2 : (n &&& 2) % 2 = 0 := by
   have := Nat.and_mod_two_pow (a := n) (b := 2) (n := 1)
   simpa using this
 omega
theorem and2 {x : Int} : binI .and .i64 x .i64 2 = some (.int .i64 (x / 2 % 2 * 2)) := by
 have h2 : ((BitVec.ofInt 64 x &&& BitVec.ofInt 64 2).toNat : Int) = x / 2 % 2 * 2 := by
   rw [BitVec.toNat_and, BitVec.toNat_ofInt]
   have e2 : (BitVec.ofInt 64 2).toNat = 2 := by decide
   rw [e2, nat_and2]
   have e3 : ((2 ^ 64 : Nat) : Int) = 18446744073709551616 := by decide
   rw [e3]
   omega
 change some (T.int IntKind.i64 (IntKind.i64.wrap ((BitVec.ofInt 64 x &&& BitVec.ofInt 64 2).toNat : Int))) = _
 rw [h2, wrap_i64_id (by omega)]
attribute [go_sem ↓] and2
def ct_digs : Ct where
 α := List Bank × Int × Int × Int
 as x := [.t (regT x.1 x.2.1), .t (.agg [.int .i64 x.2.2.1, .int .i64 x.2.2.2])]
 ins _ := []
 pre x := RV x.1
 r x := digR x.1 x.2.2.1 x.2.2.2
 outs x := digO x.1 x.2.2.1 x.2.2.2
 inj := by
   rintro ⟨a, u, l, i⟩ ⟨b, v, l', i'⟩ h _
   simp only [List.cons.injEq, V.t.injEq, T.int.injEq, T.agg.injEq, true_and, and_true] at h
   obtain ⟨h1, rfl, rfl⟩ := h
   obtain ⟨rfl, rfl⟩ := regT_inj h1
   exact ⟨rfl, rfl⟩
theorem rpl_eq {act rs : Int} {es : List Ev} (h : esM es) : ct_rpl.fs [.t (.agg [.int .i64 act, .int .i64 rs, .sl (es.map evT)])] [] = some (.tup [.t (.agg [.sl ((rpG act es).1.map bankT), .int .i64 (rpG act es).2]), .t (.int .i64 (rpE act es))], []) := ct_rpl.eq (act, rs, es) h
def rpP (act : Int) (es : List Ev) (i : Nat) : Rg := (es.take i).foldl rpS (rp0 act)
theorem rpP_s {act : Int} {es : List Ev} {i : Nat} {e : Ev} (h : es[i]? = some e) : rpP act es (i + 1) = rpS (rpP act es i) e := by
 unfold rpP
 rw [List.take_add_one, h, List.foldl_append]; rfl
theorem rpP_rq {act : Int} (ha : 1 ≤ act ∧ act ≤ 3) {es : List Ev} {i : Nat} : RQ act i (rpP act es i) := by
 have := RQ.fold ha (es := es.take i) (RQ.zero ha)
 rw [Nat.zero_add] at this
 exact this.up (by rw [List.length_take]; omega)
theorem new2 {act : Int} (ha : 1 ≤ act ∧ act ≤ 3) : ∃ b0 b1 : Bank, newBk act = [b0, b1] ∧ List.length b0 ≤ 16 ∧ List.length b1 ≤ 16 ∧ ct_new.fs [.t (.int .i64 act)] [] = some (.agg [.sl 0 0 2, .t (.int .i64 0)], [.live 1 [.sl 1 0 b0.length, .sl 2 0 b1.length] true false, .live 1 ((b0.map bsT).map V.t) true false, .live 1 ((b1.map bsT).map V.t) true false]) := by
 rcases new_casesX act with ⟨e, _⟩ | ⟨b0, b1, e, g0, g1, hn⟩
 · obtain ⟨b0, b1, e2, _⟩ := ShA.new ha
   rw [e] at e2; cases e2
 · exact ⟨b0, b1, e, by rcases g0 with h | h <;> omega, by rcases g1 with h | h <;> omega, hn⟩
theorem ext_val0 {act : Int} {x : Rg} {n : Nat} {r k : Int} {ds : List (List UInt8)} {d : List UInt8} (hx : RQ act n x) (hn : n < 1000000) (hm : evX (r, k, ds, d)) (hl : ds.length < 1000000000) (hc : chkE (r, k, ds, d) act = 0) (h5 : k ≠ 5) :
   ct_ext.fs [.t (.agg [.sl (x.1.map bankT), .int .i64 x.2]), .t (.int .i64 0), .t (.int .i64 r), .t (.sl (ds.map bsT))] [] = some (.tup [.t (.agg [.sl ((rpS x (r, k, ds, d)).1.map bankT), .int .i64 (rpS x (r, k, ds, d)).2]), .t (.int .i64 0)], []) := by
 have hE := ct_ext.eq (x.1, x.2, 0, r, ds) ⟨hx.1.rv, ⟨hx.2.1, by show x.2 < 1000000000; have := hx.2.2; omega⟩, hl, fun y hy => by have := hm.2.1 y hy; omega⟩
 have h0 := ext_ok hx.1 hc h5
 have hr : extR x.1 x.2 0 r ds = .tup [.t (regT (extBk x.1 r.toNat ds) (x.2 + 1)), .t (.int .i64 0)] := if_pos h0
 rw [rpS_ext hx.1 hc h5]
 exact hE.trans (by show some (extR x.1 x.2 0 r ds, ([] : List Ob)) = _; rw [hr]; rfl)
theorem chk_len {r k act : Int} {ds : List (List UInt8)} {d : List UInt8} (hc : chkE (r, k, ds, d) act = 0) : ds.length = 2 := by
 unfold chkE at hc
 simp only at hc
 split at hc
 · simp at hc
 · split at hc
   · simp at hc
   · split at hc
     · rename_i hf
       unfold fitE at hf
       simp only [Bool.and_eq_true, decide_eq_true_eq] at hf
       exact hf.1.1
     · simp at hc
theorem rpV_bad {act : Int} {es : List Ev} {c : Int} (h : rpE act es = c) (hc : c ≠ 0) : rpV act es = .tup [.t (.agg [.sl [], .int .i64 0]), .t (.int .i64 c)] := by
 unfold rpV rpG
 rw [h, if_neg hc]; rfl
theorem rpV_good {act : Int} {es : List Ev} (h : rpE act es = 0) : rpV act es = .tup [.t (.agg [.sl ((rpP act es es.length).1.map bankT), .int .i64 (rpP act es es.length).2]), .t (.int .i64 0)] := by
 unfold rpV rpG
 rw [h, if_pos rfl]
 unfold rpP rpF
 rw [List.take_length]; rfl
theorem take_all {act : Int} {es : List Ev} {i : Nat} {e : Ev} (h : es[i]? = some e) (hP : ∀ x ∈ es.take i, chkE x act = 0) (he : chkE e act = 0) : ∀ x ∈ es.take (i + 1), chkE x act = 0 := by
 intro x hx
 rw [List.take_add_one, h] at hx
 simp only [Option.toList_some, List.mem_append, List.mem_cons, List.not_mem_nil, or_false] at hx
 rcases hx with hx | rfl
 · exact hP x hx
 · exact he
theorem first_bad {act : Int} {es : List Ev} {i : Nat} {e : Ev} (ha : 1 ≤ act ∧ act ≤ 3) (h : es[i]? = some e) (hP : ∀ x ∈ es.take i, chkE x act = 0) (he : chkE e act ≠ 0) : rpE act es = chkE e act := by
 have hlt : i < es.length := (List.getElem?_eq_some_iff.1 h).1
 have hg : es.getD i ev0 = e := by simp [List.getD, h]
 unfold rpE
 rw [if_neg (by omega), firstE_at (i := i) hlt hP (by rw [hg]; exact he), hg]
theorem first_good {act : Int} {es : List Ev} (ha : 1 ≤ act ∧ act ≤ 3) (hP : ∀ x ∈ es, chkE x act = 0) : rpE act es = 0 := by
 unfold rpE
 rw [if_neg (by omega)]
 exact firstE_all hP
theorem w_replay_Registers (tab : Tab) (gl : Gl) (n1 n2 n3 : Nat) (h1 : tab.look n1 = some ct_new.fs) (h2 : tab.look n2 = some ct_chkX.fs) (h3 : tab.look n3 = some ct_ext.fs) (act rs : Int) (es : List Ev) (hm : esM es) :
   (ac_replay_Registers n1 n2 n3).wp tab gl (zipF 0 [.t (lgT (act, rs, es))]) (zipF 0 []) (resW [(2, some (2, true)), (3, none)] 0 (fun r o => r = rpV act es ∧ o = [])) := by
 by_cases a1 : act < 1
 · rw [rpV_bad (c := 1) (if_pos (.inl a1)) (by decide)]
   simp (disch := omega) only [go_sem, seval, ac_replay_Registers, lgT_def, a1]
 by_cases a3 : 3 < act
 · rw [rpV_bad (c := 1) (if_pos (.inr a3)) (by decide)]
   simp (disch := omega) only [go_sem, seval, ac_replay_Registers, lgT_def, a1, a3]
 have ha : 1 ≤ act ∧ act ≤ 3 := by omega
 obtain ⟨b0, b1, hb, hl0, hl1, hN⟩ := new2 ha
 have hlen := hm.1
 have hx0 : rpP act es 0 = ([b0, b1], 0) := by rw [← hb]; rfl
 simp (disch := omega) only [go_sem, seval, ac_replay_Registers, lgT_def, a1, a3, h1, hN]
 refine loop_uptoP es.length (fun i => ∀ e ∈ es.take i, chkE e act = 0) (fun i => [(1, .ref 4096 0 0), (2, .ref 4112 0 0), (4, .ref 16432 0 0), (21, .t (.sl (es.map evT))), (22, .t (.int .i64 es.length)), (23, .t (.int .i64 (i : Nat)))])
   (fun i => [(16432, .live 2 [.t (.agg [.sl ((rpP act es i).1.map bankT), .int .i64 (rpP act es i).2])] true true), (4112, .live 2 [.agg [.nil, .t (.int .i64 0)]] true true), (4096, .live 3 [.t (.agg [.int .i64 act, .int .i64 rs, .sl (es.map evT)])] true true)]) (by simp) ?_ (fun i hi hP => ?_)
 · refine Weak.cv (hv := []) [16417, 16418, 16416] id ?_ rfl
   simp (disch := omega) only [go_sem, seval, id, hx0, List.map_nil, List.map_cons]
   all_goals rfl
 · by_cases hlt : i < es.length
   · obtain ⟨⟨r, k, ds, d⟩, he⟩ : ∃ e, es[i]? = some e := ⟨es[i], by simp [hlt]⟩
     have hx := hm.2 _ (List.mem_of_getElem? he)
     have hC := chkX_eq (act := act) hx
     have hs := rpP_s (act := act) he
     have hq := rpP_rq ha (es := es) (i := i)
     by_cases hz : chkE (r, k, ds, d) act = 0
     · have hP' := take_all he hP hz
       have hE := fun h5 => ext_val0 hq (by omega) hx (by rw [chk_len hz]; omega) hz h5
       rw [hz] at hC
       rw [← hs] at hE
       by_cases h5 : k = 5
       · subst h5
         have hs' : rpP act es (i + 1) = rpP act es i := hs.trans (if_pos rfl)
         generalize rpP act es i = X at *
         simp (disch := omega) only [go_sem, seval, ac_replay_Registers_L0, evT_def, he, h2, hC]
         refine ⟨hlt, hP', Weak.rd id ?_ ?_ rfl⟩
         all_goals simp (disch := omega) only [go_sem, seval, id, hs']
       · have h5b : (k != 5) = true := by simpa using h5
         have hE := hE h5
         generalize hY : rpP act es (i + 1) = Y at *
         generalize rpP act es i = X at *
         simp (disch := omega) only [go_sem, seval, ac_replay_Registers_L0, evT_def, he, h2, hC, h5b, h3, hE]
         refine ⟨hlt, hP', Weak.rd id ?_ ?_ rfl⟩
         all_goals simp (disch := omega) only [go_sem, seval, id, hY]
     · have hz' : (chkE (r, k, ds, d) act == 0) = false := by simpa using hz
       have hz2 : (chkE (r, k, ds, d) act != 0) = true := by simpa using hz
       rw [rpV_bad (first_bad ha he hP hz) hz]
       generalize chkE (r, k, ds, d) act = c at *
       generalize rpP act es i = X at *
       simp (disch := omega) only [go_sem, seval, ac_replay_Registers_L0, evT_def, he, h2, hC, hz', hz2]
   · have e : i = es.length := by omega
     subst e
     rw [List.take_length] at hP
     rw [rpV_good (first_good ha hP)]
     generalize rpP act es es.length = X at *
     simp (disch := omega) only [go_sem, seval, ac_replay_Registers_L0]
theorem w_ref25_Replay (tab : Tab) (gl : Gl) (n1 n2 n3 : Nat) (h1 : tab.look n1 = some ct_chkX.fs) (h2 : tab.look n2 = some ct_new.fs) (h3 : tab.look n3 = some ct_ext.fs) (act rs : Int) (es : List Ev) (hm : esM es) :
   (ac_ref25_Replay n1 n2 n3).wp tab gl (zipF 0 [.t (lgT (act, rs, es))]) (zipF 0 []) (resW [(2, some (2, true)), (3, none)] 0 (fun r o => r = rpV act es ∧ o = [])) := by
 by_cases a1 : act < 1
 · rw [rpV_bad (c := 1) (if_pos (.inl a1)) (by decide)]
   simp (disch := omega) only [go_sem, seval, ac_ref25_Replay, lgT_def, a1]
 by_cases a3 : 3 < act
 · rw [rpV_bad (c := 1) (if_pos (.inr a3)) (by decide)]
   simp (disch := omega) only [go_sem, seval, ac_ref25_Replay, lgT_def, a1, a3]
 have ha : 1 ≤ act ∧ act ≤ 3 := by omega
 obtain ⟨b0, b1, hb, hl0, hl1, hN⟩ := new2 ha
 have hlen := hm.1
 have hx0 : rpP act es 0 = ([b0, b1], 0) := by rw [← hb]; rfl
 simp (disch := omega) only [go_sem, seval, ac_ref25_Replay, lgT_def, a1, a3]
 refine loop_uptoP es.length (fun i => ∀ e ∈ es.take i, chkE e act = 0) (fun i => [(1, .ref 4096 0 0), (2, .ref 4112 0 0), (4, .t (.int .i64 (i : Nat)))])
   (fun i => [(4112, .live 2 [.agg [.nil, .t (.int .i64 0)]] true true), (4096, .live 3 [.t (.agg [.int .i64 act, .int .i64 rs, .sl (es.map evT)])] true true)]) (by simp) ?_ (fun i hi hP => ?_)
 · refine Weak.rd id ?_ ?_ rfl
   all_goals simp (disch := omega) only [go_sem, seval, id]
 · by_cases hlt : i < es.length
   · obtain ⟨⟨r, k, ds, d⟩, he⟩ : ∃ e, es[i]? = some e := ⟨es[i], by simp [hlt]⟩
     have hx := hm.2 _ (List.mem_of_getElem? he)
     have hC := chkX_eq (act := act) hx
     by_cases hz : chkE (r, k, ds, d) act = 0
     · have hP' := take_all he hP hz
       rw [hz] at hC
       simp (disch := omega) only [go_sem, seval, ac_ref25_Replay_L0, evT_def, he, h1, hC]
       repeat refine And.intro rfl ?_
       refine ⟨hlt, hP', Weak.rd id ?_ ?_ rfl⟩
       all_goals simp (disch := omega) only [go_sem, seval, id]
     · have hz2 : (chkE (r, k, ds, d) act != 0) = true := by simpa using hz
       rw [rpV_bad (first_bad ha he hP hz) hz]
       generalize chkE (r, k, ds, d) act = c at *
       simp (disch := omega) only [go_sem, seval, ac_ref25_Replay_L0, evT_def, he, h1, hC, hz2]
       all_goals rfl
   · have e : i = es.length := by omega
     subst e
     rw [List.take_length] at hP
     rw [rpV_good (first_good ha hP)]
     simp (disch := omega) only [go_sem, seval, ac_ref25_Replay_L0, h2, hN]
     refine loop_upto es.length (fun j => [(1, .ref 4096 0 0), (2, .ref 4112 0 0), (6, .ref 41008 0 0), (7, .t (.int .i64 (j : Nat)))])
       (fun j => [(41008, .live 2 [.t (.agg [.sl ((rpP act es j).1.map bankT), .int .i64 (rpP act es j).2])] true true), (4112, .live 2 [.agg [.nil, .t (.int .i64 0)]] true true), (4096, .live 3 [.t (.agg [.int .i64 act, .int .i64 rs, .sl (es.map evT)])] true true)]) ?_ (fun j hj => ?_)
     · refine Weak.cv (hv := []) [40993, 40994, 40992] id ?_ rfl
       simp (disch := omega) only [go_sem, seval, id, hx0, List.map_nil, List.map_cons]
       all_goals rfl
     · by_cases hlt : j < es.length
       · obtain ⟨⟨r, k, ds, d⟩, he⟩ : ∃ e, es[j]? = some e := ⟨es[j], by simp [hlt]⟩
         have hx := hm.2 _ (List.mem_of_getElem? he)
         have hs := rpP_s (act := act) he
         have hq := rpP_rq ha (es := es) (i := j)
         have hz := hP _ (List.mem_of_getElem? he)
         have hE := fun h5 => ext_val0 hq (by omega) hx (by rw [chk_len hz]; omega) hz h5
         rw [← hs] at hE
         by_cases h5 : k = 5
         · subst h5
           have hs' : rpP act es (j + 1) = rpP act es j := hs.trans (if_pos rfl)
           generalize rpP act es j = X at *
           simp (disch := omega) only [go_sem, seval, ac_ref25_Replay_L1, evT_def, he]
           refine ⟨hlt, Weak.rd id ?_ ?_ rfl⟩
           all_goals simp (disch := omega) only [go_sem, seval, id, hs']
         · have h5b : (k != 5) = true := by simpa using h5
           have hE := hE h5
           generalize hY : rpP act es (j + 1) = Y at *
           generalize rpP act es j = X at *
           simp (disch := omega) only [go_sem, seval, ac_ref25_Replay_L1, evT_def, he, h5b, h3, hE]
           repeat refine And.intro rfl ?_
           refine ⟨hlt, Weak.rd id ?_ ?_ rfl⟩
           all_goals simp (disch := omega) only [go_sem, seval, id, hY]
       · have e : j = es.length := by omega
         subst e
         generalize rpP act es es.length = X at *
         simp (disch := omega) only [go_sem, seval, ac_ref25_Replay_L1]
theorem valL_le {bk : List Bank} (h : RV bk) {a g : Nat} : (valL bk a g).length ≤ 64 := by
 unfold valL
 by_cases ha : a < bk.length
 · have e : bk.getD a [] = bk[a] := by simp [List.getD, ha]
   rw [e]
   exact getD_le (h.2 _ (List.getElem_mem ha))
 · have e : bk.getD a [] = [] := by simp [List.getD, List.getElem?_eq_none (Nat.le_of_not_lt ha)]
   rw [e]; simp
theorem ShA.on {act : Int} {bk : List Bank} (h : ShA act bk) {a : Nat} (ha : a < 2) (hb : act / 2 ^ a % 2 = 1) : onB bk a = true := by
 obtain ⟨b0, b1, rfl, h0, h1, -, -⟩ := h
 rcases (show a = 0 ∨ a = 1 by omega) with rfl | rfl
 · rw [if_pos (by simpa using hb)] at h0
   unfold onB; exact decide_eq_true h0
 · rw [if_pos (by simpa using hb)] at h1
   unfold onB; exact decide_eq_true h1
theorem chk_reg {r k act : Int} {ds : List (List UInt8)} {d : List UInt8} (hc : chkE (r, k, ds, d) act = 0) : 0 ≤ r ∧ r ≤ 11 := by
 unfold chkE at hc
 split at hc
 · simp at hc
 · rename_i hb
   have := (goodE hb).2.1
   simp only at this
   omega
end Go.Eng
end
section
namespace Go.Eng
def ac_predict_Digest (n_predict_Registers n_registers_Digest : Nat) : AC :=
 (.seq
 (rG 4096 [oO 5 .boxArr [.tmp 2],mC 6 .nil,mC 7 (.t (.int .i64 0))])
 (.seq
 (rG 8192 [mv 11 0,mv 12 1,cL 13 n_predict_Registers true [.tmp 11, .tmp 12],mv 10 13,oO 14 (.extract 0) [.tmp 10],oO 15 (.extract 1) [.tmp 10],oO 8 (.new 2 [(.agg [.nil, (.t (.int .i64 0))])]) [],oS 2 8 14,mv 9 15])
 (.seq
 (.seq
 (rG 12288 [mv 16 9,bN 17 .neq 16 0])
 (.cond (.tmp 17)
 (.seq
 (rG 16384 [mv 18 9,mC 6 .nil,mv 7 18])
 .ret)
 .skip))
 (.seq
 (rG 20480 [oO 19 (.load 2 true) [.tmp 8],oO 20 (.load 2 true) [.tmp 5],cL 21 n_registers_Digest false [.tmp 19, .tmp 20],oO 22 (.extract 0) [.tmp 21],oO 23 (.extract 1) [.tmp 21],mv 6 22,mv 7 23])
 .ret))))
def hints_predict_Digest : List (Nat × List Nat) := [(1, [2])]
def ac_ref25_Predict (n_ref25_Chain n_ref25_Events n_ref25_Replay : Nat) : AC :=
 (.seq
 (rG 4096 [oO 4 (.new 2 [(.agg [.nil, (.t (.int .i64 0))])]) [],mC 5 (.t (.int .i64 0))])
 (.seq
 (.seq
 (rG 8192 [mv 7 0,cL 8 n_ref25_Chain false [.tmp 7],mv 6 8])
 (.seq
 (rG 12288 [mv 9 6,bN 10 .neq 9 0])
 (.cond (.tmp 10)
 (.seq
 (rG 16384 [oO 11 (.build [.nil, (.t (.int .i64 0))] []) [],mv 12 6,oS 2 4 11,mv 5 12])
 .ret)
 .skip)))
 (.seq
 (.seq
 (rG 20480 [mv 13 1,bN 14 .lss 13 1,mv 15 14,mF 16 1 15,oF 17 15 (.bin .gtr) [.tmp 16, .cst (.t (.int .i64 3))],oO 18 .pick [.tmp 15, .cst (.t (.bool true)), .tmp 17]])
 (.cond (.tmp 18)
 (.seq
 (rG 24576 [oO 19 (.build [.nil, (.t (.int .i64 0))] []) [],oS 2 4 19,mC 5 (.t (.int .i64 1))])
 .ret)
 .skip))
 (.seq
 (rG 28672 [mv 20 1,mv 21 0,mv 22 1,cL 23 n_ref25_Events true [.tmp 21, .tmp 22],oO 24 (.build [(.t (.int .i64 0)), (.t (.int .i64 0)), .nil] [(0, 1), (2, 1)]) [.tmp 20, .tmp 23],cL 25 n_ref25_Replay true [.tmp 24],oO 26 (.extract 0) [.tmp 25],oO 27 (.extract 1) [.tmp 25],oS 2 4 26,mv 5 27])
 .ret))))
def hints_ref25_Predict : List (Nat × List Nat) := [(6, [3, 5])]
def ac_ref25_SameChain_L0 (n_ref25_SameImage : Nat) : AC :=
 (.seq
 (.seq
 (rG 20480 [mv 11 5,mv 12 0,oO 13 .len [.tmp 12],bT 14 .lss 11 13])
 (.cond (.tmp 14)
 .skip
 (.exit 0)))
 (.seq
 (.block 1
 (.seq
 (.reg 28672 (some [0, 0, 3, 7, 0, 0, 48, 112, 255, 511]) [mv 17 0,mv 18 5,oO 19 (.iaddr 4) [.tmp 17, .tmp 18],oO 20 (.load 4 true) [.tmp 19],mv 21 1,mv 22 5,oO 23 (.iaddr 4) [.tmp 21, .tmp 22],oO 24 (.load 4 true) [.tmp 23],cL 25 n_ref25_SameImage false [.tmp 20, .tmp 24],oO 26 (.un .not) [.tmp 25]])
 (.cond (.tmp 26)
 (.seq
 (rG 32768 [mC 4 (.t (.bool false))])
 .ret)
 .skip)))
 (rG 24576 [mv 15 5,bN 16 .add 15 1,mv 5 16])))
def ac_ref25_SameChain (n_ref25_SameImage : Nat) : AC :=
 (.seq
 (rG 4096 [mC 4 (.t (.bool false))])
 (.seq
 (.seq
 (rG 8192 [mv 6 0,oO 7 .len [.tmp 6],mv 8 1,oO 9 .len [.tmp 8],bT 10 .neq 7 9])
 (.cond (.tmp 10)
 (.seq
 (rG 12288 [mC 4 (.t (.bool false))])
 .ret)
 .skip))
 (.seq
 (.seq
 (rG 16384 [mC 5 (.t (.int .i64 0))])
 (.block 0
 (.loop (ac_ref25_SameChain_L0 n_ref25_SameImage))))
 (.seq
 (rG 36864 [mC 4 (.t (.bool true))])
 .ret))))
def hints_ref25_SameChain : List (Nat × List Nat) := []
def ac_ref25_SameImage (n_ref1_Same : Nat) : AC :=
 (.seq
 (rG 4096 [oO 2 .box [.tmp 0],oO 3 .box [.tmp 1],mC 4 (.t (.bool false))])
 (.seq
 (rG 8192 [oO 5 (.faddr 0) [.tmp 2],oO 6 (.load 1 false) [.tmp 5],oO 7 (.faddr 0) [.tmp 3],oO 8 (.load 1 false) [.tmp 7],bT 9 .eql 6 8,mv 10 9,oG 11 10 (.faddr 1) [.tmp 2],oG 12 10 (.load 1 false) [.tmp 11],oG 13 10 (.faddr 1) [.tmp 3],oG 14 10 (.load 1 false) [.tmp 13],oG 15 10 (.bin .eql) [.tmp 12, .tmp 14],oO 16 .pick [.tmp 10, .tmp 15, .cst (.t (.bool false))],mv 17 16,oG 18 17 (.faddr 2) [.tmp 2],oG 19 17 (.load 1 false) [.tmp 18],oG 20 17 (.faddr 2) [.tmp 3],oG 21 17 (.load 1 false) [.tmp 20],oG 22 17 (.bin .eql) [.tmp 19, .tmp 21],oO 23 .pick [.tmp 17, .tmp 22, .cst (.t (.bool false))],mv 24 23,oG 25 24 (.faddr 3) [.tmp 2],oG 26 24 (.load 1 false) [.tmp 25],oG 27 24 (.faddr 3) [.tmp 3],oG 28 24 (.load 1 false) [.tmp 27],cG 29 24 n_ref1_Same false [.tmp 26, .tmp 28],oO 30 .pick [.tmp 24, .tmp 29, .cst (.t (.bool false))],mv 4 30])
 .ret))
def hints_ref25_SameImage : List (Nat × List Nat) := []
def ac_draw_Collides_L1 (n_ref1_Collide : Nat) : AC :=
 (.seq
 (.seq
 (rG 36864 [mv 20 5,mv 21 4,bT 22 .lss 20 21])
 (.cond (.tmp 22)
 .skip
 (.exit 2)))
 (.seq
 (.block 3
 (.seq
 (.reg 45056 (some [0, 0, 3, 7, 0, 0, 48, 112, 255]) [mv 25 0,mv 26 4,oO 27 (.iaddr 1) [.tmp 25, .tmp 26],oO 28 (.load 1 false) [.tmp 27],mv 29 0,mv 30 5,oO 31 (.iaddr 1) [.tmp 29, .tmp 30],oO 32 (.load 1 false) [.tmp 31],cL 33 n_ref1_Collide false [.tmp 28, .tmp 32, .cst (.t (.int .i64 32))]])
 (.cond (.tmp 33)
 (.seq
 (rG 49152 [mC 2 (.t (.bool true))])
 .ret)
 .skip)))
 (rG 40960 [mv 23 5,bN 24 .add 23 1,mv 5 24])))
def ac_draw_Collides_L0 (n_ref1_Sum256 n_ref1_Same n_ref1_Collide : Nat) : AC :=
 (.seq
 (.seq
 (rG 16384 [mv 7 4,mv 8 0,oO 9 .len [.tmp 8],bT 10 .lss 7 9])
 (.cond (.tmp 10)
 .skip
 (.exit 0)))
 (.seq
 (.block 1
 (.seq
 (.seq
 (rG 24576 [mv 13 0,mv 14 4,oO 15 (.iaddr 1) [.tmp 13, .tmp 14],oO 16 (.load 1 false) [.tmp 15],cL 17 n_ref1_Sum256 false [.tmp 16],mv 18 3,cL 19 n_ref1_Same false [.tmp 17, .tmp 18]])
 (.cond (.tmp 19)
 (.seq
 (rG 28672 [mC 2 (.t (.bool true))])
 .ret)
 .skip))
 (.seq
 (rG 32768 [mC 5 (.t (.int .i64 0))])
 (.block 2
 (.loop (ac_draw_Collides_L1 n_ref1_Collide))))))
 (rG 20480 [mv 11 4,bN 12 .add 11 1,mv 4 12])))
def ac_draw_Collides (n_ref1_Sum256 n_ref1_Same n_ref1_Collide : Nat) : AC :=
 (.seq
 (rG 4096 [mC 2 (.t (.bool false))])
 (.seq
 (rG 8192 [oO 6 (.mkslice 1 1 (.t (byteT 0))) [.cst (.t (.int .i64 32)), .cst (.t (.int .i64 32))],mv 3 6])
 (.seq
 (.seq
 (rG 12288 [mC 4 (.t (.int .i64 0))])
 (.block 0
 (.loop (ac_draw_Collides_L0 n_ref1_Sum256 n_ref1_Same n_ref1_Collide))))
 (.seq
 (rG 53248 [mC 2 (.t (.bool false))])
 .ret))))
def hints_draw_Collides : List (Nat × List Nat) := []
def ac_law29_hashed_L0 (n_ref25_EncodeImage : Nat) : AC :=
 (.seq
 (.seq
 (rG 16384 [mv 10 4,mv 11 0,oO 12 .len [.tmp 11],bT 13 .lss 10 12])
 (.cond (.tmp 13)
 .skip
 (.exit 0)))
 (.seq
 (.block 1
 (.seq
 (rG 24576 [mv 16 0,mv 17 4,oO 18 (.iaddr 4) [.tmp 16, .tmp 17],oO 19 (.faddr 0) [.tmp 18],oO 20 (.load 1 false) [.tmp 19],bN 21 .neq 20 4])
 (.cond (.tmp 21)
 (rG 28672 [mv 22 3,mv 23 0,mv 24 4,oO 25 (.iaddr 4) [.tmp 23, .tmp 24],oO 26 (.load 4 true) [.tmp 25],cL 27 n_ref25_EncodeImage true [.tmp 26],oO 28 (.bslice 1 1 .nil [0]) [.tmp 27],oO 29 (.append 1 24) [.tmp 22, .tmp 28],mv 3 29])
 .skip)))
 (rG 20480 [mv 14 4,bN 15 .add 14 1,mv 4 15])))
def ac_law29_hashed_L1 : AC :=
 (.seq
 (.seq
 (rG 45056 [mv 32 7,bN 33 .lss 32 12])
 (.cond (.tmp 33)
 .skip
 (.exit 2)))
 (.seq
 (.block 3
 (rG 53248 [mv 36 7,oO 37 (.mkslice 1 1 (.t (byteT 0))) [.cst (.t (.int .i64 32)), .cst (.t (.int .i64 32))],oO 38 (.aaddr 12 1) [.tmp 6, .tmp 36],oS 1 38 37]))
 (rG 49152 [mv 34 7,bN 35 .add 34 1,mv 7 35])))
def ac_law29_hashed_L2 (n_ref1_Sum256 : Nat) : AC :=
 (.seq
 (.seq
 (rG 61440 [mv 39 8,mv 40 5,oO 41 .len [.tmp 40],bT 42 .lss 39 41])
 (.cond (.tmp 42)
 .skip
 (.exit 4)))
 (.seq
 (.block 5
 (.seq
 (.seq
 (rG 69632 [mv 45 5,mv 46 8,oO 47 (.iaddr 4) [.tmp 45, .tmp 46],oO 48 (.faddr 1) [.tmp 47],oO 49 (.load 1 false) [.tmp 48],bN 50 .neq 49 1])
 (.cond (.tmp 50)
 (rG 73728 [mv 51 3,mv 52 5,mv 53 8,oO 54 (.iaddr 4) [.tmp 52, .tmp 53],oO 55 (.faddr 3) [.tmp 54],oO 56 (.load 1 false) [.tmp 55],oO 57 (.bslice 1 1 .nil [0]) [.tmp 56],oO 58 (.append 1 24) [.tmp 51, .tmp 57],mv 3 58])
 .skip))
 (.seq
 (.reg 77824 (some [0, 0, 0, 6, 14, 30, 62, 126, 255, 0, 0, 1536, 3584, 7680, 15872, 32256, 65535, 131071]) [oO 59 (.bslice 1 0 (.t (byteT 0)) []) [],mv 60 5,mv 61 8,oO 62 (.iaddr 4) [.tmp 60, .tmp 61],oO 63 (.faddr 0) [.tmp 62],oO 64 (.load 1 false) [.tmp 63],oO 65 (.aaddr 12 1) [.tmp 6, .tmp 64],oO 66 (.load 1 false) [.tmp 65],oO 67 (.append 1 1) [.tmp 59, .tmp 66],mv 68 5,mv 69 8,oO 70 (.iaddr 4) [.tmp 68, .tmp 69],oO 71 (.faddr 2) [.tmp 70],oO 72 (.load 1 false) [.tmp 71],oO 73 (.iaddr 1) [.tmp 72, .cst (.t (.int .i64 1))],oO 74 (.load 1 false) [.tmp 73],oO 75 (.append 1 1) [.tmp 67, .tmp 74],mv 9 75])
 (.seq
 (rG 81920 [mv 76 3,mv 77 9,oO 78 (.bslice 1 1 .nil [0]) [.tmp 77],oO 79 (.append 1 24) [.tmp 76, .tmp 78],mv 3 79])
 (.reg 86016 (some [0, 0, 3, 7, 15, 0, 32, 127, 255]) [mv 80 5,mv 81 8,oO 82 (.iaddr 4) [.tmp 80, .tmp 81],oO 83 (.faddr 0) [.tmp 82],oO 84 (.load 1 false) [.tmp 83],mv 85 9,cL 86 n_ref1_Sum256 false [.tmp 85],oO 87 (.aaddr 12 1) [.tmp 6, .tmp 84],oS 1 87 86])))))
 (rG 65536 [mv 43 8,bN 44 .add 43 1,mv 8 44])))
def ac_law29_hashed (n_ref25_EncodeImage n_ref25_Events n_ref1_Sum256 : Nat) : AC :=
 (.seq
 (rG 4096 [mC 2 .nil])
 (.seq
 (rG 8192 [mC 3 .nil])
 (.seq
 (.seq
 (rG 12288 [mC 4 (.t (.int .i64 0))])
 (.block 0
 (.loop (ac_law29_hashed_L0 n_ref25_EncodeImage))))
 (.seq
 (rG 32768 [mv 30 0,cL 31 n_ref25_Events true [.tmp 30, .cst (.t (.int .i64 2))],mv 5 31])
 (.seq
 (rG 36864 [oO 6 (.new 1 (List.replicate 12 .nil)) []])
 (.seq
 (.seq
 (rG 40960 [mC 7 (.t (.int .i64 0))])
 (.block 2
 (.loop ac_law29_hashed_L1)))
 (.seq
 (.seq
 (rG 57344 [mC 8 (.t (.int .i64 0))])
 (.block 4
 (.loop (ac_law29_hashed_L2 n_ref1_Sum256))))
 (.seq
 (rG 90112 [mv 88 3,mv 2 88])
 .ret))))))))
def hints_law29_hashed : List (Nat × List Nat) := [(6, [5]), (7, [1])]
def ac_law29_PredictDistinct (n_law29_awake n_draw_Strong n_draw_Chain n_draw_Mod n_law29_stages n_predict_Digest n_ref25_SameChain n_ref1_Lists n_ref1_Same n_ref25_Predict n_ref8_Same n_law29_hashed n_draw_Collides : Nat) : AC :=
 (.seq
 (rG 4096 [mC 10 (.t (.bool false))])
 (.seq
 (.seq
 (rG 8192 [cL 27 n_law29_awake false [],oO 28 (.un .not) [.tmp 27]])
 (.cond (.tmp 28)
 (.seq
 (rG 12288 [mC 10 (.t (.bool false))])
 .ret)
 .skip))
 (.seq
 (rG 16384 [mv 29 2,cL 30 n_draw_Strong false [.tmp 29],mv 2 30])
 (.seq
 (rG 20480 [mv 31 0,cL 32 n_draw_Chain true [.tmp 31],mv 33 1,cL 34 n_draw_Chain true [.tmp 33],mv 11 32,mv 12 34])
 (.seq
 (.seq
 (rG 24576 [mv 35 4])
 (.cond (.tmp 35)
 (.seq
 (rG 28672 [oO 36 (.bslice 4 0 (.agg [(.t (.int .i64 0)), (.t (strT [])), (.t (.int .i64 0)), .nil]) []) [],mv 37 11,oO 38 (.append 4 56) [.tmp 36, .tmp 37],mv 12 38])
 (.seq
 (rG 32768 [mv 39 3,mv 40 12,oO 41 .len [.tmp 40],cL 42 n_draw_Mod false [.tmp 39, .tmp 41],mv 13 42])
 (rG 36864 [mv 43 12,mv 44 13,mv 45 12,mv 46 13,oO 47 (.iaddr 4) [.tmp 45, .tmp 46],oO 48 (.faddr 2) [.tmp 47],oO 49 (.load 1 false) [.tmp 48],bN 50 .add 49 1,bN 51 .rem 50 7,oO 52 (.iaddr 4) [.tmp 43, .tmp 44],oO 53 (.faddr 2) [.tmp 52],oS 1 53 51])))
 .skip))
 (.seq
 (rG 40960 [mv 55 11,cL 56 n_law29_stages true [.tmp 55],mv 54 56,oO 57 (.extract 0) [.tmp 54],oO 58 (.extract 1) [.tmp 54],mv 14 57,mv 15 58])
 (.seq
 (rG 45056 [mv 60 12,cL 61 n_law29_stages true [.tmp 60],mv 59 61,oO 62 (.extract 0) [.tmp 59],oO 63 (.extract 1) [.tmp 59],mv 16 62,mv 17 63])
 (.seq
 (rG 49152 [mv 65 11,mv 66 2,oO 67 (.build [(.t (.int .i64 0)), (.t (.int .i64 0))] [(0, 1), (1, 1)]) [.cst (.t (.int .i64 0)), .cst (.t (.int .i64 4095))],cL 68 n_predict_Digest true [.tmp 65, .tmp 66, .tmp 67],mv 64 68,oO 69 (.extract 0) [.tmp 64],oO 70 (.extract 1) [.tmp 64],mv 18 69,mv 19 70])
 (.seq
 (rG 53248 [mv 72 12,mv 73 2,oO 74 (.build [(.t (.int .i64 0)), (.t (.int .i64 0))] [(0, 1), (1, 1)]) [.cst (.t (.int .i64 0)), .cst (.t (.int .i64 4095))],cL 75 n_predict_Digest true [.tmp 72, .tmp 73, .tmp 74],mv 71 75,oO 76 (.extract 0) [.tmp 71],oO 77 (.extract 1) [.tmp 71],mv 20 76,mv 21 77])
 (.seq
 (.seq
 (rG 57344 [mv 78 19,bN 79 .neq 78 0,mv 80 79,mF 81 21 80,oF 82 80 (.bin .neq) [.tmp 81, .cst (.t (.int .i64 0))],oO 83 .pick [.tmp 80, .cst (.t (.bool true)), .tmp 82]])
 (.cond (.tmp 83)
 (.seq
 (rG 61440 [mC 10 (.t (.bool false))])
 .ret)
 .skip))
 (.seq
 (rG 65536 [mv 84 14,mv 85 16,cL 86 n_ref25_SameChain false [.tmp 84, .tmp 85],mv 87 86,mG 88 15 87,mG 89 17 87,cG 90 87 n_ref1_Lists false [.tmp 88, .tmp 89],oO 91 .pick [.tmp 87, .tmp 90, .cst (.t (.bool false))],mv 22 91])
 (.seq
 (.seq
 (rG 69632 [mv 92 22])
 (.cond (.tmp 92)
 (.seq
 (rG 73728 [mv 93 18,mv 94 20,cL 95 n_ref1_Same false [.tmp 93, .tmp 94],mv 10 95])
 .ret)
 .skip))
 (.seq
 (.seq
 (rG 77824 [mv 96 18,mv 97 20,cL 98 n_ref1_Same false [.tmp 96, .tmp 97],oO 99 (.un .not) [.tmp 98]])
 (.cond (.tmp 99)
 (.seq
 (rG 81920 [mC 10 (.t (.bool true))])
 .ret)
 .skip))
 (.seq
 (rG 86016 [mv 101 11,cL 102 n_ref25_Predict true [.tmp 101, .cst (.t (.int .i64 2))],mv 100 102,oO 103 (.extract 0) [.tmp 100],oO 104 (.extract 1) [.tmp 100],oO 23 (.new 2 [(.agg [.nil, (.t (.int .i64 0))])]) [],oS 2 23 103,mv 24 104])
 (.seq
 (rG 90112 [mv 106 12,cL 107 n_ref25_Predict true [.tmp 106, .cst (.t (.int .i64 2))],mv 105 107,oO 108 (.extract 0) [.tmp 105],oO 109 (.extract 1) [.tmp 105],oO 25 (.new 2 [(.agg [.nil, (.t (.int .i64 0))])]) [],oS 2 25 108,mv 26 109])
 (.seq
 (.seq
 (rG 94208 [oO 110 (.load 2 true) [.tmp 23],oO 111 (.load 2 true) [.tmp 25],cL 112 n_ref8_Same false [.tmp 110, .tmp 111],oO 113 (.un .not) [.tmp 112]])
 (.cond (.tmp 113)
 (.seq
 (rG 98304 [mC 10 (.t (.bool true))])
 .ret)
 .skip))
 (.seq
 (rG 102400 [mv 114 11,cL 115 n_law29_hashed true [.tmp 114],mv 116 12,cL 117 n_law29_hashed true [.tmp 116],oO 118 (.append 1 24) [.tmp 115, .tmp 117],cL 119 n_draw_Collides false [.tmp 118],mv 10 119])
 .ret)))))))))))))))))
def hints_law29_PredictDistinct : List (Nat × List Nat) := [(4, [1, 3]), (9, [1]), (10, [1]), (11, [3]), (12, [3]), (20, [1]), (21, [1]), (24, [1, 3])]
end Go.Eng
end
section
set_option maxRecDepth 20000
set_option maxHeartbeats 64000000
namespace Go.Eng
theorem evsI_m {l : List Im} {act : Int} : (∀ e ∈ evsI l act, evM e) ∧ (evsI l act).length ≤ 136 ∧ esM (evsI l act) := by
 unfold evsI
 split
 · exact ⟨by simp, by simp, by simp, by simp⟩
 · rename_i h
   have hz : chkC l = 0 := by omega
   obtain ⟨hok, _, h8⟩ := chkC_ok hz
   have hv := evsC_ok (act := act) (by omega) hok
   have hl := evsC_len (act := act) (l := l)
   exact ⟨fun e he => (hv e he).2, by omega, by omega, fun e he => (hv e he).2.x⟩
theorem evsI_ok {l : List Im} {act : Int} (h : prE l act = 0) : evsI l act = evsC act l ∧ (∀ e ∈ evsC act l, evV act e) ∧ rpE act (evsC act l) = 0 ∧ rpG act (evsC act l) = prG l act := by
 obtain ⟨hz, ha⟩ := prE_ok h
 have hv := evsC_ok (act := act) (by omega) (chkC_ok hz).1
 have hE := rpE_ok ha hv
 refine ⟨by unfold evsI; rw [if_neg (by omega)], hv, hE, ?_⟩
 unfold rpG prG
 rw [if_pos hE, if_pos h]
def ct_prd : Ct where
 α := List Im × Int
 as x := [.t (.sl (x.1.map imT)), .t (.int .i64 x.2)]
 ins _ := []
 pre x := imsM x.1
 r x := .tup [.t (.agg [.sl ((prG x.1 x.2).1.map bankT), .int .i64 (prG x.1 x.2).2]), .t (.int .i64 (prE x.1 x.2))]
 outs _ := []
 inj := by
   rintro ⟨a, b⟩ ⟨c, d⟩ h _
   simp only [List.cons.injEq, V.t.injEq, T.sl.injEq, T.int.injEq, true_and, and_true, mapI_inj] at h
   obtain ⟨rfl, rfl⟩ := h
   exact ⟨rfl, rfl⟩
theorem prd_eq {l : List Im} {act : Int} (h : imsM l) : ct_prd.fs [.t (.sl (l.map imT)), .t (.int .i64 act)] [] = some (.tup [.t (.agg [.sl ((prG l act).1.map bankT), .int .i64 (prG l act).2]), .t (.int .i64 (prE l act))], []) := ct_prd.eq (l, act) h
theorem prG_bad {l : List Im} {act c : Int} (h : prE l act = c) (hc : c ≠ 0) : V.tup [.t (.agg [.sl ((prG l act).1.map bankT), .int .i64 (prG l act).2]), .t (.int .i64 (prE l act))] = .tup [.t (.agg [.sl [], .int .i64 0]), .t (.int .i64 c)] := by
 unfold prG
 rw [h, if_neg hc]; rfl
theorem w_predict_Registers (tab : Tab) (gl : Gl) (n1 n2 n3 : Nat) (h1 : tab.look n1 = some ct_chc.fs) (h2 : tab.look n2 = some ct_evI.fs) (h3 : tab.look n3 = some ct_rpl.fs) (l : List Im) (act : Int) (hm : imsM l) :
   (ac_predict_Registers n1 n2 n3).wp tab gl (zipF 0 [.t (.sl (l.map imT)), .t (.int .i64 act)]) (zipF 0 []) (resW [(4, some (2, true)), (5, none)] 0 (fun r o => r = .tup [.t (.agg [.sl ((prG l act).1.map bankT), .int .i64 (prG l act).2]), .t (.int .i64 (prE l act))] ∧ o = [])) := by
 have hC := chc_eq hm
 by_cases hz : chkC l = 0
 · rw [hz] at hC
   by_cases a1 : act < 1
   · rw [prG_bad (c := 1) (by unfold prE; rw [if_neg (by omega), if_pos (.inl a1)]) (by decide)]
     simp (disch := omega) only [go_sem, seval, ac_predict_Registers, h1, hC, a1]
   by_cases a3 : 3 < act
   · rw [prG_bad (c := 1) (by unfold prE; rw [if_neg (by omega), if_pos (.inr a3)]) (by decide)]
     simp (disch := omega) only [go_sem, seval, ac_predict_Registers, h1, hC, a1, a3]
   have e0 : prE l act = 0 := by unfold prE; rw [if_neg (by omega), if_neg (by omega)]
   obtain ⟨q1, q2, q3, q4⟩ := evsI_ok e0
   have hE := evI_eq (act := act) hm
   have hR := rpl_eq (act := act) (rs := 0) (evsI_m (l := l) (act := act)).2.2
   rw [q1] at hE hR
   rw [q3, q4] at hR
   rw [e0]
   generalize evsC act l = es at *
   generalize prG l act = X at *
   simp (disch := omega) only [go_sem, seval, ac_predict_Registers, h1, hC, a1, a3, h2, hE, h3, hR]
 · have hz' : (chkC l != 0) = true := by simpa using hz
   rw [prG_bad (c := chkC l) (if_pos hz) hz]
   generalize chkC l = c at *
   simp (disch := omega) only [go_sem, seval, ac_predict_Registers, h1, hC, hz']
theorem w_ref25_Predict (tab : Tab) (gl : Gl) (n1 n2 n3 : Nat) (h1 : tab.look n1 = some ct_chc.fs) (h2 : tab.look n2 = some ct_evI.fs) (h3 : tab.look n3 = some ct_rpl.fs) (l : List Im) (act : Int) (hm : imsM l) :
   (ac_ref25_Predict n1 n2 n3).wp tab gl (zipF 0 [.t (.sl (l.map imT)), .t (.int .i64 act)]) (zipF 0 []) (resW [(4, some (2, true)), (5, none)] 0 (fun r o => r = .tup [.t (.agg [.sl ((prG l act).1.map bankT), .int .i64 (prG l act).2]), .t (.int .i64 (prE l act))] ∧ o = [])) := by
 have hC := chc_eq hm
 by_cases hz : chkC l = 0
 · rw [hz] at hC
   by_cases a1 : act < 1
   · rw [prG_bad (c := 1) (by unfold prE; rw [if_neg (by omega), if_pos (.inl a1)]) (by decide)]
     simp (disch := omega) only [go_sem, seval, ac_ref25_Predict, h1, hC, a1]
   by_cases a3 : 3 < act
   · rw [prG_bad (c := 1) (by unfold prE; rw [if_neg (by omega), if_pos (.inr a3)]) (by decide)]
     simp (disch := omega) only [go_sem, seval, ac_ref25_Predict, h1, hC, a1, a3]
   have e0 : prE l act = 0 := by unfold prE; rw [if_neg (by omega), if_neg (by omega)]
   obtain ⟨q1, q2, q3, q4⟩ := evsI_ok e0
   have hE := evI_eq (act := act) hm
   have hR := rpl_eq (act := act) (rs := 0) (evsI_m (l := l) (act := act)).2.2
   rw [q1] at hE hR
   rw [q3, q4] at hR
   rw [e0]
   generalize evsC act l = es at *
   generalize prG l act = X at *
   simp (disch := omega) only [go_sem, seval, ac_ref25_Predict, h1, hC, a1, a3, h2, hE, h3, hR]
 · have hz' : (chkC l != 0) = true := by simpa using hz
   rw [prG_bad (c := chkC l) (if_pos hz) hz]
   generalize chkC l = c at *
   simp (disch := omega) only [go_sem, seval, ac_ref25_Predict, h1, hC, hz']
theorem any_range_s {p : Nat → Bool} {n : Nat} : (List.range (n + 1)).any p = ((List.range n).any p || p n) := by
 rw [List.range_succ, List.any_append]; simp
theorem any_at {p : Nat → Bool} {n k : Nat} (h : k < n) (hp : p k = true) : (List.range n).any p = true := List.any_eq_true.2 ⟨k, List.mem_range.2 h, hp⟩
end Go.Eng
end
section
set_option maxRecDepth 20000
namespace Go.Eng
open Go.MuLone
theorem tieW {P : Program} {G : Gl} {tab : Tab} {f : FuncId} {fn : Func} {c : Code} {ac : AC} {hints : List (Nat × List Nat)} {rs : List (Nat × Option (Nat × Bool))} (hf : P.funcs[f]? = some fn) (hname : (fn.name == "runtime.NumGoroutine") = false) (hb : fn.body = some c) (hann : ann P fn.ntmps hints c = some ac) (hmx : P.follows .mixedOrders = true)
   (ht : TabOk P G tab) (hrs : resOf P fn.results.toList = some rs) (ct : Ct) (hn : ∀ x, (ct.as x).length ≤ fn.ntmps) (hi : ∀ x, (ct.ins x).length ≤ 100)
   (h : ∀ x, ct.pre x → ac.wp tab G (zipF 0 (ct.as x)) (zipF 0 (ct.ins x)) (resW rs (ct.ins x).length (fun r' o' => r' = ct.r x ∧ o' = ct.outs x))) : FOk P G f ct.fs :=
 ct.ok (fun args w => run_callFunc_enter hf hname hb args w) (fun x hx => spec_of hf hb hann hmx ht hrs (hn x) (hi x) (h x hx))
theorem tieF {P : Program} {G : Gl} {tab : Tab} {f : FuncId} {fn : Func} {c : Code} {ac : AC} {hints : List (Nat × List Nat)} {rs : List (Nat × Option (Nat × Bool))} (fz : List Nat) (hf : P.funcs[f]? = some fn) (hname : (fn.name == "runtime.NumGoroutine") = false) (hb : fn.body = some c) (hann : ann P fn.ntmps hints c = some ac) (hmx : P.follows .mixedOrders = true)
   (ht : TabOk P G tab) (hrs : resOf P fn.results.toList = some rs) (ct : Ct) (hn : ∀ x, (ct.as x).length ≤ fn.ntmps) (hi : ∀ x, (ct.ins x).length ≤ 100)
   (h : ∀ x, ct.pre x → ac.wp tab G (zipF 0 (ct.as x)) (zipF 0 (ct.ins x)) (resF fz rs (ct.ins x).length (fun r' o' => r' = ct.r x ∧ o' = ct.outs x))) : FOk P G f ct.fs :=
 ct.ok (fun args w => run_callFunc_enter hf hname hb args w) (fun x hx => spec_live fz hf hb hann hmx ht hrs (hn x) (hi x) (h x hx))
theorem tieL {P : Program} {G : Gl} {tab : Tab} {f : FuncId} {fn : Func} {c : Code} {ac : AC} {hints : List (Nat × List Nat)} {rs : List (Nat × Option (Nat × Bool))} (hf : P.funcs[f]? = some fn) (hb : fn.body = some c) (hann : ann P fn.ntmps hints c = some ac) (hmx : P.follows .mixedOrders = true)
   (ht : TabOk P G tab) (hrs : resOf P fn.results.toList = some rs) {as : List V} (hn : as.length ≤ fn.ntmps)
   (h : ac.wp tab G (zipF 0 as) (zipF 0 []) (resW rs 0 (fun r o => r = .t (.bool true) ∧ o = []))) : Spec P G f as [] (.t (.bool true)) [] :=
 spec_of hf hb hann hmx ht hrs hn (Nat.zero_le _) h
theorem tieW' {P : Program} {G : Gl} {tab : Tab} {f : FuncId} (fn : Func) (hints : List (Nat × List Nat)) (ac : AC) (rs : List (Nat × Option (Nat × Bool))) (ht : TabOk P G tab) (ct : Ct)
   (h : ∀ x, ct.pre x → ac.wp tab G (zipF 0 (ct.as x)) (zipF 0 (ct.ins x)) (resW rs (ct.ins x).length (fun r' o' => r' = ct.r x ∧ o' = ct.outs x)))
   (hf : P.funcs[f]? = some fn := by kernel_rfl) (hname : (fn.name == "runtime.NumGoroutine") = false := by kernel_rfl) (hb : fn.body = some (fn.body.getD .skip) := by kernel_rfl) (hann : ann P fn.ntmps hints (fn.body.getD .skip) = some ac := by kernel_rfl) (hmx : P.follows .mixedOrders = true := by kernel_rfl)
   (hrs : resOf P fn.results.toList = some rs := by kernel_rfl) (hn : ∀ x, (ct.as x).length ≤ fn.ntmps := by exact fun _ => Nat.le_of_ble_eq_true (by kernel_rfl)) (hi : ∀ x, (ct.ins x).length ≤ 100 := by exact fun _ => Nat.le_of_ble_eq_true (by kernel_rfl)) : FOk P G f ct.fs := tieW hf hname hb hann hmx ht hrs ct hn hi h
theorem tieF' {P : Program} {G : Gl} {tab : Tab} {f : FuncId} (fz : List Nat) (fn : Func) (hints : List (Nat × List Nat)) (ac : AC) (rs : List (Nat × Option (Nat × Bool))) (ht : TabOk P G tab) (ct : Ct)
   (h : ∀ x, ct.pre x → ac.wp tab G (zipF 0 (ct.as x)) (zipF 0 (ct.ins x)) (resF fz rs (ct.ins x).length (fun r' o' => r' = ct.r x ∧ o' = ct.outs x)))
   (hf : P.funcs[f]? = some fn := by kernel_rfl) (hname : (fn.name == "runtime.NumGoroutine") = false := by kernel_rfl) (hb : fn.body = some (fn.body.getD .skip) := by kernel_rfl) (hann : ann P fn.ntmps hints (fn.body.getD .skip) = some ac := by kernel_rfl) (hmx : P.follows .mixedOrders = true := by kernel_rfl)
   (hrs : resOf P fn.results.toList = some rs := by kernel_rfl) (hn : ∀ x, (ct.as x).length ≤ fn.ntmps := by exact fun _ => Nat.le_of_ble_eq_true (by kernel_rfl)) (hi : ∀ x, (ct.ins x).length ≤ 100 := by exact fun _ => Nat.le_of_ble_eq_true (by kernel_rfl)) : FOk P G f ct.fs := tieF fz hf hname hb hann hmx ht hrs ct hn hi h
theorem tieL' {P : Program} {G : Gl} {tab : Tab} {f : FuncId} (fn : Func) (hints : List (Nat × List Nat)) (ac : AC) (rs : List (Nat × Option (Nat × Bool))) (ht : TabOk P G tab) {as : List V}
   (h : ac.wp tab G (zipF 0 as) (zipF 0 []) (resW rs 0 (fun r o => r = .t (.bool true) ∧ o = [])))
   (hf : P.funcs[f]? = some fn := by kernel_rfl) (hb : fn.body = some (fn.body.getD .skip) := by kernel_rfl) (hann : ann P fn.ntmps hints (fn.body.getD .skip) = some ac := by kernel_rfl) (hmx : P.follows .mixedOrders = true := by kernel_rfl)
   (hrs : resOf P fn.results.toList = some rs := by kernel_rfl) (hn : as.length ≤ fn.ntmps := by exact Nat.le_of_ble_eq_true (by kernel_rfl)) : Spec P G f as [] (.t (.bool true)) [] := tieL hf hb hann hmx ht hrs hn h
end Go.Eng
end
section
set_option maxRecDepth 20000
namespace Go.Eng
open Go.MuLone
def SW (tab : Tab) (gl : Gl) (ac : AC) (fs : Fs) (hs : Hs) (Qa : Post) : Prop :=
 ∀ (cx : Cx) (hints : List (Nat × List Nat)) (c : Code), cx.gl = gl → TabOk cx.P cx.gl tab → cx.P.follows .mixedOrders = true → ann cx.P cx.nt hints c = some ac →
   ∀ {Qx : Exit → Act → World → Prop} {β : Nat → Option BI} {F : Nat → Prop} {a : Act} {w : World}, Rel cx β F (look fs) (look hs) a w →
     (∀ e fs' hs' β' F' a' w', Qa e fs' hs' → Rel cx β' F' (look fs') (look hs') a' w' → Qx e.ex a' w') → c.wp cx.P Qx a w
def seqS (tab : Tab) (gl : Gl) (b : AC) (Q : Post) : Post := fun e fs hs => match e with | .normal => SW tab gl b fs hs Q | e => Q e fs hs
theorem seqS_normal {tab : Tab} {gl : Gl} {b : AC} {Q : Post} {fs : Fs} {hs : Hs} : seqS tab gl b Q .normal fs hs = SW tab gl b fs hs Q := Eq.trans (Eq.refl _) rfl
theorem seqS_ret {tab : Tab} {gl : Gl} {b : AC} {Q : Post} {fs : Fs} {hs : Hs} : seqS tab gl b Q .ret fs hs = Q .ret fs hs := Eq.trans (Eq.refl _) rfl
attribute [go_sem] seqS_normal seqS_ret
theorem SW.of {tab : Tab} {gl : Gl} {ac : AC} {fs : Fs} {hs : Hs} {Q : Post} (h : ac.wp tab gl fs hs Q) : SW tab gl ac fs hs Q := by
 intro cx hints c hg ht hm ha Qx β F a w R hQ
 subst hg
 exact AC.sound ht hm ha h R hQ
theorem SW.weak {tab : Tab} {gl : Gl} {ac : AC} {fs fs' : Fs} {hs hs' : Hs} {Q : Post} (hw : Weak fs hs fs' hs') (h : SW tab gl ac fs' hs' Q) : SW tab gl ac fs hs Q := by
 intro cx hints c hg ht hm ha Qx β F a w R hQ
 obtain ⟨β', F', R'⟩ := hw cx β F a w R
 exact h cx hints c hg ht hm ha R' hQ
theorem SW.seq {tab : Tab} {gl : Gl} {a b : AC} {fs : Fs} {hs : Hs} {Q : Post} (h : SW tab gl a fs hs (seqS tab gl b Q)) : SW tab gl (.seq a b) fs hs Q := by
 intro cx hints c hg ht hm ha Qx β F act w R hQ
 cases c with
 | seq x y =>
   simp only [ann, Option.bind_eq_some_iff, Option.map_eq_some_iff] at ha
   obtain ⟨cx', hx, cy, hy, e⟩ := ha
   cases e
   refine wp_seq (h cx hints x hg ht hm hx R (fun e fs' hs' β' F' a' w' hq R' => ?_))
   cases e with
   | normal => exact hq cx hints y hg ht hm hy R' hQ
   | exit id => exact hQ (.exit id) _ _ _ _ _ _ hq R'
   | ret => exact hQ .ret _ _ _ _ _ _ hq R'
 | cond o x y =>
   simp only [ann, Option.bind_eq_some_iff, Option.map_eq_some_iff] at ha
   obtain ⟨_, _, _, _, _, _, e⟩ := ha
   cases e
 | region id ops draw =>
   simp only [ann, Option.bind_eq_some_iff] at ha
   obtain ⟨_, _, e⟩ := ha
   split at e
   · split at e
     · cases e
     · cases e
   · cases e
 | _ => simp [ann] at ha
theorem spec_ofS {P : Program} {G : Gl} {tab : Tab} {f : FuncId} {fn : Func} {c : Code} {ac : AC} {hints : List (Nat × List Nat)} {rs : List (Nat × Option (Nat × Bool))} (hf : P.funcs[f]? = some fn) (hb : fn.body = some c) (hann : ann P fn.ntmps hints c = some ac) (hmx : P.follows .mixedOrders = true)
   (ht : TabOk P G tab) (hrs : resOf P fn.results.toList = some rs) {as : List V} {ins : List Ob} {r : V} {outs : List Ob} (hn : as.length ≤ fn.ntmps) (hi : ins.length ≤ 100)
   (h : SW tab G ac (zipF 0 as) (zipF 0 ins) (resW rs ins.length (fun r' outs' => r' = r ∧ outs' = outs))) : Spec P G f as ins r outs := by
 intro w β F vals env fits hargs
 have hd0 : ∀ k bi, β k = some bi → k < 100 := by
   intro k bi h
   rcases Nat.lt_or_ge k ins.length with h1 | h1
   · omega
   · rw [fits.dom k h1] at h; cases h
 let cx : Cx := { P, w0 := w, F0 := F, inb := fun b => ∃ k bi, β k = some bi ∧ bi.blk = some b, nt := fn.ntmps, gl := G, β0 := β, d0 := hd0 }
 have hlen : as.length = vals.size := by simpa using hargs.length
 have lookAs : ∀ t v, look (zipF 0 as) t = some v → as[t]? = some v := by
   intro t v h; simpa [look_zipF] using h
 have lookIns : ∀ t v, look (zipF 0 ins) t = some v → ins[t]? = some v := by
   intro t v h; simpa [look_zipF] using h
 have R0 : Rel cx β F (look (zipF 0 as)) (look (zipF 0 ins)) { tmps := vals ++ Array.replicate (fn.ntmps - vals.size) undef, defers := [] } w := by
   refine ⟨by simp [cx]; omega, rfl, fun t v hv => ?_, fun id o ho => ?_, fun id hn => ?_, fun i j bi bj b oi oj h1 h2 h3 h4 _ _ _ _ => fits.inj i j bi bj b h1 h2 h3 h4, rfl, rfl, rfl, Nat.le_refl _, fun _ _ _ => rfl, fun id z es full bi b h1 h2 h3 => .inr ⟨?_, id, bi, h2, h3⟩, fun b hb => ?_, fun b hb => ?_, env.Fw, fun _ _ => Iff.rfl, fun id bi b h1 h2 => (fits.blt id bi b h1 h2).1, fun g cs hg => ?_, fun _ _ h => h, env.gs⟩
   · obtain ⟨x, h1, h2⟩ := hargs.get' t v (lookAs t v hv)
     refine ⟨x, ?_, h2⟩
     have hlt : t < vals.size := by
       have := (List.getElem?_eq_some_iff.1 (lookAs t v hv)).1
       omega
     rw [Array.getElem?_append_left hlt]
     simpa using h1
   · obtain ⟨bi, h1, h2, _⟩ := fits.ok id o (lookIns id o ho)
     exact ⟨bi, h1, h2⟩
   · refine fits.dom id ?_
     rcases Nat.lt_or_ge id ins.length with h1 | h1
     · rw [look_zipF] at hn
       simp [h1] at hn
     · exact h1
   · have := (List.getElem?_eq_some_iff.1 (lookIns id _ h1)).1
     omega
   · obtain ⟨k, bi, h1, h2⟩ := hb
     exact (fits.blt k bi b h1 h2).2
   · obtain ⟨k, bi, h1, h2⟩ := hb
     exact (fits.blt k bi b h1 h2).1
   · exact (env.gl g cs hg).mono (fun _ _ h => by cases h) (fun _ h => h) (fun _ _ => rfl)
 refine calls_of_wp hf hb (h cx hints c rfl ht hmx hann R0 (fun e fs hs βR FR a w' hq R => ?_))
 have fin : ((rsQ fs rs).bind fun vs => retQ ins.length vs).wp hs (fun p _ => p.1 = r ∧ p.2 = outs) → a.defers = [] ∧ ∃ v, (results fn a.tmps).run P w' = .ok v w' ∧ ∃ x β' F', Ending.returned v = .returned x ∧ SpecPost w β F ins r outs x β' F' w' := by
   intro hq
   rw [Q.wp_bind] at hq
   obtain ⟨vs, l0, hvs, ⟨r', outs'⟩, l, hrun, e1, e2⟩ := hq
   obtain ⟨xs, hxs, hall⟩ := rs_sound (cx := cx) R hrs hvs
   refine ⟨R.dfr, _, run_results hxs, ?_⟩
   · simp only at e1 e2
     subst e1 e2
     unfold retQ at hrun
     obtain ⟨p, l1, l2, hp, hrun, _⟩ := bind_inv hrun
     obtain ⟨q, l3, l4, hqq, hrun, _⟩ := bind_inv hrun
     obtain ⟨hdis, hrun⟩ := assert_inv hrun
     obtain ⟨fw, l5, l6, hfw, hrun, _⟩ := bind_inv hrun
     obtain ⟨e, _⟩ := ret_inv hrun
     simp only [Prod.mk.injEq] at e
     obtain ⟨rfl, rfl⟩ := e
     obtain ⟨ids, obs, fzq⟩ := q
     obtain ⟨t, htt⟩ := gather_range (s := 0) (m := ins.length) (n := 12 + ins.length) (rest := refsL p.1) (by simpa [List.range_eq_range'] using hqq)
     have hidk : ∀ k, k < ins.length → ids[k]? = some k := by
       intro k hk
       rw [htt, List.getElem?_append_left (by simpa using hk)]
       simp [hk]
     obtain ⟨F1, R1, hFF, hnd, hlo, hfwl, hlive, fits', hres⟩ := pre_core R hp hqq (fun r h => by simp [h]) hdis hfw hall
     have hβk : ∀ k bi, β k = some bi → βR k = some bi := R1.ext0
     have hklt : ∀ k bi, β k = some bi → k < ins.length := by
       intro k bi h
       rcases Nat.lt_or_ge k ins.length with h1 | h1
       · exact h1
       · rw [fits.dom k h1] at h; cases h
     refine ⟨_, nums ids βR, F1, rfl, fits', res_sound hres, fun k hk => ?_, fun k bi b hk h1 h2 => ?_, fun b hb => R1.F0 b hb, R1.Fw, R1.os, R1.tape, R1.output, R1.size, fun b hb hk => R1.ext b hb (fun ⟨k, bi, h1, h2⟩ => hk k bi h1 h2)⟩
     · obtain ⟨bi, h1, _⟩ := fits.ok k ins[k] (by simp [hk])
       simp [nums, hidk k hk, hβk k bi h1, h1]
     · unfold nums at h1
       rw [Option.bind_eq_some_iff] at h1
       obtain ⟨id, hid, h1⟩ := h1
       obtain ⟨z, es, full, _, hl⟩ := hlive k id hid
       rcases R1.old id z es full bi b hl h1 h2 with h | ⟨_, k0, bi0, g1, g2⟩
       · exact h
       · exfalso
         have hk0 := hklt k0 bi0 g1
         obtain ⟨z0, es0, full0, _, hl0⟩ := hlive k0 k0 (hidk k0 hk0)
         have e := R1.inj id k0 bi bi0 b _ _ h1 (hβk k0 bi0 g1) h2 g2 hl hl0 (by simp) (by simp)
         subst e
         have hi1 : k < ids.length := (List.getElem?_eq_some_iff.1 hid).1
         have hi2 : id < ids.length := (List.getElem?_eq_some_iff.1 (hidk id hk0)).1
         have := nodup_inj hnd hi1 hi2 (by
           have a1 := hid
           have a2 := hidk id hk0
           rw [List.getElem?_eq_getElem hi1] at a1
           rw [List.getElem?_eq_getElem hi2] at a2
           rw [Option.some.inj a1, Option.some.inj a2])
         omega
 cases e with
 | normal => exact fin hq
 | ret => exact fin hq
 | exit id => exact hq.elim
theorem tieS' {P : Program} {G : Gl} {tab : Tab} {f : FuncId} (fn : Func) (hints : List (Nat × List Nat)) (ac : AC) (rs : List (Nat × Option (Nat × Bool))) (ht : TabOk P G tab) (ct : Ct)
   (h : ∀ x, ct.pre x → SW tab G ac (zipF 0 (ct.as x)) (zipF 0 (ct.ins x)) (resW rs (ct.ins x).length (fun r' o' => r' = ct.r x ∧ o' = ct.outs x)))
   (hf : P.funcs[f]? = some fn := by kernel_rfl) (hname : (fn.name == "runtime.NumGoroutine") = false := by kernel_rfl) (hb : fn.body = some (fn.body.getD .skip) := by kernel_rfl) (hann : ann P fn.ntmps hints (fn.body.getD .skip) = some ac := by kernel_rfl) (hmx : P.follows .mixedOrders = true := by kernel_rfl)
   (hrs : resOf P fn.results.toList = some rs := by kernel_rfl) (hn : ∀ x, (ct.as x).length ≤ fn.ntmps := by exact fun _ => Nat.le_of_ble_eq_true (by kernel_rfl)) (hi : ∀ x, (ct.ins x).length ≤ 100 := by exact fun _ => Nat.le_of_ble_eq_true (by kernel_rfl)) : FOk P G f ct.fs :=
 ct.ok (fun args w => run_callFunc_enter hf hname hb args w) (fun x hx => spec_ofS hf hb hann hmx ht hrs (hn x) (hi x) (h x hx))
end Go.Eng
end
section
set_option maxRecDepth 20000
set_option maxHeartbeats 64000000
namespace Go.Eng
def awL : List Im := [(1, [102], 0, []), (3, [107], 0, []), (4, [99], 0, [97, 61, 49, 10, 98, 10])]
theorem aw29_a : chkC awL = 0 ∧ (evsC 2 awL).length = 12 ∧ ((evsC 2 awL)[9]?).map (fun e => e.1) = some 8 ∧ ((evsC 2 awL)[11]?).map (fun e => e.2.2.2) = some [98] := by decide +kernel
theorem aw29_b : (rpF 2 (evsC 2 awL)).2 = 12 ∧ valL (rpF 2 (evsC 2 awL)).1 1 4 = valL (rpF 2 (evsC 2 awL)).1 1 5 := by decide +kernel
theorem awL_m : imsM awL := by
 refine ⟨by simp [awL], fun x hx => ?_⟩
 simp only [awL, List.mem_cons, List.not_mem_nil, or_false] at hx
 rcases hx with rfl | rfl | rfl
 all_goals exact ⟨by simp, by simp, by unfold rI; simp, by unfold rI; simp⟩
theorem w_awake29 (tab : Tab) (gl : Gl) (n1 n2 n3 n4 : Nat) (h1 : tab.look n1 = some ct_evI.fs) (h2 : tab.look n2 = some ct_prd.fs) (h3 : tab.look n3 = some ct_val.fs) (h4 : tab.look n4 = some ct_same.fs) :
   SW tab gl (ac_law29_awake n1 n2 n3 n4) (zipF 0 []) (zipF 0 []) (resW [(0, none)] 0 (fun r o => r = .t (.bool true) ∧ o = [])) := by
 obtain ⟨a1, a2, a3, a4⟩ := aw29_a
 obtain ⟨b1, b2⟩ := aw29_b
 have e0 : prE awL 2 = 0 := by unfold prE; rw [if_neg (by omega), if_neg (by omega)]
 have eI : evsI awL 2 = evsC 2 awL := (evsI_ok e0).1
 have eG : prG awL 2 = rpF 2 (evsC 2 awL) := if_pos e0
 have hE : ct_evI.fs [.t (.sl [.agg [.int .i64 1, strT [102], .int .i64 0, .sl []], .agg [.int .i64 3, strT [107], .int .i64 0, .sl []], .agg [.int .i64 4, strT [99], .int .i64 0, .sl [byteT 97, byteT 61, byteT 49, byteT 10, byteT 98, byteT 10]]]), .t (.int .i64 2)] [] = _ := evI_eq (l := awL) (act := 2) awL_m
 have hR : ct_prd.fs [.t (.sl [.agg [.int .i64 1, strT [102], .int .i64 0, .sl []], .agg [.int .i64 3, strT [107], .int .i64 0, .sl []], .agg [.int .i64 4, strT [99], .int .i64 0, .sl [byteT 97, byteT 61, byteT 49, byteT 10, byteT 98, byteT 10]]]), .t (.int .i64 2)] [] = _ := prd_eq (l := awL) (act := 2) awL_m
 have hS := (rpF_rq (act := 2) (by omega) (es := evsC 2 awL)).1
 have on : onB (rpF 2 (evsC 2 awL)).1 1 = true := hS.on (by omega) (by decide)
 have v4 := val_on (u := (rpF 2 (evsC 2 awL)).2) hS.rv.rm (a := 1) (n := 4) (by omega) (by omega) on
 have v5 := val_on (u := (rpF 2 (evsC 2 awL)).2) hS.rv.rm (a := 1) (n := 5) (by omega) (by omega) on
 have lv := valL_le hS.rv (a := 1) (g := 5)
 rw [show ((1 : Nat) : Int) = 1 from rfl, show ((4 : Nat) : Int) = 4 from rfl] at v4
 rw [show ((1 : Nat) : Int) = 1 from rfl, show ((5 : Nat) : Int) = 5 from rfl] at v5
 rw [eI] at hE
 rw [eG, e0] at hR
 rw [b2] at v4
 rw [b1] at hR v4 v5
 clear a1 b1 b2 e0 eI eG hS on
 generalize valL (rpF 2 (evsC 2 awL)).1 1 5 = v at *
 generalize (rpF 2 (evsC 2 awL)).1 = X at *
 generalize evsC 2 awL = es at *
 obtain ⟨⟨q1, q2, q3, q4⟩, h9, g9⟩ := Option.map_eq_some_iff.1 a3
 obtain ⟨⟨p1, p2, p3, p4⟩, h11, g11⟩ := Option.map_eq_some_iff.1 a4
 simp only at g9 g11
 subst g9
 have hd : decide (p4 = [98]) = true := decide_eq_true g11
 have hq := same_eq (a := v) (b := v) ⟨by omega, by omega⟩
 rw [decide_eq_true rfl] at hq
 have tv : List.take v.length v = v := List.take_length
 obtain ⟨A, B, C, hA⟩ : ∃ A B C, ac_law29_awake n1 n2 n3 n4 = .seq A (.seq B C) := ⟨_, _, _, rfl⟩
 have hA' := hA
 simp only [ac_law29_awake, AC.seq.injEq] at hA'
 obtain ⟨eA, eB, eC⟩ := hA'
 rw [hA]
 refine SW.seq (SW.of ?_)
 subst eA
 simp (disch := omega) only [go_sem, seval]
 refine SW.seq (SW.of ?_)
 subst eB
 simp (disch := omega) only [go_sem, seval]
 refine SW.weak (fs' := [(0, .t (.bool false)), (1, .sl 8272 0 3)]) (hs' := [(8272, .live 4 [.t (.agg [.int .i64 1, strT [102], .int .i64 0, .sl []]), .t (.agg [.int .i64 3, strT [107], .int .i64 0, .sl []]), .t (.agg [.int .i64 4, strT [99], .int .i64 0, .sl [byteT 97, byteT 61, byteT 49, byteT 10, byteT 98, byteT 10]])] true true)]) (Weak.cv (hv := []) (ho := [(8272, .live 4 [.t (.agg [.int .i64 1, strT [102], .int .i64 0, .sl []]), .t (.agg [.int .i64 3, strT [107], .int .i64 0, .sl []]), .t (.agg [.int .i64 4, strT [99], .int .i64 0, .sl [byteT 97, byteT 61, byteT 49, byteT 10, byteT 98, byteT 10]])] true true)]) [8224] id ?_ rfl) (SW.of ?_)
 · simp (disch := omega) only [go_sem, seval, id]
   all_goals rfl
 · subst eC
   simp (disch := omega) only [go_sem, seval, h1, hE, h2, hR, h3, v4, v5, h4, hq, tv, a2, h9, h11, evT_def, hd]
   all_goals rfl
theorem chG_m {b : List UInt8} : imsM (chG b) := by
 obtain ⟨_, h1, h2⟩ := chG_ok (b := b)
 exact ⟨by omega, fun x hx => chkI_m (h1 x hx)⟩
def zero32 : List UInt8 := List.replicate 32 0
def Nc (M : List (List UInt8)) : Prop := (∀ m ∈ M, sum256 m ≠ zero32) ∧ ∀ a ∈ M, ∀ b ∈ M, sum256 a = sum256 b → a = b
def chV (v : List UInt8) (ds : List (List UInt8)) : List UInt8 := ds.foldl (fun v d => sum256 (v ++ d)) v
def chM (v : List UInt8) : List (List UInt8) → List (List UInt8)
 | [] => []
 | d :: r => (v ++ d) :: chM (sum256 (v ++ d)) r
theorem chV_snoc {v d : List UInt8} {ds : List (List UInt8)} : chV v (ds ++ [d]) = sum256 (chV v ds ++ d) := by simp [chV, List.foldl_append]
theorem chM_snoc {d : List UInt8} : ∀ {ds : List (List UInt8)} {v : List UInt8}, chM v (ds ++ [d]) = chM v ds ++ [chV v ds ++ d]
 | [], v => rfl
 | x :: ds, v => by
   rw [List.cons_append, chM, chM_snoc, chM, List.cons_append]; rfl
theorem chV_inj {M : List (List UInt8)} (hn : Nc M) : ∀ (n : Nat) (ds es : List (List UInt8)), ds.length = n → (∀ d ∈ ds, d.length = 32) → (∀ d ∈ es, d.length = 32) → (∀ m ∈ chM zero32 ds, m ∈ M) → (∀ m ∈ chM zero32 es, m ∈ M) → chV zero32 ds = chV zero32 es → ds = es
 | 0, ds, es, hl, _, _, _, h2, he => by
   cases ds with
   | cons => simp at hl
   | nil =>
     rcases List.eq_nil_or_concat es with rfl | ⟨es', e, rfl⟩
     · rfl
     · rw [List.concat_eq_append] at h2 he
       rw [chV_snoc] at he
       exact absurd he.symm (hn.1 _ (h2 _ (by rw [chM_snoc]; simp)))
 | n + 1, ds, es, hl, d1, d2, h1, h2, he => by
   rcases List.eq_nil_or_concat ds with rfl | ⟨ds', d, rfl⟩
   · simp at hl
   · rw [List.concat_eq_append] at hl d1 h1 he ⊢
     rcases List.eq_nil_or_concat es with rfl | ⟨es', e, rfl⟩
     · rw [chV_snoc] at he
       exact absurd he (hn.1 _ (h1 _ (by rw [chM_snoc]; simp)))
     · rw [List.concat_eq_append] at d2 h2 he ⊢
       rw [chV_snoc, chV_snoc] at he
       have hm := hn.2 _ (h1 _ (by rw [chM_snoc]; simp)) _ (h2 _ (by rw [chM_snoc]; simp)) he
       have l1 := d1 d (by simp)
       have l2 := d2 e (by simp)
       obtain ⟨q1, q2⟩ := List.append_inj' hm (by omega)
       rw [chV_inj hn n ds' es' (by simpa using hl) (fun x hx => d1 x (by simp [hx])) (fun x hx => d2 x (by simp [hx])) (fun m hm => h1 m (by rw [chM_snoc]; simp [hm])) (fun m hm => h2 m (by rw [chM_snoc]; simp [hm])) q1, q2]
def dgE (e : Ev) : List UInt8 := e.2.2.1.getD 1 []
def msE (v : List (List UInt8)) (e : Ev) : List (List UInt8) := (if e.2.1 ≠ 1 then [e.2.2.2] else []) ++ [v.getD e.1.toNat [] ++ dgE e]
def stV (v : List (List UInt8)) (e : Ev) : List (List UInt8) := v.set e.1.toNat (sum256 (v.getD e.1.toNat [] ++ dgE e))
def hsE : List (List UInt8) → List Ev → List (List UInt8)
 | _, [] => []
 | v, e :: r => msE v e ++ hsE (stV v e) r
def v0 : List (List UInt8) := List.replicate 12 zero32
def hsd (l : List Im) : List (List UInt8) := (imgs l).map encI' ++ hsE v0 (evsI l 2)
def dsG (g : Nat) (es : List Ev) : List (List UInt8) := (es.filter fun e => decide (isG g e)).map dgE
theorem hsE_data : ∀ {es : List Ev} {v : List (List UInt8)} {e : Ev}, e ∈ es → e.2.1 ≠ 1 → e.2.2.2 ∈ hsE v es
 | x :: es, v, e, he, h1 => by
   rw [hsE]
   rcases List.mem_cons.1 he with rfl | he
   · refine List.mem_append_left _ ?_
     unfold msE; rw [if_pos h1]; simp
   · exact List.mem_append_right _ (hsE_data he h1)
theorem stV_len {v : List (List UInt8)} {e : Ev} : (stV v e).length = v.length := by simp [stV]
theorem hsE_chM {g : Nat} : ∀ {es : List Ev} {v : List (List UInt8)}, g < v.length → (∀ e ∈ es, evV 2 e ∧ e.2.1 ≠ 5) → ∀ m ∈ chM (v.getD g []) (dsG g es), m ∈ hsE v es
 | [], v, _, _, m, hm => by simp [dsG, chM] at hm
 | e :: es, v, hg, hv, m, hm => by
   have h1 := hv e (by simp)
   have hr := evV_reg h1.1
   have ih := hsE_chM (g := g) (es := es) (v := stV v e) (by rw [stV_len]; exact hg) (fun x hx => hv x (by simp [hx]))
   rw [hsE]
   by_cases hi : isG g e
   · have hgn : e.1.toNat = g := by have := hi.2; omega
     have e1 : dsG g (e :: es) = dgE e :: dsG g es := by simp [dsG, List.filter_cons, hi]
     rw [e1, chM] at hm
     rcases List.mem_cons.1 hm with rfl | hm
     · refine List.mem_append_left _ ?_
       unfold msE; rw [hgn]; simp
     · refine List.mem_append_right _ (ih m ?_)
       have e2 : (stV v e).getD g [] = sum256 (v.getD g [] ++ dgE e) := by
         unfold stV; rw [hgn, List.getD_eq_getElem?_getD, List.getElem?_set_self hg]; rfl
       rw [e2]; exact hm
   · have hgn : e.1.toNat ≠ g := fun h => hi ⟨h1.2, by omega⟩
     have e1 : dsG g (e :: es) = dsG g es := by simp [dsG, List.filter_cons, hi]
     rw [e1] at hm
     refine List.mem_append_right _ (ih m ?_)
     have e2 : (stV v e).getD g [] = v.getD g [] := by
       unfold stV; rw [List.getD_eq_getElem?_getD, List.getElem?_set_ne hgn, ← List.getD_eq_getElem?_getD]
     rw [e2]; exact hm
theorem gF_chV {g : Nat} (hg : g < 16) : ∀ {es : List Ev} {n : Nat} {x : Rg}, (∀ e ∈ es, evV 2 e ∧ e.2.1 ≠ 5) → RQ 2 n x → valL (es.foldl (gS g) x).1 1 g = chV (valL x.1 1 g) (dsG g es)
 | [], n, x, _, _ => by simp [dsG, chV]
 | e :: es, n, x, hv, hx => by
   have h1 := hv e (by simp)
   have ih := gF_chV hg (es := es) (x := gS g x e) (fun y hy => hv y (by simp [hy])) hx.gS
   rw [List.foldl_cons, ih]
   by_cases hi : isG g e
   · have e1 : dsG g (e :: es) = dgE e :: dsG g es := by simp [dsG, List.filter_cons, hi]
     have hr := evV_reg h1.1
     have k := ext_ok hx.1 h1.1.1 h1.2
     rw [hi.2] at k
     have e2 : gS g x e = (extBk x.1 g e.2.2.1, x.2 + 1) := by
       unfold gS extP
       rw [if_pos hi, if_pos k, Int.toNat_natCast]
     have e3 := ext_valS hx.1 hg e.2.2.1 (a := 1) (by omega)
     rw [if_pos (by decide)] at e3
     rw [e1, e2]
     simp only
     rw [e3]
     rfl
   · have e1 : dsG g (e :: es) = dsG g es := by simp [dsG, List.filter_cons, hi]
     have e2 : gS g x e = x := if_neg hi
     rw [e1, e2]
theorem new_zero {g : Nat} (hg : g < 12) : valL (newBk 2) 1 g = zero32 := by
 rcases (show g = 0 ∨ g = 1 ∨ g = 2 ∨ g = 3 ∨ g = 4 ∨ g = 5 ∨ g = 6 ∨ g = 7 ∨ g = 8 ∨ g = 9 ∨ g = 10 ∨ g = 11 by omega) with rfl | rfl | rfl | rfl | rfl | rfl | rfl | rfl | rfl | rfl | rfl | rfl <;> rfl
theorem rpF_chV {g : Nat} (hg : g < 12) {es : List Ev} (hv : ∀ e ∈ es, evV 2 e ∧ e.2.1 ≠ 5) : valL (rpF 2 es).1 1 g = chV zero32 (dsG g es) := by
 have h := gF_eqv (act := 2) (by omega) (g := g) (by omega) (es := es) (fun e he => (hv e he).1)
 rw [← h.2]
 have := gF_chV (g := g) (by omega) hv (RQ.zero (act := 2) (by omega))
 unfold gF
 rw [this]
 show chV (valL (newBk 2) 1 g) _ = _
 rw [new_zero hg]
theorem sum256_len {x : List UInt8} : (sum256 x).length = 32 := sumA_length (a := 1) (bs := x)
def rolR (r : Int) (l : List Im) : List Im := l.filter fun x => decide (x.1 = r)
def msG (g : Nat) (l : List Im) : List (List UInt8) :=
 if g = 0 then (rolR 1 l).map encI' ++ [sep4] else if g = 4 then (rolR 2 l).map encI' ++ [sep4] else if g = 8 then (rolR 3 l).map encI' else if g = 9 then lnsC l else []
theorem dsG_app {g : Nat} {a b : List Ev} : dsG g (a ++ b) = dsG g a ++ dsG g b := by unfold dsG; rw [List.filter_append, List.map_append]
theorem dsG_none {g : Nat} {a : List Ev} (h : ∀ e ∈ a, e.1 ≠ (g : Int)) : dsG g a = [] := by
 unfold dsG
 rw [List.filter_eq_nil_iff.2 fun e he => by simp only [decide_eq_true_eq]; exact fun hi => h e he hi.2]
 rfl
theorem dsG_all {g : Nat} {a : List Ev} (h : ∀ e ∈ a, e.1 = (g : Int) ∧ e.2.1 ≠ 5) : dsG g a = a.map dgE := by
 unfold dsG
 rw [List.filter_eq_self.2 fun e he => decide_eq_true ⟨(h e he).2, (h e he).1⟩]
theorem dgE_mkE {r k : Int} {d : List UInt8} (h : k ≠ 5) : dgE (mkE r k 2 d) = sum256 d := by
 show mkD k 2 d 1 = _
 unfold mkD
 rw [if_pos ⟨h, by decide⟩]; rfl
theorem encI_pos {x : Im} (h : chkI x = 0) : 0 < (encI' x).length := by
 unfold encI'
 rw [if_pos h]
 unfold encI
 rw [blL_len, blL_len]
 omega
theorem ofI_is {x : Im} (h : chkI x = 0) (h4 : x.1 ≠ 4) : (ofI x 2).1 = regI x.1 ∧ (ofI x 2).2.1 = 1 ∧ dgE (ofI x 2) = sum256 (encI' x) := by
 have e : ofI x 2 = (regI x.1, 1, [digI x 2 0, digI x 2 1], labL x.2.1 x.2.2.1.toNat) := by unfold ofI; rw [if_neg (by omega)]
 rw [e]
 refine ⟨rfl, rfl, ?_⟩
 show digI x 2 1 = _
 unfold digI
 rw [if_pos ⟨encI_pos h, by decide⟩]; rfl
theorem evsR_img {r : Int} (h4 : r ≠ 4) {l : List Im} : evsR 2 r l = (rolR r l).map fun x => ofI x 2 := by
 unfold evsR rolR
 simp only [if_neg h4]
 induction (l.filter fun x => decide (x.1 = r)) with
 | nil => rfl
 | cons x t ih => rw [List.flatMap_cons, ih]; rfl
theorem evsR_reg {r : Int} (hr : 1 ≤ r ∧ r ≤ 3) {l : List Im} (h : ∀ x ∈ l, chkI x = 0) : (∀ e ∈ evsR 2 r l, e.1 = regI r ∧ e.2.1 = 1) ∧ (evsR 2 r l).map dgE = (rolR r l).map fun x => sum256 (encI' x) := by
 rw [evsR_img (by omega)]
 constructor
 · intro e he
   obtain ⟨x, hx, rfl⟩ := List.mem_map.1 he
   obtain ⟨hx1, hx2⟩ := List.mem_filter.1 hx
   have hx3 : x.1 = r := by simpa using hx2
   have := ofI_is (h x hx1) (by omega)
   rw [hx3] at this
   exact ⟨this.1, this.2.1⟩
 · rw [List.map_map]
   refine List.map_congr_left fun x hx => ?_
   obtain ⟨hx1, hx2⟩ := List.mem_filter.1 hx
   have hx3 : x.1 = r := by simpa using hx2
   exact (ofI_is (h x hx1) (by omega)).2.2
theorem seps_reg {g : Nat} : dsG g (seps 2) = if g < 8 then [sum256 sep4] else [] := by
 have key : ∀ n, dsG g ((List.range n).map fun (i : Nat) => mkE (i : Int) 2 2 sep4) = if g < n then [sum256 sep4] else [] := by
   intro n
   induction n with
   | zero => simp [dsG]
   | succ n ih =>
     rw [List.range_succ, List.map_append, dsG_app, ih]
     by_cases hgn : g = n
     · subst hgn
       rw [if_neg (by omega), if_pos (by omega), List.nil_append]
       rw [dsG_all (a := List.map _ [g]) (by intro e he; rw [List.mem_singleton.1 he]; exact ⟨rfl, by show (2 : Int) ≠ 5; decide⟩)]
       show [dgE (mkE (g : Int) 2 2 sep4)] = _
       rw [dgE_mkE (by decide)]
     · rw [dsG_none (a := List.map _ [n]) (by intro e he; rw [List.mem_singleton.1 he]; show (n : Int) ≠ g; omega), List.append_nil]
       by_cases hl : g < n
       · rw [if_pos hl, if_pos (by omega)]
       · rw [if_neg hl, if_neg (by omega)]
 exact key 8
theorem dsG_evsC {g : Nat} (hg : g = 0 ∨ g = 4 ∨ g = 8 ∨ g = 9) {l : List Im} (h : ∀ x ∈ l, chkI x = 0) : dsG g (evsC 2 l) = (msG g l).map sum256 := by
 obtain ⟨a1, b1⟩ := evsR_reg (r := 1) (by omega) h
 obtain ⟨a2, b2⟩ := evsR_reg (r := 2) (by omega) h
 obtain ⟨a3, b3⟩ := evsR_reg (r := 3) (by omega) h
 have a4 : ∀ e ∈ evsR 2 4 l, e.1 = 9 ∧ e.2.1 = 3 := by
   rw [evsR_lns]
   intro e he
   obtain ⟨x, _, rfl⟩ := List.mem_map.1 he
   exact ⟨rfl, rfl⟩
 have b4 : (evsR 2 4 l).map dgE = (lnsC l).map sum256 := by
   rw [evsR_lns, List.map_map]
   exact List.map_congr_left fun x _ => dgE_mkE (by decide)
 have r1 : regI 1 = 0 := rfl
 have r2 : regI 2 = 4 := rfl
 have r3 : regI 3 = 8 := rfl
 rw [r1] at a1
 rw [r2] at a2
 rw [r3] at a3
 unfold evsC
 rw [dsG_app, dsG_app, dsG_app, dsG_app, seps_reg]
 rcases hg with rfl | rfl | rfl | rfl
 · rw [dsG_all (fun e he => ⟨(a1 e he).1, by rw [(a1 e he).2]; decide⟩), dsG_none (a := evsR 2 2 l) (fun e he => by rw [(a2 e he).1]; decide), dsG_none (a := evsR 2 3 l) (fun e he => by rw [(a3 e he).1]; decide), dsG_none (a := evsR 2 4 l) (fun e he => by rw [(a4 e he).1]; decide), b1]
   simp [msG]
 · rw [dsG_none (a := evsR 2 1 l) (fun e he => by rw [(a1 e he).1]; decide), dsG_all (fun e he => ⟨(a2 e he).1, by rw [(a2 e he).2]; decide⟩), dsG_none (a := evsR 2 3 l) (fun e he => by rw [(a3 e he).1]; decide), dsG_none (a := evsR 2 4 l) (fun e he => by rw [(a4 e he).1]; decide), b2]
   simp [msG]
 · rw [dsG_none (a := evsR 2 1 l) (fun e he => by rw [(a1 e he).1]; decide), dsG_none (a := evsR 2 2 l) (fun e he => by rw [(a2 e he).1]; decide), dsG_all (fun e he => ⟨(a3 e he).1, by rw [(a3 e he).2]; decide⟩), dsG_none (a := evsR 2 4 l) (fun e he => by rw [(a4 e he).1]; decide), b3]
   simp [msG]
 · rw [dsG_none (a := evsR 2 1 l) (fun e he => by rw [(a1 e he).1]; decide), dsG_none (a := evsR 2 2 l) (fun e he => by rw [(a2 e he).1]; decide), dsG_none (a := evsR 2 3 l) (fun e he => by rw [(a3 e he).1]; decide), dsG_all (fun e he => ⟨(a4 e he).1, by rw [(a4 e he).2]; decide⟩), b4]
   simp [msG]
theorem beI_inj1 {n m : Int} (hn : 0 ≤ n ∧ n < 256) (hm : 0 ≤ m ∧ m < 256) (h : beI 1 n 1 = beI 1 m 1) : n = m := by
 have e := congrArg beV h
 rw [beV_all, beV_all] at e
 have p : (256 : Nat) ^ 1 = 256 := by decide
 rw [p] at e
 unfold m64 at e
 omega
theorem beI_inj2 {n m : Int} (hn : 0 ≤ n ∧ n < 65536) (hm : 0 ≤ m ∧ m < 65536) (h : beI 2 n 2 = beI 2 m 2) : n = m := by
 have e := congrArg beV h
 rw [beV_all, beV_all] at e
 have p : (256 : Nat) ^ 2 = 65536 := by decide
 rw [p] at e
 unfold m64 at e
 omega
theorem beI_inj4 {n m : Int} (hn : 0 ≤ n ∧ n < 4294967296) (hm : 0 ≤ m ∧ m < 4294967296) (h : beI 4 n 4 = beI 4 m 4) : n = m := by
 have e := congrArg beV h
 rw [beV_all, beV_all] at e
 have p : (256 : Nat) ^ 4 = 4294967296 := by decide
 rw [p] at e
 unfold m64 at e
 omega
theorem encI_inj {x y : Im} (hx : chkI x = 0) (hy : chkI y = 0) (h : encI' x = encI' y) : x = y := by
 obtain ⟨x1, x2, x3, x4⟩ := x
 obtain ⟨y1, y2, y3, y4⟩ := y
 obtain ⟨a1, a2, a3, a4, _⟩ := chkI_good hx
 obtain ⟨b1, b2, b3, b4, _⟩ := chkI_good hy
 have a5 := nameB_len a3
 have b5 := nameB_len b3
 unfold encI' at h
 rw [if_pos hx, if_pos hy] at h
 unfold encI blL at h
 simp only at h a1 a2 a4 a5 b1 b2 b4 b5
 simp only [List.append_assoc] at h
 obtain ⟨q1, h⟩ := List.append_inj h (by rw [beI_len, beI_len])
 obtain ⟨q2, h⟩ := List.append_inj h (by rw [beI_len, beI_len])
 obtain ⟨q3, h⟩ := List.append_inj h (by rw [beI_len, beI_len])
 have e1 := beI_inj1 (by omega) (by omega) q1
 have e2 := beI_inj4 (by omega) (by omega) q2
 have e3 := beI_inj2 (by omega) (by omega) q3
 obtain ⟨q4, h⟩ := List.append_inj h (by omega)
 obtain ⟨_, q5⟩ := List.append_inj h (by rw [beI_len, beI_len])
 subst e1 e2 q4 q5
 rfl
theorem map_on {α γ : Type} {f : α → γ} : ∀ {a b : List α}, (∀ x ∈ a, ∀ y ∈ b, f x = f y → x = y) → a.map f = b.map f → a = b
 | [], [], _, _ => rfl
 | [], _ :: _, _, h => by simp at h
 | _ :: _, [], _, h => by simp at h
 | x :: a, y :: b, hi, h => by
   simp only [List.map_cons, List.cons.injEq] at h
   rw [hi x (by simp) y (by simp) h.1, map_on (fun x hx y hy => hi x (by simp [hx]) y (by simp [hy])) h.2]
theorem chF_pw : ∀ {l pre : List Im}, chF pre l = 0 → pre.Pairwise (fun a b => a.1 ≤ b.1) → (∀ y ∈ pre, y.1 ≤ (pre.getLastD (0, [], 0, [])).1) → (pre ++ l).Pairwise (fun a b => a.1 ≤ b.1)
 | [], pre, _, hp, _ => by simpa using hp
 | x :: r, pre, h, hp, hl => by
   unfold chF at h
   split at h
   · omega
   · split at h
     · simp at h
     · rename_i hno
       split at h
       · simp at h
       · have hx : ∀ y ∈ pre, y.1 ≤ x.1 := fun y hy => by
           have h1 := hl y hy
           have h2 : ¬ x.1 < (pre.getLastD (0, [], 0, [])).1 := fun h3 => hno ⟨List.ne_nil_of_mem hy, h3⟩
           omega
         have := chF_pw (l := r) (pre := pre ++ [x]) h (List.pairwise_append.2 ⟨hp, by simp, fun a ha b hb => by rw [List.mem_singleton.1 hb]; exact hx a ha⟩) (fun y hy => by
           have e : (pre ++ [x]).getLastD (0, [], 0, []) = x := by simp
           rw [e]
           rcases List.mem_append.1 hy with hy | hy
           · exact hx y hy
           · rw [List.mem_singleton.1 hy]; exact Int.le_refl _)
         simpa using this
theorem rol_none {r : Int} {l : List Im} (h : ∀ x ∈ l, x.1 ≠ r) : rolR r l = [] := List.filter_eq_nil_iff.2 fun x hx => by simpa using h x hx
theorem rol_cons {r : Int} {x : Im} {l : List Im} : rolR r (x :: l) = if x.1 = r then x :: rolR r l else rolR r l := by
 unfold rolR
 rw [List.filter_cons]
 by_cases h : x.1 = r <;> simp [h]
theorem pw_split : ∀ {l : List Im}, l.Pairwise (fun a b => a.1 ≤ b.1) → (∀ x ∈ l, 1 ≤ x.1 ∧ x.1 ≤ 3) → l = rolR 1 l ++ (rolR 2 l ++ rolR 3 l)
 | [], _, _ => rfl
 | x :: l, hp, hr => by
   obtain ⟨h1, h2⟩ := List.pairwise_cons.1 hp
   have ih := pw_split h2 (fun y hy => hr y (by simp [hy]))
   have hx := hr x (by simp)
   rw [rol_cons, rol_cons, rol_cons]
   rcases (show x.1 = 1 ∨ x.1 = 2 ∨ x.1 = 3 by omega) with e | e | e
   · rw [if_pos e, if_neg (by omega), if_neg (by omega), List.cons_append, ← ih]
   · have n1 := rol_none (r := 1) (l := l) (fun y hy => by have := h1 y hy; omega)
     rw [n1, List.nil_append] at ih
     rw [if_neg (by omega), if_pos e, if_neg (by omega), n1, List.nil_append, List.cons_append, ← ih]
   · have n1 := rol_none (r := 1) (l := l) (fun y hy => by have := h1 y hy; omega)
     have n2 := rol_none (r := 2) (l := l) (fun y hy => by have := h1 y hy; omega)
     rw [n1, n2, List.nil_append, List.nil_append] at ih
     rw [if_neg (by omega), if_neg (by omega), if_pos e, n1, n2, List.nil_append, List.nil_append, ← ih]
theorem rol_imgs {r : Int} (h : r ≠ 4) {l : List Im} : rolR r (imgs l) = rolR r l := by
 unfold rolR imgs
 rw [List.filter_filter]
 refine List.filter_congr fun x _ => ?_
 by_cases hx : x.1 = r
 · rw [decide_eq_true hx, decide_eq_true (by omega)]; rfl
 · rw [decide_eq_false hx]; rfl
theorem imgs_split {l : List Im} (h : chkC l = 0) : imgs l = rolR 1 l ++ (rolR 2 l ++ rolR 3 l) := by
 obtain ⟨ok, h1, h8⟩ := chkC_ok h
 unfold chkC at h
 rw [if_neg (by omega)] at h
 have hp := chF_pw h .nil (by simp)
 rw [List.nil_append] at hp
 have := pw_split (l := imgs l) (hp.filter _) (fun x hx => by
   obtain ⟨hx1, hx2⟩ := List.mem_filter.1 hx
   have := (chkI_good (ok x hx1)).1
   have h4 : x.1 ≠ 4 := by simpa using hx2
   omega)
 rw [rol_imgs (by decide), rol_imgs (by decide), rol_imgs (by decide)] at this
 exact this
theorem evsC_kind {l : List Im} (h : ∀ x ∈ l, chkI x = 0) : ∀ e ∈ evsC 2 l, evV 2 e ∧ e.2.1 ≠ 5 := by
 intro e he
 refine ⟨evsC_ok (by omega) h e he, ?_⟩
 obtain ⟨a1, _⟩ := evsR_reg (r := 1) (by omega) h
 obtain ⟨a2, _⟩ := evsR_reg (r := 2) (by omega) h
 obtain ⟨a3, _⟩ := evsR_reg (r := 3) (by omega) h
 unfold evsC at he
 simp only [List.mem_append] at he
 rcases he with ((he | he) | he) | he | he
 · rw [(a1 e he).2]; decide
 · rw [(a2 e he).2]; decide
 · unfold seps at he
   obtain ⟨i, _, rfl⟩ := List.mem_map.1 he
   show (2 : Int) ≠ 5
   decide
 · rw [(a3 e he).2]; decide
 · rw [evsR_lns] at he
   obtain ⟨s, _, rfl⟩ := List.mem_map.1 he
   show (3 : Int) ≠ 5
   decide
theorem msG_in {g : Nat} {l : List Im} (hc : chkC l = 0) : ∀ m ∈ msG g l, m ∈ hsd l := by
 have hE : evsI l 2 = evsC 2 l := by unfold evsI; rw [if_neg (by omega)]
 have hi : ∀ r : Int, r ≠ 4 → ∀ m ∈ (rolR r l).map encI', m ∈ hsd l := by
   intro r hr m hm
   obtain ⟨x, hx, rfl⟩ := List.mem_map.1 hm
   refine List.mem_append_left _ (List.mem_map.2 ⟨x, ?_, rfl⟩)
   rw [← rol_imgs hr] at hx
   exact (List.mem_filter.1 hx).1
 have hs : sep4 ∈ hsd l := by
   refine List.mem_append_right _ ?_
   rw [hE]
   have : mkE 0 2 2 sep4 ∈ evsC 2 l := by
     unfold evsC seps
     simp only [List.mem_append, List.mem_map, List.mem_range]
     exact .inl (.inr ⟨0, by omega, rfl⟩)
   exact hsE_data this (by show (2 : Int) ≠ 1; decide)
 have hl : ∀ m ∈ lnsC l, m ∈ hsd l := by
   intro m hm
   refine List.mem_append_right _ ?_
   rw [hE]
   have : mkE 9 3 2 m ∈ evsC 2 l := by
     unfold evsC
     rw [evsR_lns]
     simp only [List.mem_append, List.mem_map]
     exact .inr (.inr ⟨m, hm, rfl⟩)
   exact hsE_data this (by show (3 : Int) ≠ 1; decide)
 intro m hm
 unfold msG at hm
 split at hm
 · rcases List.mem_append.1 hm with hm | hm
   · exact hi 1 (by decide) m hm
   · rw [List.mem_singleton.1 hm]; exact hs
 · split at hm
   · rcases List.mem_append.1 hm with hm | hm
     · exact hi 2 (by decide) m hm
     · rw [List.mem_singleton.1 hm]; exact hs
   · split at hm
     · exact hi 3 (by decide) m hm
     · split at hm
       · exact hl m hm
       · simp at hm
theorem dist_eq {l k : List Im} (hl : chkC l = 0) (hk : chkC k = 0) (hr : ∀ g, g < 12 → valL (rpF 2 (evsC 2 l)).1 1 g = valL (rpF 2 (evsC 2 k)).1 1 g) (hn : Nc (hsd l ++ hsd k)) : imgs l = imgs k ∧ lnsC l = lnsC k := by
 have okl := (chkC_ok hl).1
 have okk := (chkC_ok hk).1
 have vl := evsC_kind okl
 have vk := evsC_kind okk
 have El : evsI l 2 = evsC 2 l := by unfold evsI; rw [if_neg (by omega)]
 have Ek : evsI k 2 = evsC 2 k := by unfold evsI; rw [if_neg (by omega)]
 have l32 : ∀ {g : Nat} {x : List Im}, (g = 0 ∨ g = 4 ∨ g = 8 ∨ g = 9) → (∀ y ∈ x, chkI y = 0) → ∀ d ∈ dsG g (evsC 2 x), d.length = 32 := by
   intro g x hg hx d hd
   rw [dsG_evsC hg hx] at hd
   obtain ⟨m, _, rfl⟩ := List.mem_map.1 hd
   exact sum256_len
 have sub : ∀ {g : Nat}, g < 12 → ∀ {x : List Im}, evsI x 2 = evsC 2 x → (∀ e ∈ evsC 2 x, evV 2 e ∧ e.2.1 ≠ 5) → ∀ m ∈ chM zero32 (dsG g (evsC 2 x)), m ∈ hsd x := by
   intro g hg x hx hv m hm
   refine List.mem_append_right _ ?_
   rw [hx]
   refine hsE_chM (v := v0) (by simpa [v0] using hg) hv m ?_
   have : v0.getD g [] = zero32 := by
     unfold v0
     rw [List.getD_eq_getElem?_getD, List.getElem?_replicate, if_pos hg]; rfl
   rw [this]; exact hm
 have key : ∀ g : Nat, (g = 0 ∨ g = 4 ∨ g = 8 ∨ g = 9) → msG g l = msG g k := by
   intro g hg
   have h12 : g < 12 := by omega
   have e := hr g h12
   rw [rpF_chV h12 vl, rpF_chV h12 vk] at e
   have e2 := chV_inj hn _ _ _ rfl (l32 hg okl) (l32 hg okk) (fun m hm => List.mem_append_left _ (sub h12 El vl m hm)) (fun m hm => List.mem_append_right _ (sub h12 Ek vk m hm)) e
   rw [dsG_evsC hg okl, dsG_evsC hg okk] at e2
   exact map_on (fun x hx y hy => hn.2 x (List.mem_append_left _ (msG_in hl x hx)) y (List.mem_append_right _ (msG_in hk y hy))) e2
 have enc : ∀ r : Int, (rolR r l).map encI' = (rolR r k).map encI' → rolR r l = rolR r k := fun r h =>
   map_on (fun x hx y hy => encI_inj (okl x (List.mem_filter.1 hx).1) (okk y (List.mem_filter.1 hy).1)) h
 have k0 := key 0 (by omega)
 have k4 := key 4 (by omega)
 have k8 := key 8 (by omega)
 have k9 := key 9 (by omega)
 simp only [msG, if_true, if_false, reduceIte, Nat.reduceEqDiff] at k0 k4 k8 k9
 have r1 := enc 1 (List.append_inj' k0 rfl).1
 have r2 := enc 2 (List.append_inj' k4 rfl).1
 have r3 := enc 3 k8
 refine ⟨?_, k9⟩
 rw [imgs_split hl, imgs_split hk, r1, r2, r3]
theorem prG_rv {l : List Im} {act : Int} : RV (prG l act).1 ∧ 0 ≤ (prG l act).2 ∧ (prG l act).2 ≤ 1000 := by
 unfold prG
 split
 · rename_i h
   obtain ⟨hz, ha⟩ := prE_ok h
   have := rpF_rq ha (es := evsC act l)
   have hl := evsC_len (act := act) (l := l)
   have h8 := (chkC_ok hz).2.2
   exact ⟨this.1.rv, this.2.1, by have := this.2.2; omega⟩
 · exact ⟨⟨.nil, by simp⟩, by simp, by simp⟩
def pdE (l : List Im) (act s0 s1 : Int) : Int := if prE l act = 0 then digE (prG l act).1 s0 s1 else prE l act
def pdB (l : List Im) (act s0 s1 : Int) : List UInt8 := if pdE l act s0 s1 = 0 then hashL 5 [headS s0 s1, valS (prG l act).1 s0 s1] else []
def ct_pdg : Ct where
 α := List Im × Int × Int × Int
 as x := [.t (.sl (x.1.map imT)), .t (.int .i64 x.2.1), .t (.agg [.int .i64 x.2.2.1, .int .i64 x.2.2.2])]
 ins _ := []
 pre x := imsM x.1
 r x := .tup [.t (.sl ((pdB x.1 x.2.1 x.2.2.1 x.2.2.2).map byteT)), .t (.int .i64 (pdE x.1 x.2.1 x.2.2.1 x.2.2.2))]
 outs _ := []
 inj := by
   rintro ⟨l, c, a, b⟩ ⟨m, f, d, e⟩ h _
   simp only [List.cons.injEq, V.t.injEq, T.int.injEq, T.agg.injEq, T.sl.injEq, true_and, and_true, mapI_inj] at h
   obtain ⟨rfl, rfl, rfl, rfl⟩ := h
   exact ⟨rfl, rfl⟩
theorem pdg_eq {l : List Im} {act s0 s1 : Int} (h : imsM l) : ct_pdg.fs [.t (.sl (l.map imT)), .t (.int .i64 act), .t (.agg [.int .i64 s0, .int .i64 s1])] [] = some (.tup [.t (.sl ((pdB l act s0 s1).map byteT)), .t (.int .i64 (pdE l act s0 s1))], []) := ct_pdg.eq (l, act, s0, s1) h
theorem pdg_cases {act : Int} {l : List Im} (s0 s1 : Int) : (prE l act ≠ 0 ∧ pdE l act s0 s1 = prE l act ∧ pdB l act s0 s1 = []) ∨ (prE l act = 0 ∧ pdE l act s0 s1 ≠ 0 ∧ pdB l act s0 s1 = [] ∧ ct_digs.fs [.t (.agg [.sl ((prG l act).1.map bankT), .int .i64 (prG l act).2]), .t (.agg [.int .i64 s0, .int .i64 s1])] [] = some (.tup [.nil, .t (.int .i64 (pdE l act s0 s1))], [])) ∨
   (prE l act = 0 ∧ pdE l act s0 s1 = 0 ∧ (pdB l act s0 s1).length = 32 ∧ ct_digs.fs [.t (.agg [.sl ((prG l act).1.map bankT), .int .i64 (prG l act).2]), .t (.agg [.int .i64 s0, .int .i64 s1])] [] = some (.tup [.sl 0 0 32, .t (.int .i64 0)], [.live 1 (((pdB l act s0 s1).map byteT).map V.t) true false])) := by
 have he : ct_digs.fs [.t (.agg [.sl ((prG l act).1.map bankT), .int .i64 (prG l act).2]), .t (.agg [.int .i64 s0, .int .i64 s1])] [] = some (digR (prG l act).1 s0 s1, digO (prG l act).1 s0 s1) := ct_digs.eq ((prG l act).1, (prG l act).2, s0, s1) prG_rv.1
 by_cases hz : prE l act = 0
 · have hE : pdE l act s0 s1 = digE (prG l act).1 s0 s1 := if_pos hz
   by_cases hd : digE (prG l act).1 s0 s1 = 0
   · refine .inr (.inr ⟨hz, hE.trans hd, ?_, ?_⟩)
     · unfold pdB; rw [if_pos (hE.trans hd)]; exact sum256_length
     · rw [he]
       unfold digR digO pdB
       rw [if_pos hd, if_pos hd, if_pos (hE.trans hd)]
   · refine .inr (.inl ⟨hz, by rw [hE]; exact hd, ?_, ?_⟩)
     · unfold pdB; rw [if_neg (by rw [hE]; exact hd)]
     · rw [he, hE]
       unfold digR digO
       rw [if_neg hd, if_neg hd]
 · have hE : pdE l act s0 s1 = prE l act := if_neg hz
   refine .inl ⟨hz, hE, ?_⟩
   unfold pdB; rw [if_neg (by rw [hE]; exact hz)]
theorem pdB_len {l : List Im} {act s0 s1 : Int} : (pdB l act s0 s1).length ≤ 32 := by
 unfold pdB
 split
 · exact Nat.le_of_eq sum256_length
 · simp
theorem w_predict_Digest (tab : Tab) (gl : Gl) (n1 n2 : Nat) (h1 : tab.look n1 = some ct_prd.fs) (h2 : tab.look n2 = some ct_digs.fs) (l : List Im) (act s0 s1 : Int) (hm : imsM l) :
   (ac_predict_Digest n1 n2).wp tab gl (zipF 0 [.t (.sl (l.map imT)), .t (.int .i64 act), .t (.agg [.int .i64 s0, .int .i64 s1])]) (zipF 0 []) (resW [(6, none), (7, none)] 0 (fun r o => r = .tup [.t (.sl ((pdB l act s0 s1).map byteT)), .t (.int .i64 (pdE l act s0 s1))] ∧ o = [])) := by
 have hR := prd_eq (act := act) hm
 rcases pdg_cases (act := act) (l := l) s0 s1 with ⟨z, e, b⟩ | ⟨z, e, b, hD⟩ | ⟨z, e, b, hD⟩
 · rw [e, b]
   have z' : (prE l act != 0) = true := by simpa using z
   generalize prE l act = c at *
   generalize prG l act = X at *
   simp (disch := omega) only [go_sem, seval, ac_predict_Digest, h1, hR, z', List.map_nil]
 · rw [b]
   rw [z] at hR
   generalize pdE l act s0 s1 = c at *
   generalize prG l act = X at *
   simp (disch := omega) only [go_sem, seval, ac_predict_Digest, h1, hR, h2, hD, List.map_nil]
 · rw [e]
   rw [z] at hR
   generalize pdB l act s0 s1 = B at *
   generalize prG l act = X at *
   have t32 : List.take 32 B = B := List.take_of_length_le (by omega)
   simp (disch := omega) only [go_sem, seval, ac_predict_Digest, h1, hR, h2, hD, b, t32]
end Go.Eng
end
section
set_option maxRecDepth 20000
set_option maxHeartbeats 8000000
namespace Go.Eng
def ct_smi : Ct where
 α := Im × Im
 as x := [.t (imT x.1), .t (imT x.2)]
 ins _ := []
 pre x := imM x.1 ∧ imM x.2
 r x := .t (.bool (decide (x.1 = x.2)))
 outs _ := []
 inj := by
   rintro ⟨a, b⟩ ⟨c, d⟩ h _
   simp only [List.cons.injEq, V.t.injEq, and_true] at h
   obtain ⟨h1, h2⟩ := h
   cases imT_inj h1
   cases imT_inj h2
   exact ⟨rfl, rfl⟩
theorem smi_eq {a v c w : Int} {s p t q : List UInt8} (h : imM (a, s, v, p) ∧ imM (c, t, w, q)) : ct_smi.fs [.t (.agg [.int .i64 a, strT s, .int .i64 v, .sl (p.map byteT)]), .t (.agg [.int .i64 c, strT t, .int .i64 w, .sl (q.map byteT)])] [] = some (.t (.bool (decide (((a, s, v, p) : Im) = (c, t, w, q)))), []) := ct_smi.eq ((a, s, v, p), (c, t, w, q)) h
theorem w_ref25_SameImage (tab : Tab) (gl : Gl) (n1 : Nat) (h1 : tab.look n1 = some ct_same.fs) (x y : Im) (hx : imM x) (hy : imM y) :
   (ac_ref25_SameImage n1).wp tab gl (zipF 0 [.t (imT x), .t (imT y)]) (zipF 0 []) (resW [(4, none)] 0 (fun r o => r = .t (.bool (decide (x = y))) ∧ o = [])) := by
 obtain ⟨a, s, v, p⟩ := x
 obtain ⟨c, t, w, q⟩ := y
 have hS := same_eq (a := p) (b := q) ⟨hx.2.1, hy.2.1⟩
 generalize hD : decide (((a, s, v, p) : Im) = (c, t, w, q)) = D
 by_cases e1 : a = c
 · subst e1
   by_cases e2 : s = t
   · subst e2
     by_cases e3 : v = w
     · subst e3
       have hd : decide (p = q) = D := by rw [← hD]; simp
       rw [hd] at hS
       simp (disch := omega) only [go_sem, seval, ac_ref25_SameImage, imT_def, beq_self_eq_true, h1, hS]
       all_goals rfl
     · have hd : D = false := by rw [← hD]; exact decide_eq_false (fun h => e3 (by injection h with _ h; injection h with _ h; injection h))
       have b3 : (v == w) = false := by simpa using e3
       rw [hd]
       simp (disch := omega) only [go_sem, seval, ac_ref25_SameImage, imT_def, beq_self_eq_true, b3]
       all_goals rfl
   · have hd : D = false := by rw [← hD]; exact decide_eq_false (fun h => e2 (by injection h with _ h; injection h))
     have b2 : decide (s = t) = false := decide_eq_false e2
     rw [hd]
     simp (disch := omega) only [go_sem, seval, ac_ref25_SameImage, imT_def, beq_self_eq_true, b2]
     all_goals rfl
 · have hd : D = false := by rw [← hD]; exact decide_eq_false (fun h => e1 (by injection h))
   have b1 : (a == c) = false := by simpa using e1
   rw [hd]
   simp (disch := omega) only [go_sem, seval, ac_ref25_SameImage, imT_def, b1]
   all_goals rfl
def ct_smc : Ct where
 α := List Im × List Im
 as x := [.t (.sl (x.1.map imT)), .t (.sl (x.2.map imT))]
 ins _ := []
 pre x := imsM x.1 ∧ imsM x.2
 r x := .t (.bool (decide (x.1 = x.2)))
 outs _ := []
 inj := by
   rintro ⟨a, b⟩ ⟨c, d⟩ h _
   simp only [List.cons.injEq, V.t.injEq, T.sl.injEq, mapI_inj, and_true] at h
   obtain ⟨rfl, rfl⟩ := h
   exact ⟨rfl, rfl⟩
theorem smc_eq {a b : List Im} (h : imsM a ∧ imsM b) : ct_smc.fs [.t (.sl (a.map imT)), .t (.sl (b.map imT))] [] = some (.t (.bool (decide (a = b))), []) := ct_smc.eq (a, b) h
theorem list_ext_take {α : Type} {a b : List α} (hl : a.length = b.length) (h : a.take a.length = b.take a.length) : a = b := by
 rw [List.take_length] at h
 rw [h, hl, List.take_length]
theorem w_ref25_SameChain (tab : Tab) (gl : Gl) (n1 : Nat) (h1 : tab.look n1 = some ct_smi.fs) (a b : List Im) (ha : imsM a) (hb : imsM b) :
   (ac_ref25_SameChain n1).wp tab gl (zipF 0 [.t (.sl (a.map imT)), .t (.sl (b.map imT))]) (zipF 0 []) (resW [(4, none)] 0 (fun r o => r = .t (.bool (decide (a = b))) ∧ o = [])) := by
 have hla := ha.1
 have hlb := hb.1
 by_cases hl : a.length = b.length
 · have hlb2 : ((a.length : Int) != (b.length : Int)) = false := by simp [hl]
   simp (disch := omega) only [go_sem, seval, ac_ref25_SameChain, hlb2]
   refine loop_uptoP a.length (fun i => a.take i = b.take i) (fun i => [(0, .t (.sl (a.map imT))), (1, .t (.sl (b.map imT))), (5, .t (.int .i64 (i : Nat)))]) (fun _ => []) rfl ?_ (fun i hi hP => ?_)
   · refine Weak.rd id ?_ ?_ rfl
     all_goals simp (disch := omega) only [go_sem, seval, id]
   · by_cases hlt : i < a.length
     · obtain ⟨⟨xa, xs, xv, xp⟩, hx⟩ : ∃ x, a[i]? = some x := ⟨a[i], by simp [hlt]⟩
       obtain ⟨⟨ya, ys, yv, yp⟩, hy⟩ : ∃ x, b[i]? = some x := ⟨b[i], by simp [show i < b.length by omega]⟩
       have hS := smi_eq ⟨ha.2 _ (List.mem_of_getElem? hx), hb.2 _ (List.mem_of_getElem? hy)⟩
       by_cases q : ((xa, xs, xv, xp) : Im) = (ya, ys, yv, yp)
       · have hP' : a.take (i + 1) = b.take (i + 1) := by rw [List.take_add_one, List.take_add_one, hP, hx, hy, q]
         rw [decide_eq_true q] at hS
         simp (disch := omega) only [go_sem, seval, ac_ref25_SameChain_L0, imT_def, hx, hy, h1, hS]
         repeat refine And.intro rfl ?_
         refine ⟨hlt, hP', Weak.rd id ?_ ?_ rfl⟩
         all_goals simp (disch := omega) only [go_sem, seval, id]
       · rw [decide_eq_false q] at hS
         have hd : decide (a = b) = false := decide_eq_false (fun e => q (by rw [e, hy] at hx; exact (Option.some.inj hx).symm))
         rw [hd]
         simp (disch := omega) only [go_sem, seval, ac_ref25_SameChain_L0, imT_def, hx, hy, h1, hS]
         all_goals repeat refine And.intro rfl ?_
         all_goals rfl
     · have e : i = a.length := by omega
       subst e
       have hd : decide (a = b) = true := decide_eq_true (list_ext_take hl hP)
       rw [hd]
       simp (disch := omega) only [go_sem, seval, ac_ref25_SameChain_L0]
 · have hlb2 : ((a.length : Int) != (b.length : Int)) = true := by simpa using (by omega : ¬ (a.length : Int) = b.length)
   have hd : decide (a = b) = false := decide_eq_false (fun e => hl (by rw [e]))
   rw [hd]
   simp (disch := omega) only [go_sem, seval, ac_ref25_SameChain, hlb2]
end Go.Eng
end
section
set_option maxRecDepth 20000
set_option maxHeartbeats 8000000
namespace Go.Eng
def ct_eqS : Ct where
 α := Rg × Rg
 as x := [.t (regT x.1.1 x.1.2), .t (regT x.2.1 x.2.2)]
 ins _ := []
 pre x := ShA 2 x.1.1 ∧ ShA 2 x.2.1
 r x := .t (.bool (decide (x.1.2 = x.2.2) && decide (x.1.1.getD 1 [] = x.2.1.getD 1 [])))
 outs _ := []
 inj := by
   rintro ⟨⟨a, u⟩, b, v⟩ ⟨⟨c, w⟩, d, z⟩ h _
   simp only [List.cons.injEq, V.t.injEq, and_true] at h
   obtain ⟨h1, h2⟩ := h
   obtain ⟨rfl, rfl⟩ := regT_inj h1
   obtain ⟨rfl, rfl⟩ := regT_inj h2
   exact ⟨rfl, rfl⟩
theorem eqS_eq {x y : Rg} (h : ShA 2 x.1 ∧ ShA 2 y.1) : ct_eqS.fs [.t (.agg [.sl (x.1.map bankT), .int .i64 x.2]), .t (.agg [.sl (y.1.map bankT), .int .i64 y.2])] [] = some (.t (.bool (decide (x.2 = y.2) && decide (x.1.getD 1 [] = y.1.getD 1 []))), []) := ct_eqS.eq (x, y) h
theorem ShA.two2 {bk : List Bank} (h : ShA 2 bk) : ∃ b1 : Bank, bk = [[], b1] ∧ List.length b1 = 16 := by
 obtain ⟨b0, b1, rfl, h0, h1, -, -⟩ := h
 rw [if_neg (by decide)] at h0
 rw [if_pos (by decide)] at h1
 exact ⟨b1, by rw [List.eq_nil_of_length_eq_zero h0], h1⟩
theorem w_ref8_SameS (tab : Tab) (gl : Gl) (n1 n2 : Nat) (h1 : tab.look n1 = some ct_actv.fs) (h2 : tab.look n2 = some ct_lists.fs) (x y : Rg) (hx : ShA 2 x.1) (hy : ShA 2 y.1) :
   (ac_ref8_Same n1 n2).wp tab gl (zipF 0 [.t (regT x.1 x.2), .t (regT y.1 y.2)]) (zipF 0 []) (resW [(4, none)] 0 (fun r o => r = .t (.bool (decide (x.2 = y.2) && decide (x.1.getD 1 [] = y.1.getD 1 []))) ∧ o = [])) := by
 have kx := hx.rv.rm
 have ky := hy.rv.rm
 obtain ⟨bk, u⟩ := x
 obtain ⟨ck, w⟩ := y
 simp only at hx hy kx ky ⊢
 obtain ⟨b1, rfl, lb⟩ := hx.two2
 obtain ⟨c1, rfl, lc⟩ := hy.two2
 have x0 := actv_eq0 (u := u) kx.1
 have x1 := actv_eq1 (u := u) kx.1
 have y0 := actv_eq0 (u := w) ky.1
 have y1 := actv_eq1 (u := w) ky.1
 have hl := lists2_eq (kx.bank 1) (ky.bank 1)
 simp only [List.getD_cons_succ, List.getD_cons_zero] at hl ⊢
 rw [lb, decide_eq_true rfl] at x1
 rw [lc, decide_eq_true rfl] at y1
 simp only [List.length_nil, List.map_nil] at x0 x1 y0 y1
 rw [show decide (0 = 16) = false from rfl] at x0 y0
 generalize hD : decide (b1 = c1) = D at *
 by_cases e : u = w
 · subst e
   rw [decide_eq_true rfl, Bool.true_and]
   simp (disch := omega) only [go_sem, seval, ac_ref8_Same, bne_self_eq_false, List.map_nil]
   refine loopW_weak (fs' := [(2, .ref 4096 0 0), (3, .ref 4112 0 0), (5, .t (.int .i64 0))]) (hs' := [(4096, .live 2 [.t (.agg [.sl [.sl [], .sl (b1.map bsT)], .int .i64 u])] true true), (4112, .live 2 [.t (.agg [.sl [.sl [], .sl (c1.map bsT)], .int .i64 u])] true true)]) (Weak.rd id ?_ ?_ rfl) ?_
   · simp (disch := omega) only [go_sem, seval, id, List.map_nil]
   · simp (disch := omega) only [go_sem, seval, id, List.map_nil]
     all_goals rfl
   refine loop_fuel 3 ?_
   cases D
   all_goals simp (disch := omega) only [go_sem, seval, loopN_succ, ac_ref8_Same_L0, h1, x0, x1, y0, y1, h2, hl]
   all_goals repeat refine And.intro rfl ?_
   all_goals rfl
 · have hn : (u != w) = true := by simpa using e
   rw [decide_eq_false e, Bool.false_and]
   simp (disch := omega) only [go_sem, seval, ac_ref8_Same, hn, List.map_nil]
def colI (M : List (List UInt8)) (i k : Nat) : Bool := !decide (M.getD i [] = M.getD k []) && decide (sum256 (M.getD i []) = sum256 (M.getD k []))
def colRow (M : List (List UInt8)) (i : Nat) : Bool := decide (sum256 (M.getD i []) = zero32) || (List.range i).any (colI M i)
def colB (M : List (List UInt8)) : Bool := (List.range M.length).any (colRow M)
theorem colB_nc {M : List (List UInt8)} (h : colB M = false) : Nc M := by
 have row : ∀ i, i < M.length → colRow M i = false := fun i hi => by
   have := List.any_eq_false.1 h i (List.mem_range.2 hi)
   simpa using this
 have at_ : ∀ m ∈ M, ∃ i, i < M.length ∧ M.getD i [] = m := fun m hm => by
   obtain ⟨i, hi⟩ := List.getElem?_of_mem hm
   exact ⟨i, (List.getElem?_eq_some_iff.1 hi).1, by rw [List.getD_eq_getElem?_getD, hi]; rfl⟩
 have two : ∀ i k, k < i → i < M.length → sum256 (M.getD i []) = sum256 (M.getD k []) → M.getD i [] = M.getD k [] := fun i k hk hi he => by
   have h1 := row i hi
   unfold colRow at h1
   simp only [Bool.or_eq_false_iff] at h1
   have h2 := List.any_eq_false.1 h1.2 k (List.mem_range.2 hk)
   unfold colI at h2
   rw [decide_eq_true he, Bool.and_true] at h2
   simpa using h2
 refine ⟨fun m hm hz => ?_, fun a ha b hb he => ?_⟩
 · obtain ⟨i, hi, rfl⟩ := at_ m hm
   have h1 := row i hi
   unfold colRow at h1
   rw [decide_eq_true hz] at h1
   simp at h1
 · obtain ⟨i, hi, rfl⟩ := at_ a ha
   obtain ⟨k, hk, rfl⟩ := at_ b hb
   rcases Nat.lt_trichotomy i k with h1 | h1 | h1
   · exact (two k i h1 hk he.symm).symm
   · rw [h1]
   · exact two i k h1 hi he
def ct_cols : Ct where
 α := List (List UInt8)
 as x := [.t (.sl (x.map bsT))]
 ins _ := []
 pre x := x.length ≤ 1000000 ∧ ∀ m ∈ x, m.length < 1000000000
 r x := .t (.bool (colB x))
 outs _ := []
 inj := by
   intro a b h _
   simp only [List.cons.injEq, V.t.injEq, T.sl.injEq, and_true] at h
   have : a = b := map_inj' (fun _ _ => bsT_inj) h
   subst this; exact ⟨rfl, rfl⟩
theorem cols_eq {l : List (List UInt8)} (h : l.length ≤ 1000000 ∧ ∀ m ∈ l, m.length < 1000000000) : ct_cols.fs [.t (.sl (l.map bsT))] [] = some (.t (.bool (colB l)), []) := ct_cols.eq l h
theorem w_draw_Collides (tab : Tab) (gl : Gl) (n1 n2 n3 : Nat) (h1 : tab.look n1 = some (ct_sum 32 sum256).fs) (h2 : tab.look n2 = some ct_same.fs) (h3 : tab.look n3 = some ct_col.fs) (M : List (List UInt8)) (hM : M.length ≤ 1000000 ∧ ∀ m ∈ M, m.length < 1000000000) :
   (ac_draw_Collides n1 n2 n3).wp tab gl (zipF 0 [.t (.sl (M.map bsT))]) (zipF 0 []) (resW [(2, none)] 0 (fun r o => r = .t (.bool (colB M)) ∧ o = [])) := by
 have hl := hM.1
 simp (disch := omega) only [go_sem, seval, ac_draw_Collides]
 refine loop_uptoP M.length (fun i => (List.range i).any (colRow M) = false) (fun i => [(0, .t (.sl (M.map bsT))), (3, .t (.sl (zero32.map byteT))), (4, .t (.int .i64 (i : Nat)))]) (fun _ => []) rfl ?_ (fun i hi hP => ?_)
 · refine Weak.cv (hv := []) (ho := []) [8192] id ?_ rfl
   simp (disch := omega) only [go_sem, seval, id]
   exact ⟨rfl, rfl⟩
 · by_cases hlt : i < M.length
   · obtain ⟨m, hm⟩ : ∃ m, M[i]? = some m := ⟨M[i], by simp [hlt]⟩
     have hml := hM.2 _ (List.mem_of_getElem? hm)
     have gi : M.getD i [] = m := by rw [List.getD_eq_getElem?_getD, hm]; rfl
     have hS := sum_eq (n := 32) (f := sum256) hml
     have hl32 := sum256_len (x := m)
     have hq := same_eq (a := sum256 m) (b := zero32) ⟨by omega, by decide⟩
     have tk : List.take 32 (sum256 m) = sum256 m := List.take_of_length_le (by omega)
     have hsr := any_range_s (p := colRow M) (n := i)
     rw [hP, Bool.false_or] at hsr
     have hrow : colRow M i = (decide (sum256 m = zero32) || (List.range i).any (colI M i)) := by unfold colRow; rw [gi]
     have hyes : colRow M i = true → colB M = true := fun h => any_at (p := colRow M) hlt h
     by_cases z : sum256 m = zero32
     · rw [hyes (by rw [hrow, decide_eq_true z]; rfl)]
       rw [decide_eq_true z] at hq
       clear hyes hrow hsr z
       generalize sum256 m = S at *
       generalize zero32 = Z at *
       simp (disch := omega) only [go_sem, seval, ac_draw_Collides_L0, bsT_def, hm, h1, hS, h2, hq, hl32, tk]
       all_goals repeat refine And.intro rfl ?_
       all_goals rfl
     · rw [decide_eq_false z] at hq hrow
       rw [Bool.false_or] at hrow
       have hI : ∀ k, k < i → colI M i k = (!decide (m = M.getD k []) && decide (sum256 m = sum256 (M.getD k []))) := fun k hk => by unfold colI; rw [gi]
       have hcol : ∀ k x, M[k]? = some x → ct_col.fs [.t (.sl (m.map byteT)), .t (.sl (x.map byteT)), .t (.int .i64 32)] [] = some (.t (.bool (!decide (m = x) && decide (sum256 m = sum256 x))), []) := fun k x hx => col_eq ⟨hml, hM.2 _ (List.mem_of_getElem? hx)⟩
       clear z
       generalize hSS : sum256 m = S at *
       generalize hZZ : zero32 = Z at *
       simp (disch := omega) only [go_sem, seval, ac_draw_Collides_L0, bsT_def, hm, h1, hS, h2, hq, hl32, tk]
       repeat refine And.intro rfl ?_
       refine loop_uptoP i (fun k => (List.range k).any (colI M i) = false) (fun k => [(0, .t (.sl (M.map bsT))), (3, .t (.sl (Z.map byteT))), (4, .t (.int .i64 (i : Nat))), (5, .t (.int .i64 (k : Nat)))]) (fun _ => []) rfl ?_ (fun k hk hQ => ?_)
       · refine Weak.rd id ?_ ?_ rfl
         all_goals simp (disch := omega) only [go_sem, seval, id]
       · by_cases hlk : k < i
         · obtain ⟨x, hx⟩ : ∃ x, M[k]? = some x := ⟨M[k], by simp⟩
           have gk : M.getD k [] = x := by rw [List.getD_eq_getElem?_getD, hx]; rfl
           have hC := hcol k x hx
           have hIk := hI k hlk
           rw [gk] at hIk
           have hsk := any_range_s (p := colI M i) (n := k)
           rw [hQ, Bool.false_or, hIk] at hsk
           have hyk : (!decide (m = x) && decide (S = sum256 x)) = true → colB M = true := fun h => hyes (by rw [hrow]; exact any_at (p := colI M i) hlk (by rw [hIk]; exact h))
           generalize (!decide (m = x) && decide (S = sum256 x)) = b at *
           cases b
           · simp (disch := omega) only [go_sem, seval, ac_draw_Collides_L1, bsT_def, hm, hx, h3, hC]
             repeat refine And.intro rfl ?_
             refine ⟨hlk, by rw [← List.range_succ]; exact hsk, Weak.rd id ?_ ?_ rfl⟩
             all_goals simp (disch := omega) only [go_sem, seval, id]
           · rw [hyk rfl]
             simp (disch := omega) only [go_sem, seval, ac_draw_Collides_L1, bsT_def, hm, hx, h3, hC]
             all_goals repeat refine And.intro rfl ?_
             all_goals rfl
         · have e : k = i := by omega
           subst e
           rw [hQ] at hrow
           rw [hrow] at hsr
           simp (disch := omega) only [go_sem, seval, ac_draw_Collides_L1]
           refine ⟨hlt, by rw [← List.range_succ]; exact hsr, Weak.rd id ?_ ?_ rfl⟩
           all_goals simp (disch := omega) only [go_sem, seval, id]
   · have e : i = M.length := by omega
     subst e
     have hr : colB M = false := hP
     rw [hr]
     simp (disch := omega) only [go_sem, seval, ac_draw_Collides_L0]
end Go.Eng
end
section
set_option maxRecDepth 20000
set_option maxHeartbeats 64000000
namespace Go.Eng
def ct_stg : Ct where
 α := List Im
 as x := [.t (.sl (x.map imT))]
 ins _ := []
 pre x := imsM x ∧ x.length ≤ 1000
 r x := .tup [.sl 0 0 (imgs x).length, .t (.sl ((lnsC x).map bsT))]
 outs x := [.live 4 (((imgs x).map imT).map V.t) true false]
 inj := by
   intro a b h _
   simp only [List.cons.injEq, V.t.injEq, T.sl.injEq, and_true, mapI_inj] at h
   subst h; exact ⟨rfl, rfl⟩
theorem stg_eq {l : List Im} (h : imsM l ∧ l.length ≤ 1000) : ct_stg.fs [.t (.sl (l.map imT))] [] = some (.tup [.sl 0 0 (imgs l).length, .t (.sl ((lnsC l).map bsT))], [.live 4 (((imgs l).map imT).map V.t) true false]) := ct_stg.eq l h
theorem lnsC_le {l : List Im} : (lnsC l).length ≤ l.length * 4 := by
 have := flat_len (f := fun x : Im => lnL x.2.2.2) (n := 4) (l := l.filter fun x => decide (x.1 = 4)) (fun x _ => lnL_len)
 have h2 := List.length_filter_le (fun x : Im => decide (x.1 = 4)) l
 unfold lnsC
 omega
theorem imgs_le {l : List Im} : (imgs l).length ≤ l.length := List.length_filter_le _ _
theorem w_law29_stages (tab : Tab) (gl : Gl) (n1 : Nat) (h1 : tab.look n1 = some ct_lns.fs) (l : List Im) (hm : imsM l) (hl : l.length ≤ 1000) :
   (ac_law29_stages n1).wp tab gl (zipF 0 [.t (.sl (l.map imT))]) (zipF 0 []) (resF [9002] [(2, none), (3, none)] 0 (fun r o => r = .tup [.sl 0 0 (imgs l).length, .t (.sl ((lnsC l).map bsT))] ∧ o = [.live 4 (((imgs l).map imT).map V.t) true false])) := by
 simp (disch := omega) only [go_sem, seval, ac_law29_stages]
 refine loop_upto l.length (fun i => [(0, .t (.sl (l.map imT))), (4, .sl 9001 0 (imgs (l.take i)).length), (5, .sl 9002 0 (lnsC (l.take i)).length), (6, .t (.int .i64 (i : Nat)))]) (fun i => [(9001, .live 4 (((imgs (l.take i)).map imT).map V.t) true false), (9002, .live 1 (((lnsC (l.take i)).map bsT).map V.t) true false)]) ?_ (fun i hi => ?_)
 · have e1 : imgs (l.take 0) = [] := rfl
   have e2 : lnsC (l.take 0) = [] := rfl
   simp only [e1, e2]
   refine Weak.cv0 (hv := [(9001, .live 4 [] true false), (9002, .live 1 [] true false)]) (ho := []) id ?_ ?_ rfl rfl
   all_goals simp (disch := omega) only [go_sem, seval, id]
 · have b1 := imgs_le (l := l.take i)
   have b2 := lnsC_le (l := l.take i)
   rw [List.length_take] at b1 b2
   by_cases hlt : i < l.length
   · obtain ⟨⟨xa, xs, xv, xp⟩, hx⟩ : ∃ x, l[i]? = some x := ⟨l[i], by simp [hlt]⟩
     have hxm : imM (xa, xs, xv, xp) := hm.2 _ (List.mem_of_getElem? hx)
     have g1 := imgs_take hx
     have g2 := lnsC_take hx
     simp only at g1 g2
     have ll := lnL_len (p := xp)
     generalize imgs (l.take i) = M at *
     generalize lnsC (l.take i) = L at *
     by_cases q : xa = 4
     · subst q
       have hN := lns_eq hxm
       rw [if_pos rfl, List.append_nil] at g1
       rw [if_pos rfl] at g2
       generalize lnL xp = N at *
       simp (disch := omega) only [go_sem, seval, ac_law29_stages_L0, imT_def, hx, beq_self_eq_true, h1, hN]
       refine ⟨hlt, Weak.rd (fun j => if j = 9002 then 32864 else j) ?_ ?_ rfl⟩
       all_goals simp (disch := omega) only [go_sem, seval, id, g1, g2]
       all_goals (have hq := congrArg List.length g2; simp only [List.length_append, List.length_map] at hq ⊢; omega)
     · have qb : (xa == 4) = false := by simpa using q
       rw [if_neg q] at g1
       rw [if_neg q, List.append_nil] at g2
       simp (disch := omega) only [go_sem, seval, ac_law29_stages_L0, imT_def, hx, qb]
       refine ⟨hlt, Weak.rd (fun j => if j = 9001 then 36960 else j) ?_ ?_ rfl⟩
       all_goals simp (disch := omega) only [go_sem, seval, id, g1, g2, imT_def, mapI_snoc]
       all_goals (have hq := congrArg List.length g1; simp only [List.length_append, List.length_cons, List.length_nil] at hq ⊢; omega)
   · have e : i = l.length := by omega
     subst e
     rw [List.take_length]
     generalize imgs l = M at *
     generalize lnsC l = L at *
     have tM : List.take M.length M = M := List.take_length
     have tL : List.take L.length L = L := List.take_length
     simp (disch := omega) only [go_sem, seval, ac_law29_stages_L0, tM, tL, List.take_length]
end Go.Eng
end
section
set_option maxRecDepth 20000
set_option maxHeartbeats 8000000
namespace Go.Eng
theorem hsE_app {e : Ev} : ∀ {a : List Ev} {v : List (List UInt8)}, hsE v (a ++ [e]) = hsE v a ++ msE (a.foldl stV v) e
 | [], v => by simp [hsE]
 | x :: a, v => by
   rw [List.cons_append, hsE, hsE_app, hsE, List.append_assoc]; rfl
theorem hsE_len : ∀ {a : List Ev} {v : List (List UInt8)}, (hsE v a).length ≤ 2 * a.length
 | [], v => by simp [hsE]
 | x :: a, v => by
   have := hsE_len (a := a) (v := stV v x)
   have h2 : (msE v x).length ≤ 2 := by unfold msE; split <;> simp
   rw [hsE, List.length_append, List.length_cons]; omega
def V32 (v : List (List UInt8)) : Prop := v.length = 12 ∧ ∀ x ∈ v, x.length = 32
theorem V32.st {v : List (List UInt8)} {e : Ev} (h : V32 v) : V32 (stV v e) := by
 refine ⟨by rw [stV_len, h.1], fun x hx => ?_⟩
 rcases List.mem_or_eq_of_mem_set hx with h1 | rfl
 · exact h.2 x h1
 · exact sum256_len
theorem V32.fold : ∀ {a : List Ev} {v : List (List UInt8)}, V32 v → V32 (a.foldl stV v)
 | [], _, h => h
 | x :: a, v, h => by
   rw [List.foldl_cons]
   exact V32.fold (V32.st h)
theorem v0_32 : V32 v0 := ⟨by simp [v0], fun x hx => by rw [List.eq_of_mem_replicate hx]; decide⟩
theorem chkE_fit {r k act : Int} {ds : List (List UInt8)} {d : List UInt8} (h : chkE (r, k, ds, d) act = 0) : d.length ≤ 64 ∧ ∃ d0 d1, ds = [d0, d1] ∧ d1.length ≤ 64 := by
 unfold chkE at h
 simp only at h
 split at h
 · simp at h
 · split at h
   · simp at h
   · split at h
     · rename_i hf
       unfold fitE at hf
       simp only [Bool.and_eq_true, decide_eq_true_eq] at hf
       obtain ⟨⟨f1, _⟩, f3⟩ := hf
       refine ⟨by omega, ?_⟩
       match ds, f1, f3 with
       | [d0, d1], _, f3 =>
         have w := wantL_le (k := k) (act := act) (a := 1)
         exact ⟨d0, d1, rfl, by simp only [List.getD_cons_succ, List.getD_cons_zero] at f3; omega⟩
     · simp at h
theorem msE_lt {v : List (List UInt8)} {e : Ev} (h : V32 v) (he : chkE e 2 = 0) : ∀ m ∈ msE v e, m.length < 1000000000 := by
 obtain ⟨r, k, ds, d⟩ := e
 obtain ⟨h64, d0, d1, rfl, hd1⟩ := chkE_fit he
 intro m hm
 have hg : (v.getD r.toNat []).length ≤ 32 := by
   rw [List.getD_eq_getElem?_getD]
   cases hq : v[r.toNat]? with
   | none => simp
   | some x => exact Nat.le_of_eq (h.2 x (List.mem_of_getElem? hq))
 unfold msE at hm
 rcases List.mem_append.1 hm with hm | hm
 · split at hm
   · rw [List.mem_singleton.1 hm]; simp only; omega
   · simp at hm
 · rw [List.mem_singleton.1 hm, List.length_append]
   show (v.getD r.toNat []).length + d1.length < 1000000000
   omega
theorem hsE_lt : ∀ {a : List Ev} {v : List (List UInt8)}, V32 v → (∀ e ∈ a, chkE e 2 = 0) → ∀ m ∈ hsE v a, m.length < 1000000000
 | [], v, _, _, m, hm => by simp [hsE] at hm
 | x :: a, v, h, hv, m, hm => by
   rw [hsE] at hm
   rcases List.mem_append.1 hm with hm | hm
   · exact msE_lt h (hv x (by simp)) m hm
   · exact hsE_lt h.st (fun e he => hv e (by simp [he])) m hm
theorem hsd_lt {l : List Im} (hz : chkC l = 0) : (hsd l).length ≤ 300 ∧ ∀ m ∈ hsd l, m.length < 1000000000 := by
 obtain ⟨hok, _, h8⟩ := chkC_ok hz
 have hE : evsI l 2 = evsC 2 l := by unfold evsI; rw [if_neg (by omega)]
 have hl := evsC_len (act := 2) (l := l)
 have hh := hsE_len (a := evsC 2 l) (v := v0)
 have hi := imgs_le (l := l)
 unfold hsd
 rw [hE]
 refine ⟨by rw [List.length_append, List.length_map]; omega, fun m hm => ?_⟩
 rcases List.mem_append.1 hm with hm | hm
 · obtain ⟨x, hx, rfl⟩ := List.mem_map.1 hm
   have := encI_len (chkI_m (hok x (List.mem_filter.1 hx).1))
   omega
 · exact hsE_lt v0_32 (fun e he => (evsC_ok (by omega) hok e he).1) m hm
def ct_hsd : Ct where
 α := List Im
 as x := [.t (.sl (x.map imT))]
 ins _ := []
 pre x := chkC x = 0
 r x := .sl 0 0 (hsd x).length
 outs x := [.live 1 (((hsd x).map bsT).map V.t) true false]
 inj := by
   intro a b h _
   simp only [List.cons.injEq, V.t.injEq, T.sl.injEq, and_true, mapI_inj] at h
   subst h; exact ⟨rfl, rfl⟩
theorem hsd_eq {l : List Im} (h : chkC l = 0) : ct_hsd.fs [.t (.sl (l.map imT))] [] = some (.sl 0 0 (hsd l).length, [.live 1 (((hsd l).map bsT).map V.t) true false]) := ct_hsd.eq l h
def zarr (Z : List UInt8) (g : Nat) : List V := (List.range 12).map fun i => if i < g then .t (.sl (Z.map byteT)) else .nil
theorem w_law29_hashed (tab : Tab) (gl : Gl) (n1 n2 n3 : Nat) (h1 : tab.look n1 = some ct_enI.fs) (h2 : tab.look n2 = some ct_evI.fs) (h3 : tab.look n3 = some (ct_sum 32 sum256).fs) (l : List Im) (hz : chkC l = 0) :
   (ac_law29_hashed n1 n2 n3).wp tab gl (zipF 0 [.t (.sl (l.map imT))]) (zipF 0 []) (resF [] [(2, none)] 0 (fun r o => r = .sl 0 0 (hsd l).length ∧ o = [.live 1 (((hsd l).map bsT).map V.t) true false])) := by
 obtain ⟨hok, hl1, h8⟩ := chkC_ok hz
 have hm : imsM l := ⟨by omega, fun x hx => chkI_m (hok x hx)⟩
 have hE := evI_eq (act := 2) hm
 have eI : evsI l 2 = evsC 2 l := by unfold evsI; rw [if_neg (by omega)]
 have hel := evsC_len (act := 2) (l := l)
 have hev := evsC_ok (act := 2) (by omega) hok
 have hil := imgs_le (l := l)
 have hH : hsd l = (imgs l).map encI' ++ hsE v0 (evsC 2 l) := by unfold hsd; rw [eI]
 rw [eI] at hE
 simp (disch := omega) only [go_sem, seval, ac_law29_hashed]
 refine loop_upto l.length (fun i => [(0, .t (.sl (l.map imT))), (3, .sl 9001 0 ((imgs (l.take i)).map encI').length), (4, .t (.int .i64 (i : Nat)))]) (fun i => [(9001, .live 1 ((((imgs (l.take i)).map encI').map bsT).map V.t) true false)]) ?_ (fun i hi => ?_)
 · have e1 : imgs (l.take 0) = [] := rfl
   simp only [e1]
   refine Weak.cv0 (hv := [(9001, .live 1 [] true false)]) (ho := []) id ?_ ?_ rfl rfl
   all_goals simp (disch := omega) only [go_sem, seval, id]
 · by_cases hlt : i < l.length
   · obtain ⟨⟨xa, xs, xv, xp⟩, hx⟩ : ∃ x, l[i]? = some x := ⟨l[i], by simp [hlt]⟩
     have g1 := imgs_take hx
     have b1 := imgs_le (l := l.take i)
     rw [List.length_take] at b1
     simp only at g1
     by_cases q : xa = 4
     · subst q
       rw [if_pos rfl, List.append_nil] at g1
       generalize imgs (l.take i) = M at *
       simp (disch := omega) only [go_sem, seval, ac_law29_hashed_L0, imT_def, hx, bne_self_eq_false]
       refine ⟨hlt, Weak.rd id ?_ ?_ rfl⟩
       all_goals simp (disch := omega) only [go_sem, seval, id, g1]
       all_goals rfl
     · have qb : (xa != 4) = true := by simpa using q
       have hN := enI_eq (hm.2 _ (List.mem_of_getElem? hx))
       rw [if_neg q] at g1
       have g2 : (imgs (l.take (i + 1))).map encI' = (imgs (l.take i)).map encI' ++ [encI' (xa, xs, xv, xp)] := by rw [g1, List.map_append]; rfl
       have b2 : ((imgs (l.take i)).map encI').length ≤ 8 := by rw [List.length_map]; omega
       generalize (imgs (l.take i)).map encI' = M at *
       generalize encI' (xa, xs, xv, xp) = N at *
       simp (disch := omega) only [go_sem, seval, ac_law29_hashed_L0, imT_def, hx, qb, h1, hN]
       repeat refine And.intro rfl ?_
       refine ⟨hlt, Weak.rd (fun j => if j = 9001 then 28784 else j) ?_ ?_ rfl⟩
       all_goals simp (disch := omega) only [go_sem, seval, id, g2]
       all_goals (have hq := congrArg List.length g2; simp only [List.length_map, List.length_append, List.length_cons, List.length_nil] at hq; omega)
   · have e : i = l.length := by omega
     subst e
     rw [List.take_length, hH]
     have b2 : ((imgs l).map encI').length ≤ 8 := by rw [List.length_map]; omega
     generalize (imgs l).map encI' = O at *
     generalize evsC 2 l = es at *
     clear hH
     obtain ⟨Z, hZ⟩ : ∃ Z, zero32 = Z := ⟨_, rfl⟩
     have hrep : List.replicate 12 V.nil = [.nil, .nil, .nil, .nil, .nil, .nil, .nil, .nil, .nil, .nil, .nil, .nil] := rfl
     simp (disch := omega) only [go_sem, seval, ac_law29_hashed_L0, h2, hE, hrep]
     refine loop_upto 12 (fun g => [(3, .sl 9001 0 O.length), (5, .t (.sl (es.map evT))), (6, .ref 36864 0 0), (7, .t (.int .i64 (g : Nat)))]) (fun g => [(9001, .live 1 ((O.map bsT).map V.t) true false), (36864, .live 1 (zarr Z g) true true)]) ?_ (fun g hg => ?_)
     · have ez : zarr Z 0 = [.nil, .nil, .nil, .nil, .nil, .nil, .nil, .nil, .nil, .nil, .nil, .nil] := rfl
       simp only [ez]
       refine Weak.rd id ?_ ?_ rfl
       all_goals simp (disch := omega) only [go_sem, seval, id]
       all_goals rfl
     · rcases (show g = 0 ∨ g = 1 ∨ g = 2 ∨ g = 3 ∨ g = 4 ∨ g = 5 ∨ g = 6 ∨ g = 7 ∨ g = 8 ∨ g = 9 ∨ g = 10 ∨ g = 11 ∨ g = 12 by omega) with rfl | rfl | rfl | rfl | rfl | rfl | rfl | rfl | rfl | rfl | rfl | rfl | rfl
       · have ez : zarr Z 0 = [.nil, .nil, .nil, .nil, .nil, .nil, .nil, .nil, .nil, .nil, .nil, .nil] := rfl
         have ez2 : zarr Z 1 = [.t (.sl (Z.map byteT)), .nil, .nil, .nil, .nil, .nil, .nil, .nil, .nil, .nil, .nil, .nil] := rfl
         have hr : List.replicate 32 (0 : UInt8) = Z := by rw [← hZ]; rfl
         have ht : List.take 32 Z = Z := by rw [← hZ]; rfl
         have hz32 : Z.length = 32 := by rw [← hZ]; rfl
         simp only [ez]
         simp (disch := omega) only [go_sem, seval, ac_law29_hashed_L1, hr]
         rw [ez2]
         refine Weak.cv (hv := []) (ho := [(9001, .live 1 ((O.map bsT).map V.t) true false), (36864, .live 1 [.t (.sl (Z.map byteT)), .nil, .nil, .nil, .nil, .nil, .nil, .nil, .nil, .nil, .nil, .nil] true true)]) [53264] id ?_ rfl
         simp (disch := omega) only [go_sem, seval, id, ht]
         all_goals rfl
       · have ez : zarr Z 1 = [.t (.sl (Z.map byteT)), .nil, .nil, .nil, .nil, .nil, .nil, .nil, .nil, .nil, .nil, .nil] := rfl
         have ez2 : zarr Z 2 = [.t (.sl (Z.map byteT)), .t (.sl (Z.map byteT)), .nil, .nil, .nil, .nil, .nil, .nil, .nil, .nil, .nil, .nil] := rfl
         have hr : List.replicate 32 (0 : UInt8) = Z := by rw [← hZ]; rfl
         have ht : List.take 32 Z = Z := by rw [← hZ]; rfl
         have hz32 : Z.length = 32 := by rw [← hZ]; rfl
         simp only [ez]
         simp (disch := omega) only [go_sem, seval, ac_law29_hashed_L1, hr]
         rw [ez2]
         refine Weak.cv (hv := []) (ho := [(9001, .live 1 ((O.map bsT).map V.t) true false), (36864, .live 1 [.t (.sl (Z.map byteT)), .t (.sl (Z.map byteT)), .nil, .nil, .nil, .nil, .nil, .nil, .nil, .nil, .nil, .nil] true true)]) [53264] id ?_ rfl
         simp (disch := omega) only [go_sem, seval, id, ht]
         all_goals rfl
       · have ez : zarr Z 2 = [.t (.sl (Z.map byteT)), .t (.sl (Z.map byteT)), .nil, .nil, .nil, .nil, .nil, .nil, .nil, .nil, .nil, .nil] := rfl
         have ez2 : zarr Z 3 = [.t (.sl (Z.map byteT)), .t (.sl (Z.map byteT)), .t (.sl (Z.map byteT)), .nil, .nil, .nil, .nil, .nil, .nil, .nil, .nil, .nil] := rfl
         have hr : List.replicate 32 (0 : UInt8) = Z := by rw [← hZ]; rfl
         have ht : List.take 32 Z = Z := by rw [← hZ]; rfl
         have hz32 : Z.length = 32 := by rw [← hZ]; rfl
         simp only [ez]
         simp (disch := omega) only [go_sem, seval, ac_law29_hashed_L1, hr]
         rw [ez2]
         refine Weak.cv (hv := []) (ho := [(9001, .live 1 ((O.map bsT).map V.t) true false), (36864, .live 1 [.t (.sl (Z.map byteT)), .t (.sl (Z.map byteT)), .t (.sl (Z.map byteT)), .nil, .nil, .nil, .nil, .nil, .nil, .nil, .nil, .nil] true true)]) [53264] id ?_ rfl
         simp (disch := omega) only [go_sem, seval, id, ht]
         all_goals rfl
       · have ez : zarr Z 3 = [.t (.sl (Z.map byteT)), .t (.sl (Z.map byteT)), .t (.sl (Z.map byteT)), .nil, .nil, .nil, .nil, .nil, .nil, .nil, .nil, .nil] := rfl
         have ez2 : zarr Z 4 = [.t (.sl (Z.map byteT)), .t (.sl (Z.map byteT)), .t (.sl (Z.map byteT)), .t (.sl (Z.map byteT)), .nil, .nil, .nil, .nil, .nil, .nil, .nil, .nil] := rfl
         have hr : List.replicate 32 (0 : UInt8) = Z := by rw [← hZ]; rfl
         have ht : List.take 32 Z = Z := by rw [← hZ]; rfl
         have hz32 : Z.length = 32 := by rw [← hZ]; rfl
         simp only [ez]
         simp (disch := omega) only [go_sem, seval, ac_law29_hashed_L1, hr]
         rw [ez2]
         refine Weak.cv (hv := []) (ho := [(9001, .live 1 ((O.map bsT).map V.t) true false), (36864, .live 1 [.t (.sl (Z.map byteT)), .t (.sl (Z.map byteT)), .t (.sl (Z.map byteT)), .t (.sl (Z.map byteT)), .nil, .nil, .nil, .nil, .nil, .nil, .nil, .nil] true true)]) [53264] id ?_ rfl
         simp (disch := omega) only [go_sem, seval, id, ht]
         all_goals rfl
       · have ez : zarr Z 4 = [.t (.sl (Z.map byteT)), .t (.sl (Z.map byteT)), .t (.sl (Z.map byteT)), .t (.sl (Z.map byteT)), .nil, .nil, .nil, .nil, .nil, .nil, .nil, .nil] := rfl
         have ez2 : zarr Z 5 = [.t (.sl (Z.map byteT)), .t (.sl (Z.map byteT)), .t (.sl (Z.map byteT)), .t (.sl (Z.map byteT)), .t (.sl (Z.map byteT)), .nil, .nil, .nil, .nil, .nil, .nil, .nil] := rfl
         have hr : List.replicate 32 (0 : UInt8) = Z := by rw [← hZ]; rfl
         have ht : List.take 32 Z = Z := by rw [← hZ]; rfl
         have hz32 : Z.length = 32 := by rw [← hZ]; rfl
         simp only [ez]
         simp (disch := omega) only [go_sem, seval, ac_law29_hashed_L1, hr]
         rw [ez2]
         refine Weak.cv (hv := []) (ho := [(9001, .live 1 ((O.map bsT).map V.t) true false), (36864, .live 1 [.t (.sl (Z.map byteT)), .t (.sl (Z.map byteT)), .t (.sl (Z.map byteT)), .t (.sl (Z.map byteT)), .t (.sl (Z.map byteT)), .nil, .nil, .nil, .nil, .nil, .nil, .nil] true true)]) [53264] id ?_ rfl
         simp (disch := omega) only [go_sem, seval, id, ht]
         all_goals rfl
       · have ez : zarr Z 5 = [.t (.sl (Z.map byteT)), .t (.sl (Z.map byteT)), .t (.sl (Z.map byteT)), .t (.sl (Z.map byteT)), .t (.sl (Z.map byteT)), .nil, .nil, .nil, .nil, .nil, .nil, .nil] := rfl
         have ez2 : zarr Z 6 = [.t (.sl (Z.map byteT)), .t (.sl (Z.map byteT)), .t (.sl (Z.map byteT)), .t (.sl (Z.map byteT)), .t (.sl (Z.map byteT)), .t (.sl (Z.map byteT)), .nil, .nil, .nil, .nil, .nil, .nil] := rfl
         have hr : List.replicate 32 (0 : UInt8) = Z := by rw [← hZ]; rfl
         have ht : List.take 32 Z = Z := by rw [← hZ]; rfl
         have hz32 : Z.length = 32 := by rw [← hZ]; rfl
         simp only [ez]
         simp (disch := omega) only [go_sem, seval, ac_law29_hashed_L1, hr]
         rw [ez2]
         refine Weak.cv (hv := []) (ho := [(9001, .live 1 ((O.map bsT).map V.t) true false), (36864, .live 1 [.t (.sl (Z.map byteT)), .t (.sl (Z.map byteT)), .t (.sl (Z.map byteT)), .t (.sl (Z.map byteT)), .t (.sl (Z.map byteT)), .t (.sl (Z.map byteT)), .nil, .nil, .nil, .nil, .nil, .nil] true true)]) [53264] id ?_ rfl
         simp (disch := omega) only [go_sem, seval, id, ht]
         all_goals rfl
       · have ez : zarr Z 6 = [.t (.sl (Z.map byteT)), .t (.sl (Z.map byteT)), .t (.sl (Z.map byteT)), .t (.sl (Z.map byteT)), .t (.sl (Z.map byteT)), .t (.sl (Z.map byteT)), .nil, .nil, .nil, .nil, .nil, .nil] := rfl
         have ez2 : zarr Z 7 = [.t (.sl (Z.map byteT)), .t (.sl (Z.map byteT)), .t (.sl (Z.map byteT)), .t (.sl (Z.map byteT)), .t (.sl (Z.map byteT)), .t (.sl (Z.map byteT)), .t (.sl (Z.map byteT)), .nil, .nil, .nil, .nil, .nil] := rfl
         have hr : List.replicate 32 (0 : UInt8) = Z := by rw [← hZ]; rfl
         have ht : List.take 32 Z = Z := by rw [← hZ]; rfl
         have hz32 : Z.length = 32 := by rw [← hZ]; rfl
         simp only [ez]
         simp (disch := omega) only [go_sem, seval, ac_law29_hashed_L1, hr]
         rw [ez2]
         refine Weak.cv (hv := []) (ho := [(9001, .live 1 ((O.map bsT).map V.t) true false), (36864, .live 1 [.t (.sl (Z.map byteT)), .t (.sl (Z.map byteT)), .t (.sl (Z.map byteT)), .t (.sl (Z.map byteT)), .t (.sl (Z.map byteT)), .t (.sl (Z.map byteT)), .t (.sl (Z.map byteT)), .nil, .nil, .nil, .nil, .nil] true true)]) [53264] id ?_ rfl
         simp (disch := omega) only [go_sem, seval, id, ht]
         all_goals rfl
       · have ez : zarr Z 7 = [.t (.sl (Z.map byteT)), .t (.sl (Z.map byteT)), .t (.sl (Z.map byteT)), .t (.sl (Z.map byteT)), .t (.sl (Z.map byteT)), .t (.sl (Z.map byteT)), .t (.sl (Z.map byteT)), .nil, .nil, .nil, .nil, .nil] := rfl
         have ez2 : zarr Z 8 = [.t (.sl (Z.map byteT)), .t (.sl (Z.map byteT)), .t (.sl (Z.map byteT)), .t (.sl (Z.map byteT)), .t (.sl (Z.map byteT)), .t (.sl (Z.map byteT)), .t (.sl (Z.map byteT)), .t (.sl (Z.map byteT)), .nil, .nil, .nil, .nil] := rfl
         have hr : List.replicate 32 (0 : UInt8) = Z := by rw [← hZ]; rfl
         have ht : List.take 32 Z = Z := by rw [← hZ]; rfl
         have hz32 : Z.length = 32 := by rw [← hZ]; rfl
         simp only [ez]
         simp (disch := omega) only [go_sem, seval, ac_law29_hashed_L1, hr]
         rw [ez2]
         refine Weak.cv (hv := []) (ho := [(9001, .live 1 ((O.map bsT).map V.t) true false), (36864, .live 1 [.t (.sl (Z.map byteT)), .t (.sl (Z.map byteT)), .t (.sl (Z.map byteT)), .t (.sl (Z.map byteT)), .t (.sl (Z.map byteT)), .t (.sl (Z.map byteT)), .t (.sl (Z.map byteT)), .t (.sl (Z.map byteT)), .nil, .nil, .nil, .nil] true true)]) [53264] id ?_ rfl
         simp (disch := omega) only [go_sem, seval, id, ht]
         all_goals rfl
       · have ez : zarr Z 8 = [.t (.sl (Z.map byteT)), .t (.sl (Z.map byteT)), .t (.sl (Z.map byteT)), .t (.sl (Z.map byteT)), .t (.sl (Z.map byteT)), .t (.sl (Z.map byteT)), .t (.sl (Z.map byteT)), .t (.sl (Z.map byteT)), .nil, .nil, .nil, .nil] := rfl
         have ez2 : zarr Z 9 = [.t (.sl (Z.map byteT)), .t (.sl (Z.map byteT)), .t (.sl (Z.map byteT)), .t (.sl (Z.map byteT)), .t (.sl (Z.map byteT)), .t (.sl (Z.map byteT)), .t (.sl (Z.map byteT)), .t (.sl (Z.map byteT)), .t (.sl (Z.map byteT)), .nil, .nil, .nil] := rfl
         have hr : List.replicate 32 (0 : UInt8) = Z := by rw [← hZ]; rfl
         have ht : List.take 32 Z = Z := by rw [← hZ]; rfl
         have hz32 : Z.length = 32 := by rw [← hZ]; rfl
         simp only [ez]
         simp (disch := omega) only [go_sem, seval, ac_law29_hashed_L1, hr]
         rw [ez2]
         refine Weak.cv (hv := []) (ho := [(9001, .live 1 ((O.map bsT).map V.t) true false), (36864, .live 1 [.t (.sl (Z.map byteT)), .t (.sl (Z.map byteT)), .t (.sl (Z.map byteT)), .t (.sl (Z.map byteT)), .t (.sl (Z.map byteT)), .t (.sl (Z.map byteT)), .t (.sl (Z.map byteT)), .t (.sl (Z.map byteT)), .t (.sl (Z.map byteT)), .nil, .nil, .nil] true true)]) [53264] id ?_ rfl
         simp (disch := omega) only [go_sem, seval, id, ht]
         all_goals rfl
       · have ez : zarr Z 9 = [.t (.sl (Z.map byteT)), .t (.sl (Z.map byteT)), .t (.sl (Z.map byteT)), .t (.sl (Z.map byteT)), .t (.sl (Z.map byteT)), .t (.sl (Z.map byteT)), .t (.sl (Z.map byteT)), .t (.sl (Z.map byteT)), .t (.sl (Z.map byteT)), .nil, .nil, .nil] := rfl
         have ez2 : zarr Z 10 = [.t (.sl (Z.map byteT)), .t (.sl (Z.map byteT)), .t (.sl (Z.map byteT)), .t (.sl (Z.map byteT)), .t (.sl (Z.map byteT)), .t (.sl (Z.map byteT)), .t (.sl (Z.map byteT)), .t (.sl (Z.map byteT)), .t (.sl (Z.map byteT)), .t (.sl (Z.map byteT)), .nil, .nil] := rfl
         have hr : List.replicate 32 (0 : UInt8) = Z := by rw [← hZ]; rfl
         have ht : List.take 32 Z = Z := by rw [← hZ]; rfl
         have hz32 : Z.length = 32 := by rw [← hZ]; rfl
         simp only [ez]
         simp (disch := omega) only [go_sem, seval, ac_law29_hashed_L1, hr]
         rw [ez2]
         refine Weak.cv (hv := []) (ho := [(9001, .live 1 ((O.map bsT).map V.t) true false), (36864, .live 1 [.t (.sl (Z.map byteT)), .t (.sl (Z.map byteT)), .t (.sl (Z.map byteT)), .t (.sl (Z.map byteT)), .t (.sl (Z.map byteT)), .t (.sl (Z.map byteT)), .t (.sl (Z.map byteT)), .t (.sl (Z.map byteT)), .t (.sl (Z.map byteT)), .t (.sl (Z.map byteT)), .nil, .nil] true true)]) [53264] id ?_ rfl
         simp (disch := omega) only [go_sem, seval, id, ht]
         all_goals rfl
       · have ez : zarr Z 10 = [.t (.sl (Z.map byteT)), .t (.sl (Z.map byteT)), .t (.sl (Z.map byteT)), .t (.sl (Z.map byteT)), .t (.sl (Z.map byteT)), .t (.sl (Z.map byteT)), .t (.sl (Z.map byteT)), .t (.sl (Z.map byteT)), .t (.sl (Z.map byteT)), .t (.sl (Z.map byteT)), .nil, .nil] := rfl
         have ez2 : zarr Z 11 = [.t (.sl (Z.map byteT)), .t (.sl (Z.map byteT)), .t (.sl (Z.map byteT)), .t (.sl (Z.map byteT)), .t (.sl (Z.map byteT)), .t (.sl (Z.map byteT)), .t (.sl (Z.map byteT)), .t (.sl (Z.map byteT)), .t (.sl (Z.map byteT)), .t (.sl (Z.map byteT)), .t (.sl (Z.map byteT)), .nil] := rfl
         have hr : List.replicate 32 (0 : UInt8) = Z := by rw [← hZ]; rfl
         have ht : List.take 32 Z = Z := by rw [← hZ]; rfl
         have hz32 : Z.length = 32 := by rw [← hZ]; rfl
         simp only [ez]
         simp (disch := omega) only [go_sem, seval, ac_law29_hashed_L1, hr]
         rw [ez2]
         refine Weak.cv (hv := []) (ho := [(9001, .live 1 ((O.map bsT).map V.t) true false), (36864, .live 1 [.t (.sl (Z.map byteT)), .t (.sl (Z.map byteT)), .t (.sl (Z.map byteT)), .t (.sl (Z.map byteT)), .t (.sl (Z.map byteT)), .t (.sl (Z.map byteT)), .t (.sl (Z.map byteT)), .t (.sl (Z.map byteT)), .t (.sl (Z.map byteT)), .t (.sl (Z.map byteT)), .t (.sl (Z.map byteT)), .nil] true true)]) [53264] id ?_ rfl
         simp (disch := omega) only [go_sem, seval, id, ht]
         all_goals rfl
       · have ez : zarr Z 11 = [.t (.sl (Z.map byteT)), .t (.sl (Z.map byteT)), .t (.sl (Z.map byteT)), .t (.sl (Z.map byteT)), .t (.sl (Z.map byteT)), .t (.sl (Z.map byteT)), .t (.sl (Z.map byteT)), .t (.sl (Z.map byteT)), .t (.sl (Z.map byteT)), .t (.sl (Z.map byteT)), .t (.sl (Z.map byteT)), .nil] := rfl
         have ez2 : zarr Z 12 = [.t (.sl (Z.map byteT)), .t (.sl (Z.map byteT)), .t (.sl (Z.map byteT)), .t (.sl (Z.map byteT)), .t (.sl (Z.map byteT)), .t (.sl (Z.map byteT)), .t (.sl (Z.map byteT)), .t (.sl (Z.map byteT)), .t (.sl (Z.map byteT)), .t (.sl (Z.map byteT)), .t (.sl (Z.map byteT)), .t (.sl (Z.map byteT))] := rfl
         have hr : List.replicate 32 (0 : UInt8) = Z := by rw [← hZ]; rfl
         have ht : List.take 32 Z = Z := by rw [← hZ]; rfl
         have hz32 : Z.length = 32 := by rw [← hZ]; rfl
         simp only [ez]
         simp (disch := omega) only [go_sem, seval, ac_law29_hashed_L1, hr]
         rw [ez2]
         refine Weak.cv (hv := []) (ho := [(9001, .live 1 ((O.map bsT).map V.t) true false), (36864, .live 1 [.t (.sl (Z.map byteT)), .t (.sl (Z.map byteT)), .t (.sl (Z.map byteT)), .t (.sl (Z.map byteT)), .t (.sl (Z.map byteT)), .t (.sl (Z.map byteT)), .t (.sl (Z.map byteT)), .t (.sl (Z.map byteT)), .t (.sl (Z.map byteT)), .t (.sl (Z.map byteT)), .t (.sl (Z.map byteT)), .t (.sl (Z.map byteT))] true true)]) [53264] id ?_ rfl
         simp (disch := omega) only [go_sem, seval, id, ht]
         all_goals rfl
       · have ez : zarr Z 12 = (v0.map bsT).map V.t := by rw [← hZ]; rfl
         simp only [ez]
         clear ez hZ hrep
         have hv : ∀ e ∈ es, chkE e 2 = 0 := fun e he => (hev e he).1
         have hlE := fun i => hsE_len (a := es.take i) (v := v0)
         simp (disch := omega) only [go_sem, seval, ac_law29_hashed_L1]
         refine loop_upto es.length (fun i => [(3, .sl 9001 0 (O ++ hsE v0 (es.take i)).length), (5, .t (.sl (es.map evT))), (6, .ref 36864 0 0), (8, .t (.int .i64 (i : Nat)))]) (fun i => [(9001, .live 1 (((O ++ hsE v0 (es.take i)).map bsT).map V.t) true false), (36864, .live 1 ((((es.take i).foldl stV v0).map bsT).map V.t) true true)]) ?_ (fun i hi => ?_)
         · have e0 : O ++ hsE v0 (es.take 0) = O := by simp [hsE]
           have e1 : (es.take 0).foldl stV v0 = v0 := rfl
           simp only [e0, e1]
           refine Weak.rd id ?_ ?_ rfl
           all_goals simp (disch := omega) only [go_sem, seval, id]
         · have bl : (O ++ hsE v0 (es.take i)).length ≤ 600 := by
             have := hlE i
             rw [List.length_take] at this
             rw [List.length_append]; omega
           by_cases hlt : i < es.length
           · obtain ⟨⟨er, ek, eds, ed⟩, he⟩ : ∃ e, es[i]? = some e := ⟨es[i], by simp [hlt]⟩
             have hc := hv _ (List.mem_of_getElem? he)
             obtain ⟨h64, d0, d1, rfl, hd1⟩ := chkE_fit hc
             have hreg := chk_reg hc
             obtain ⟨r, rfl⟩ := Int.eq_ofNat_of_zero_le hreg.1
             have hs1 : hsE v0 (es.take (i + 1)) = hsE v0 (es.take i) ++ msE ((es.take i).foldl stV v0) ((r : Int), ek, [d0, d1], ed) := by rw [List.take_add_one, he, Option.toList_some, hsE_app]
             have hs2 : (es.take (i + 1)).foldl stV v0 = stV ((es.take i).foldl stV v0) ((r : Int), ek, [d0, d1], ed) := by rw [List.take_add_one, he, Option.toList_some, List.foldl_append]; rfl
             have hV : V32 ((es.take i).foldl stV v0) := V32.fold v0_32
             have hO : O ++ hsE v0 (es.take (i + 1)) = (O ++ hsE v0 (es.take i)) ++ msE ((es.take i).foldl stV v0) ((r : Int), ek, [d0, d1], ed) := by rw [hs1, List.append_assoc]
             generalize O ++ hsE v0 (es.take i) = Q at *
             generalize (es.take i).foldl stV v0 = W at *
             have hrW : r < W.length := by rw [hV.1]; omega
             obtain ⟨v, hvr⟩ : ∃ v, W[r]? = some v := ⟨W[r], by simp [hrW]⟩
             have hv32 := hV.2 _ (List.mem_of_getElem? hvr)
             have hgd : W.getD r [] = v := by rw [List.getD_eq_getElem?_getD, hvr]; rfl
             have hSm := sum_eq (n := 32) (f := sum256) (bs := v ++ d1) (by rw [List.length_append]; omega)
             have hl32 := sum256_len (x := v ++ d1)
             have tk : List.take 32 (sum256 (v ++ d1)) = sum256 (v ++ d1) := List.take_of_length_le (by omega)
             have tv : List.take (v.length + d1.length) (v ++ d1) = v ++ d1 := List.take_of_length_le (by simp)
             have hW2 : (es.take (i + 1)).foldl stV v0 = W.set r (sum256 (v ++ d1)) := by
               rw [hs2]
               show W.set (r : Int).toNat (sum256 (W.getD (r : Int).toNat [] ++ d1)) = _
               rw [Int.toNat_natCast, hgd]
             by_cases q1 : ek = 1
             · subst q1
               have hQ2 : O ++ hsE v0 (es.take (i + 1)) = Q ++ [v ++ d1] := by
                 rw [hO]
                 show Q ++ ([] ++ [W.getD (r : Int).toNat [] ++ d1]) = _
                 rw [Int.toNat_natCast, hgd]; rfl
               clear hs1 hs2 hO
               generalize sum256 (v ++ d1) = S at *
               simp (disch := omega) only [go_sem, seval, ac_law29_hashed_L2, evT_def, he, bne_self_eq_false, bsT_def, hvr, h3, hSm, tv]
               repeat refine And.intro rfl ?_
               refine ⟨hlt, Weak.cv (hv := []) (ho := [(9001, .live 1 (((O ++ hsE v0 (es.take (i + 1))).map bsT).map V.t) true false), (36864, .live 1 ((((es.take (i + 1)).foldl stV v0).map bsT).map V.t) true true)]) [78080, 86112] (fun j => if j = 9001 then 81968 else j) ?_ rfl⟩
               simp (config := { maxSteps := 2000000 }) (disch := (first | omega | (simp only [lens, lenm]; omega))) only [go_sem, seval, id, hQ2, hW2, tv, tk]
               exact ⟨by (have hq := congrArg List.length hQ2; simp only [List.length_append, List.length_cons, List.length_nil] at hq; omega), rfl⟩
             · have q1b : (ek != 1) = true := by simpa using q1
               have hQ2 : O ++ hsE v0 (es.take (i + 1)) = Q ++ [ed] ++ [v ++ d1] := by
                 have hms : msE W ((r : Int), ek, [d0, d1], ed) = [ed] ++ [v ++ d1] := by
                   unfold msE
                   rw [if_pos q1, Int.toNat_natCast, hgd]; rfl
                 rw [hO, hms, List.append_assoc]
               clear hs1 hs2 hO
               generalize sum256 (v ++ d1) = S at *
               simp (disch := omega) only [go_sem, seval, ac_law29_hashed_L2, evT_def, he, q1b, bsT_def, hvr, h3, hSm, tv]
               repeat refine And.intro rfl ?_
               refine ⟨hlt, Weak.cv (hv := []) (ho := [(9001, .live 1 (((O ++ hsE v0 (es.take (i + 1))).map bsT).map V.t) true false), (36864, .live 1 ((((es.take (i + 1)).foldl stV v0).map bsT).map V.t) true true)]) [78080, 86112] (fun j => if j = 9001 then 81968 else j) ?_ rfl⟩
               simp (config := { maxSteps := 2000000 }) (disch := (first | omega | (simp only [lens, lenm]; omega))) only [go_sem, seval, id, hQ2, hW2, tv, tk]
               exact ⟨by (have hq := congrArg List.length hQ2; simp only [List.length_append, List.length_cons, List.length_nil] at hq; omega), rfl⟩
           · have e : i = es.length := by omega
             subst e
             rw [List.take_length] at bl ⊢
             have hql : (O ++ hsE v0 es).length = O.length + (hsE v0 es).length := List.length_append ..
             generalize O ++ hsE v0 es = Q at *
             have tQ : List.take Q.length Q = Q := List.take_length
             simp (disch := omega) only [go_sem, seval, ac_law29_hashed_L2, tQ]
             all_goals exact hql
end Go.Eng
end
section
set_option maxRecDepth 20000
set_option maxHeartbeats 8000000
namespace Go.Eng
def keyI (x : Im) : Int × List UInt8 := (x.1, x.2.1)
theorem any_key {r : Int} {l m : List Im} (h : l.map keyI = m.map keyI) : (l.any fun y => decide (y.1 = r)) = m.any fun y => decide (y.1 = r) := by
 have e : ∀ l : List Im, (l.any fun y => decide (y.1 = r)) = (l.map keyI).any fun k => decide (k.1 = r) := fun l => by rw [List.any_map]; rfl
 rw [e, e, h]
theorem any_key2 {x : Im} {l m : List Im} (h : l.map keyI = m.map keyI) : (l.any fun y => decide (y.1 = x.1) && decide (y.2.1 = x.2.1)) = m.any fun y => decide (y.1 = x.1) && decide (y.2.1 = x.2.1) := by
 have e : ∀ l : List Im, (l.any fun y => decide (y.1 = x.1) && decide (y.2.1 = x.2.1)) = (l.map keyI).any fun k => decide (k.1 = x.1) && decide (k.2 = x.2.1) := fun l => by rw [List.any_map]; rfl
 rw [e, e, h]
theorem last_key {d : Im} {l m : List Im} (h : l.map keyI = m.map keyI) : (l.getLastD d).1 = (m.getLastD d).1 := by
 have e : ∀ l : List Im, (l.getLastD d).1 = (((l.map keyI).getLast?).getD (keyI d)).1 := fun l => by
   rw [List.getLastD_eq_getLast?, List.getLast?_map]
   cases l.getLast? <;> rfl
 rw [e, e, h]
theorem chF_key : ∀ {l m pre qre : List Im}, l.map keyI = m.map keyI → pre.map keyI = qre.map keyI → (∀ x ∈ m, chkI x = 0) → chF pre l = 0 → chF qre m = 0
 | [], [], pre, qre, _, h2, _, h => by
   unfold chF at h ⊢
   rw [← any_key h2, ← any_key h2]; exact h
 | [], _ :: _, _, _, h1, _, _, _ => by simp at h1
 | _ :: _, [], _, _, h1, _, _, _ => by simp at h1
 | x :: l, y :: m, pre, qre, h1, h2, hm, h => by
   simp only [List.map_cons, List.cons.injEq] at h1
   have hk : keyI x = keyI y := h1.1
   have k1 : (keyI x).1 = (keyI y).1 := by rw [hk]
   have k2 : (keyI x).2 = (keyI y).2 := by rw [hk]
   simp only [keyI] at k1 k2
   unfold chF at h ⊢
   rw [if_neg (show ¬ chkI y ≠ 0 by rw [hm y (by simp)]; decide)]
   split at h
   · contradiction
   · split at h
     · simp at h
     · rename_i hno
       split at h
       · simp at h
       · rename_i hd
         have hnil : pre ≠ [] ↔ qre ≠ [] := by
           have := congrArg List.length h2
           simp only [List.length_map] at this
           constructor <;> intro q e <;> exact q (List.eq_nil_of_length_eq_zero (by simp_all))
         rw [if_neg (fun q => hno ⟨hnil.2 q.1, by rw [k1, last_key h2]; exact q.2⟩), if_neg (by rw [← k1, ← k2, ← any_key2 (x := x) h2]; exact hd)]
         exact chF_key h1.2 (by rw [List.map_append, List.map_append, h2, List.map_cons, List.map_cons, h1.1]) (fun z hz => hm z (by simp [hz])) h
theorem chkC_set {l : List Im} {j : Nat} {x y : Im} (hl : chkC l = 0) (hx : l[j]? = some x) (hk : keyI x = keyI y) (hy : chkI y = 0) : chkC (l.set j y) = 0 := by
 obtain ⟨ok, h1, h8⟩ := chkC_ok hl
 have hmap : l.map keyI = (l.set j y).map keyI := by
   rw [List.map_set, ← hk]
   apply List.ext_getElem?
   intro i
   rw [List.getElem?_set]
   split
   · rename_i e
     subst e
     have hj := (List.getElem?_eq_some_iff.1 hx).1
     simp [hx, hj]
     exact congrArg keyI (List.getElem?_eq_some_iff.1 hx).2
   · rfl
 unfold chkC at hl ⊢
 rw [if_neg (by omega)] at hl
 rw [if_neg (by rw [List.length_set]; omega)]
 refine chF_key hmap rfl (fun z hz => ?_) hl
 rcases List.mem_or_eq_of_mem_set hz with h | rfl
 · exact ok z h
 · exact hy
theorem prE_of {l : List Im} {A : Int} (hl : chkC l = 0) (hA : 1 ≤ A ∧ A ≤ 3) : prE l A = 0 ∧ prG l A = rpF A (evsC A l) ∧ ShA A (prG l A).1 := by
 have e0 : prE l A = 0 := by unfold prE; rw [if_neg (by omega), if_neg (by omega)]
 have e1 : prG l A = rpF A (evsC A l) := if_pos e0
 exact ⟨e0, e1, by rw [e1]; exact (rpF_rq hA (es := evsC A l)).1⟩
theorem pdE_of {l : List Im} {A : Int} (hl : chkC l = 0) (hA : 2 ≤ A ∧ A ≤ 3) : pdE l A 0 4095 = 0 := by
 obtain ⟨e0, _, hS⟩ := prE_of hl (A := A) (by omega)
 have ho : onB (prG l A).1 1 = true := hS.on (by omega) (by omega)
 unfold pdE digE
 rw [if_pos e0, if_neg (by unfold badS; omega), if_neg]
 rw [ho]; simp
theorem dist_main {l k : List Im} (hl : chkC l = 0) (hk : chkC k = 0) {A : Int} (hA : 2 ≤ A ∧ A ≤ 3) : (imgs l = imgs k → lnsC l = lnsC k → pdB l A 0 4095 = pdB k A 0 4095) ∧
   ((decide ((prG l 2).2 = (prG k 2).2) && decide ((prG l 2).1.getD 1 [] = (prG k 2).1.getD 1 [])) = true → ¬ (imgs l = imgs k ∧ lnsC l = lnsC k) → colB (hsd l ++ hsd k) = true) := by
 constructor
 · intro h1 h2
   obtain ⟨a0, a1, _⟩ := prE_of hl (A := A) (by omega)
   obtain ⟨b0, b1, _⟩ := prE_of hk (A := A) (by omega)
   have e : prG l A = prG k A := by rw [a1, b1, evsC_stages h1 h2]
   unfold pdB
   rw [pdE_of hl hA, pdE_of hk hA, e]
 · intro he hn
   simp only [Bool.and_eq_true, decide_eq_true_eq] at he
   obtain ⟨_, a1, _⟩ := prE_of hl (A := 2) (by omega)
   obtain ⟨_, b1, _⟩ := prE_of hk (A := 2) (by omega)
   cases hc : colB (hsd l ++ hsd k) with
   | true => rfl
   | false =>
     refine absurd (dist_eq hl hk (fun g _ => ?_) (colB_nc hc)) hn
     rw [← a1, ← b1]
     unfold valL
     rw [he.2]
theorem lnsC_m {l : List Im} (h : ∀ x ∈ l, chkI x = 0) (h8 : l.length ≤ 8) : modL (lnsC l) := by
 refine ⟨by have := lnsC_le (l := l); omega, fun s hs => ?_⟩
 obtain ⟨x, hx, hs⟩ := List.mem_flatMap.1 hs
 have h1 := lnL_el s hs
 have h2 := (chkI_good (h x (List.mem_filter.1 hx).1)).2.2.2.1
 omega
theorem imgs_m {l : List Im} (h : ∀ x ∈ l, chkI x = 0) (h8 : l.length ≤ 8) : imsM (imgs l) := ⟨by have := imgs_le (l := l); omega, fun x hx => chkI_m (h x (List.mem_filter.1 hx).1)⟩
end Go.Eng
end
section
set_option maxRecDepth 20000
set_option maxHeartbeats 16000000
namespace Go.Eng
theorem chkI_ver {a v w : Int} {s p : List UInt8} (h : chkI (a, s, v, p) = 0) (hw : 0 ≤ w ∧ w ≤ 1000000) : chkI (a, s, w, p) = 0 := by
 obtain ⟨h1, _, h3, h4, h5⟩ := chkI_good h
 simp only at h1 h3 h4 h5
 unfold chkI
 simp only
 rw [if_neg (by unfold badI; omega), if_neg (by rw [h3]; decide), if_neg (by omega), if_neg]
 rintro ⟨q1, q2⟩
 have := h5 q1
 omega
theorem w_PredictDistinct (tab : Tab) (gl : Gl) (n1 n2 n3 n4 n5 n6 n7 n8 n9 n10 n11 n12 n13 : Nat) (h1 : tab.look n1 = some ct_awake.fs) (h2 : tab.look n2 = some ct_dstr.fs) (h3 : tab.look n3 = some ct_dch.fs) (h4 : tab.look n4 = some ct_mod.fs) (h5 : tab.look n5 = some ct_stg.fs) (h6 : tab.look n6 = some ct_pdg.fs) (h7 : tab.look n7 = some ct_smc.fs) (h8 : tab.look n8 = some ct_lists.fs) (h9 : tab.look n9 = some ct_same.fs) (h10 : tab.look n10 = some ct_prd.fs) (h11 : tab.look n11 = some ct_eqS.fs) (h12 : tab.look n12 = some ct_hsd.fs) (h13 : tab.look n13 = some ct_cols.fs)
   (a b : List UInt8) (hla : a.length ≤ 9223372036854775807) (hlb : b.length ≤ 9223372036854775807) (act att : Int) (hact : rI act) (hatt : rI att) (same : Bool) :
   (ac_law29_PredictDistinct n1 n2 n3 n4 n5 n6 n7 n8 n9 n10 n11 n12 n13).wp tab gl (zipF 0 [.t (.sl (a.map byteT)), .t (.sl (b.map byteT)), .t (.int .i64 act), .t (.int .i64 att), .t (.bool same)]) (zipF 0 []) (resW [(10, none)] 0 (fun r' o => r' = .t (.bool true) ∧ o = [])) := by
 have hA := dstr_eq hact
 have lA := modI_lt (a := act) (m := 2) (by omega)
 obtain ⟨A, hAe⟩ : ∃ A, 2 + modI act 2 = A := ⟨_, rfl⟩
 rw [hAe] at hA
 have lA2 : 2 ≤ A ∧ A ≤ 3 := by omega
 have hC1 := dch_eq hla
 have hC2 := dch_eq hlb
 obtain ⟨zl, okl, l8⟩ := chG_ok (b := a)
 obtain ⟨zk, okk, k8⟩ := chG_ok (b := b)
 have hS1 := stg_eq (l := chG a) ⟨chG_m, by omega⟩
 have hD1 := pdg_eq (act := A) (s0 := 0) (s1 := 4095) (chG_m (b := a))
 have hP1 := prd_eq (act := 2) (chG_m (b := a))
 have hH1 := hsd_eq zl
 have e1 := prE_of zl (A := 2) (by omega)
 rw [pdE_of zl lA2] at hD1
 rw [e1.1] at hP1
 have mi1 := imgs_m okl l8
 have ml1 := lnsC_m okl l8
 have hh1 := hsd_lt zl
 have pl1 := pdB_len (l := chG a) (act := A) (s0 := 0) (s1 := 4095)
 have key : ∀ K : List Im, chkC K = 0 → (ct_stg.fs [.t (.sl (K.map imT))] [] = some (.tup [.sl 0 0 (imgs K).length, .t (.sl ((lnsC K).map bsT))], [.live 4 (((imgs K).map imT).map V.t) true false])) ∧
     ct_pdg.fs [.t (.sl (K.map imT)), .t (.int .i64 A), .t (.agg [.int .i64 0, .int .i64 4095])] [] = some (.tup [.t (.sl ((pdB K A 0 4095).map byteT)), .t (.int .i64 0)], []) ∧
     ct_prd.fs [.t (.sl (K.map imT)), .t (.int .i64 2)] [] = some (.tup [.t (.agg [.sl ((prG K 2).1.map bankT), .int .i64 (prG K 2).2]), .t (.int .i64 0)], []) ∧
     ct_hsd.fs [.t (.sl (K.map imT))] [] = some (.sl 0 0 (hsd K).length, [.live 1 (((hsd K).map bsT).map V.t) true false]) ∧
     ct_smc.fs [.t (.sl ((imgs (chG a)).map imT)), .t (.sl ((imgs K).map imT))] [] = some (.t (.bool (decide (imgs (chG a) = imgs K))), []) ∧
     ct_lists.fs [.t (.sl ((lnsC (chG a)).map bsT)), .t (.sl ((lnsC K).map bsT))] [] = some (.t (.bool (decide (lnsC (chG a) = lnsC K))), []) ∧
     ct_same.fs [.t (.sl ((pdB (chG a) A 0 4095).map byteT)), .t (.sl ((pdB K A 0 4095).map byteT))] [] = some (.t (.bool (decide (pdB (chG a) A 0 4095 = pdB K A 0 4095))), []) ∧
     ct_eqS.fs [.t (.agg [.sl ((prG (chG a) 2).1.map bankT), .int .i64 (prG (chG a) 2).2]), .t (.agg [.sl ((prG K 2).1.map bankT), .int .i64 (prG K 2).2])] [] = some (.t (.bool (decide ((prG (chG a) 2).2 = (prG K 2).2) && decide ((prG (chG a) 2).1.getD 1 [] = (prG K 2).1.getD 1 []))), []) ∧
     ct_cols.fs [.t (.sl ((hsd (chG a) ++ hsd K).map bsT))] [] = some (.t (.bool (colB (hsd (chG a) ++ hsd K))), []) ∧
     (hsd K).length ≤ 300 ∧ (imgs K).length ≤ 8 := by
   intro K zK
   obtain ⟨okK, _, K8⟩ := chkC_ok zK
   have mK : imsM K := ⟨by omega, fun x hx => chkI_m (okK x hx)⟩
   have e2 := prE_of zK (A := 2) (by omega)
   have d2 := pdg_eq (act := A) (s0 := 0) (s1 := 4095) mK
   have p2 := prd_eq (act := 2) mK
   rw [pdE_of zK lA2] at d2
   rw [e2.1] at p2
   have pl2 := pdB_len (l := K) (act := A) (s0 := 0) (s1 := 4095)
   have hh2 := hsd_lt zK
   exact ⟨stg_eq ⟨mK, by omega⟩, d2, p2, hsd_eq zK, smc_eq ⟨mi1, imgs_m okK K8⟩, lists2_eq ml1 (lnsC_m okK K8), same_eq ⟨by omega, by omega⟩, eqS_eq (x := prG (chG a) 2) (y := prG K 2) ⟨e1.2.2, e2.2.2⟩, cols_eq (l := hsd (chG a) ++ hsd K) ⟨by rw [List.length_append]; omega, fun m hm => (List.mem_append.1 hm).elim (hh1.2 m) (hh2.2 m)⟩, hh2.1, by have := imgs_le (l := K); omega⟩
 have dm := fun (K : List Im) (zK : chkC K = 0) => dist_main zl zK lA2
 have mC1 := chG_m (b := a)
 have il1 := imgs_le (l := chG a)
 generalize hLe : chG a = L at *
 cases same with
 | false =>
   have zK := zk
   obtain ⟨hS2, hD2, hP2, hH2, hSC, hLi, hSm, hEq, hCo, hb2, hi2⟩ := key (chG b) zK
   obtain ⟨dm1, dm2⟩ := dm (chG b) zK
   generalize hsd (chG b) = H2 at *
   generalize hsd L = H1 at *
   generalize pdB (chG b) A 0 4095 = B2 at *
   generalize pdB L A 0 4095 = B1 at *
   generalize (decide ((prG L 2).2 = (prG (chG b) 2).2) && decide ((prG L 2).1.getD 1 [] = (prG (chG b) 2).1.getD 1 [])) = bE at *
   generalize prG (chG b) 2 = X2 at *
   generalize prG L 2 = X1 at *
   generalize imgs (chG b) = I2 at *
   generalize imgs L = I1 at *
   generalize lnsC (chG b) = N2 at *
   generalize lnsC L = N1 at *
   have tI1 : List.take I1.length I1 = I1 := List.take_length
   have tI2 : List.take I2.length I2 = I2 := List.take_length
   have tH : List.take (H1.length + H2.length) (H1 ++ H2) = H1 ++ H2 := List.take_of_length_le (by simp)
   have tH2 : List.take H2.length H2 = H2 := List.take_length
   generalize hcB : colB (H1 ++ H2) = cB at *
   by_cases q1 : I1 = I2
   · rw [decide_eq_true q1] at hSC
     by_cases q2 : N1 = N2
     · rw [decide_eq_true q2] at hLi
       rw [decide_eq_true (dm1 q1 q2)] at hSm
       clear dm1 dm2
       simp (disch := omega) only [go_sem, seval, ac_law29_PredictDistinct, h1, awake_eq, h2, hA, h3, hC1, hC2, tI1, tI2, h5, hS1, hS2, h6, hD1, hD2, h7, hSC, h8, hLi, h9, hSm]
     · rw [decide_eq_false q2] at hLi
       by_cases q3 : B1 = B2
       · rw [decide_eq_true q3] at hSm
         cases bE with
         | false =>
           simp (config := { maxSteps := 2000000 }) (disch := (first | omega | (simp only [lens, lenm]; omega))) only [go_sem, seval, ac_law29_PredictDistinct, h1, awake_eq, h2, hA, h3, hC1, hC2, tI1, tI2, h5, hS1, hS2, h6, hD1, hD2, h7, hSC, h8, hLi, h9, hSm, h10, hP1, hP2, h11, hEq]
         | true =>
           have hcT := dm2 rfl (fun h => q2 h.2)
           subst hcT
           simp (config := { maxSteps := 2000000 }) (disch := (first | omega | (simp only [lens, lenm]; omega))) only [go_sem, seval, ac_law29_PredictDistinct, h1, awake_eq, h2, hA, h3, hC1, hC2, tI1, tI2, h5, hS1, hS2, h6, hD1, hD2, h7, hSC, h8, hLi, h9, hSm, h10, hP1, hP2, h11, hEq, h12, hH1, hH2, tH, tH2, h13, hCo]
       · rw [decide_eq_false q3] at hSm
         simp (disch := omega) only [go_sem, seval, ac_law29_PredictDistinct, h1, awake_eq, h2, hA, h3, hC1, hC2, tI1, tI2, h5, hS1, hS2, h6, hD1, hD2, h7, hSC, h8, hLi, h9, hSm]
   · rw [decide_eq_false q1] at hSC
     by_cases q3 : B1 = B2
     · rw [decide_eq_true q3] at hSm
       cases bE with
       | false =>
         simp (config := { maxSteps := 2000000 }) (disch := (first | omega | (simp only [lens, lenm]; omega))) only [go_sem, seval, ac_law29_PredictDistinct, h1, awake_eq, h2, hA, h3, hC1, hC2, tI1, tI2, h5, hS1, hS2, h6, hD1, hD2, h7, hSC, h9, hSm, h10, hP1, hP2, h11, hEq]
       | true =>
         have hcT := dm2 rfl (fun h => q1 h.1)
         subst hcT
         simp (config := { maxSteps := 2000000 }) (disch := (first | omega | (simp only [lens, lenm]; omega))) only [go_sem, seval, ac_law29_PredictDistinct, h1, awake_eq, h2, hA, h3, hC1, hC2, tI1, tI2, h5, hS1, hS2, h6, hD1, hD2, h7, hSC, h9, hSm, h10, hP1, hP2, h11, hEq, h12, hH1, hH2, tH, tH2, h13, hCo]
     · rw [decide_eq_false q3] at hSm
       simp (disch := omega) only [go_sem, seval, ac_law29_PredictDistinct, h1, awake_eq, h2, hA, h3, hC1, hC2, tI1, tI2, h5, hS1, hS2, h6, hD1, hD2, h7, hSC, h9, hSm]
 | true =>
   obtain ⟨_, p1, _⟩ := chkC_ok zl
   have hMd := mod_eq (a := att) (b := (L.length : Int)) ⟨hatt, by omega⟩
   have lM := modI_lt (a := att) (m := (L.length : Int)) (by omega)
   obtain ⟨j, hj⟩ := Int.eq_ofNat_of_zero_le lM.1
   rw [hj] at hMd lM
   have hjl : j < L.length := by omega
   obtain ⟨⟨xa, xs, xv, xp⟩, hx⟩ : ∃ x, L[j]? = some x := ⟨L[j], by simp [hjl]⟩
   have hxk := okl _ (List.mem_of_getElem? hx)
   have hg := chkI_good hxk
   have hv2 := hg.2.1
   simp only at hv2
   have htm : Int.tmod (xv + 1) 7 = (xv + 1) % 7 := Int.tmod_eq_emod_of_nonneg (by omega)
   have zK : chkC (L.set j (xa, xs, (xv + 1) % 7, xp)) = 0 := chkC_set zl hx rfl (chkI_ver hxk (by omega))
   obtain ⟨hS2, hD2, hP2, hH2, hSC, hLi, hSm, hEq, hCo, hb2, hi2⟩ := key (L.set j (xa, xs, (xv + 1) % 7, xp)) zK
   obtain ⟨dm1, dm2⟩ := dm (L.set j (xa, xs, (xv + 1) % 7, xp)) zK
   have hset : List.set (List.map imT L) j (.agg [.int .i64 xa, strT xs, .int .i64 ((xv + 1) % 7), .sl (xp.map byteT)]) = List.map imT (L.set j (xa, xs, (xv + 1) % 7, xp)) := by rw [List.map_set]; rfl
   have tK : List.take L.length (List.map imT (L.set j (xa, xs, (xv + 1) % 7, xp))) = List.map imT (L.set j (xa, xs, (xv + 1) % 7, xp)) := List.take_of_length_le (by simp)
   have hKl : (L.set j (xa, xs, (xv + 1) % 7, xp)).length = L.length := List.length_set
   generalize hsd (L.set j (xa, xs, (xv + 1) % 7, xp)) = H2 at *
   generalize hsd L = H1 at *
   generalize pdB (L.set j (xa, xs, (xv + 1) % 7, xp)) A 0 4095 = B2 at *
   generalize pdB L A 0 4095 = B1 at *
   generalize (decide ((prG L 2).2 = (prG (L.set j (xa, xs, (xv + 1) % 7, xp)) 2).2) && decide ((prG L 2).1.getD 1 [] = (prG (L.set j (xa, xs, (xv + 1) % 7, xp)) 2).1.getD 1 [])) = bE at *
   generalize prG (L.set j (xa, xs, (xv + 1) % 7, xp)) 2 = X2 at *
   generalize prG L 2 = X1 at *
   generalize imgs (L.set j (xa, xs, (xv + 1) % 7, xp)) = I2 at *
   generalize imgs L = I1 at *
   generalize lnsC (L.set j (xa, xs, (xv + 1) % 7, xp)) = N2 at *
   generalize lnsC L = N1 at *
   have tI1 : List.take I1.length I1 = I1 := List.take_length
   have tI2 : List.take I2.length I2 = I2 := List.take_length
   have tH : List.take (H1.length + H2.length) (H1 ++ H2) = H1 ++ H2 := List.take_of_length_le (by simp)
   have tH2 : List.take H2.length H2 = H2 := List.take_length
   generalize hcB : colB (H1 ++ H2) = cB at *
   by_cases q1 : I1 = I2
   · rw [decide_eq_true q1] at hSC
     by_cases q2 : N1 = N2
     · rw [decide_eq_true q2] at hLi
       rw [decide_eq_true (dm1 q1 q2)] at hSm
       clear dm1 dm2
       simp (config := { maxSteps := 2000000 }) (disch := (first | omega | (simp only [lens, lenm]; omega))) only [go_sem, seval, ac_law29_PredictDistinct, h1, awake_eq, h2, hA, h3, hC1, hC2, zI, h4, hMd, hx, imT_def, htm, hset, tK, tI1, tI2, h5, hS1, hS2, h6, hD1, hD2, h7, hSC, h8, hLi, h9, hSm]
     · rw [decide_eq_false q2] at hLi
       by_cases q3 : B1 = B2
       · rw [decide_eq_true q3] at hSm
         cases bE with
         | false =>
           simp (config := { maxSteps := 2000000 }) (disch := (first | omega | (simp only [lens, lenm]; omega))) only [go_sem, seval, ac_law29_PredictDistinct, h1, awake_eq, h2, hA, h3, hC1, hC2, zI, h4, hMd, hx, imT_def, htm, hset, tK, tI1, tI2, h5, hS1, hS2, h6, hD1, hD2, h7, hSC, h8, hLi, h9, hSm, h10, hP1, hP2, h11, hEq]
         | true =>
           have hcT := dm2 rfl (fun h => q2 h.2)
           subst hcT
           simp (config := { maxSteps := 2000000 }) (disch := (first | omega | (simp only [lens, lenm]; omega))) only [go_sem, seval, ac_law29_PredictDistinct, h1, awake_eq, h2, hA, h3, hC1, hC2, zI, h4, hMd, hx, imT_def, htm, hset, tK, tI1, tI2, h5, hS1, hS2, h6, hD1, hD2, h7, hSC, h8, hLi, h9, hSm, h10, hP1, hP2, h11, hEq, h12, hH1, hH2, tH, tH2, h13, hCo]
       · rw [decide_eq_false q3] at hSm
         simp (config := { maxSteps := 2000000 }) (disch := (first | omega | (simp only [lens, lenm]; omega))) only [go_sem, seval, ac_law29_PredictDistinct, h1, awake_eq, h2, hA, h3, hC1, hC2, zI, h4, hMd, hx, imT_def, htm, hset, tK, tI1, tI2, h5, hS1, hS2, h6, hD1, hD2, h7, hSC, h8, hLi, h9, hSm]
   · rw [decide_eq_false q1] at hSC
     by_cases q3 : B1 = B2
     · rw [decide_eq_true q3] at hSm
       cases bE with
       | false =>
         simp (config := { maxSteps := 2000000 }) (disch := (first | omega | (simp only [lens, lenm]; omega))) only [go_sem, seval, ac_law29_PredictDistinct, h1, awake_eq, h2, hA, h3, hC1, hC2, zI, h4, hMd, hx, imT_def, htm, hset, tK, tI1, tI2, h5, hS1, hS2, h6, hD1, hD2, h7, hSC, h9, hSm, h10, hP1, hP2, h11, hEq]
       | true =>
         have hcT := dm2 rfl (fun h => q1 h.1)
         subst hcT
         simp (config := { maxSteps := 2000000 }) (disch := (first | omega | (simp only [lens, lenm]; omega))) only [go_sem, seval, ac_law29_PredictDistinct, h1, awake_eq, h2, hA, h3, hC1, hC2, zI, h4, hMd, hx, imT_def, htm, hset, tK, tI1, tI2, h5, hS1, hS2, h6, hD1, hD2, h7, hSC, h9, hSm, h10, hP1, hP2, h11, hEq, h12, hH1, hH2, tH, tH2, h13, hCo]
     · rw [decide_eq_false q3] at hSm
       simp (config := { maxSteps := 2000000 }) (disch := (first | omega | (simp only [lens, lenm]; omega))) only [go_sem, seval, ac_law29_PredictDistinct, h1, awake_eq, h2, hA, h3, hC1, hC2, zI, h4, hMd, hx, imT_def, htm, hset, tK, tI1, tI2, h5, hS1, hS2, h6, hD1, hD2, h7, hSC, h9, hSm]
end Go.Eng
end
section
set_option maxRecDepth 20000
namespace Go.Eng
open Go.MuLone
theorem ok_name {P : Program} {G : Gl} {f : FuncId} {fn : Func} {c : Code} (hf : P.funcs[f]? = some fn) (hname : (fn.name == "runtime.NumGoroutine") = false) (hb : fn.body = some c)
   (h : ∀ (s : ByteArray) (w : World), Calls P f #[.string s] w fun e w' => e = .returned (.bool (nameB s.data.toList)) ∧ (w' = w ∨ ∃ pos, w' = w.iter s pos)) : FOk P G f ct_name.fs := by
 refine ct_name.ok (fun args w => run_callFunc_enter hf hname hb args w) (fun x _ => ?_)
 intro w β F vals env fits hargs
 have hvals : vals = #[.string ⟨List.toArray x⟩] := by
   obtain ⟨l⟩ := vals
   cases hargs with
   | cons h1 h2 =>
     cases h2
     cases h1 with
     | t h => cases h; rfl
 subst hvals
 refine (h _ w).mono fun e w' he => ?_
 obtain ⟨rfl, hw⟩ := he
 refine ⟨_, β, F, rfl, ?_⟩
 have hβ : ∀ k, β k = none := fun k => fits.dom k (Nat.zero_le _)
 have hx : nameB (ByteArray.mk (List.toArray x)).data.toList = nameB x := rfl
 rw [hx]
 have res : ∀ w', RepV β F w' (ct_name.r x) (.bool (nameB x)) := fun w' => .t (.bool _)
 have fit : ∀ w', Fits β F w' (ct_name.outs x) := fun w' => ⟨fun k o hk => (by simp [ct_name] at hk), fun k _ => hβ k, fun i j bi bj b h1 => (by rw [hβ] at h1; cases h1), fun k bi b h1 => (by rw [hβ] at h1; cases h1)⟩
 rcases hw with rfl | ⟨pos, rfl⟩
 · exact ⟨fit _, res _, fun _ _ => rfl, fun k bi b _ h1 => by (rw [hβ] at h1; cases h1), fun _ _ => Iff.rfl, env.Fw, rfl, rfl, rfl, Nat.le_refl _, fun _ _ _ => rfl⟩
 · have hsz : (w.iter ⟨List.toArray x⟩ pos).heap.size = w.heap.size + 1 := by
     show (w.heap.push _).size = _
     exact Array.size_push _
   have hold : ∀ b, b < w.heap.size → (w.iter ⟨List.toArray x⟩ pos).heap[b]? = w.heap[b]? := by
     intro b hb
     show (w.heap.push _)[b]? = _
     rw [Array.getElem?_push, if_neg (by omega)]
   exact ⟨fit _, res _, fun _ _ => rfl, fun k bi b _ h1 => by (rw [hβ] at h1; cases h1), fun _ _ => Iff.rfl, fun b hb => by (have := env.Fw b hb; rw [hsz]; omega), rfl, rfl, rfl, by (rw [hsz]; omega), fun b hb _ => hold b hb⟩
end Go.Eng
end
section
namespace Go.Eng
def ac_image_printable_L0 : AC :=
 (.seq
 (rG 12288 [bT 8 .lss 7 6])
 (.seq
 (.cond (.tmp 8)
 .skip
 (.exit 0))
 (.seq
 (.block 1
 (.seq
 (rG 16384 [oO 9 (.iaddr 1) [.tmp 5, .tmp 7],oO 10 (.load 1 false) [.tmp 9],mv 4 10])
 (.seq
 (rG 20480 [mv 11 4,oO 12 (.bin .lss) [.tmp 11, .cst (.t (byteT 32))],mv 13 12,mF 14 4 13,oF 15 13 (.bin .gtr) [.tmp 14, .cst (.t (byteT 126))],oO 16 .pick [.tmp 13, .cst (.t (.bool true)), .tmp 15]])
 (.cond (.tmp 16)
 (.seq
 (rG 24576 [mC 2 (.t (.bool false))])
 .ret)
 .skip))))
 (rG 28672 [bN 17 .add 7 1,mv 7 17]))))
def ac_image_printable : AC :=
 (.seq
 (rG 4096 [mC 2 (.t (.bool false))])
 (.seq
 (.seq
 (rG 8192 [mv 5 0,oO 6 .len [.tmp 5],mC 7 (.t (.int .i64 0))])
 (.block 0
 (.loop ac_image_printable_L0)))
 (.seq
 (rG 32768 [mC 2 (.t (.bool true))])
 .ret)))
def hints_image_printable : List (Nat × List Nat) := []
def ac_image_Lines_L0 (n_bytes_IndexByte n_image_printable : Nat) : AC :=
 (.seq
 (.seq
 (rG 16384 [mv 8 4,oO 9 .len [.tmp 8],bN 10 .gtr 9 0])
 (.cond (.tmp 10)
 .skip
 (.exit 0)))
 (.block 1
 (.seq
 (rG 20480 [mv 11 4,cL 12 n_bytes_IndexByte false [.tmp 11, .cst (.t (byteT 10))],mv 5 12])
 (.seq
 (.seq
 (rG 24576 [mv 13 5,bN 14 .lss 13 1,mv 15 14,mF 16 3 15,oF 17 15 .len [.tmp 16],oF 18 15 (.bin .eql) [.tmp 17, .cst (.t (.int .i64 4))],oO 19 .pick [.tmp 15, .cst (.t (.bool true)), .tmp 18],mv 20 19,mF 21 4 20,mF 22 5 20,oF 23 20 (.slice 1 false true false) [.tmp 21, .tmp 22],cF 24 20 n_image_printable false [.tmp 23],oF 25 20 (.un .not) [.tmp 24],oO 26 .pick [.tmp 20, .cst (.t (.bool true)), .tmp 25]])
 (.cond (.tmp 26)
 (.seq
 (rG 28672 [mC 2 .nil])
 .ret)
 .skip))
 (.seq
 (rG 32768 [mv 27 3,mv 28 4,mv 29 5,mv 30 5,oO 31 (.slice 1 false true true) [.tmp 28, .tmp 29, .tmp 30],oO 32 (.bslice 1 1 .nil [0]) [.tmp 31],oO 33 (.append 1 24) [.tmp 27, .tmp 32],mv 3 33])
 (rG 36864 [mv 34 4,mv 35 5,bN 36 .add 35 1,oO 37 (.slice 1 true false false) [.tmp 34, .tmp 36],mv 4 37]))))))
def ac_image_Lines (n_bytes_IndexByte n_image_printable : Nat) : AC :=
 (.seq
 (rG 4096 [oO 1 .box [.tmp 0],mC 2 .nil])
 (.seq
 (rG 8192 [mC 3 .nil])
 (.seq
 (.seq
 (rG 12288 [oO 6 (.faddr 3) [.tmp 1],oO 7 (.load 1 false) [.tmp 6],mv 4 7])
 (.block 0
 (.loop (ac_image_Lines_L0 n_bytes_IndexByte n_image_printable))))
 (.seq
 (rG 40960 [mv 38 3,mv 2 38])
 .ret))))
def hints_image_Lines : List (Nat × List Nat) := []
def ac_image_Check (n_image_named n_image_Lines : Nat) : AC :=
 (.seq
 (rG 4096 [oO 1 .box [.tmp 0],mC 2 (.t (.int .i64 0))])
 (.seq
 (.block 0
 (.seq
 (rG 8192 [oO 4 (.faddr 0) [.tmp 1],oO 5 (.load 1 false) [.tmp 4],bN 6 .lss 5 1,mv 7 6,oF 8 7 (.faddr 0) [.tmp 1],oF 9 7 (.load 1 false) [.tmp 8],oF 10 7 (.bin .gtr) [.tmp 9, .cst (.t (.int .i64 4))],oO 11 .pick [.tmp 7, .cst (.t (.bool true)), .tmp 10],mv 12 11,oF 13 12 (.faddr 2) [.tmp 1],oF 14 12 (.load 1 false) [.tmp 13],oF 15 12 (.bin .lss) [.tmp 14, .cst (.t (.int .i64 0))],oO 16 .pick [.tmp 12, .cst (.t (.bool true)), .tmp 15],mv 17 16,oF 18 17 (.faddr 2) [.tmp 1],oF 19 17 (.load 1 false) [.tmp 18],oF 20 17 (.bin .gtr) [.tmp 19, .cst (.t (.int .i64 1000000))],oO 21 .pick [.tmp 17, .cst (.t (.bool true)), .tmp 20],mv 3 21])
 (.cond (.tmp 3)
 (.seq
 (rG 12288 [mC 2 (.t (.int .i64 1))])
 .ret)
 (.seq
 (rG 16384 [oO 23 (.faddr 1) [.tmp 1],oO 24 (.load 1 false) [.tmp 23],cL 25 n_image_named false [.tmp 24],oO 26 (.un .not) [.tmp 25],mv 22 26])
 (.cond (.tmp 22)
 (.seq
 (rG 20480 [mC 2 (.t (.int .i64 43))])
 .ret)
 (.seq
 (rG 24576 [oO 28 (.faddr 3) [.tmp 1],oO 29 (.load 1 false) [.tmp 28],oO 30 .len [.tmp 29],bN 31 .gtr 30 64,mv 27 31])
 (.cond (.tmp 27)
 (.seq
 (rG 28672 [mC 2 (.t (.int .i64 4))])
 .ret)
 (.seq
 (rG 32768 [oO 33 (.faddr 0) [.tmp 1],oO 34 (.load 1 false) [.tmp 33],bN 35 .eql 34 4,mv 36 35,oG 37 36 (.load 4 true) [.tmp 1],cG 38 36 n_image_Lines true [.tmp 37],oG 39 36 .len [.tmp 38],oG 40 36 (.bin .eql) [.tmp 39, .cst (.t (.int .i64 0))],oO 41 .pick [.tmp 36, .tmp 40, .cst (.t (.bool false))],mv 32 41])
 (.cond (.tmp 32)
 (.seq
 (rG 36864 [mC 2 (.t (.int .i64 40))])
 .ret)
 .skip)))))))))
 (.seq
 (rG 40960 [mC 2 (.t (.int .i64 0))])
 .ret)))
def hints_image_Check : List (Nat × List Nat) := [(7, [5])]
def ac_image_Encode (n_image_Check n_wire_Uint n_wire_Blob : Nat) : AC :=
 (.seq
 (rG 4096 [oO 1 .box [.tmp 0],mC 2 .nil])
 (.seq
 (.seq
 (rG 8192 [oO 4 (.load 4 true) [.tmp 1],cL 5 n_image_Check false [.tmp 4],bN 6 .neq 5 0])
 (.cond (.tmp 6)
 (.seq
 (rG 12288 [mC 2 .nil])
 .ret)
 .skip))
 (.seq
 (rG 16384 [oO 7 (.faddr 0) [.tmp 1],oO 8 (.load 1 false) [.tmp 7],cL 9 n_wire_Uint false [.cst .nil, .cst (.t (.int .i64 1)), .tmp 8],mv 3 9])
 (.seq
 (rG 20480 [mv 10 3,oO 11 (.faddr 2) [.tmp 1],oO 12 (.load 1 false) [.tmp 11],cL 13 n_wire_Uint false [.tmp 10, .cst (.t (.int .i64 4)), .tmp 12],mv 3 13])
 (.seq
 (rG 24576 [mv 14 3,oO 15 (.faddr 1) [.tmp 1],oO 16 (.load 1 false) [.tmp 15],oO 17 .s2b [.tmp 16],cL 18 n_wire_Blob false [.tmp 14, .tmp 17],mv 3 18])
 (.seq
 (rG 28672 [mv 19 3,oO 20 (.faddr 3) [.tmp 1],oO 21 (.load 1 false) [.tmp 20],cL 22 n_wire_Blob false [.tmp 19, .tmp 21],mv 2 22])
 .ret))))))
def hints_image_Encode : List (Nat × List Nat) := []
def ac_image_Digests_L0 (n_digest_Sum : Nat) : AC :=
 (.seq
 (rG 20480 [bT 14 .lss 13 12])
 (.seq
 (.cond (.tmp 14)
 .skip
 (.exit 0))
 (.seq
 (.block 1
 (.seq
 (rG 24576 [mv 15 13,mv 7 15])
 (.seq
 (rG 28672 [mv 16 6,oO 17 .len [.tmp 16],bN 18 .gtr 17 0,mv 19 18,mG 20 1 19,mG 21 7 19,oG 22 19 (.bin .shr) [.tmp 20, .tmp 21],oG 23 19 (.bin .and) [.tmp 22, .cst (.t (.int .i64 1))],oG 24 19 (.bin .eql) [.tmp 23, .cst (.t (.int .i64 1))],oO 25 .pick [.tmp 19, .tmp 24, .cst (.t (.bool false))]])
 (.cond (.tmp 25)
 (rG 32768 [mv 26 5,mv 27 7,mv 28 7,mv 29 6,cL 30 n_digest_Sum false [.tmp 28, .tmp 29],oO 31 (.iaddr 1) [.tmp 26, .tmp 27],oS 1 31 30])
 .skip))))
 (rG 36864 [bN 32 .add 13 1,mv 13 32]))))
def ac_image_Digests (n_image_Encode n_digest_Sum : Nat) : AC :=
 (.seq
 (rG 4096 [oO 2 .box [.tmp 0],mC 4 .nil])
 (.seq
 (rG 8192 [oO 8 (.mkslice 1 24 .nil) [.cst (.t (.int .i64 2)), .cst (.t (.int .i64 2))],mv 5 8])
 (.seq
 (rG 12288 [oO 9 (.load 4 true) [.tmp 2],cL 10 n_image_Encode true [.tmp 9],mv 6 10])
 (.seq
 (.seq
 (rG 16384 [mv 11 5,oO 12 .len [.tmp 11],mC 13 (.t (.int .i64 0))])
 (.block 0
 (.loop (ac_image_Digests_L0 n_digest_Sum))))
 (.seq
 (rG 40960 [mv 33 5,mv 4 33])
 .ret)))))
def hints_image_Digests : List (Nat × List Nat) := [(2, [1])]
def ac_image_Register (g_image_measured : Nat) : AC :=
 (.seq
 (rG 4096 [mC 2 (.t (.int .i64 0))])
 (.seq
 (.seq
 (rG 8192 [mv 3 0,bN 4 .lss 3 0,mv 5 4,mF 6 0 5,oF 7 5 (.bin .geq) [.tmp 6, .cst (.t (.int .i64 5))],oO 8 .pick [.tmp 5, .cst (.t (.bool true)), .tmp 7]])
 (.cond (.tmp 8)
 (.seq
 (rG 12288 [mC 2 (.t (.int .i64 (-1)))])
 .ret)
 .skip))
 (.seq
 (rG 16384 [mv 9 0,oO 10 (.aaddr 5 1) [.glob g_image_measured, .tmp 9],oO 11 (.load 1 false) [.tmp 10],mv 2 11])
 .ret)))
def hints_image_Register : List (Nat × List Nat) := []
def ac_bytes_IndexByte (n_bytealg_IndexByte : Nat) : AC :=
 (.seq
 (rG 4096 [mC 4 (.t (.int .i64 0))])
 (.seq
 (rG 8192 [mv 5 0,mv 6 1,cL 7 n_bytealg_IndexByte false [.tmp 5, .tmp 6],mv 4 7])
 .ret))
def hints_bytes_IndexByte : List (Nat × List Nat) := []
def ac_event_OfImage (n_image_Check n_image_Register n_image_Digests n_strconv_Itoa : Nat) : AC :=
 (.seq
 (rG 4096 [oO 2 .box [.tmp 0],oO 4 (.new 4 [(.agg [(.t (.int .i64 0)), (.t (.int .i64 0)), .nil, .nil])]) []])
 (.seq
 (.seq
 (rG 8192 [oO 5 (.load 4 true) [.tmp 2],cL 6 n_image_Check false [.tmp 5],bN 7 .neq 6 0,mv 8 7,oF 9 8 (.faddr 0) [.tmp 2],oF 10 8 (.load 1 false) [.tmp 9],oF 11 8 (.bin .eql) [.tmp 10, .cst (.t (.int .i64 4))],oO 12 .pick [.tmp 8, .cst (.t (.bool true)), .tmp 11]])
 (.cond (.tmp 12)
 (.seq
 (rG 12288 [oO 13 (.build [(.t (.int .i64 0)), (.t (.int .i64 0)), .nil, .nil] []) [],oS 4 4 13])
 .ret)
 .skip))
 (.seq
 (.reg 16384 (some [0, 1, 3, 0, 0, 31, 0, 64, 192, 0, 512, 1599, 4095, 8191, 16383, 32767]) [oO 14 (.faddr 0) [.tmp 2],oO 15 (.load 1 false) [.tmp 14],cL 16 n_image_Register false [.tmp 15],oO 17 (.load 4 true) [.tmp 2],mv 18 1,cL 19 n_image_Digests true [.tmp 17, .tmp 18],oO 20 (.faddr 1) [.tmp 2],oO 21 (.load 1 false) [.tmp 20],oO 22 (.bin .add) [.tmp 21, .cst (.t (strT [32]))],oO 23 (.faddr 2) [.tmp 2],oO 24 (.load 1 false) [.tmp 23],cL 25 n_strconv_Itoa false [.tmp 24],bT 26 .add 22 25,oO 27 .s2b [.tmp 26],oO 28 (.build [(.t (.int .i64 0)), (.t (.int .i64 0)), .nil, .nil] [(0, 1), (1, 1), (2, 1), (3, 1)]) [.tmp 16, .cst (.t (.int .i64 1)), .tmp 19, .tmp 27],oS 4 4 28])
 .ret)))
def hints_event_OfImage : List (Nat × List Nat) := [(3, [5])]
end Go.Eng
end
section
set_option maxRecDepth 20000
set_option maxHeartbeats 64000000
namespace Go.Eng
def ixN (c : UInt8) : List UInt8 → Nat → Int
 | [], _ => -1
 | x :: r, n => if x = c then (n : Int) else ixN c r (n + 1)
theorem ixN_no {c : UInt8} : ∀ {b : List UInt8} {n : Nat}, c ∉ b → ixN c b n = -1
 | [], _, _ => rfl
 | x :: r, n, h => by
   rw [ixN, if_neg (fun e => h (by simp [e])), ixN_no (fun e => h (by simp [e]))]
theorem ixN_at {c : UInt8} : ∀ {p q : List UInt8} {n : Nat}, c ∉ p → ixN c (p ++ c :: q) n = ((n + p.length : Nat) : Int)
 | [], q, n, _ => by rw [List.nil_append, ixN, if_pos rfl]; rfl
 | x :: r, q, n, h => by
   rw [List.cons_append, ixN, if_neg (fun e => h (by simp [e])), ixN_at (fun e => h (by simp [e]))]
   simp only [List.length_cons]; congr 1; omega
theorem split_at {c : UInt8} : ∀ {b : List UInt8}, c ∈ b → ∃ p q, b = p ++ c :: q ∧ c ∉ p
 | [], h => by cases h
 | x :: r, h => by
   by_cases e : x = c
   · exact ⟨[], r, by rw [e]; rfl, by simp⟩
   · have : c ∈ r := by
       simp only [List.mem_cons] at h
       rcases h with h | h
       · exact absurd h.symm e
       · exact h
     obtain ⟨p, q, h1, h2⟩ := split_at this
     exact ⟨x :: p, q, by rw [h1]; rfl, by simp only [List.mem_cons, not_or]; exact ⟨fun h => e h.symm, h2⟩⟩
def ct_bix : Ct where
 α := List UInt8 × UInt8
 as x := [.t (.sl (x.1.map byteT)), .t (byteT x.2)]
 ins _ := []
 pre x := 0 < x.1.length ∧ x.1.length < 1000000000
 r x := .t (.int .i64 (ixN x.2 x.1 0))
 outs _ := []
 inj := by
   rintro ⟨a, c⟩ ⟨b, d⟩ h _
   simp only [List.cons.injEq, V.t.injEq, T.sl.injEq, mapB_inj, and_true] at h
   obtain ⟨rfl, h⟩ := h
   cases byteT_inj h
   exact ⟨rfl, rfl⟩
theorem bix_eq {b : List UInt8} {c : UInt8} (h : 0 < b.length ∧ b.length < 1000000000) : ct_bix.fs [.t (.sl (b.map byteT)), .t (byteT c)] [] = some (.t (.int .i64 (ixN c b 0)), []) := ct_bix.eq (b, c) h
theorem w_bytes_IndexByte (tab : Tab) (gl : Gl) (n1 : Nat) (h1 : tab.look n1 = some ct_bix.fs) (b : List UInt8) (c : UInt8) (h : 0 < b.length ∧ b.length < 1000000000) :
   (ac_bytes_IndexByte n1).wp tab gl (zipF 0 [.t (.sl (b.map byteT)), .t (byteT c)]) (zipF 0 []) (resW [(4, none)] 0 (fun r o => r = .t (.int .i64 (ixN c b 0)) ∧ o = [])) := by
 have hB := bix_eq (c := c) h
 simp (disch := omega) only [go_sem, seval, ac_bytes_IndexByte, h1, hB]
def ct_ipr : Ct where
 α := List UInt8
 as x := [.t (.sl (x.map byteT))]
 ins _ := []
 pre x := x.length < 1000000000
 r x := .t (.bool (x.all okC))
 outs _ := []
 inj := by
   intro a b h _
   simp only [List.cons.injEq, V.t.injEq, T.sl.injEq, mapB_inj, and_true] at h
   subst h; exact ⟨rfl, rfl⟩
theorem ipr_eq {b : List UInt8} (h : b.length < 1000000000) : ct_ipr.fs [.t (.sl (b.map byteT))] [] = some (.t (.bool (b.all okC)), []) := ct_ipr.eq b h
theorem w_image_printable (tab : Tab) (gl : Gl) (b : List UInt8) (h : b.length < 1000000000) :
   ac_image_printable.wp tab gl (zipF 0 [.t (.sl (b.map byteT))]) (zipF 0 []) (resW [(2, none)] 0 (fun r o => r = .t (.bool (b.all okC)) ∧ o = [])) := by
 simp (disch := omega) only [go_sem, seval, ac_image_printable]
 refine loop_uptoP b.length (fun i => (b.take i).all okC = true) (fun i => [(5, .t (.sl (b.map byteT))), (6, .t (.int .i64 b.length)), (7, .t (.int .i64 (i : Nat)))]) (fun _ => []) rfl ?_ (fun i hi hP => ?_)
 · refine Weak.rd id ?_ ?_ rfl
   all_goals simp (disch := omega) only [go_sem, seval, id]
 · by_cases hlt : i < b.length
   · obtain ⟨c, hc⟩ : ∃ c, b.getD i 0 = c := ⟨_, rfl⟩
     have hc' : b[i]? = some c := by
       rw [← hc]; simp [List.getD, hlt]
     have hst : (b.take (i + 1)).all okC = okC c := by
       rw [List.take_add_one, hc', List.all_append, hP]; simp
     have hall : okC c = false → b.all okC = false := fun h => List.all_eq_false.2 ⟨c, List.mem_of_getElem? hc', by simp [h]⟩
     by_cases a1 : c.toNat < 32
     · have hk : okC c = false := by unfold okC; rw [decide_eq_true a1]; rfl
       rw [hall hk]
       simp (disch := omega) only [go_sem, seval, ac_image_printable_L0, hc, a1]
     · by_cases a2 : 126 < c.toNat
       · have hk : okC c = false := by unfold okC; rw [decide_eq_true (show c.toNat > 126 from a2)]; simp
         rw [hall hk]
         simp (disch := omega) only [go_sem, seval, ac_image_printable_L0, hc, a1, a2]
       · have hk : okC c = true := by unfold okC; rw [decide_eq_false a1, decide_eq_false (show ¬ c.toNat > 126 from a2)]; rfl
         rw [hk] at hst
         simp (disch := omega) only [go_sem, seval, ac_image_printable_L0, hc, a1, a2]
         refine ⟨hlt, hst, Weak.rd id ?_ ?_ rfl⟩
         all_goals simp (disch := omega) only [go_sem, seval, id]
   · have e : i = b.length := by omega
     subst e
     rw [List.take_length] at hP
     simp (disch := omega) only [go_sem, seval, ac_image_printable_L0, hP]
theorem lnS_line {pre post : List UInt8} (hn : (10 : UInt8) ∉ pre) : ∀ {out : List (List UInt8)} {line : List UInt8}, lnS out line (pre ++ 10 :: post) = if pre.all okC = true then (if (line ++ pre).length = 0 ∨ 4 ≤ out.length then [] else lnS (out ++ [line ++ pre]) [] post) else [] := by
 induction pre with
 | nil =>
   intro out line
   rw [List.nil_append, lnS, if_pos rfl, List.append_nil]
   simp
 | cons c r ih =>
   intro out line
   have hc : ¬ c = 10 := fun e => hn (by simp [e])
   have hr : (10 : UInt8) ∉ r := fun e => hn (by simp [e])
   rw [List.cons_append, lnS, if_neg hc]
   cases hk : okC c
   · rw [if_neg (by decide)]; simp [hk]
   · rw [if_pos rfl, ih hr]; simp [hk]
theorem lnS_none {pre : List UInt8} (hn : (10 : UInt8) ∉ pre) : ∀ {out : List (List UInt8)} {line : List UInt8}, 0 < (line ++ pre).length → lnS out line pre = [] := by
 induction pre with
 | nil => intro out line h; rw [lnS, if_pos (by simpa using h)]
 | cons c r ih =>
   intro out line h
   have hc : ¬ c = 10 := fun e => hn (by simp [e])
   have hr : (10 : UInt8) ∉ r := fun e => hn (by simp [e])
   rw [lnS, if_neg hc]
   split
   · exact ih hr (by simp; omega)
   · rfl
theorem w_image_Lines (tab : Tab) (gl : Gl) (n1 n2 : Nat) (h1 : tab.look n1 = some ct_bix.fs) (h2 : tab.look n2 = some ct_ipr.fs) (x : Im) (hm : imM x) :
   (ac_image_Lines n1 n2).wp tab gl (zipF 0 [.t (imT x)]) (zipF 0 []) (resW [(2, none)] 0 (fun r o => r = .t (.sl ((lnL x.2.2.2).map bsT)) ∧ o = [])) := by
 obtain ⟨a, s, v, p⟩ := x
 have hp := hm.2.1
 simp only at hp ⊢
 simp (disch := omega) only [go_sem, seval, ac_image_Lines, imT_def]
 refine loop_inv (σ := List UInt8 × List (List UInt8)) (fun t => t.1.length ≤ p.length ∧ lnS t.2 [] t.1 = lnL p ∧ t.2.length ≤ 4) (fun t => t.1.length)
   (fun t => [(3, .sl 9000 0 t.2.length), (4, .t (.sl (t.1.map byteT)))])
   (fun t => [(9000, .live 1 ((t.2.map bsT).map V.t) true false)]) (p, []) ⟨Nat.le_refl _, rfl, by simp⟩ ?_ ?_
 · refine Weak.cv0 (hv := [(9000, .live 1 [] true false)]) (ho := []) id ?_ ?_ rfl rfl
   all_goals simp (disch := omega) only [go_sem, seval, id]
 · rintro ⟨rest, out⟩ ⟨hi, hE, ho⟩
   simp only at hi hE ho ⊢
   by_cases hlt : 0 < rest.length
   · have hB := bix_eq (b := rest) (c := 10) ⟨hlt, by omega⟩
     by_cases hn : (10 : UInt8) ∈ rest
     · obtain ⟨pre, post, rfl, hpre⟩ := split_at hn
       rw [ixN_at hpre, Nat.zero_add] at hB
       rw [lnS_line hpre, List.nil_append] at hE
       simp only [List.length_append, List.length_cons] at hi hlt
       have tk : List.take pre.length (pre ++ 10 :: post) = pre := List.take_left' rfl
       have dk : List.drop (pre.length + 1) (pre ++ 10 :: post) = post := by rw [List.drop_append]; simp
       have tl : (pre ++ (10 : UInt8) :: post).length = pre.length + 1 + post.length := by simp; omega
       by_cases z1 : pre.length < 1
       · have hr : lnL p = [] := by rw [← hE]; split; rw [if_pos (.inl (by omega))]; rfl
         rw [hr]
         simp (disch := omega) only [go_sem, seval, ac_image_Lines_L0, tl, h1, hB, z1, List.map_nil]
       · by_cases z2 : out.length = 4
         · have hr : lnL p = [] := by rw [← hE]; split; rw [if_pos (.inr (by omega))]; rfl
           rw [hr]
           simp (disch := omega) only [go_sem, seval, ac_image_Lines_L0, tl, h1, hB, z1, z2, List.map_nil]
         · have z2b : ((out.length : Int) == 4) = false := by simpa using (by omega : ¬ (out.length : Int) = 4)
           have hP := ipr_eq (b := pre) (by omega)
           cases hk : pre.all okC
           · rw [hk] at hP hE
             rw [if_neg (by decide)] at hE
             rw [← hE]
             simp (disch := omega) only [go_sem, seval, ac_image_Lines_L0, tl, h1, hB, z1, z2, z2b, tk, h2, hP, List.map_nil]
           · rw [hk] at hP hE
             rw [if_pos rfl, if_neg (by omega)] at hE
             simp (disch := omega) only [go_sem, seval, ac_image_Lines_L0, tl, h1, hB, z1, z2, z2b, tk, h2, hP, dk]
             refine invG.of (post, out ++ [pre]) ⟨by simp only; omega, hE, by simp; omega⟩ (by simp only; omega) ?_
             refine Weak.cv (hv := []) (ho := [(9000, .live 1 (((out ++ [pre]).map bsT).map V.t) true false)]) [] (fun j => if j = 9000 then 32864 else j) ?_ rfl
             simp (disch := omega) only [go_sem, seval, id, List.map_cons, List.map_nil, List.take_length]
             rfl
     · rw [ixN_no hn] at hB
       rw [lnS_none hn (by simpa using hlt)] at hE
       rw [← hE]
       simp (disch := omega) only [go_sem, seval, ac_image_Lines_L0, h1, hB, List.map_nil]
   · have e : rest = [] := List.length_eq_zero_iff.1 (by omega)
     subst e
     rw [lnS, if_neg (by simp)] at hE
     rw [← hE]
     simp (disch := omega) only [go_sem, seval, ac_image_Lines_L0, List.take_length]
theorem w_image_Check (tab : Tab) (gl : Gl) (n1 n2 : Nat) (h1 : tab.look n1 = some ct_name.fs) (h2 : tab.look n2 = some ct_lns.fs) (x : Im) (hm : imM x) :
   (ac_image_Check n1 n2).wp tab gl (zipF 0 [.t (imT x)]) (zipF 0 []) (resW [(2, none)] 0 (fun r o => r = .t (.int .i64 (chkI x)) ∧ o = [])) := by
 obtain ⟨a, s, v, p⟩ := x
 have hp := hm.2.1
 have hN := name_eq hm.1
 have hL := lns_eq hm
 have lL := lnL_len (p := p)
 simp only at hp hN
 have hl2 : ((lnL p).map bsT).length = (lnL p).length := List.length_map _
 by_cases hb : badI a v
 · have hr : chkI (a, s, v, p) = 1 := if_pos hb
   rw [hr]
   by_cases c1 : a < 1
   · simp (disch := omega) only [go_sem, seval, ac_image_Check, imT_def, c1]
   by_cases c2 : 4 < a
   · simp (disch := omega) only [go_sem, seval, ac_image_Check, imT_def, c1, c2]
   by_cases c3 : v < 0
   · simp (disch := omega) only [go_sem, seval, ac_image_Check, imT_def, c1, c2, c3]
   have c4 : 1000000 < v := by unfold badI at hb; omega
   simp (disch := omega) only [go_sem, seval, ac_image_Check, imT_def, c1, c2, c3, c4]
 · have hb' := hb
   unfold badI at hb'
   have c1 : ¬ a < 1 := by omega
   have c2 : ¬ 4 < a := by omega
   have c3 : ¬ v < 0 := by omega
   have c4 : ¬ 1000000 < v := by omega
   cases hn : nameB s
   · have hr : chkI (a, s, v, p) = 43 := by unfold chkI; rw [if_neg hb, if_pos hn]
     rw [hr]
     rw [hn] at hN
     simp (disch := omega) only [go_sem, seval, ac_image_Check, imT_def, c1, c2, c3, c4, h1, hN]
   · rw [hn] at hN
     have hn2 : ¬ nameB s = false := by rw [hn]; decide
     by_cases c5 : 64 < p.length
     · have hr : chkI (a, s, v, p) = 4 := by unfold chkI; rw [if_neg hb, if_neg hn2, if_pos c5]
       rw [hr]
       simp (disch := omega) only [go_sem, seval, ac_image_Check, imT_def, c1, c2, c3, c4, h1, hN, c5]
     · have hr : chkI (a, s, v, p) = if a = 4 ∧ (lnL p).length = 0 then 40 else 0 := by unfold chkI; rw [if_neg hb, if_neg hn2, if_neg c5]
       rw [hr]
       generalize lnL p = L at *
       by_cases c6 : a = 4
       · subst c6
         by_cases c7 : L.length = 0
         · simp (disch := omega) only [go_sem, seval, ac_image_Check, imT_def, c3, c4, h1, hN, c5, h2, hL, c7]
         · have c8 : ((L.length : Int) == 0) = false := by simpa using (by omega : ¬ (L.length : Int) = 0)
           simp (disch := omega) only [go_sem, seval, ac_image_Check, imT_def, c3, c4, h1, hN, c5, h2, hL, c7, c8]
       · have c8 : (a == 4) = false := by simpa using c6
         simp (disch := omega) only [go_sem, seval, ac_image_Check, imT_def, c1, c2, c3, c4, h1, hN, c5, c6, c8]
theorem w_image_Encode (tab : Tab) (gl : Gl) (n1 n2 n3 : Nat) (h1 : tab.look n1 = some ct_imc.fs) (h2 : tab.look n2 = some ct_uint.fs) (h3 : tab.look n3 = some ct_blob.fs) (x : Im) (hm : imM x) :
   (ac_image_Encode n1 n2 n3).wp tab gl (zipF 0 [.t (imT x)]) (zipF 0 []) (resW [(2, none)] 0 (fun r o => r = .t (.sl ((encI' x).map byteT)) ∧ o = [])) := by
 obtain ⟨a, s, v, p⟩ := x
 have hC := imc_eq hm
 by_cases hz : chkI (a, s, v, p) = 0
 · obtain ⟨g1, g2, g3, g4, g5⟩ := chkI_good hz
   have g6 := nameB_len g3
   simp only at g1 g2 g3 g4 g6
   have hr : encI' (a, s, v, p) = blL (blL (beI 1 a 1 ++ beI 4 v 4) s) p := if_pos hz
   rw [hr]
   rw [hz] at hC
   have u1 : ct_uint.fs [.t (.sl []), .t (.int .i64 1), .t (.int .i64 a)] [] = _ := uintN (b := []) (k := 1) (n := a) ⟨by decide, by decide, by decide⟩
   rw [List.nil_append] at u1
   have l1 : (beI 1 a 1).length = 1 := beI_len
   have u2 : ct_uint.fs [.t (.sl ((beI 1 a 1).map byteT)), .t (.int .i64 4), .t (.int .i64 v)] [] = _ := uintN (b := beI 1 a 1) (k := 4) (n := v) ⟨by rw [l1]; decide, by decide, by decide⟩
   have l2 : (beI 1 a 1 ++ beI 4 v 4).length = 5 := by rw [List.length_append, beI_len, beI_len]
   have b1 := blob_eq (b := beI 1 a 1 ++ beI 4 v 4) (x := s) ⟨by omega, by omega⟩
   have l3 : (blL (beI 1 a 1 ++ beI 4 v 4) s).length = 5 + 2 + s.length := by rw [blL_len, l2]
   have b2 := blob_eq (b := blL (beI 1 a 1 ++ beI 4 v 4) s) (x := p) ⟨by omega, by omega⟩
   have l4 : (blL (blL (beI 1 a 1 ++ beI 4 v 4) s) p).length = 5 + 2 + s.length + 2 + p.length := by rw [blL_len, l3]
   rw [l1] at u2
   rw [l2] at b1
   rw [l3] at b2
   generalize blL (blL (beI 1 a 1 ++ beI 4 v 4) s) p = B4 at *
   generalize blL (beI 1 a 1 ++ beI 4 v 4) s = B3 at *
   generalize beI 1 a 1 ++ beI 4 v 4 = B2 at *
   generalize beI 1 a 1 = B1 at *
   have t1 : List.take 1 B1 = B1 := List.take_of_length_le (by omega)
   have t2 : List.take 5 B2 = B2 := List.take_of_length_le (by omega)
   have t3 : List.take (5 + 2 + s.length) B3 = B3 := List.take_of_length_le (by omega)
   have t4 : List.take (5 + 2 + s.length + 2 + p.length) B4 = B4 := List.take_of_length_le (by omega)
   simp (disch := omega) only [go_sem, seval, ac_image_Encode, imT_def, h1, hC, h2, u1, l1, t1, u2, l2, t2, h3, b1, l3, t3, b2, l4, t4, List.length_nil, List.map_nil, List.take_length]
 · have hr : encI' (a, s, v, p) = [] := if_neg hz
   rw [hr]
   have hz' : (chkI (a, s, v, p) != 0) = true := by simpa using hz
   simp (disch := omega) only [go_sem, seval, ac_image_Encode, imT_def, h1, hC, hz', List.map_nil]
theorem w_image_Digests (tab : Tab) (gl : Gl) (n1 n2 : Nat) (h1 : tab.look n1 = some ct_enI.fs) (h3 : tab.look n2 = some ct_sumA.fs) (x : Im) (act : Int) (hm : imM x) (ha : 0 ≤ act ∧ act < 4) :
   (ac_image_Digests n1 n2).wp tab gl (zipF 0 [.t (imT x), .t (.int .i64 act)]) (zipF 0 []) (resW [(4, none)] 0 (fun r o => r = .t (.sl [bsT (digI x act 0), bsT (digI x act 1)]) ∧ o = [])) := by
 have hl := encI_len hm
 have e0 : digI x act 0 = if 0 < (encI' x).length ∧ act % 2 = 1 then sum1 (encI' x) else [] := by unfold digI; simp [sumA]
 have e1 : digI x act 1 = if 0 < (encI' x).length ∧ act / 2 % 2 = 1 then sum256 (encI' x) else [] := by unfold digI; simp [sumA]
 obtain ⟨a, s, v, p⟩ := x
 have hE := enI_eq hm
 generalize encI' (a, s, v, p) = B at *
 have s0 := sumA_eq0 (bs := B) (by omega)
 have s1 := sumA_eq1 (bs := B) (by omega)
 have l0 : (sum1 B).length = 20 := sum1_length
 have l1 : (sum256 B).length = 32 := sum256_length
 have t0 : List.take 20 (sum1 B) = sum1 B := take_sum1
 have t1 : List.take 32 (sum256 B) = sum256 B := take_sum256
 generalize sum1 B = S0 at *
 generalize sum256 B = S1 at *
 simp only [bsT_def]
 simp (disch := omega) only [go_sem, seval, ac_image_Digests, imT_def, h1, hE]
 repeat refine And.intro rfl ?_
 refine loop_upto 2 (fun i => [(1, .t (.int .i64 act)), (5, .sl 8192 0 2), (6, .t (.sl (B.map byteT))), (12, .t (.int .i64 2)), (13, .t (.int .i64 (i : Nat)))])
   (fun i => [(8192, .live 1 [.t (.sl ((if 0 < i then digI (a, s, v, p) act 0 else []).map byteT)), .t (.sl ((if 1 < i then digI (a, s, v, p) act 1 else []).map byteT))] true false)]) ?_ (fun i hi => ?_)
 · refine Weak.rd id ?_ ?_ rfl
   all_goals simp (disch := omega) only [go_sem, seval, id, List.map_nil, Nat.lt_irrefl, Nat.not_lt_zero]
 · have f0 : Int.fdiv act 1 = act := by rw [Int.fdiv_eq_ediv_of_nonneg _ (by decide), Int.ediv_one]
   have f1 : Int.fdiv act 2 = act / 2 := Int.fdiv_eq_ediv_of_nonneg _ (by decide)
   rcases (show i = 0 ∨ i = 1 ∨ i = 2 by omega) with rfl | rfl | rfl
   · by_cases z : 0 < B.length
     · by_cases b0 : act % 2 = 1
       · rw [if_pos ⟨z, b0⟩] at e0
         have q : (act % 2 == 1) = true := by simpa using b0
         simp (disch := omega) only [go_sem, seval, ac_image_Digests_L0, f0, q, z, h3, s0, List.map_nil, Nat.lt_irrefl, Nat.not_lt_zero]
         refine Weak.cv (hv := []) [32832] id ?_ rfl
         simp (disch := omega) only [go_sem, seval, id, e0, l0, t0, List.map_nil]
         rfl
       · rw [if_neg (fun h => b0 h.2)] at e0
         have q : (act % 2 == 1) = false := by simpa using b0
         simp (disch := omega) only [go_sem, seval, ac_image_Digests_L0, f0, q, z, List.map_nil, Nat.lt_irrefl, Nat.not_lt_zero]
         refine Weak.rd id ?_ ?_ rfl
         all_goals simp (disch := omega) only [go_sem, seval, id, e0, List.map_nil, Nat.lt_irrefl]
     · rw [if_neg (fun h => z h.1)] at e0
       simp (disch := omega) only [go_sem, seval, ac_image_Digests_L0, z, List.map_nil, Nat.lt_irrefl, Nat.not_lt_zero]
       refine Weak.rd id ?_ ?_ rfl
       all_goals simp (disch := omega) only [go_sem, seval, id, e0, List.map_nil, Nat.lt_irrefl]
   · by_cases z : 0 < B.length
     · by_cases b0 : act / 2 % 2 = 1
       · rw [if_pos ⟨z, b0⟩] at e1
         have q : (act / 2 % 2 == 1) = true := by simpa using b0
         simp (disch := omega) only [go_sem, seval, ac_image_Digests_L0, f1, q, z, h3, s1, List.map_nil, Nat.lt_irrefl, Nat.not_lt_zero]
         refine Weak.cv (hv := []) [32832] id ?_ rfl
         simp (disch := omega) only [go_sem, seval, id, e1, l1, t1, List.map_nil]
         rfl
       · rw [if_neg (fun h => b0 h.2)] at e1
         have q : (act / 2 % 2 == 1) = false := by simpa using b0
         simp (disch := omega) only [go_sem, seval, ac_image_Digests_L0, f1, q, z, List.map_nil, Nat.lt_irrefl, Nat.not_lt_zero]
         refine Weak.rd id ?_ ?_ rfl
         all_goals simp (disch := omega) only [go_sem, seval, id, e1, List.map_nil, Nat.lt_irrefl]
     · rw [if_neg (fun h => z h.1)] at e1
       simp (disch := omega) only [go_sem, seval, ac_image_Digests_L0, z, List.map_nil, Nat.lt_irrefl, Nat.not_lt_zero]
       refine Weak.rd id ?_ ?_ rfl
       all_goals simp (disch := omega) only [go_sem, seval, id, e1, List.map_nil, Nat.lt_irrefl]
   · simp (disch := omega) only [go_sem, seval, ac_image_Digests_L0]
def measT : List T := [.int .i64 (-1), .int .i64 0, .int .i64 4, .int .i64 8, .int .i64 9]
theorem w_image_Register (tab : Tab) (gl : Gl) (g : Nat) (hg : gl g = some measT) (a : Int) : (ac_image_Register g).wp tab gl (zipF 0 [.t (.int .i64 a)]) (zipF 0 []) (resW [(2, none)] 0 (fun r o => r = .t (.int .i64 (regI a)) ∧ o = [])) := by
 by_cases c0 : a < 0
 · have hr : regI a = -1 := by unfold regI; rw [if_neg (by omega), if_neg (by omega), if_neg (by omega), if_neg (by omega)]
   simp (disch := omega) only [go_sem, seval, ac_image_Register, c0, hr]
 by_cases c5 : 5 ≤ a
 · have hr : regI a = -1 := by unfold regI; rw [if_neg (by omega), if_neg (by omega), if_neg (by omega), if_neg (by omega)]
   simp (disch := omega) only [go_sem, seval, ac_image_Register, c0, c5, hr]
 rcases (show a = 0 ∨ a = 1 ∨ a = 2 ∨ a = 3 ∨ a = 4 by omega) with rfl | rfl | rfl | rfl | rfl
 all_goals simp (disch := omega) only [go_sem, seval, ac_image_Register, hg, measT, regI]
 all_goals trace_state
def ct_itoa : Ct where
 α := Int
 as x := [.t (.int .i64 x)]
 ins _ := []
 pre x := 0 ≤ x ∧ x ≤ 1000000
 r x := .t (strT (numL x.toNat))
 outs _ := []
 inj := by
   intro a b h _
   simp only [List.cons.injEq, V.t.injEq, T.int.injEq, true_and, and_true] at h
   subst h; exact ⟨rfl, rfl⟩
theorem itoa_eq {n : Nat} (h : n ≤ 1000000) : ct_itoa.fs [.t (.int .i64 (n : Int))] [] = some (.t (strT (numL n)), []) := ct_itoa.eq (n : Int) ⟨by omega, by omega⟩
theorem w_event_OfImage (tab : Tab) (gl : Gl) (n1 n2 n3 n4 : Nat) (h1 : tab.look n1 = some ct_imc.fs) (h2 : tab.look n2 = some ct_reg.fs) (h3 : tab.look n3 = some ct_imd.fs) (h4 : tab.look n4 = some ct_itoa.fs) (x : Im) (act : Int) (hm : imM x) (ha : 0 ≤ act ∧ act < 4) :
   (ac_event_OfImage n1 n2 n3 n4).wp tab gl (zipF 0 [.t (imT x), .t (.int .i64 act)]) (zipF 0 []) (resW [(4, some (4, true))] 0 (fun r o => r = .t (evT (ofI x act)) ∧ o = [])) := by
 obtain ⟨a, s, v, p⟩ := x
 have hC := imc_eq hm
 have hD := imd_eq (act := act) ⟨hm, ha⟩
 have hR := reg_eq (a := a)
 by_cases hz : chkI (a, s, v, p) = 0
 · obtain ⟨g1, g2, g3, g4, g5⟩ := chkI_good hz
   have g6 := nameB_len g3
   simp only at g1 g2 g3 g4 g6
   rw [hz] at hC
   by_cases c4 : a = 4
   · subst c4
     have hr : ofI (4, s, v, p) act = (0, 0, [], []) := if_pos (.inr rfl)
     rw [hr]
     simp (disch := omega) only [go_sem, seval, ac_event_OfImage, imT_def, evT_def, h1, hC, List.map_nil]
   · have d4 : (a == 4) = false := by simpa using c4
     obtain ⟨m, rfl⟩ := Int.eq_ofNat_of_zero_le g2.1
     have hL := itoa_eq (n := m) (by omega)
     have hr : ofI (a, s, (m : Int), p) act = (regI a, 1, [digI (a, s, (m : Int), p) act 0, digI (a, s, (m : Int), p) act 1], labL s m) := by
       unfold ofI; rw [if_neg (by simp only; omega)]; rfl
     have hlN : (numL m).length ≤ 8 := decL_len.2
     have hlab : labL s m = s ++ [32] ++ numL m := rfl
     rw [hr, hlab]
     generalize digI (a, s, (m : Int), p) act 0 = D0 at *
     generalize digI (a, s, (m : Int), p) act 1 = D1 at *
     generalize numL m = N at *
     generalize regI a = R at *
     have tL : List.take (s.length + 1 + N.length) (s ++ [32] ++ N) = s ++ [32] ++ N := List.take_of_length_le (by simp; omega)
     have tl : (s ++ [32] ++ N).length = s.length + 1 + N.length := by simp; omega
     have t2 : (s ++ [32]).length = s.length + 1 := by simp
     have b1 : binT .add (strT s) (strT [32]) = some (strT (s ++ [32])) := bin_s_add (by simp; omega)
     have b2 : binT .add (strT (s ++ [32])) (strT N) = some (strT (s ++ [32] ++ N)) := bin_s_add (by simp; omega)
     simp (disch := omega) only [go_sem, seval, ac_event_OfImage, imT_def, evT_def, h1, hC, d4, h2, hR, h3, hD, b1, h4, hL, b2, tl, tL, List.take_length]
     all_goals rfl
 · have hr : ofI (a, s, v, p) act = (0, 0, [], []) := if_pos (.inl hz)
   rw [hr]
   have hz' : (chkI (a, s, v, p) != 0) = true := by simpa using hz
   simp (disch := omega) only [go_sem, seval, ac_event_OfImage, imT_def, evT_def, h1, hC, hz', List.map_nil]
end Go.Eng
end
section
set_option maxRecDepth 20000
namespace Go.Eng
open Go.MuLone
theorem decL_dec : ∀ {k n : Nat}, n < 10 ^ (k + 1) → Lib.decDigits n = decL k n
 | 0, n, h => by rw [decL, Lib.decDigits, dif_pos (by omega)]
 | k + 1, n, h => by
   rw [decL, Lib.decDigits]
   by_cases h10 : n < 10
   · rw [if_pos h10, dif_pos h10]
   · rw [if_neg h10, dif_neg h10, decL_dec (k := k) (n := n / 10) (by rw [Nat.pow_succ] at h; omega)]
theorem itoa_numL {n : Nat} (h : n ≤ 1000000) : Lib.itoa (n : Int) = numL n := by
 unfold Lib.itoa numL
 rw [if_neg (by omega), Int.toNat_natCast]
 exact decL_dec (by have : (10 : Nat) ^ (7 + 1) = 100000000 := by decide
                    omega)
def pow10T : List T := Lib.pow10Tab.map (T.int .u64)
theorem tab_is {P : Program} {nm : String} {g : Nat} {k : IntKind} {zs : List Int} {F : Nat → Prop} {w : World} (hg : P.globalNamed nm = some g)
   (h : RepV (fun _ => none) F w (.ro (zs.map (T.int k))) (.pointer (some ⟨g, 0, none⟩))) (hs : GSz w g (zs.map (T.int k)).length) : Lib.TabIs P w nm k zs := by
 obtain ⟨c, e, z, hc, hz⟩ := hs
 rw [List.length_map] at hz
 have hv : w.var? P nm = some c := by
   unfold World.var?
   rw [hg, Option.bind_some, hc]
 unfold Lib.TabIs
 rw [hv]
 congr 1
 cases h with
 | ro _ a news ha hn h1 hF hw h =>
   rw [List.length_map] at hn
   apply Array.ext
   · simp [hz]
   · intro i hi1 hi2
     have hi : i < zs.length := by omega
     have hn2 : i < news.length := by omega
     have hu : news[i]? = some news[i] := List.getElem?_eq_getElem hn2
     have hr := h i (.int k zs[i]) news[i] (by rw [List.getElem?_map, List.getElem?_eq_getElem hi]; rfl) hu
     have hcell := hw i _ hu
     have e : (⟨g, 0, none⟩ : Addr).add i = ⟨g, i, none⟩ := by
       unfold Addr.add; split
       · rename_i h0; rw [h0]
       · simp
     rw [e] at hcell
     unfold World.cell? at hcell
     simp only [hc] at hcell
     generalize news[i] = u at *
     cases hr
     have h2 : c[i]? = some (.int k zs[i]) := by simpa using hcell
     rw [Array.getElem?_eq_getElem hi1] at h2
     rw [Option.some.inj h2]
     simp
theorem ok_itoa {P : Program} {G : Gl} {f : FuncId} {fn : Func} {c : Code} {g : Nat} (hf : P.funcs[f]? = some fn) (hname : (fn.name == "runtime.NumGoroutine") = false) (hb : fn.body = some c) (hG : G g = some pow10T)
   (hg : P.globalNamed "internal/strconv.uint64pow10" = some g)
   (h : ∀ (n : Int) (_ : -9223372036854775808 ≤ n) (_ : n ≤ 9223372036854775807) (w : World), Lib.TabIs P w "internal/strconv.uint64pow10" .u64 Lib.pow10Tab → Calls P f #[.int .i64 n] w fun e w' => e = .returned (.string ⟨(Lib.itoa n).toArray⟩) ∧ ∃ k os, w' = Go.Sort.grow (w.drewN k) os) : FOk P G f ct_itoa.fs := by
 refine ct_itoa.ok (fun args w => run_callFunc_enter hf hname hb args w) (fun (x : Int) hx => ?_)
 intro w β F vals env fits hargs
 have hx1 : (0 : Int) ≤ (x : Int) := hx.1
 have hx2 : (x : Int) ≤ (1000000 : Int) := hx.2
 have hvals : vals = #[.int .i64 x] := by
   obtain ⟨l⟩ := vals
   cases hargs with
   | cons h1 h2 =>
     cases h2
     cases h1 with
     | t h => cases h; rfl
 subst hvals
 refine (h x (by omega) (by omega) w (tab_is hg (env.gl g _ hG) (env.gs g _ hG))).mono fun e w' he => ?_
 obtain ⟨rfl, k, os, rfl⟩ := he
 refine ⟨_, β, F, rfl, ?_⟩
 have hβ : ∀ k, β k = none := fun k => fits.dom k (Nat.zero_le _)
 obtain ⟨n, rfl⟩ := Int.eq_ofNat_of_zero_le hx1
 have hr : ct_itoa.r (n : Int) = .t (strT (numL n)) := by
   show V.t (strT (numL (n : Int).toNat)) = _
   rw [Int.toNat_natCast]
 have hL : Lib.itoa (n : Int) = numL n := itoa_numL (by omega)
 have hsz : w.heap.size ≤ (Go.Sort.grow (w.drewN k) os).heap.size := by
   show _ ≤ (w.heap ++ os).size
   rw [Array.size_append]; omega
 have hold : ∀ b, b < w.heap.size → (Go.Sort.grow (w.drewN k) os).heap[b]? = w.heap[b]? := by
   intro b hb
   show (w.heap ++ os)[b]? = _
   rw [Array.getElem?_append_left hb]
 refine ⟨⟨fun k o hk => (by simp [ct_itoa] at hk), fun k _ => hβ k, fun i j bi bj b h1 => (by rw [hβ] at h1; cases h1), fun k bi b h1 => (by rw [hβ] at h1; cases h1)⟩, ?_, fun _ _ => rfl, fun k bi b _ h1 => by (rw [hβ] at h1; cases h1), fun _ _ => Iff.rfl, fun b hb => Nat.lt_of_lt_of_le (env.Fw b hb) hsz, rfl, rfl, rfl, hsz, fun b hb _ => hold b hb⟩
 rw [hr, hL]
 exact .t (.str _)
end Go.Eng
end
section
set_option maxRecDepth 20000
namespace Go.Eng
theorem ok_mnz {P : Program} {G : Nat → Option (List T)} {f : FuncId} {fn : Func} {ps : Array TypeId} {t e : TypeId} (hf : P.funcs[f]? = some fn) (hname : (fn.name == "runtime.NumGoroutine") = false) (hb : fn.body.isNone = true) (hn : Extern.findNext fn = none)
   (he : Extern.find fn = some (Extern.BytealgMakeNoZero.makeNoZero ps #[t])) (ht : P.underlying t = some (.slice e)) : FOk P G f ct_mnz.fs := by
 intro as ins r outs hs
 have key : ∃ n : Nat, (n = 20 ∨ n = 32) ∧ as = [.t (.int .i64 n)] ∧ ins = [] ∧ r = .sl 0 0 n ∧ outs = [.live 1 [] true false] := by
   unfold Ct.fs at hs
   split at hs
   · rename_i hx
     cases hs
     have h1 := hx.choose_spec
     generalize hx.choose = y at h1 ⊢
     obtain ⟨⟨rfl, rfl⟩, h3⟩ := h1
     have h4 : (show Int from y) = 20 ∨ (show Int from y) = 32 := h3
     rcases h4 with h4 | h4
     · refine ⟨20, .inl rfl, ?_⟩
       have h5 : y = (20 : Int) := h4
       subst h5
       exact ⟨rfl, rfl, rfl, rfl⟩
     · refine ⟨32, .inr rfl, ?_⟩
       have h5 : y = (32 : Int) := h4
       subst h5
       exact ⟨rfl, rfl, rfl, rfl⟩
   · cases hs
 obtain ⟨n, hn2, rfl, rfl, rfl, rfl⟩ := key
 intro w β F vals env fits hargs
 have hvals : vals = #[.int .i64 n] := by
   obtain ⟨l⟩ := vals
   cases hargs with
   | cons h1 h2 =>
     cases h2
     cases h1 with
     | t h => cases h; rfl
 subst hvals
 obtain ⟨cs, hrun, hle, hmx⟩ := Lib.run_makeNoZero (P := P) w ps t e ht n (by omega)
 refine .inr ⟨.slice (some ⟨w.heap.size, 0, none⟩) n cs.size, w.drew.drew.alloc (.cells cs e), ?_, .slice (some ⟨w.heap.size, 0, none⟩) n cs.size, fun k => if k = 0 then some ⟨some w.heap.size, 1, cs.size⟩ else none, F, rfl, ?_⟩
 · rw [run_callFunc_extern hf hname hb hn he, hrun]; rfl
 · have hsz : (w.drew.drew.alloc (.cells cs e)).heap.size = w.heap.size + 1 := by
     show (w.heap.push _).size = _
     exact Array.size_push _
   have hnew : (w.drew.drew.alloc (.cells cs e)).heap[w.heap.size]? = some (.cells cs e) := by
     show (w.heap.push _)[w.heap.size]? = _
     simp
   have hold : ∀ b, b < w.heap.size → (w.drew.drew.alloc (.cells cs e)).heap[b]? = w.heap[b]? := by
     intro b hb
     show (w.heap.push _)[b]? = _
     rw [Array.getElem?_push, if_neg (by omega)]
   have hFb : ¬ F w.heap.size := fun h => absurd (env.Fw _ h) (by omega)
   have mx : n ≤ maxLen := by have : (32 : Nat) ≤ maxLen := by decide
                              omega
   refine ⟨⟨fun k o hk => ?_, fun k hk => ?_, fun i j bi bj b h1 h2 h3 h4 => ?_, fun k bi b h1 h2 => ?_⟩, ?_, fun k hk => ?_, fun k bi b _ h1 h2 => ?_, fun b _ => Iff.rfl, fun b hb => ?_, rfl, rfl, rfl, ?_, fun b hb _ => hold b hb⟩
   · cases k with
     | succ k => simp at hk
     | zero =>
       simp only [List.getElem?_cons_zero, Option.some.injEq] at hk
       subst hk
       refine ⟨_, if_pos rfl, ⟨rfl, by simp, cs, e, (0, 0), hnew, by omega, by simp, by simp, hmx mx, fun i x h => by simp at h, ?_⟩, 1, [], false, rfl⟩
       simpa using hFb
   · have : k ≠ 0 := by simp at hk; omega
     exact if_neg this
   · split at h1 <;> split at h2 <;> simp_all
   · split at h1
     · cases h1
       cases h2
       exact ⟨by rw [hsz]; omega, hFb⟩
     · cases h1
   · exact .sl 0 0 n cs.size w.heap.size 1 cs.size _ (if_pos rfl) hle (by omega) (fun _ => by simp) rfl
   · simp at hk
   · split at h1
     · cases h1
       cases h2
       exact Nat.le_refl _
     · cases h1
   · have := env.Fw b hb
     rw [hsz]; omega
   · rw [hsz]; omega
end Go.Eng
end
section
set_option maxRecDepth 20000
namespace Go.Eng
open Go.ChangeShapes Go.WideShapes Go.RowKit
inductive Ty where
 | int (k : IntKind)
 | bool
 | str
 | sl (e : Ty)
 | st (fs : List Ty)
mutual
def Ty.size : Ty → Nat
 | .st fs => Ty.sizeL fs
 | _ => 1
def Ty.sizeL : List Ty → Nat
 | [] => 0
 | f :: r => f.size + Ty.sizeL r
end
def isK (P : Program) (t : TypeId) (k : IntKind) : Bool := match P.underlying t with
 | some (.int k') => decide (k' = k)
 | _ => false
theorem isK_of {P : Program} {t : TypeId} {k : IntKind} (h : isK P t k = true) : P.underlying t = some (.int k) := by
 unfold isK at h
 split at h
 · rename_i h1; rw [h1, of_decide_eq_true h]
 · cases h
mutual
def Ty.ok (P : Program) : Ty → TypeId → Bool
 | .int k, t => isK P t k
 | .bool, t => match P.underlying t with | some .bool => true | _ => false
 | .str, t => match P.underlying t with | some .string => true | _ => false
 | .sl e, t => match P.underlying t with | some (.slice te) => e.ok P te && Nat.beq (P.cellsOf te) e.size && Nat.ble 1 e.size | _ => false
 | .st fs, t => Nat.beq (P.cellsOf t) (Ty.sizeL fs) && match P.underlying t with
   | some (.struct gs) => Ty.okF P fs gs.toList 0
   | some (.array n te) => Nat.beq fs.length n && Ty.okA P fs te
   | _ => false
def Ty.okF (P : Program) : List Ty → List Field → Nat → Bool
 | [], [], _ => true
 | f :: r, g :: gs, off => Nat.beq g.offset off && Nat.beq (P.cellsOf g.type) f.size && f.ok P g.type && Ty.okF P r gs (off + f.size)
 | _, _, _ => false
def Ty.okA (P : Program) : List Ty → TypeId → Bool
 | [], _ => true
 | f :: r, te => f.ok P te && Nat.beq (P.cellsOf te) f.size && Ty.okA P r te
end
mutual
def Ty.is : Ty → T → Prop
 | .int k, x => ∃ n, (Lit.int k n).wf = true ∧ x = .int k n
 | .bool, x => ∃ b, x = .bool b
 | .str, x => ∃ s : ByteArray, s.size ≤ maxLen ∧ x = .str s
 | .sl e, x => ∃ es : List T, es.length ≤ maxLen ∧ (∀ y ∈ es, e.is y) ∧ x = .sl es
 | .st fs, x => ∃ cs, Ty.isL fs cs ∧ x = .agg cs
def Ty.isL : List Ty → List T → Prop
 | [], cs => cs = []
 | f :: r, cs => ∃ x rest, f.is x ∧ Ty.isL r rest ∧ cs = x.cells ++ rest
end
mutual
theorem Ty.is_size : ∀ (ty : Ty) (x : T), ty.is x → x.cells.length = ty.size
 | .int k, x, h => by obtain ⟨n, _, rfl⟩ := h; rfl
 | .bool, x, h => by obtain ⟨n, rfl⟩ := h; rfl
 | .str, x, h => by obtain ⟨n, _, rfl⟩ := h; rfl
 | .sl e, x, h => by obtain ⟨es, _, _, rfl⟩ := h; rfl
 | .st fs, x, h => by
   obtain ⟨cs, h1, rfl⟩ := h
   show cs.length = Ty.sizeL fs
   exact Ty.isL_size fs cs h1
theorem Ty.isL_size : ∀ (fs : List Ty) (cs : List T), Ty.isL fs cs → cs.length = Ty.sizeL fs
 | [], cs, h => by cases h; rfl
 | f :: r, cs, h => by
   obtain ⟨x, rest, h1, h2, rfl⟩ := h
   rw [List.length_append, Ty.is_size f x h1, Ty.isL_size r rest h2, Ty.sizeL]
end
theorem pick_list {α : Type} {Q : Nat → α → Prop} : ∀ (n : Nat), (∀ i, i < n → ∃ y, Q i y) → ∃ l : List α, l.length = n ∧ ∀ i y, l[i]? = some y → Q i y
 | 0, _ => ⟨[], rfl, by simp⟩
 | n + 1, h => by
   obtain ⟨l, hl, hq⟩ := pick_list n (fun i hi => h i (by omega))
   obtain ⟨y, hy⟩ := h n (by omega)
   refine ⟨l ++ [y], by simp [hl], fun i z hz => ?_⟩
   rw [List.getElem?_append] at hz
   split at hz
   · exact hq i z hz
   · have h1 : i - l.length = 0 := by
       rcases Nat.eq_zero_or_pos (i - l.length) with h | h
       · exact h
       · rw [List.getElem?_eq_none (by simp; omega)] at hz; cases hz
     rw [h1] at hz
     simp only [List.getElem?_cons_zero, Option.some.injEq] at hz
     subst hz
     have : i = n := by omega
     subst this; exact hy
theorem cell_some {w : World} {a : Addr} {u : Value} (h : w.cell? a = some u) : a.block < w.heap.size ∧ a.spot = none := by
 unfold World.cell? at h
 split at h
 · rename_i hb
   refine ⟨(Array.getElem?_eq_some_iff.1 hb).1, ?_⟩
   split at h
   · cases h
   · rename_i hs
     simpa using hs
 · cases h
section
variable {H : Type} {enc : TypeId × Value → H} {P : Program} {w : World} {base : Nat} {sp : Nat → Bool} {held : Bool}
structure Reads (w : World) (ds : List T) (cs : List Value) : Prop where
 len : ds.length = cs.length
 one : ∀ u ∈ cs, u.oneCell' = true
 rep : ∀ (i : Nat) (c : T) (u : Value), ds[i]? = some c → cs[i]? = some u → Rep (fun b => b < w.heap.size) w c u
theorem Reads.one1 {x : T} {c : Value} (hc : c.oneCell' = true) (h : Rep (fun b => b < w.heap.size) w x c) : Reads w [x] [c] :=
 ⟨rfl, by simpa using hc, fun i d u hd hu => by
   cases i with
   | zero => simp only [List.getElem?_cons_zero, Option.some.injEq] at hd hu; subst hd; subst hu; exact h
   | succ i => simp at hd⟩
theorem Reads.app {ds es : List T} {cs vs : List Value} (h : Reads w ds cs) (h2 : Reads w es vs) : Reads w (ds ++ es) (cs ++ vs) := by
 refine ⟨by rw [List.length_append, List.length_append, h.len, h2.len], fun u hu => ?_, fun i c u hc hu => ?_⟩
 · rcases List.mem_append.1 hu with h3 | h3
   · exact h.one u h3
   · exact h2.one u h3
 · rw [List.getElem?_append] at hc hu
   rw [h.len] at hc
   split at hc
   · rename_i hl; rw [if_pos hl] at hu; exact h.rep i c u hc hu
   · rename_i hl; rw [if_neg hl] at hu; exact h2.rep _ c u hc hu
theorem Reads.nil : Reads w [] [] := ⟨rfl, by simp, fun i c u hc => by simp at hc⟩
theorem open_fields (n : Nat) (IH : ∀ (ty : Ty) (t : TypeId) (cs : List Value) (x : DataW H × List MemPlace), ty.ok P t = true → cs.length = ty.size → DataW.trod enc P w base sp held n t cs = some x → ∃ y : T, ty.is y ∧ Reads w y.cells cs) {cs : List Value} :
   ∀ (fs : List Ty) (gs : List Field) (off : Nat), Ty.okF P fs gs off = true → off + Ty.sizeL fs = cs.length → (∀ g ∈ gs, ∃ x, DataW.trod enc P w base sp held n g.type ((cs.drop g.offset).take (P.cellsOf g.type)) = some x) →
     ∃ ds, Ty.isL fs ds ∧ Reads w ds (cs.drop off)
 | [], [], off, _, hl, _ => ⟨[], rfl, by
     have : cs.drop off = [] := List.drop_eq_nil_of_le (by simp only [Ty.sizeL] at hl; omega)
     rw [this]; exact Reads.nil⟩
 | [], _ :: _, _, h, _, _ => by simp [Ty.okF] at h
 | _ :: _, [], _, h, _, _ => by simp [Ty.okF] at h
 | f :: r, g :: gs, off, h, hl, hg => by
   simp only [Ty.okF, Bool.and_eq_true] at h
   obtain ⟨⟨⟨h1, h2⟩, h3⟩, h4⟩ := h
   have e1 := Nat.eq_of_beq_eq_true h1
   have e2 := Nat.eq_of_beq_eq_true h2
   simp only [Ty.sizeL] at hl
   obtain ⟨ds, hd1, hd2⟩ := open_fields n IH r gs (off + f.size) h4 (by omega) (fun g' hg' => hg g' (.tail _ hg'))
   obtain ⟨x, hx⟩ := hg g (.head _)
   rw [e1, e2] at hx
   obtain ⟨y, hy1, hy2⟩ := IH f g.type _ x h3 (by simp; omega) hx
   refine ⟨y.cells ++ ds, ⟨y, ds, hy1, hd1, rfl⟩, ?_⟩
   have e3 : cs.drop off = (cs.drop off).take f.size ++ cs.drop (off + f.size) := by
     rw [← List.drop_drop, List.take_append_drop]
   rw [e3]
   exact hy2.app hd2
theorem open_array (n : Nat) (IH : ∀ (ty : Ty) (t : TypeId) (cs : List Value) (x : DataW H × List MemPlace), ty.ok P t = true → cs.length = ty.size → DataW.trod enc P w base sp held n t cs = some x → ∃ y : T, ty.is y ∧ Reads w y.cells cs) {cs : List Value} {te : TypeId} :
   ∀ (fs : List Ty) (i : Nat), Ty.okA P fs te = true → i * P.cellsOf te + Ty.sizeL fs = cs.length → (∀ j, j < fs.length → ∃ x, DataW.trod enc P w base sp held n te ((cs.drop ((i + j) * P.cellsOf te)).take (P.cellsOf te)) = some x) →
     ∃ ds, Ty.isL fs ds ∧ Reads w ds (cs.drop (i * P.cellsOf te))
 | [], i, _, hl, _ => ⟨[], rfl, by
     have : cs.drop (i * P.cellsOf te) = [] := List.drop_eq_nil_of_le (by simp only [Ty.sizeL] at hl; omega)
     rw [this]; exact Reads.nil⟩
 | f :: r, i, h, hl, hg => by
   simp only [Ty.okA, Bool.and_eq_true] at h
   obtain ⟨⟨h3, h2⟩, h4⟩ := h
   have e2 := Nat.eq_of_beq_eq_true h2
   simp only [Ty.sizeL] at hl
   have e4 : (i + 1) * P.cellsOf te = i * P.cellsOf te + f.size := by rw [Nat.add_mul, Nat.one_mul, e2]
   obtain ⟨ds, hd1, hd2⟩ := open_array n IH (cs := cs) r (i + 1) h4 (by rw [e4]; omega) (fun j hj => by
     have := hg (j + 1) (by simp; omega)
     rw [show i + 1 + j = i + (j + 1) by omega]; exact this)
   obtain ⟨x, hx⟩ := hg 0 (by simp)
   rw [Nat.add_zero, e2, ← e2] at hx
   obtain ⟨y, hy1, hy2⟩ := IH f te _ x h3 (by rw [e2] at hl ⊢; rw [List.length_take, List.length_drop]; omega) hx
   refine ⟨y.cells ++ ds, ⟨y, ds, hy1, hd1, rfl⟩, ?_⟩
   have e3 : cs.drop (i * P.cellsOf te) = (cs.drop (i * P.cellsOf te)).take (P.cellsOf te) ++ cs.drop ((i + 1) * P.cellsOf te) := by
     rw [e4, ← e2, ← List.drop_drop, List.take_append_drop]
   rw [e3]
   exact hy2.app hd2
theorem open_cells : ∀ (n : Nat) (ty : Ty) (t : TypeId) (cs : List Value) (x : DataW H × List MemPlace), ty.ok P t = true → cs.length = ty.size → DataW.trod enc P w base sp held n t cs = some x → ∃ y : T, ty.is y ∧ Reads w y.cells cs := by
 intro n
 induction n with
 | zero => intro ty t cs x _ _ h; simp [DataW.trod] at h
 | succ n IH =>
   intro ty t cs x hty hlen h
   cases ty with
   | int k =>
     obtain ⟨m, rfl, _, hw⟩ := DataW.trod_int (isK_of hty) h
     exact ⟨.int k m, ⟨m, hw, rfl⟩, .one1 rfl (.int k m)⟩
   | bool =>
     simp only [Ty.ok] at hty
     split at hty
     · rename_i hu
       obtain ⟨b, rfl, _⟩ := DataW.trod_bool hu h
       exact ⟨.bool b, ⟨b, rfl⟩, .one1 rfl (.bool b)⟩
     · cases hty
   | str =>
     simp only [Ty.ok] at hty
     split at hty
     · rename_i hu
       obtain ⟨s, rfl, _, hs⟩ := DataW.trod_string hu h
       exact ⟨.str s, ⟨s, hs, rfl⟩, .one1 rfl (.str s)⟩
     · cases hty
   | sl e =>
     simp only [Ty.ok] at hty
     split at hty
     · rename_i te hu
       simp only [Bool.and_eq_true] at hty
       obtain ⟨⟨h1, h2⟩, h3⟩ := hty
       have e2 := Nat.eq_of_beq_eq_true h2
       have e3 := Nat.le_of_ble_eq_true h3
       rcases DataW.trod_slice hu h with ⟨rfl, _⟩ | ⟨a, len, cap, elems, rest, m, hm, rfl, _, _, hlc, hcm, hel, hget, _, _⟩
       · exact ⟨.sl [], ⟨[], by simp, by simp, rfl⟩, .one1 rfl .nil⟩
       · cases hm
         have hcells : ∀ i, i < len → ∃ y : T, e.is y ∧ ∃ cs', Reads w y.cells cs' ∧ cs'.length = e.size ∧ ∀ j, j < e.size → w.cell? ((a.add (i * e.size)).add j) = cs'[j]? := by
           intro i hi
           have hg := hget i hi
           have : elems[i]? = some elems[i] := List.getElem?_eq_getElem (by omega)
           rw [this, Option.bind_eq_some_iff] at hg
           obtain ⟨cs', hc, ht⟩ := hg
           obtain ⟨_, hl, hcell⟩ := World.cells?_some hc
           rw [e2] at hl hcell
           obtain ⟨y, hy1, hy2⟩ := IH e te cs' _ h1 hl ht
           exact ⟨y, hy1, cs', hy2, hl, hcell⟩
         obtain ⟨es, hes, hq⟩ := pick_list len hcells
         have hz : ∀ y ∈ es, y.cells.length = e.size := fun y hy => by
           obtain ⟨i, hi⟩ := List.getElem?_of_mem hy
           exact e.is_size y (hq i y hi).1
         have hcellk : ∀ k, k < len * e.size → ∃ (i j : Nat) (y : T) (cs' : List Value) (u : Value), k = i * e.size + j ∧ j < e.size ∧ es[i]? = some y ∧ Reads w y.cells cs' ∧ cs'[j]? = some u ∧ w.cell? (a.add k) = some u := by
           intro k hk
           have hi : k / e.size < len := (Nat.div_lt_iff_lt_mul (by omega)).2 hk
           have hj : k % e.size < e.size := Nat.mod_lt _ (by omega)
           have hy : es[k / e.size]? = some es[k / e.size] := List.getElem?_eq_getElem (by omega)
           obtain ⟨_, cs', hr, hl, hc⟩ := hq _ _ hy
           have hu : cs'[k % e.size]? = some cs'[k % e.size] := List.getElem?_eq_getElem (by omega)
           have ek : k = k / e.size * e.size + k % e.size := by rw [Nat.mul_comm]; exact (Nat.div_add_mod k e.size).symm
           refine ⟨_, _, _, cs', _, ek, hj, hy, hr, hu, ?_⟩
           rw [← hu, ← hc _ hj, Addr.add_add, ← ek]
         refine ⟨.sl es, ⟨es, by omega, fun y hy => ?_, rfl⟩, .one1 rfl ?_⟩
         · obtain ⟨i, hi⟩ := List.getElem?_of_mem hy
           exact (hq i y hi).1
         · have hnl : ((List.range (len * e.size)).map fun k => (w.cell? (a.add k)).getD default).length = len * e.size := by simp
           have hnews : ∀ k u, ((List.range (len * e.size)).map fun k => (w.cell? (a.add k)).getD default)[k]? = some u → k < len * e.size ∧ w.cell? (a.add k) = some u := by
             intro k u hu
             have hk : k < len * e.size := by
               rcases Nat.lt_or_ge k (len * e.size) with h | h
               · exact h
               · rw [List.getElem?_eq_none (by omega)] at hu; cases hu
             obtain ⟨_, _, _, _, u', _, _, _, _, _, hc⟩ := hcellk k hk
             rw [List.getElem?_map, List.getElem?_range hk, Option.map_some, hc, Option.getD_some, Option.some.injEq] at hu
             subst hu
             exact ⟨hk, hc⟩
           have h0 : es ≠ [] → a.block < w.heap.size ∧ a.spot = none := by
             intro hne
             have hlp : 0 < len := by
               rw [← hes]; exact List.length_pos_iff.2 hne
             obtain ⟨_, _, _, _, u', _, _, _, _, _, hc⟩ := hcellk 0 (Nat.mul_pos hlp (by omega))
             have e9 : a.add 0 = a := by simp [Addr.add]
             rw [e9] at hc
             exact cell_some hc
           have key := Rep.sl (F := fun b => b < w.heap.size) (w := w) es a cap e.size _ (fun hne => (h0 hne).2) (by omega) (by rw [hes]; exact hnl) (fun u hu => by
             obtain ⟨k, hk⟩ := List.getElem?_of_mem hu
             obtain ⟨hk1, hk2⟩ := hnews k u hk
             obtain ⟨_, _, _, cs', u', _, _, _, hr, hcu, hc⟩ := hcellk k hk1
             rw [hk2] at hc; cases hc
             exact hr.one u (List.mem_of_getElem? hcu)) (fun hne => (h0 hne).1) (fun k u hk => (hnews k u hk).2) hz
             (fun i y j c u hy hc hu => by
               obtain ⟨hk1, hk2⟩ := hnews _ u hu
               obtain ⟨i', j', y', cs', u', e1, hj', hy', hr, hcu, hc'⟩ := hcellk _ hk1
               rw [hk2] at hc'; cases hc'
               have hj : j < e.size := by rw [← hz y (List.mem_of_getElem? hy)]; exact (List.getElem?_eq_some_iff.1 hc).1
               have ei : i = i' ∧ j = j' := by
                 have h5 := congrArg (· / e.size) e1
                 have h6 := congrArg (· % e.size) e1
                 simp only [Nat.mul_comm _ e.size, Nat.mul_add_div (show 0 < e.size by omega), Nat.mul_add_mod, Nat.div_eq_of_lt hj, Nat.div_eq_of_lt hj', Nat.mod_eq_of_lt hj, Nat.mod_eq_of_lt hj'] at h5 h6
                 exact ⟨by omega, h6⟩
               obtain ⟨rfl, rfl⟩ := ei
               rw [hy] at hy'; cases hy'
               exact hr.rep j c u hc hcu)
           rw [hes] at key
           exact key
     · cases hty
   | st fs =>
     simp only [Ty.ok, Bool.and_eq_true] at hty
     obtain ⟨h0, hty⟩ := hty
     have e0 := Nat.eq_of_beq_eq_true h0
     split at hty
     · rename_i gs hu
       obtain ⟨xs, m, hm, _, hl, hxl, hget⟩ := DataW.trod_struct hu h
       cases hm
       obtain ⟨ds, hd1, hd2⟩ := open_fields n IH (cs := cs) fs gs.toList 0 hty (by omega) (fun g hg => by
         obtain ⟨i, hi⟩ := List.getElem?_of_mem hg
         have hi' : gs[i]? = some g := by simpa using hi
         have hlt : i < xs.length := by rw [hxl]; exact (Array.getElem?_eq_some_iff.1 hi').1
         exact ⟨xs[i], by rw [hget i g hi']; exact List.getElem?_eq_getElem hlt⟩)
       rw [List.drop_zero] at hd2
       exact ⟨.agg ds, ⟨ds, hd1, rfl⟩, hd2⟩
     · rename_i m te hu
       simp only [Bool.and_eq_true] at hty
       have e5 := Nat.eq_of_beq_eq_true hty.1
       obtain ⟨xs, m', hm, _, hl, hxl, hget⟩ := DataW.trod_array hu h
       cases hm
       obtain ⟨ds, hd1, hd2⟩ := open_array n IH (cs := cs) fs 0 hty.2 (by omega) (fun j hj => by
         have hlt : j < xs.length := by omega
         rw [Nat.zero_add]
         exact ⟨xs[j], by rw [hget j (by omega)]; exact List.getElem?_eq_getElem hlt⟩)
       rw [Nat.zero_mul, List.drop_zero] at hd2
       exact ⟨.agg ds, ⟨ds, hd1, rfl⟩, hd2⟩
     · cases hty
theorem open_value {ty : Ty} {t : TypeId} {v : Value} {d : DataW H} {ps : List MemPlace} {b0 : Nat} (hty : ty.ok P t = true) (hval : Value.okWide P w .any b0 t v) (h : DataW.Trod enc P w base sp held t v d ps) :
   ∃ y : T, ty.is y ∧ Rep (fun b => b < w.heap.size) w y v := by
 obtain ⟨n, hn⟩ := h
 have scalar : ∀ c, v = c → c.cells = #[c] → ty.size = 1 → (∀ y : T, ty.is y → y.cells = [y]) → ∃ y : T, ty.is y ∧ Rep (fun b => b < w.heap.size) w y v := by
   intro c hv hc hs hy
   subst hv
   rw [hc] at hn
   obtain ⟨y, h1, h2⟩ := open_cells n ty t _ _ hty (by rw [hs]; rfl) hn
   rw [hy y h1] at h2
   exact ⟨y, h1, h2.rep 0 y v rfl rfl⟩
 cases ty with
 | int k =>
   obtain ⟨m, hv⟩ := okWide_int (isK_of hty) hval
   exact scalar _ hv rfl rfl (fun y hy => by obtain ⟨_, _, rfl⟩ := hy; rfl)
 | bool =>
   simp only [Ty.ok] at hty
   split at hty
   · rename_i hu
     obtain ⟨m, hv⟩ := okWide_bool hu hval
     exact scalar _ hv rfl rfl (fun y hy => by obtain ⟨_, rfl⟩ := hy; rfl)
   · cases hty
 | str =>
   simp only [Ty.ok] at hty
   split at hty
   · rename_i hu
     obtain ⟨m, hv⟩ := okWide_string hu hval
     exact scalar _ hv rfl rfl (fun y hy => by obtain ⟨_, _, rfl⟩ := hy; rfl)
   · cases hty
 | sl e =>
   have hty' := hty
   simp only [Ty.ok] at hty'
   split at hty'
   · rename_i te hu
     obtain ⟨a, l, c, hv⟩ := okWide_slice hu hval
     exact scalar _ hv rfl rfl (fun y hy => by obtain ⟨_, _, _, rfl⟩ := hy; rfl)
   · cases hty'
 | st fs =>
   have hagg : ∃ cs, v = .agg cs ∧ cs.size = P.cellsOf t := by
     have hty' := hty
     simp only [Ty.ok, Bool.and_eq_true] at hty'
     obtain ⟨_, h2⟩ := hty'
     unfold Value.okWide at hval
     split at h2
     · rename_i hu; rw [hu] at hval; obtain ⟨cs, h3, h4, _⟩ := hval; exact ⟨cs, h3, h4⟩
     · rename_i hu; rw [hu] at hval; obtain ⟨cs, h3, h4, _⟩ := hval; exact ⟨cs, h3, h4⟩
     · cases h2
   obtain ⟨cs, rfl, hsz⟩ := hagg
   have hsz2 : cs.size = Ty.sizeL fs := by
     simp only [Ty.ok, Bool.and_eq_true] at hty
     rw [hsz]; exact Nat.eq_of_beq_eq_true hty.1
   obtain ⟨y, h1, h2⟩ := open_cells n (.st fs) t _ _ hty (by show cs.toList.length = Ty.sizeL fs; simpa using hsz2) hn
   obtain ⟨ds, h3, rfl⟩ := h1
   refine ⟨.agg ds, ⟨ds, h3, rfl⟩, .agg ds cs ?_ ?_ ?_⟩
   · have := h2.len; simpa [Value.cells, T.cells] using this.symm
   · intro u hu; exact h2.one u (by simpa [Value.cells] using hu)
   · intro i c u hc hu; exact h2.rep i c u hc (by simpa [Value.cells] using hu)
theorem open_args : ∀ {tys : List Ty} {ts : List TypeId} {vs : List Value} {ds : List (DataW H)} {ps : List MemPlace} {b0 : Nat}, All2 (fun (ty : Ty) (t : TypeId) => ty.ok P t = true) tys ts →
   (∀ (j : Nat) t v, ts[j]? = some t → vs[j]? = some v → Value.okWide P w .any b0 t v) → DataW.TrodAll enc P w base sp held ts vs ds ps →
   ∃ ys : List T, All2 (fun (ty : Ty) (y : T) => ty.is y) tys ys ∧ All2 (RepV (fun _ => none) (fun b => b < w.heap.size) w) (ys.map V.t) vs
 | [], ts, vs, ds, ps, b0, h, hv, hd => by
   cases h
   obtain ⟨rfl, _, _⟩ := trodAll_nil hd
   exact ⟨[], .nil, .nil⟩
 | ty :: tys, ts, vs, ds, ps, b0, h, hv, hd => by
   cases h with
   | cons h1 h2 =>
     obtain ⟨v, vs', d, ds', p, q, rfl, rfl, rfl, hd1, hd2⟩ := trodAll_cons hd
     obtain ⟨y, hy1, hy2⟩ := open_value h1 (hv 0 _ v rfl rfl) hd1
     obtain ⟨ys, h3, h4⟩ := open_args h2 (fun j t v' ht hv' => hv (j + 1) t v' ht hv') hd2
     exact ⟨y :: ys, .cons hy1 h3, .cons (.t hy2) h4⟩
end
end Go.Eng
end
section
set_option maxRecDepth 20000
namespace Go.Eng
open Go.ChangeShapes Go.WideShapes Go.RowKit Go.WideElems
section
variable {H : Type} {enc : TypeId × Value → H} {P : Program}
theorem same_of_old {W W' : World} (hfr : ∀ b, b < W.heap.size → W'.heap[b]? = W.heap[b]?) {p : MemPlace} (hp : p.block < W.heap.size) : W.sameAt W' p := by
 cases p with
 | cell b off => exact World.cell?_of_block (hfr b hp)
 | map b => exact hfr b hp
theorem args_stay (hl : laidOutB P = true) {W W' : World} (hfr : ∀ b, b < W.heap.size → W'.heap[b]? = W.heap[b]?) {sp : Nat → Bool} :
   ∀ {ts : List TypeId} {vs : List Value} {ds : List (DataW H)} {ps : List MemPlace}, (∀ t ∈ ts, P.readableRec t = true ∧ t < P.types.size) → (∀ p ∈ ps, p.block < W.heap.size ∧ sp p.block = true) →
     DataW.TrodAll enc P W 0 (fun _ => true) true ts vs ds ps → DataW.TrodAll enc P W' 0 sp true ts vs ds ps
 | [], vs, ds, ps, _, _, h => by
   obtain ⟨rfl, rfl, rfl⟩ := trodAll_nil h
   exact trodAll_mk0
 | t :: ts, vs, ds, ps, ht, hp, h => by
   obtain ⟨v, vs', d, ds', p, q, rfl, rfl, rfl, h1, h2⟩ := trodAll_cons h
   obtain ⟨hr, hrow⟩ := ht t (.head _)
   exact ⟨p, q, Trod_stays hl hr hrow h1 (fun x hx => same_of_old hfr (hp x (List.mem_append_left _ hx)).1) (fun x hx => (hp x (List.mem_append_left _ hx)).2),
     args_stay hl hfr (fun t' ht' => ht t' (.tail _ ht')) (fun x hx => hp x (List.mem_append_right _ hx)) h2, rfl⟩
theorem law_post {fn : Func} {s : ChangeSpec} {tb : TypeId} {apart fresh handsOn again : Bool} {W W' : World} {args : Array Value} {ds gs : List (DataW H)} {before : List MemPlace}
   (hl : laidOutB P = true) (hts : ∀ t ∈ fn.params.toList, P.readableRec t = true ∧ t < P.types.size) (hrt : fn.resultTypes = #[tb]) (hb : P.underlying tb = some .bool) (hsv : s.vars = [])
   (hfn : (s.fn H (ds ++ gs)).results = [.lit (.bool true)] ∧ (s.fn H (ds ++ gs)).args = ds ∧ (s.fn H (ds ++ gs)).vars = [])
   (hW : DataW.Whole enc P fn.params.toList s.vars apart W args.toList ds gs before)
   (hos : W'.os = W.os) (hout : W'.output = W.output) (hfr : ∀ b, b < W.heap.size → W'.heap[b]? = W.heap[b]?) :
   s.post enc P fn apart fresh handsOn again W args (.bool true) W' := by
 have hlt : ∀ p ∈ before, p.block < W.heap.size := fun p hp => hW.lt p hp
 have hW' := hW
 obtain ⟨p, q, hA, hV, rfl, hz, hn⟩ := hW'
 rw [hsv] at hV
 obtain ⟨rfl, rfl⟩ := trodVars_none hV
 have hres : ∀ (b : Nat) (sp : Nat → Bool) (hd : Bool), DataW.TrodAll enc P W' b sp hd fn.resultTypes.toList ((Value.bool true).resultList fn.resultTypes.size) (s.fn H (ds ++ [])).results [] := by
   intro b sp hd
   rw [hrt, hfn.1]
   exact trodAll_mk1 (shut_bool hb true)
 have hargs : ∀ sp : Nat → Bool, (∀ x ∈ p ++ [], sp x.block = true) → DataW.TrodAll enc P W' 0 sp true fn.params.toList args.toList (s.fn H (ds ++ [])).args p := by
   intro sp hsp
   rw [hfn.2.1]
   exact args_stay hl hfr hts (fun x hx => ⟨hlt x (by simpa using hx), hsp x (by simpa using hx)⟩) hA
 have hvars : ∀ sp : Nat → Bool, DataW.TrodVars enc P W' sp s.vars (s.fn H (ds ++ [])).vars [] := by
   intro sp
   rw [hsv, hfn.2.2]
   rfl
 refine ⟨ds, [], _, [], p, [], hW, hres _ _ _, hargs _ (fun x hx => by simpa using hlt x hx), hvars _, ⟨hos, hout, fun i hi => ?_⟩, fun _ => ?_⟩
 · have e := hfr i hi
   revert e
   generalize W'.heap[i]? = o'
   intro e
   subst e
   split
   · rename_i h1 h2
     rw [h1] at h2
     cases h2
     exact ⟨rfl, rfl, rfl, fun _ _ => rfl⟩
   · rename_i h1 h2
     rw [h1] at h2
     cases h2
     exact .inr ⟨rfl, rfl⟩
   · rfl
 · refine ⟨ok_one hrt rfl (okWide_bool_mk hb _), _, _, ([] ++ p) ++ [], ⟨[] ++ p, [], trodAll_append (hargs _ (fun _ _ => rfl)) (hres _ _ _), hvars _, rfl, ?_, ?_⟩, ?_⟩
   · intro b off hx
     have hx' : MemPlace.cell b off ∈ p ++ [] := by simpa using hx
     have e : W'.frozen? ⟨b, off, none⟩ = W.frozen? ⟨b, off, none⟩ := by
       unfold World.frozen?
       rw [hfr b (hlt _ hx')]
     rw [e]
     exact hz b off hx'
   · intro ha
     have := hn ha
     simpa using this
   · intro x hx _
     simpa using hx
theorem laid_each {w : World} : ∀ {laid : List (String × DataW Unit)} {ps : List MemPlace}, DataW.LaidVars P w laid ps → ∀ x ∈ laid, ∃ g t cs fuel p, P.globalNamed x.1 = some g ∧ (P.globals[g]?).map (·.type) = some t ∧ w.var? P x.1 = some cs ∧
     DataW.trod (fun _ => ()) P w 0 (fun _ => true) false fuel t cs.toList = some (x.2, p)
 | [], _, _, x, hx => by cases hx
 | y :: r, ps, h, x, hx => by
   obtain ⟨g, t, cs, fuel, p, q, h1, h2, h3, h4, h5, _⟩ := h
   rcases List.mem_cons.1 hx with rfl | hx
   · exact ⟨g, t, cs, fuel, p, h1, h2, h3, h4⟩
   · exact laid_each h5 x hx
theorem ro_ints {w : World} {nm : String} {g t e n : Nat} {k : IntKind} {ns : List Int} {cs : Array Value} {fuel : Nat} {p : List MemPlace} {F : Nat → Prop} (hg : P.globalNamed nm = some g) (hv : w.var? P nm = some cs)
   (ht : P.underlying t = some (.array n e)) (he : P.underlying e = some (.int k)) (hc : P.cellsOf e = 1) (hct : P.cellsOf t = n) (hn : 0 < ns.length)
   (h : DataW.trod (fun _ => ()) P w 0 (fun _ => true) false fuel t cs.toList = some (.agg (ns.map fun m => .lit (.int k m)), p)) (hF : g < w.heap.size → F g) :
   RepV (fun _ => none) F w (.ro (ns.map (T.int k))) (.pointer (some ⟨g, 0, none⟩)) := by
 obtain ⟨xs, m, _, hx, hl, hxl, hget⟩ := DataW.trod_array ht h
 simp only [Prod.mk.injEq, DataW.agg.injEq] at hx
 have hlen : ns.length = n := by
   have := congrArg List.length hx.1
   simp only [List.length_map] at this
   omega
 have hcl : cs.toList.length = n := by rw [hl, hct]
 have hcell : ∀ i, i < n → cs.toList[i]? = some (.int k (ns.getD i 0)) := by
   intro i hi
   have h1 := hget i hi
   have h2 : xs[i]? = some xs[i] := List.getElem?_eq_getElem (by omega)
   rw [h2, hc, Nat.mul_one] at h1
   obtain ⟨z, hz1, hz2, _⟩ := DataW.trod_int he h1
   have h3 : cs.toList[i]? = some (.int k z) := by
     have h4 := congrArg (fun l => l[0]?) hz1
     simp only [List.getElem?_take, List.getElem?_drop, Nat.add_zero, List.getElem?_cons_zero] at h4
     simpa using h4
   have h5 := congrArg (fun l => l[i]?) hx.1
   simp only [List.getElem?_map, h2, Option.map_some, hz2] at h5
   have h6 : ns[i]? = some ns[i] := List.getElem?_eq_getElem (by omega)
   rw [h6] at h5
   simp only [Option.map_some, Option.some.injEq, DataW.lit.injEq, Lit.int.injEq, true_and] at h5
   rw [h3, List.getD_eq_getElem?_getD, h6, h5]; rfl
 have hw : ∀ j, w.cell? ((⟨g, 0, none⟩ : Addr).add j) = cs.toList[j]? := by
   intro j
   have e : (⟨g, 0, none⟩ : Addr).add j = ⟨g, j, none⟩ := by
     unfold Addr.add; split
     · rename_i h0; rw [h0]
     · simp
   rw [e, World.var?_cell hg hv j, Array.getElem?_toList]
 refine .ro (ns.map (T.int k)) ⟨g, 0, none⟩ cs.toList rfl (by rw [hcl, List.length_map, hlen]) ?_ (hF ?_) (fun j u hu => (hw j).trans hu) ?_
 · intro u hu
   obtain ⟨i, hi⟩ := List.getElem?_of_mem hu
   rw [hcell i (by rw [← hcl]; exact (List.getElem?_eq_some_iff.1 hi).1)] at hi
   cases hi; rfl
 · have h0 := hw 0
   rw [hcell 0 (by omega)] at h0
   have := (cell_some h0).1
   rw [add_block] at this
   exact this
 · intro j c u hcj hu
   rw [List.getElem?_map, Option.map_eq_some_iff] at hcj
   obtain ⟨z, hz, rfl⟩ := hcj
   rw [hcell j (by rw [← hlen]; exact (List.getElem?_eq_some_iff.1 hz).1)] at hu
   cases hu
   rw [List.getD_eq_getElem?_getD, hz]
   exact .int k z
theorem gs_ints {w : World} {nm : String} {g t e n : Nat} {k : IntKind} {ns : List Int} {cs : Array Value} {fuel : Nat} {p : List MemPlace} (hg : P.globalNamed nm = some g) (hv : w.var? P nm = some cs)
   (ht : P.underlying t = some (.array n e)) (hct : P.cellsOf t = n)
   (h : DataW.trod (fun _ => ()) P w 0 (fun _ => true) false fuel t cs.toList = some (.agg (ns.map fun m => .lit (.int k m)), p)) : GSz w g (ns.map (T.int k)).length := by
 obtain ⟨xs, m, _, hx, hl, hxl, hget⟩ := DataW.trod_array ht h
 simp only [Prod.mk.injEq, DataW.agg.injEq] at hx
 have hlen : ns.length = n := by
   have := congrArg List.length hx.1
   simp only [List.length_map] at this
   omega
 have hcl : cs.toList.length = n := by rw [hl, hct]
 unfold World.var? at hv
 rw [hg, Option.bind_some] at hv
 split at hv
 · rename_i c e z hc
   cases hv
   exact ⟨_, e, z, hc, by rw [List.length_map, hlen, ← hcl]; simp⟩
 · cases hv
theorem trodAll_length {w : World} {base : Nat} {sp : Nat → Bool} {held : Bool} : ∀ {ts : List TypeId} {vs : List Value} {ds : List (DataW H)} {ps : List MemPlace}, DataW.TrodAll enc P w base sp held ts vs ds ps → ds.length = ts.length
 | [], _, _, _, h => by obtain ⟨rfl, rfl, rfl⟩ := trodAll_nil h; rfl
 | _ :: _, _, _, _, h => by
   obtain ⟨_, _, _, _, _, _, rfl, rfl, rfl, _, h2⟩ := trodAll_cons h
   simp [trodAll_length h2]
end
theorem law_lifted {H : Type} {enc : TypeId × Value → H} {C : Checked} {os : Os} {f : FuncId} {fn : Func} {s : ChangeSpec} {laid : List (String × DataW Unit)} {tys : List Ty} {G : Nat → Option (List T)} {tb : TypeId} {apart fresh handsOn again : Bool}
   (own : ownKnob C.prog.godebug = none) (started : os.Started) (noInit : C.prog.inits.idxOf? f = none) (hfn : C.prog.funcs[f]? = some fn)
   (witness : ∃ (w : World) (tape : Tape) (i : Input), w.os = os ∧ (w.forCall tape i).Shaped C.prog ∧ i.vars = [] ∧ Input.okWide C.prog (w.forCall tape i) .any w.heap.size f i ∧
     ((s.pre enc C.prog fn [] apart (w.forCall tape i).memory i.args ∧ laidMetH C.prog laid (w.forCall tape i).memory) ∧ sizedMet enc C.prog fn (OpenSpec.ofChange s) apart (w.forCall tape i).memory i.args) ∧ ({} : Assume).holds C.prog (lone (Frame.enter C.prog f i.args .normal) [] (w.forCall tape i)))
   (hl : laidOutB C.prog = true) (hts : fn.params.toList.all (fun t => C.prog.readableRec t && Nat.blt t C.prog.types.size) = true) (hrt : fn.resultTypes = #[tb]) (hb : C.prog.underlying tb = some .bool) (hsv : s.vars = [])
   (hspec : ∀ ds : List (DataW H), ds.length = tys.length → (s.fn H ds).results = [.lit (.bool true)] ∧ (s.fn H ds).args = ds ∧ (s.fn H ds).vars = [])
   (htys : All2 (fun (ty : Ty) (t : TypeId) => ty.ok C.prog t = true) tys fn.params.toList)
   (henv : ∀ W, laidMetH C.prog laid W → EnvOk G (fun b => b < W.heap.size) W)
   (hlaw : ∀ ys, All2 (fun (ty : Ty) (y : T) => ty.is y) tys ys → Spec C.prog G f (ys.map V.t) [] (.t (.bool true)) []) :
   ReturnsInHanded {} C os f .any (fun w args => (s.pre enc C.prog fn [] apart w args ∧ laidMetH C.prog laid w) ∧ sizedMet enc C.prog fn (OpenSpec.ofChange s) apart w args) (s.post enc C.prog fn apart fresh handsOn again) := by
 have hts' : ∀ t ∈ fn.params.toList, C.prog.readableRec t = true ∧ t < C.prog.types.size := by
   intro t ht
   have := List.all_eq_true.1 hts t ht
   rw [Bool.and_eq_true] at this
   exact ⟨this.1, by simpa [Nat.blt_eq] using this.2⟩
 refine returnsInHanded_of_change_and (C := C) (X := fun w _ => laidMetH C.prog laid w) (fun _ _ _ hh h => laidMetH.of_heap hh h) own started noInit hfn witness ?_
 intro W base args ds gs before hval hW _ _ hL _
 have hW' := hW
 obtain ⟨p, q, hA, hV, rfl, _, _⟩ := hW'
 rw [hsv] at hV
 obtain ⟨rfl, rfl⟩ := trodVars_none hV
 obtain ⟨ys, hys, hreps⟩ := open_args htys (fun j t v ht hv => hval j t v (by simpa using ht) (by simpa using hv)) hA
 have hlen : ds.length = tys.length := by rw [trodAll_length hA, htys.length]
 have hcall := hlaw ys hys W (fun _ => none) (fun b => b < W.heap.size) args (henv W hL)
   ⟨fun k o h => by simp at h, fun _ _ => rfl, fun _ _ _ _ _ h => by simp at h, fun _ _ _ h => by simp at h⟩ hreps
 refine hcall.mono fun e W' ⟨x, β', F', he, hp⟩ => ?_
 subst he
 have hx : x = .bool true := by
   have := hp.res
   cases this with
   | t h => cases h; rfl
 subst hx
 exact ⟨_, rfl, law_post hl hts' hrt hb hsv (by rw [List.append_nil]; exact hspec ds hlen) hW hp.os hp.output (fun b hb => hp.frame b hb (fun _ _ h => by simp at h))⟩
end Go.Eng
end
section
set_option maxRecDepth 20000
namespace Go.Eng
theorem is_int {y : T} (h : (Ty.int .i64).is y) : ∃ n : Int, (-9223372036854775808 ≤ n ∧ n < 9223372036854775808) ∧ y = .int .i64 n := by
 obtain ⟨n, hw, rfl⟩ := h
 refine ⟨n, ?_, rfl⟩
 simp only [Lit.wf, Bool.and_eq_true, decide_eq_true_eq] at hw
 obtain ⟨h1, h2⟩ := hw
 have e1 : IntKind.i64.min = -9223372036854775808 := by decide
 have e2 : IntKind.i64.max = 9223372036854775807 := by decide
 rw [e1] at h1
 rw [e2] at h2
 omega
theorem is_u8 {y : T} (h : (Ty.int .u8).is y) : ∃ b : UInt8, y = byteT b := by
 obtain ⟨n, hw, rfl⟩ := h
 simp only [Lit.wf, Bool.and_eq_true, decide_eq_true_eq] at hw
 obtain ⟨h1, h2⟩ := hw
 have e1 : IntKind.u8.min = 0 := by decide
 have e2 : IntKind.u8.max = 255 := by decide
 rw [e1] at h1
 rw [e2] at h2
 refine ⟨UInt8.ofNat n.toNat, ?_⟩
 unfold byteT
 congr 1
 rw [UInt8.toNat_ofNat']
 omega
theorem is_bool {y : T} (h : Ty.bool.is y) : ∃ b : Bool, y = .bool b := h
theorem list_of {α : Type} {f : α → T} {es : List T} (h : ∀ y ∈ es, ∃ a, y = f a) : ∃ l : List α, es = l.map f := by
 induction es with
 | nil => exact ⟨[], rfl⟩
 | cons y r ih =>
   obtain ⟨a, rfl⟩ := h y (.head _)
   obtain ⟨l, rfl⟩ := ih (fun z hz => h z (.tail _ hz))
   exact ⟨a :: l, rfl⟩
theorem mx : maxLen = 9223372036854775807 := by decide
theorem is_bytes {y : T} (h : (Ty.sl (.int .u8)).is y) : ∃ bs : List UInt8, bs.length ≤ 9223372036854775807 ∧ y = .sl (bs.map byteT) := by
 obtain ⟨es, hl, he, rfl⟩ := h
 obtain ⟨bs, rfl⟩ := list_of (f := byteT) (fun y hy => is_u8 (he y hy))
 rw [List.length_map, mx] at hl
 exact ⟨bs, hl, rfl⟩
theorem is_rows {y : T} (h : (Ty.sl (.sl (.int .u8))).is y) : ∃ l : List (List UInt8), l.length ≤ 9223372036854775807 ∧ (∀ d ∈ l, d.length < 9223372036854775808) ∧ y = .sl (l.map bsT) := by
 obtain ⟨es, hl, he, rfl⟩ := h
 obtain ⟨l, hl2⟩ := list_of (f := bsT) (es := es) (fun y hy => by
   obtain ⟨bs, _, h2⟩ := is_bytes (he y hy)
   exact ⟨bs, h2⟩)
 subst hl2
 rw [List.length_map, mx] at hl
 refine ⟨l, hl, fun d hd => ?_, rfl⟩
 obtain ⟨bs, hb, h2⟩ := is_bytes (he (bsT d) (List.mem_map_of_mem hd))
 have h3 : d.map byteT = bs.map byteT := by
   have : T.sl (d.map byteT) = T.sl (bs.map byteT) := h2
   exact T.sl.inj this
 have h4 := congrArg List.length h3
 simp only [List.length_map] at h4
 omega
theorem is_pair {y : T} (h : (Ty.st [.int .i64, .int .i64]).is y) : ∃ a b : Int, (-9223372036854775808 ≤ a ∧ a < 9223372036854775808) ∧ (-9223372036854775808 ≤ b ∧ b < 9223372036854775808) ∧ y = .agg [.int .i64 a, .int .i64 b] := by
 obtain ⟨cs, hc, rfl⟩ := h
 obtain ⟨x, r, hx, hr, rfl⟩ := hc
 obtain ⟨x2, r2, hx2, hr2, rfl⟩ := hr
 cases hr2
 obtain ⟨a, ha, rfl⟩ := is_int hx
 obtain ⟨b, hb, rfl⟩ := is_int hx2
 exact ⟨a, b, ha, hb, rfl⟩
theorem is_rows2 {y : T} (h : (Ty.sl (.sl (.int .u8))).is y) : ∃ l : List (List UInt8), l.length ≤ 9223372036854775807 ∧ (∀ d ∈ l, d.length ≤ 9223372036854775807) ∧ y = .sl (l.map bsT) := by
 obtain ⟨l, h1, h2, h3⟩ := is_rows h
 exact ⟨l, h1, fun d hd => by have := h2 d hd; omega, h3⟩
theorem is_ev {y : T} (h : (Ty.st [.int .i64, .int .i64, .sl (.sl (.int .u8)), .sl (.int .u8)]).is y) : ∃ (a b : Int) (l : List (List UInt8)) (d : List UInt8), (l.length ≤ 9223372036854775807 ∧ (∀ d ∈ l, d.length ≤ 9223372036854775807) ∧ d.length ≤ 9223372036854775807) ∧ y = .agg [.int .i64 a, .int .i64 b, .sl (l.map bsT), .sl (d.map byteT)] := by
 obtain ⟨cs, hc, rfl⟩ := h
 obtain ⟨x, r, hx, hr, rfl⟩ := hc
 obtain ⟨x2, r2, hx2, hr2, rfl⟩ := hr
 obtain ⟨x3, r3, hx3, hr3, rfl⟩ := hr2
 obtain ⟨x4, r4, hx4, hr4, rfl⟩ := hr3
 cases hr4
 obtain ⟨a, _, rfl⟩ := is_int hx
 obtain ⟨b, _, rfl⟩ := is_int hx2
 obtain ⟨l, h1, h2, rfl⟩ := is_rows2 hx3
 obtain ⟨d, h3, rfl⟩ := is_bytes hx4
 exact ⟨a, b, l, d, ⟨h1, h2, h3⟩, rfl⟩
end Go.Eng
end
section
set_option maxRecDepth 20000
namespace Go.Eng
theorem is_str {y : T} (h : Ty.str.is y) : ∃ s : List UInt8, s.length ≤ 9223372036854775807 ∧ y = strT s := by
 obtain ⟨⟨⟨s⟩⟩, hs, rfl⟩ := h
 rw [mx] at hs
 exact ⟨s, hs, rfl⟩
theorem is_im {y : T} (h : (Ty.st [.int .i64, .str, .int .i64, .sl (.int .u8)]).is y) : ∃ (a v : Int) (s p : List UInt8), rI a ∧ rI v ∧ s.length ≤ 9223372036854775807 ∧ p.length ≤ 9223372036854775807 ∧ y = imT (a, s, v, p) := by
 obtain ⟨cs, hc, rfl⟩ := h
 obtain ⟨x, r, hx, hr, rfl⟩ := hc
 obtain ⟨x2, r2, hx2, hr2, rfl⟩ := hr
 obtain ⟨x3, r3, hx3, hr3, rfl⟩ := hr2
 obtain ⟨x4, r4, hx4, hr4, rfl⟩ := hr3
 cases hr4
 obtain ⟨a, ha, rfl⟩ := is_int hx
 obtain ⟨s, hs, rfl⟩ := is_str hx2
 obtain ⟨v, hv, rfl⟩ := is_int hx3
 obtain ⟨p, hp, rfl⟩ := is_bytes hx4
 exact ⟨a, v, s, p, ha, hv, hs, hp, rfl⟩
end Go.Eng
end
section
set_option maxRecDepth 20000
namespace Go.Eng
open Go.MuLone
theorem ix_lib {c : UInt8} : ∀ {b : List UInt8} {n : Nat}, ixN c b n = if Lib.indexByte b c = -1 then -1 else (n : Int) + Lib.indexByte b c
 | [], n => rfl
 | x :: r, n => by
   have hg := Lib.indexByte_ge r c
   unfold ixN Lib.indexByte
   by_cases h : x = c
   · subst h; simp
   · rw [if_neg h, ix_lib]
     have hb : (x == c) = false := by simpa using h
     rw [hb]
     by_cases h2 : Lib.indexByte r c = -1
     · simp [h2]
     · have h2b : (Lib.indexByte r c == -1) = false := by simpa using h2
       rw [h2b, if_neg h2]
       simp only [Bool.false_eq_true, if_false]
       rw [if_neg (by omega)]
       push_cast; omega
theorem ok_bix {P : Program} {G : Nat → Option (List T)} {f : FuncId} {fn : Func} (hf : P.funcs[f]? = some fn) (hname : (fn.name == "runtime.NumGoroutine") = false) (hb : fn.body.isNone = true) (hn : Extern.findNext fn = none)
   (he : Extern.find fn = some Extern.BytealgIndexByte.indexByte) : FOk P G f ct_bix.fs := by
 intro as ins r outs hs
 have key : ∃ (b : List UInt8) (c : UInt8), 0 < b.length ∧ as = [.t (.sl (b.map byteT)), .t (byteT c)] ∧ ins = [] ∧ r = .t (.int .i64 (ixN c b 0)) ∧ outs = [] := by
   unfold Ct.fs at hs
   split at hs
   · rename_i hx
     cases hs
     have h1 := hx.choose_spec
     generalize hx.choose = y at h1 ⊢
     obtain ⟨⟨rfl, rfl⟩, h3⟩ := h1
     exact ⟨y.1, y.2, h3.1, rfl, rfl, rfl, rfl⟩
   · cases hs
 obtain ⟨b, c, hpos, rfl, rfl, rfl, rfl⟩ := key
 intro w β F vals env fits hargs
 have hβ : ∀ k, β k = none := fun k => fits.dom k (Nat.zero_le _)
 have hvals : ∃ (blk off cap : Nat), vals = #[.slice (some ⟨blk, off, none⟩) b.length cap, .int .u8 c.toNat] ∧ ∀ i, i < b.length → w.cell? ⟨blk, off + i, none⟩ = some (.int .u8 ((b.map fun x => (x.toNat : Int)).getD i 0)) := by
   obtain ⟨l⟩ := vals
   cases hargs with
   | cons h1 h2 =>
     cases h2 with
     | cons h2 h3 =>
       cases h3
       cases h1 with
       | t h1 =>
         cases h2 with
         | t h2 =>
           generalize hes : b.map byteT = es at h1
           have hlen : es.length = b.length := by rw [← hes]; simp
           cases h2
           cases h1 with
           | nil => simp at hlen; omega
           | sl _ ad cap sz news ha hc hn h1 hF hw hz h =>
             have hne : es ≠ [] := by intro e; rw [e] at hlen; simp at hlen; omega
             have hsp := ha hne
             have hsz : sz = 1 := by
               have hm : byteT b[0] ∈ es := by rw [← hes]; exact List.mem_map.2 ⟨_, List.getElem_mem hpos, rfl⟩
               exact (hz _ hm).symm
             subst hsz
             obtain ⟨blk, off, sp⟩ := ad
             simp only at hsp
             subst hsp
             refine ⟨blk, off, cap, by rw [hlen], fun i hi => ?_⟩
             have hi2 : i < news.length := by omega
             have hu : news[i]? = some news[i] := List.getElem?_eq_getElem hi2
             have hr : Rep F w (byteT b[i]) news[i] := h i (byteT b[i]) 0 (byteT b[i]) _ (by rw [← hes]; simp [hi]) rfl (by rw [Nat.mul_one, Nat.add_zero]; exact hu)
             have hc := hw i _ hu
             have e : (⟨blk, off, none⟩ : Addr).add i = ⟨blk, off + i, none⟩ := by unfold Addr.add; split <;> simp_all
             rw [e] at hc
             rw [hc]
             generalize news[i] = u at *
             cases hr
             simp [hi]
 obtain ⟨blk, off, cap, rfl, hc⟩ := hvals
 have hrun := Lib.run_indexByteSlice (P := P) w blk off b.length cap (b.map fun x => (x.toNat : Int)) (by simp) hc c.toNat
 have hbs : Lib.bytesOf (b.map fun x => (x.toNat : Int)) = b := by
   unfold Lib.bytesOf
   rw [List.map_map]
   refine (List.map_congr_left (fun x _ => ?_)).trans (List.map_id b)
   simp
 have hcc : ((c.toNat : Int).toNat).toUInt8 = c := by simp
 rw [hbs, hcc] at hrun
 have hres : ixN c b 0 = Lib.indexByte b c := by
   rw [ix_lib]
   split
   · rename_i h; rw [h]
   · simp
 refine .inr ⟨.int .i64 (Lib.indexByte b c), w, ?_, .int .i64 (Lib.indexByte b c), β, F, rfl, ?_⟩
 · rw [run_callFunc_extern hf hname hb hn he, hrun]; rfl
 · rw [hres]
   exact ⟨⟨fun k o hk => (by simp at hk), fun k _ => hβ k, fun i j bi bj b h1 => (by rw [hβ] at h1; cases h1), fun k bi b h1 => (by rw [hβ] at h1; cases h1)⟩, .t (.int _ _), fun _ _ => rfl, fun k bi b _ h1 => (by rw [hβ] at h1; cases h1), fun _ _ => Iff.rfl, env.Fw, rfl, rfl, rfl, Nat.le_refl _, fun _ _ _ => rfl⟩
end Go.Eng
end
