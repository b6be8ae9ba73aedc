/- My own text: an abstract machine, its walks over the functions reached, and their tie to the program. -/
import Derived.Test.YtldnhemfgkfiiaaDoorQ4
import Derived.Test.YtldnhemfgkfiiaaDoorQ3
import Derived.Conc.MuLone
import Derived.KernelRfl
import Derived.Lib.OthersKept
import Derived.Laws.RangeAny
import Derived.Lib.ItoaNum
import Derived.Lib.LaidTab
import Derived.Sort.Grow
import Derived.Deep.Draws
import Derived.Lib.MakeNoZero
import Derived.Laws.Externs
import Derived.WideKeyArgs
import Derived.Handed
import Derived.OpenShut
import Derived.RowKit
import Derived.ProofKit
import Derived.LaidMore
import Derived.MakeChecks
import Derived.Stop.Joined
import Derived.Lib.BytesEntry
set_option linter.unusedSimpArgs false
set_option linter.unusedVariables false
section
set_option maxRecDepth 20000
set_option maxHeartbeats 64000000
namespace Go.Eng
theorem rpl_eq {act rs : Int} {es : List Ev} (h : esM es) : ct_rpl.fs [.t (.agg [.int .i64 act, .int .i64 rs, .sl (es.map evT)])] [] = some (.tup [.t (.agg [.sl ((rpG act es).1.map bankT), .int .i64 (rpG act es).2]), .t (.int .i64 (rpE act es))], []) := ct_rpl.eq (act, rs, es) h
def rpP (act : Int) (es : List Ev) (i : Nat) : Rg := (es.take i).foldl rpS (rp0 act)
theorem rpP_s {act : Int} {es : List Ev} {i : Nat} {e : Ev} (h : es[i]? = some e) : rpP act es (i + 1) = rpS (rpP act es i) e := by
 unfold rpP
 rw [List.take_add_one, h, List.foldl_append]; rfl
theorem rpP_rq {act : Int} (ha : 1 ≤ act ∧ act ≤ 3) {es : List Ev} {i : Nat} : RQ act i (rpP act es i) := by
 have := RQ.fold ha (es := es.take i) (RQ.zero ha)
 rw [Nat.zero_add] at this
 exact this.up (by rw [List.length_take]; omega)
theorem new2 {act : Int} (ha : 1 ≤ act ∧ act ≤ 3) : ∃ b0 b1 : Bank, newBk act = [b0, b1] ∧ List.length b0 ≤ 16 ∧ List.length b1 ≤ 16 ∧ ct_new.fs [.t (.int .i64 act)] [] = some (.agg [.sl 0 0 2, .t (.int .i64 0)], [.live 1 [.sl 1 0 b0.length, .sl 2 0 b1.length] true false, .live 1 ((b0.map bsT).map V.t) true false, .live 1 ((b1.map bsT).map V.t) true false]) := by
 rcases new_casesX act with ⟨e, _⟩ | ⟨b0, b1, e, g0, g1, hn⟩
 · obtain ⟨b0, b1, e2, _⟩ := ShA.new ha
   rw [e] at e2; cases e2
 · exact ⟨b0, b1, e, by rcases g0 with h | h <;> omega, by rcases g1 with h | h <;> omega, hn⟩
theorem ext_val0 {act : Int} {x : Rg} {n : Nat} {r k : Int} {ds : List (List UInt8)} {d : List UInt8} (hx : RQ act n x) (hn : n < 1000000) (hm : evX (r, k, ds, d)) (hl : ds.length < 1000000000) (hc : chkE (r, k, ds, d) act = 0) (h5 : k ≠ 5) :
   ct_ext.fs [.t (.agg [.sl (x.1.map bankT), .int .i64 x.2]), .t (.int .i64 0), .t (.int .i64 r), .t (.sl (ds.map bsT))] [] = some (.tup [.t (.agg [.sl ((rpS x (r, k, ds, d)).1.map bankT), .int .i64 (rpS x (r, k, ds, d)).2]), .t (.int .i64 0)], []) := by
 have hE := ct_ext.eq (x.1, x.2, 0, r, ds) ⟨hx.1.rv, ⟨hx.2.1, by show x.2 < 1000000000; have := hx.2.2; omega⟩, hl, fun y hy => by have := hm.2.1 y hy; omega⟩
 have h0 := ext_ok hx.1 hc h5
 have hr : extR x.1 x.2 0 r ds = .tup [.t (regT (extBk x.1 r.toNat ds) (x.2 + 1)), .t (.int .i64 0)] := if_pos h0
 rw [rpS_ext hx.1 hc h5]
 exact hE.trans (by show some (extR x.1 x.2 0 r ds, ([] : List Ob)) = _; rw [hr]; rfl)
theorem chk_len {r k act : Int} {ds : List (List UInt8)} {d : List UInt8} (hc : chkE (r, k, ds, d) act = 0) : ds.length = 2 := by
 unfold chkE at hc
 simp only at hc
 split at hc
 · simp at hc
 · split at hc
   · simp at hc
   · split at hc
     · rename_i hf
       unfold fitE at hf
       simp only [Bool.and_eq_true, decide_eq_true_eq] at hf
       exact hf.1.1
     · simp at hc
theorem rpV_bad {act : Int} {es : List Ev} {c : Int} (h : rpE act es = c) (hc : c ≠ 0) : rpV act es = .tup [.t (.agg [.sl [], .int .i64 0]), .t (.int .i64 c)] := by
 unfold rpV rpG
 rw [h, if_neg hc]; rfl
theorem rpV_good {act : Int} {es : List Ev} (h : rpE act es = 0) : rpV act es = .tup [.t (.agg [.sl ((rpP act es es.length).1.map bankT), .int .i64 (rpP act es es.length).2]), .t (.int .i64 0)] := by
 unfold rpV rpG
 rw [h, if_pos rfl]
 unfold rpP rpF
 rw [List.take_length]; rfl
theorem take_all {act : Int} {es : List Ev} {i : Nat} {e : Ev} (h : es[i]? = some e) (hP : ∀ x ∈ es.take i, chkE x act = 0) (he : chkE e act = 0) : ∀ x ∈ es.take (i + 1), chkE x act = 0 := by
 intro x hx
 rw [List.take_add_one, h] at hx
 simp only [Option.toList_some, List.mem_append, List.mem_cons, List.not_mem_nil, or_false] at hx
 rcases hx with hx | rfl
 · exact hP x hx
 · exact he
theorem first_bad {act : Int} {es : List Ev} {i : Nat} {e : Ev} (ha : 1 ≤ act ∧ act ≤ 3) (h : es[i]? = some e) (hP : ∀ x ∈ es.take i, chkE x act = 0) (he : chkE e act ≠ 0) : rpE act es = chkE e act := by
 have hlt : i < es.length := (List.getElem?_eq_some_iff.1 h).1
 have hg : es.getD i ev0 = e := by simp [List.getD, h]
 unfold rpE
 rw [if_neg (by omega), firstE_at (i := i) hlt hP (by rw [hg]; exact he), hg]
theorem first_good {act : Int} {es : List Ev} (ha : 1 ≤ act ∧ act ≤ 3) (hP : ∀ x ∈ es, chkE x act = 0) : rpE act es = 0 := by
 unfold rpE
 rw [if_neg (by omega)]
 exact firstE_all hP
theorem w_replay_Registers (tab : Tab) (gl : Gl) (n1 n2 n3 : Nat) (h1 : tab.look n1 = some ct_new.fs) (h2 : tab.look n2 = some ct_chkX.fs) (h3 : tab.look n3 = some ct_ext.fs) (act rs : Int) (es : List Ev) (hm : esM es) :
   (ac_replay_Registers n1 n2 n3).wp tab gl (zipF 0 [.t (lgT (act, rs, es))]) (zipF 0 []) (resW [(2, some (2, true)), (3, none)] 0 (fun r o => r = rpV act es ∧ o = [])) := by
 by_cases a1 : act < 1
 · rw [rpV_bad (c := 1) (if_pos (.inl a1)) (by decide)]
   simp (disch := omega) only [go_sem, ↓reduceIte, Nat.reduceAdd, Nat.reduceEqDiff, Nat.reduceLeDiff, ac_replay_Registers, lgT_def, a1]
 by_cases a3 : 3 < act
 · rw [rpV_bad (c := 1) (if_pos (.inr a3)) (by decide)]
   simp (disch := omega) only [go_sem, ↓reduceIte, Nat.reduceAdd, Nat.reduceEqDiff, Nat.reduceLeDiff, ac_replay_Registers, lgT_def, a1, a3]
 have ha : 1 ≤ act ∧ act ≤ 3 := by omega
 obtain ⟨b0, b1, hb, hl0, hl1, hN⟩ := new2 ha
 have hlen := hm.1
 have hx0 : rpP act es 0 = ([b0, b1], 0) := by rw [← hb]; rfl
 simp (disch := omega) only [go_sem, ↓reduceIte, Nat.reduceAdd, Nat.reduceEqDiff, Nat.reduceLeDiff, reduceCtorEq, ac_replay_Registers, lgT_def, a1, a3, h1, hN]
 refine loop_uptoP es.length (fun i => ∀ e ∈ es.take i, chkE e act = 0) (fun i => [(1, .ref 4096 0 0), (2, .ref 4112 0 0), (4, .ref 16432 0 0), (21, .t (.sl (es.map evT))), (22, .t (.int .i64 es.length)), (23, .t (.int .i64 (i : Nat)))])
   (fun i => [(16432, .live 2 [.t (.agg [.sl ((rpP act es i).1.map bankT), .int .i64 (rpP act es i).2])] true true), (4112, .live 2 [.agg [.nil, .t (.int .i64 0)]] true true), (4096, .live 3 [.t (.agg [.int .i64 act, .int .i64 rs, .sl (es.map evT)])] true true)]) (by simp) ?_ (fun i hi hP => ?_)
 · refine Weak.cv (hv := []) [16417, 16418, 16416] id ?_ rfl
   simp (disch := omega) only [go_sem, ↓reduceIte, Nat.reduceAdd, Nat.reduceEqDiff, Nat.reduceLeDiff, Nat.reduceBEq, id, hx0, List.map_nil, List.map_cons]
   all_goals rfl
 · by_cases hlt : i < es.length
   · obtain ⟨⟨r, k, ds, d⟩, he⟩ : ∃ e, es[i]? = some e := ⟨es[i], by simp [hlt]⟩
     have hx := hm.2 _ (List.mem_of_getElem? he)
     have hC := chkX_eq (act := act) hx
     have hs := rpP_s (act := act) he
     have hq := rpP_rq ha (es := es) (i := i)
     by_cases hz : chkE (r, k, ds, d) act = 0
     · have hP' := take_all he hP hz
       have hE := fun h5 => ext_val0 hq (by omega) hx (by rw [chk_len hz]; omega) hz h5
       rw [hz] at hC
       rw [← hs] at hE
       by_cases h5 : k = 5
       · subst h5
         have hs' : rpP act es (i + 1) = rpP act es i := hs.trans (if_pos rfl)
         generalize rpP act es i = X at *
         simp (disch := omega) only [go_sem, ↓reduceIte, Nat.reduceAdd, Nat.reduceEqDiff, Nat.reduceLeDiff, reduceCtorEq, ac_replay_Registers_L0, evT_def, he, h2, hC]
         refine ⟨hlt, hP', Weak.rd id ?_ ?_ rfl⟩
         all_goals simp (disch := omega) only [go_sem, ↓reduceIte, Nat.reduceEqDiff, Nat.reduceBEq, id, hs']
       · have h5b : (k != 5) = true := by simpa using h5
         have hE := hE h5
         generalize hY : rpP act es (i + 1) = Y at *
         generalize rpP act es i = X at *
         simp (disch := omega) only [go_sem, ↓reduceIte, Nat.reduceAdd, Nat.reduceEqDiff, Nat.reduceLeDiff, reduceCtorEq, ac_replay_Registers_L0, evT_def, he, h2, hC, h5b, h3, hE]
         refine ⟨hlt, hP', Weak.rd id ?_ ?_ rfl⟩
         all_goals simp (disch := omega) only [go_sem, ↓reduceIte, Nat.reduceEqDiff, Nat.reduceBEq, id, hY]
     · have hz' : (chkE (r, k, ds, d) act == 0) = false := by simpa using hz
       have hz2 : (chkE (r, k, ds, d) act != 0) = true := by simpa using hz
       rw [rpV_bad (first_bad ha he hP hz) hz]
       generalize chkE (r, k, ds, d) act = c at *
       generalize rpP act es i = X at *
       simp (disch := omega) only [go_sem, ↓reduceIte, Nat.reduceAdd, Nat.reduceEqDiff, Nat.reduceLeDiff, ac_replay_Registers_L0, evT_def, he, h2, hC, hz', hz2]
   · have e : i = es.length := by omega
     subst e
     rw [List.take_length] at hP
     rw [rpV_good (first_good ha hP)]
     generalize rpP act es es.length = X at *
     simp (disch := omega) only [go_sem, ↓reduceIte, Nat.reduceAdd, Nat.reduceEqDiff, Nat.reduceLeDiff, ac_replay_Registers_L0]
theorem w_ref25_Replay (tab : Tab) (gl : Gl) (n1 n2 n3 : Nat) (h1 : tab.look n1 = some ct_chkX.fs) (h2 : tab.look n2 = some ct_new.fs) (h3 : tab.look n3 = some ct_ext.fs) (act rs : Int) (es : List Ev) (hm : esM es) :
   (ac_ref25_Replay n1 n2 n3).wp tab gl (zipF 0 [.t (lgT (act, rs, es))]) (zipF 0 []) (resW [(2, some (2, true)), (3, none)] 0 (fun r o => r = rpV act es ∧ o = [])) := by
 by_cases a1 : act < 1
 · rw [rpV_bad (c := 1) (if_pos (.inl a1)) (by decide)]
   simp (disch := omega) only [go_sem, ↓reduceIte, Nat.reduceAdd, Nat.reduceEqDiff, Nat.reduceLeDiff, ac_ref25_Replay, lgT_def, a1]
 by_cases a3 : 3 < act
 · rw [rpV_bad (c := 1) (if_pos (.inr a3)) (by decide)]
   simp (disch := omega) only [go_sem, ↓reduceIte, Nat.reduceAdd, Nat.reduceEqDiff, Nat.reduceLeDiff, ac_ref25_Replay, lgT_def, a1, a3]
 have ha : 1 ≤ act ∧ act ≤ 3 := by omega
 obtain ⟨b0, b1, hb, hl0, hl1, hN⟩ := new2 ha
 have hlen := hm.1
 have hx0 : rpP act es 0 = ([b0, b1], 0) := by rw [← hb]; rfl
 simp (disch := omega) only [go_sem, ↓reduceIte, Nat.reduceAdd, Nat.reduceEqDiff, Nat.reduceLeDiff, ac_ref25_Replay, lgT_def, a1, a3]
 refine loop_uptoP es.length (fun i => ∀ e ∈ es.take i, chkE e act = 0) (fun i => [(1, .ref 4096 0 0), (2, .ref 4112 0 0), (4, .t (.int .i64 (i : Nat)))])
   (fun i => [(4112, .live 2 [.agg [.nil, .t (.int .i64 0)]] true true), (4096, .live 3 [.t (.agg [.int .i64 act, .int .i64 rs, .sl (es.map evT)])] true true)]) (by simp) ?_ (fun i hi hP => ?_)
 · refine Weak.rd id ?_ ?_ rfl
   all_goals simp (disch := omega) only [go_sem, ↓reduceIte, Nat.reduceEqDiff, Nat.reduceBEq, id]
 · by_cases hlt : i < es.length
   · obtain ⟨⟨r, k, ds, d⟩, he⟩ : ∃ e, es[i]? = some e := ⟨es[i], by simp [hlt]⟩
     have hx := hm.2 _ (List.mem_of_getElem? he)
     have hC := chkX_eq (act := act) hx
     by_cases hz : chkE (r, k, ds, d) act = 0
     · have hP' := take_all he hP hz
       rw [hz] at hC
       simp (disch := omega) only [go_sem, ↓reduceIte, Nat.reduceAdd, Nat.reduceEqDiff, Nat.reduceLeDiff, reduceCtorEq, ac_ref25_Replay_L0, evT_def, he, h1, hC]
       repeat refine And.intro rfl ?_
       refine ⟨hlt, hP', Weak.rd id ?_ ?_ rfl⟩
       all_goals simp (disch := omega) only [go_sem, ↓reduceIte, Nat.reduceEqDiff, Nat.reduceBEq, id]
     · have hz2 : (chkE (r, k, ds, d) act != 0) = true := by simpa using hz
       rw [rpV_bad (first_bad ha he hP hz) hz]
       generalize chkE (r, k, ds, d) act = c at *
       simp (disch := omega) only [go_sem, ↓reduceIte, Nat.reduceAdd, Nat.reduceEqDiff, Nat.reduceLeDiff, reduceCtorEq, ac_ref25_Replay_L0, evT_def, he, h1, hC, hz2]
       all_goals rfl
   · have e : i = es.length := by omega
     subst e
     rw [List.take_length] at hP
     rw [rpV_good (first_good ha hP)]
     simp (disch := omega) only [go_sem, ↓reduceIte, Nat.reduceAdd, Nat.reduceEqDiff, Nat.reduceLeDiff, reduceCtorEq, ac_ref25_Replay_L0, h2, hN]
     refine loop_upto es.length (fun j => [(1, .ref 4096 0 0), (2, .ref 4112 0 0), (6, .ref 41008 0 0), (7, .t (.int .i64 (j : Nat)))])
       (fun j => [(41008, .live 2 [.t (.agg [.sl ((rpP act es j).1.map bankT), .int .i64 (rpP act es j).2])] true true), (4112, .live 2 [.agg [.nil, .t (.int .i64 0)]] true true), (4096, .live 3 [.t (.agg [.int .i64 act, .int .i64 rs, .sl (es.map evT)])] true true)]) ?_ (fun j hj => ?_)
     · refine Weak.cv (hv := []) [40993, 40994, 40992] id ?_ rfl
       simp (disch := omega) only [go_sem, ↓reduceIte, Nat.reduceAdd, Nat.reduceEqDiff, Nat.reduceLeDiff, Nat.reduceBEq, id, hx0, List.map_nil, List.map_cons]
       all_goals rfl
     · by_cases hlt : j < es.length
       · obtain ⟨⟨r, k, ds, d⟩, he⟩ : ∃ e, es[j]? = some e := ⟨es[j], by simp [hlt]⟩
         have hx := hm.2 _ (List.mem_of_getElem? he)
         have hs := rpP_s (act := act) he
         have hq := rpP_rq ha (es := es) (i := j)
         have hz := hP _ (List.mem_of_getElem? he)
         have hE := fun h5 => ext_val0 hq (by omega) hx (by rw [chk_len hz]; omega) hz h5
         rw [← hs] at hE
         by_cases h5 : k = 5
         · subst h5
           have hs' : rpP act es (j + 1) = rpP act es j := hs.trans (if_pos rfl)
           generalize rpP act es j = X at *
           simp (disch := omega) only [go_sem, ↓reduceIte, Nat.reduceAdd, Nat.reduceEqDiff, Nat.reduceLeDiff, reduceCtorEq, ac_ref25_Replay_L1, evT_def, he]
           refine ⟨hlt, Weak.rd id ?_ ?_ rfl⟩
           all_goals simp (disch := omega) only [go_sem, ↓reduceIte, Nat.reduceEqDiff, Nat.reduceBEq, id, hs']
         · have h5b : (k != 5) = true := by simpa using h5
           have hE := hE h5
           generalize hY : rpP act es (j + 1) = Y at *
           generalize rpP act es j = X at *
           simp (disch := omega) only [go_sem, ↓reduceIte, Nat.reduceAdd, Nat.reduceEqDiff, Nat.reduceLeDiff, reduceCtorEq, ac_ref25_Replay_L1, evT_def, he, h5b, h3, hE]
           repeat refine And.intro rfl ?_
           refine ⟨hlt, Weak.rd id ?_ ?_ rfl⟩
           all_goals simp (disch := omega) only [go_sem, ↓reduceIte, Nat.reduceEqDiff, Nat.reduceBEq, id, hY]
       · have e : j = es.length := by omega
         subst e
         generalize rpP act es es.length = X at *
         simp (disch := omega) only [go_sem, ↓reduceIte, Nat.reduceAdd, Nat.reduceEqDiff, Nat.reduceLeDiff, reduceCtorEq, ac_ref25_Replay_L1]
theorem valL_le {bk : List Bank} (h : RV bk) {a g : Nat} : (valL bk a g).length ≤ 64 := by
 unfold valL
 by_cases ha : a < bk.length
 · have e : bk.getD a [] = bk[a] := by simp [List.getD, ha]
   rw [e]
   exact getD_le (h.2 _ (List.getElem_mem ha))
 · have e : bk.getD a [] = [] := by simp [List.getD, List.getElem?_eq_none (Nat.le_of_not_lt ha)]
   rw [e]; simp
theorem ShA.on {act : Int} {bk : List Bank} (h : ShA act bk) {a : Nat} (ha : a < 2) (hb : act / 2 ^ a % 2 = 1) : onB bk a = true := by
 obtain ⟨b0, b1, rfl, h0, h1, -, -⟩ := h
 rcases (show a = 0 ∨ a = 1 by omega) with rfl | rfl
 · rw [if_pos (by simpa using hb)] at h0
   unfold onB; exact decide_eq_true h0
 · rw [if_pos (by simpa using hb)] at h1
   unfold onB; exact decide_eq_true h1
theorem ag1_off {x r : List Bank} {act : Int} {g a : Nat} (h : ¬ act / 2 ^ a % 2 = 1) : ag1 x r act g a = true := by unfold ag1; rw [decide_eq_true h]; rfl
theorem ag1_on {x r : List Bank} {act : Int} {g a : Nat} (h : act / 2 ^ a % 2 = 1) : ag1 x r act g a = (onB r a && decide (valL x a g = valL r a g)) := by unfold ag1; rw [decide_eq_false (by simpa using h)]; rfl
theorem agB_f {x r : List Bank} {act : Int} {g a : Nat} (ha : a < 2) (h : ag1 x r act g a = false) : agB x r act g = false := by
 unfold agB
 rcases (show a = 0 ∨ a = 1 by omega) with rfl | rfl <;> rw [h] <;> simp
def ct_agr : Ct where
 α := Rg × Rg × Int × Nat
 as x := [.t (regT x.1.1 x.1.2), .t (regT x.2.1.1 x.2.1.2), .t (.int .i64 x.2.2.1), .t (.int .i64 x.2.2.2)]
 ins _ := []
 pre x := (ShA x.2.2.1 x.1.1 ∧ RV x.2.1.1) ∧ (1 ≤ x.2.2.1 ∧ x.2.2.1 ≤ 3) ∧ x.2.2.2 < 12
 r x := .t (.bool (agB x.1.1 x.2.1.1 x.2.2.1 x.2.2.2))
 outs _ := []
 inj := by
   rintro ⟨⟨a, u⟩, ⟨b, v⟩, s, g⟩ ⟨⟨a', u'⟩, ⟨b', v'⟩, s', g'⟩ h _
   simp only [List.cons.injEq, V.t.injEq, T.int.injEq, true_and, and_true, Int.natCast_inj] at h
   obtain ⟨h1, h2, rfl, rfl⟩ := h
   obtain ⟨rfl, rfl⟩ := regT_inj h1
   obtain ⟨rfl, rfl⟩ := regT_inj h2
   exact ⟨rfl, rfl⟩
theorem agr_eq {x r : Rg} {act : Int} {g : Nat} (h : (ShA act x.1 ∧ RV r.1) ∧ (1 ≤ act ∧ act ≤ 3) ∧ g < 12) : ct_agr.fs [.t (.agg [.sl (x.1.map bankT), .int .i64 x.2]), .t (.agg [.sl (r.1.map bankT), .int .i64 r.2]), .t (.int .i64 act), .t (.int .i64 g)] [] = some (.t (.bool (agB x.1 r.1 act g)), []) := ct_agr.eq (x, r, act, g) h
theorem w_ref25_agree (tab : Tab) (gl : Gl) (n1 n2 n3 : Nat) (h1 : tab.look n1 = some ct_has.fs) (h2 : tab.look n2 = some ct_val.fs) (h3 : tab.look n3 = some ct_same.fs) (x r : Rg) (act : Int) (g : Nat) (hx : ShA act x.1) (hr : RV r.1) (ha : 1 ≤ act ∧ act ≤ 3) (hg : g < 12) :
   (ac_ref25_agree n1 n2 n3).wp tab gl (zipF 0 [.t (regT x.1 x.2), .t (regT r.1 r.2), .t (.int .i64 act), .t (.int .i64 g)]) (zipF 0 []) (resW [(8, none)] 0 (fun r' o => r' = .t (.bool (agB x.1 r.1 act g)) ∧ o = [])) := by
 have hv := hx.rv
 obtain ⟨x, u⟩ := x
 obtain ⟨r, v⟩ := r
 simp only at hx hr hv ⊢
 simp (disch := omega) only [go_sem, ↓reduceIte, Nat.reduceAdd, Nat.reduceEqDiff, reduceCtorEq, ac_ref25_agree]
 refine loop_uptoP 2 (fun i => ∀ a, a < i → ag1 x r act g a = true) (fun i => [(2, .t (.int .i64 act)), (3, .t (.int .i64 g)), (4, .ref 4096 0 0), (5, .ref 4112 0 0), (9, .t (.int .i64 (i : Nat)))])
   (fun _ => [(4112, .live 2 [.t (.agg [.sl (r.map bankT), .int .i64 v])] true true), (4096, .live 2 [.t (.agg [.sl (x.map bankT), .int .i64 u])] true true)]) (by intro a h; omega) ?_ (fun i hi hP => ?_)
 · refine Weak.rd id ?_ ?_ rfl
   all_goals simp (disch := omega) only [go_sem, ↓reduceIte, Nat.reduceEqDiff, Nat.reduceBEq, reduceCtorEq, id]
 · by_cases hlt : i < 2
   · have hH := has_eq (s := act) (a := i) ⟨by omega, hlt⟩
     have up : ag1 x r act g i = true → ∀ a, a < i + 1 → ag1 x r act g a = true := fun h a h' => by
       by_cases e : a = i
       · subst e; exact h
       · exact hP a (by omega)
     by_cases hb : act / 2 ^ i % 2 = 1
     · rw [decide_eq_true hb] at hH
       have o1 := hx.on hlt hb
       have hX := val_on (u := u) hv.rm hlt (show g < 16 by omega) o1
       have lX := valL_le hv (a := i) (g := g)
       have lR := valL_le hr (a := i) (g := g)
       have hag := ag1_on (x := x) (r := r) (g := g) hb
       cases o2 : onB r i
       · rw [o2, Bool.false_and] at hag
         have hR := val_off (u := v) hr.rm hlt (show g < 16 by omega) o2
         rw [agB_f hlt hag]
         generalize valL x i g = A at *
         have tA : List.take A.length A = A := List.take_length
         simp (disch := omega) only [go_sem, ↓reduceIte, Nat.reduceAdd, Nat.reduceEqDiff, Nat.reduceLeDiff, ac_ref25_agree_L0, h1, hH, h2, hX, hR, tA]
         all_goals rfl
       · rw [o2, Bool.true_and] at hag
         have hR := val_on (u := v) hr.rm hlt (show g < 16 by omega) o2
         generalize hA : valL x i g = A at *
         generalize hB : valL r i g = B at *
         have hS := same_eq (a := A) (b := B) ⟨by omega, by omega⟩
         have tA : List.take A.length A = A := List.take_length
         have tB : List.take B.length B = B := List.take_length
         cases q : decide (A = B)
         · rw [q] at hag hS
           rw [agB_f hlt hag]
           simp (disch := omega) only [go_sem, ↓reduceIte, Nat.reduceAdd, Nat.reduceEqDiff, Nat.reduceLeDiff, ac_ref25_agree_L0, h1, hH, h2, hX, hR, tA, tB, h3, hS]
           all_goals rfl
         · rw [q] at hag hS
           simp (disch := omega) only [go_sem, ↓reduceIte, Nat.reduceAdd, Nat.reduceEqDiff, Nat.reduceLeDiff, ac_ref25_agree_L0, h1, hH, h2, hX, hR, tA, tB, h3, hS]
           repeat refine And.intro rfl ?_
           refine ⟨hlt, up hag, Weak.rd id ?_ ?_ rfl⟩
           all_goals simp (disch := omega) only [go_sem, ↓reduceIte, Nat.reduceEqDiff, Nat.reduceBEq, id]
     · rw [decide_eq_false hb] at hH
       simp (disch := omega) only [go_sem, ↓reduceIte, Nat.reduceAdd, Nat.reduceEqDiff, Nat.reduceLeDiff, ac_ref25_agree_L0, h1, hH]
       repeat refine And.intro rfl ?_
       refine ⟨hlt, up (ag1_off hb), Weak.rd id ?_ ?_ rfl⟩
       all_goals simp (disch := omega) only [go_sem, ↓reduceIte, Nat.reduceEqDiff, Nat.reduceBEq, id]
   · have e : i = 2 := by omega
     subst e
     have hag : agB x r act g = true := by unfold agB; rw [hP 0 (by omega), hP 1 (by omega)]; rfl
     rw [hag]
     simp (disch := omega) only [go_sem, ↓reduceIte, Nat.reduceAdd, Nat.reduceEqDiff, Int.reduceLT, ac_ref25_agree_L0]
def ct_rsm2 : Ct where
 α := Rg × Rg × Int × Nat
 as x := [.t (regT x.1.1 x.1.2), .t (regT x.2.1.1 x.2.1.2), .t (.int .i64 x.2.2.1), .t (.int .i64 x.2.2.2)]
 ins _ := []
 pre x := (ShA x.2.2.1 x.1.1 ∧ RV x.2.1.1) ∧ (1 ≤ x.2.2.1 ∧ x.2.2.1 ≤ 3) ∧ x.2.2.2 < 12
 r x := if hasB x.2.1.1 x.2.2.1 then .tup [.t (.bool (agB x.1.1 x.2.1.1 x.2.2.1 x.2.2.2)), .t (.int .i64 0)] else .tup [.t (.bool false), .t (.int .i64 27)]
 outs _ := []
 inj := by
   rintro ⟨⟨a, u⟩, ⟨b, v⟩, s, g⟩ ⟨⟨a', u'⟩, ⟨b', v'⟩, s', g'⟩ h _
   simp only [List.cons.injEq, V.t.injEq, T.int.injEq, true_and, and_true, Int.natCast_inj] at h
   obtain ⟨h1, h2, rfl, rfl⟩ := h
   obtain ⟨rfl, rfl⟩ := regT_inj h1
   obtain ⟨rfl, rfl⟩ := regT_inj h2
   exact ⟨rfl, rfl⟩
theorem rsm2_eq {x r : Rg} {act : Int} {g : Nat} (h : (ShA act x.1 ∧ RV r.1) ∧ (1 ≤ act ∧ act ≤ 3) ∧ g < 12) (hb : hasB r.1 act = true) : ct_rsm2.fs [.t (.agg [.sl (x.1.map bankT), .int .i64 x.2]), .t (.agg [.sl (r.1.map bankT), .int .i64 r.2]), .t (.int .i64 act), .t (.int .i64 g)] [] = some (.tup [.t (.bool (agB x.1 r.1 act g)), .t (.int .i64 0)], []) :=
 (ct_rsm2.eq (x, r, act, g) h).trans (by show some ((if hasB r.1 act = true then _ else _ : V), ([] : List Ob)) = _; rw [if_pos hb])
theorem rsm2_no {x r : Rg} {act : Int} {g : Nat} (h : (ShA act x.1 ∧ RV r.1) ∧ (1 ≤ act ∧ act ≤ 3) ∧ g < 12) (hb : hasB r.1 act = false) : ct_rsm2.fs [.t (.agg [.sl (x.1.map bankT), .int .i64 x.2]), .t (.agg [.sl (r.1.map bankT), .int .i64 r.2]), .t (.int .i64 act), .t (.int .i64 g)] [] = some (.tup [.t (.bool false), .t (.int .i64 27)], []) :=
 (ct_rsm2.eq (x, r, act, g) h).trans (by show some ((if hasB r.1 act = true then _ else _ : V), ([] : List Ob)) = _; rw [if_neg (by rw [hb]; decide)])
def smE (x r : List Bank) (act : Int) (g : Nat) : Nat → Bool
 | 0 => true
 | 1 => ag1 x r act g 0
 | _ => agB x r act g
theorem fdiv1 {x : Int} : x.fdiv 1 = x := by rw [Int.fdiv_eq_ediv_of_nonneg _ (by decide)]; omega
theorem fdiv2 {x : Int} : x.fdiv 2 = x / 2 := Int.fdiv_eq_ediv_of_nonneg _ (by decide)
def smP (r : List Bank) (act : Int) (i : Nat) : Prop := (1 ≤ i → (decide (act / 2 ^ 0 % 2 ≠ 1) || onB r 0) = true) ∧ (2 ≤ i → (decide (act / 2 ^ 1 % 2 ≠ 1) || onB r 1) = true)
theorem w_replay_same (tab : Tab) (gl : Gl) (n1 n2 : Nat) (h1 : tab.look n1 = some ct_val.fs) (h2 : tab.look n2 = some ct_eqB.fs) (x r : Rg) (act : Int) (g : Nat) (hx : ShA act x.1) (hr : RV r.1) (ha : 1 ≤ act ∧ act ≤ 3) (hg : g < 12) :
   (ac_replay_same n1 n2).wp tab gl (zipF 0 [.t (regT x.1 x.2), .t (regT r.1 r.2), .t (.int .i64 act), .t (.int .i64 g)]) (zipF 0 []) (resW [(8, none), (9, none)] 0 (fun r' o => r' = ct_rsm2.r (x, r, act, g) ∧ o = [])) := by
 have hv := hx.rv
 obtain ⟨x, u⟩ := x
 obtain ⟨r, v⟩ := r
 simp only at hx hr hv
 have hres : ct_rsm2.r ((x, u), (r, v), act, g) = if hasB r act then .tup [.t (.bool (agB x r act g)), .t (.int .i64 0)] else .tup [.t (.bool false), .t (.int .i64 27)] := rfl
 rw [hres]
 have p0 : act / 2 ^ 0 = act := by simp
 have p1 : act / 2 ^ 1 = act / 2 := by simp
 simp (disch := omega) only [go_sem, ↓reduceIte, Nat.reduceAdd, Nat.reduceEqDiff, reduceCtorEq, ac_replay_same]
 refine loop_uptoP 2 (fun i => smP r act i) (fun i => [(2, .t (.int .i64 act)), (3, .t (.int .i64 g)), (4, .ref 4096 0 0), (5, .ref 4112 0 0), (10, .t (.bool (smE x r act g i))), (15, .t (.int .i64 (i : Nat)))])
   (fun _ => [(4112, .live 2 [.t (.agg [.sl (r.map bankT), .int .i64 v])] true true), (4096, .live 2 [.t (.agg [.sl (x.map bankT), .int .i64 u])] true true)]) ⟨by omega, by omega⟩ ?_ (fun i hi hP => ?_)
 · have e0 : smE x r act g 0 = true := rfl
   refine Weak.rd id ?_ ?_ rfl
   all_goals simp (disch := omega) only [go_sem, ↓reduceIte, Nat.reduceEqDiff, Nat.reduceBEq, reduceCtorEq, id, e0]
 · rcases (show i = 0 ∨ i = 1 ∨ i = 2 by omega) with rfl | rfl | rfl
   · have s0 : smE x r act g 0 = true := rfl
     have s1 : smE x r act g 1 = ag1 x r act g 0 := rfl
     by_cases hb : act / 2 ^ 0 % 2 = 1
     · have o1 := hx.on (by omega) hb
       have hX : ct_val.fs [.t (.agg [.sl (x.map bankT), .int .i64 u]), .t (.int .i64 0), .t (.int .i64 g)] [] = _ := val_on (u := u) hv.rm (a := 0) (by omega) (show g < 16 by omega) o1
       have lX := valL_le hv (a := 0) (g := g)
       have lR := valL_le hr (a := 0) (g := g)
       have hag := ag1_on (x := x) (r := r) (g := g) hb
       have hbb : (act % 2 == 0) = false := by rw [p0] at hb; rw [hb]; rfl
       cases o2 : onB r 0
       · have hR : ct_val.fs [.t (.agg [.sl (r.map bankT), .int .i64 v]), .t (.int .i64 0), .t (.int .i64 g)] [] = _ := val_off (u := v) hr.rm (a := 0) (by omega) (show g < 16 by omega) o2
         have hn : hasB r act = false := by unfold hasB; rw [o2, decide_eq_false (by simpa using hb)]; rfl
         rw [hn]
         simp (disch := omega) only [go_sem, ↓reduceIte, Nat.reduceAdd, Nat.reduceEqDiff, Nat.reduceLeDiff, Int.reduceLT, Int.reducePow, ac_replay_same_L0, s0, fdiv1, and1, hbb, h1, hR]
       · rw [o2, Bool.true_and] at hag
         have hR : ct_val.fs [.t (.agg [.sl (r.map bankT), .int .i64 v]), .t (.int .i64 0), .t (.int .i64 g)] [] = _ := val_on (u := v) hr.rm (a := 0) (by omega) (show g < 16 by omega) o2
         have hP' : smP r act 1 := ⟨fun _ => by rw [o2]; simp, by omega⟩
         rw [hag] at s1
         generalize valL x 0 g = A at *
         generalize valL r 0 g = B at *
         have hS := eqB_eq (a := B) (b := A)
         have tA : List.take A.length A = A := List.take_length
         have tB : List.take B.length B = B := List.take_length
         have hc : decide (A = B) = decide (B = A) := decide_eq_decide.2 ⟨Eq.symm, Eq.symm⟩
         rw [hc] at s1
         generalize decide (B = A) = q at *
         simp (disch := omega) only [go_sem, ↓reduceIte, Nat.reduceAdd, Nat.reduceEqDiff, Nat.reduceLT, Nat.reduceLeDiff, Int.reduceLT, Int.reduceAdd, Int.reducePow, ac_replay_same_L0, s0, fdiv1, and1, hbb, h1, hR, hX, tA, tB, h2, hS]
         refine ⟨hP', Weak.rd id ?_ ?_ rfl⟩
         all_goals simp (disch := omega) only [go_sem, ↓reduceIte, Nat.reduceEqDiff, Nat.reduceBEq, id, s1]
     · have hbb : (act % 2 == 0) = true := by rw [p0] at hb; simpa using (show act % 2 = 0 by omega)
       rw [ag1_off hb] at s1
       have hP' : smP r act 1 := ⟨fun _ => by rw [decide_eq_true (by simpa using hb)]; rfl, by omega⟩
       simp (disch := omega) only [go_sem, ↓reduceIte, Nat.reduceAdd, Nat.reduceEqDiff, Nat.reduceLT, Int.reduceLT, Int.reduceAdd, Int.reducePow, ac_replay_same_L0, s0, fdiv1, and1, hbb]
       refine ⟨hP', Weak.rd id ?_ ?_ rfl⟩
       all_goals simp (disch := omega) only [go_sem, ↓reduceIte, Nat.reduceEqDiff, Nat.reduceBEq, id, s1]
   · have s1 : smE x r act g 1 = ag1 x r act g 0 := rfl
     have s2 : smE x r act g 2 = (ag1 x r act g 0 && ag1 x r act g 1) := rfl
     have hP0 := hP.1 (by omega)
     by_cases hb : act / 2 ^ 1 % 2 = 1
     · have o1 := hx.on (by omega) hb
       have hX : ct_val.fs [.t (.agg [.sl (x.map bankT), .int .i64 u]), .t (.int .i64 1), .t (.int .i64 g)] [] = _ := val_on (u := u) hv.rm (a := 1) (by omega) (show g < 16 by omega) o1
       have lX := valL_le hv (a := 1) (g := g)
       have lR := valL_le hr (a := 1) (g := g)
       have hag := ag1_on (x := x) (r := r) (g := g) hb
       have hbb : (act / 2 % 2 == 0) = false := by rw [p1] at hb; rw [hb]; rfl
       cases o2 : onB r 1
       · have hR : ct_val.fs [.t (.agg [.sl (r.map bankT), .int .i64 v]), .t (.int .i64 1), .t (.int .i64 g)] [] = _ := val_off (u := v) hr.rm (a := 1) (by omega) (show g < 16 by omega) o2
         have hn : hasB r act = false := by unfold hasB; rw [o2, decide_eq_false (p := act / 2 ^ 1 % 2 ≠ 1) (by simpa using hb)]; simp
         rw [hn]
         simp (disch := omega) only [go_sem, ↓reduceIte, Nat.reduceAdd, Nat.reduceEqDiff, Nat.reduceLeDiff, Int.reduceLT, Int.reducePow, ac_replay_same_L0, s1, fdiv2, and1, hbb, h1, hR]
       · rw [o2, Bool.true_and] at hag
         have hR : ct_val.fs [.t (.agg [.sl (r.map bankT), .int .i64 v]), .t (.int .i64 1), .t (.int .i64 g)] [] = _ := val_on (u := v) hr.rm (a := 1) (by omega) (show g < 16 by omega) o2
         have hP' : smP r act 2 := ⟨fun _ => hP0, fun _ => by rw [o2]; simp⟩
         rw [hag] at s2
         generalize valL x 1 g = A at *
         generalize valL r 1 g = B at *
         have hS := eqB_eq (a := B) (b := A)
         have tA : List.take A.length A = A := List.take_length
         have tB : List.take B.length B = B := List.take_length
         have hc : decide (A = B) = decide (B = A) := decide_eq_decide.2 ⟨Eq.symm, Eq.symm⟩
         rw [hc] at s2
         generalize decide (B = A) = q at *
         cases hE : ag1 x r act g 0
         · rw [hE] at s1 s2
           rw [Bool.false_and] at s2
           simp (disch := omega) only [go_sem, ↓reduceIte, Nat.reduceAdd, Nat.reduceEqDiff, Nat.reduceLT, Nat.reduceLeDiff, Int.reduceLT, Int.reduceAdd, Int.reducePow, ac_replay_same_L0, s1, fdiv2, and1, hbb, h1, hR, hX, tA, tB, h2, hS]
           refine ⟨hP', Weak.rd id ?_ ?_ rfl⟩
           all_goals simp (disch := omega) only [go_sem, ↓reduceIte, Nat.reduceEqDiff, Nat.reduceBEq, id, s2]
         · rw [hE] at s1 s2
           rw [Bool.true_and] at s2
           simp (disch := omega) only [go_sem, ↓reduceIte, Nat.reduceAdd, Nat.reduceEqDiff, Nat.reduceLT, Nat.reduceLeDiff, Int.reduceLT, Int.reduceAdd, Int.reducePow, ac_replay_same_L0, s1, fdiv2, and1, hbb, h1, hR, hX, tA, tB, h2, hS]
           refine ⟨hP', Weak.rd id ?_ ?_ rfl⟩
           all_goals simp (disch := omega) only [go_sem, ↓reduceIte, Nat.reduceEqDiff, Nat.reduceBEq, id, s2]
     · have hbb : (act / 2 % 2 == 0) = true := by rw [p1] at hb; simpa using (show act / 2 % 2 = 0 by omega)
       rw [ag1_off hb, Bool.and_true] at s2
       have hP' : smP r act 2 := ⟨fun _ => hP0, fun _ => by rw [decide_eq_true (p := act / 2 ^ 1 % 2 ≠ 1) (by simpa using hb)]; rfl⟩
       generalize ag1 x r act g 0 = E at *
       simp (disch := omega) only [go_sem, ↓reduceIte, Nat.reduceAdd, Nat.reduceEqDiff, Nat.reduceLT, Int.reduceLT, Int.reduceAdd, Int.reducePow, ac_replay_same_L0, s1, fdiv2, and1, hbb]
       refine ⟨hP', Weak.rd id ?_ ?_ rfl⟩
       all_goals simp (disch := omega) only [go_sem, ↓reduceIte, Nat.reduceEqDiff, Nat.reduceBEq, id, s2]
   · have s2 : smE x r act g 2 = agB x r act g := rfl
     have hn : hasB r act = true := by unfold hasB; rw [hP.1 (by omega), hP.2 (by omega)]; rfl
     rw [hn]
     simp (disch := omega) only [go_sem, ↓reduceIte, Nat.reduceAdd, Nat.reduceEqDiff, Int.reduceLT, ac_replay_same_L0, s2]
theorem rcN_no {r : List Bank} {act : Int} {g : Nat} (h : hasB r act = false) : ∀ {es : List Ev} {x : Rg} {n : Nat}, rcN r act g es x n = -1
 | [], _, _ => rfl
 | e :: es, x, n => by
   unfold rcN
   rw [agB_has h, rcN_no h, rcN_no h]
   split <;> simp
theorem rcV_no {r : List Bank} {act : Int} {g : Nat} {es : List Ev} (h : hasB r act = false) : rcV r act g es = -1 := by
 unfold rcV
 rw [agB_has h, if_neg (by decide), rcN_no h]
def esV (act : Int) (es : List Ev) : Prop := esM es ∧ ∀ e ∈ es, chkE e act = 0
def ct_rch : Ct where
 α := Lg × Rg × Nat
 as x := [.t (lgT x.1), .t (regT x.2.1.1 x.2.1.2), .t (.int .i64 x.2.2)]
 ins _ := []
 pre x := (esV x.1.1 x.1.2.2 ∧ 1 ≤ x.1.1 ∧ x.1.1 ≤ 3) ∧ RV x.2.1.1 ∧ x.2.2 < 12
 r x := .t (.int .i64 (rcV x.2.1.1 x.1.1 x.2.2 x.1.2.2))
 outs _ := []
 inj := by
   rintro ⟨l, ⟨a, u⟩, g⟩ ⟨m, ⟨b, v⟩, g'⟩ h _
   simp only [List.cons.injEq, V.t.injEq, T.int.injEq, true_and, and_true, Int.natCast_inj] at h
   obtain ⟨h1, h2, rfl⟩ := h
   cases lgT_inj h1
   obtain ⟨rfl, rfl⟩ := regT_inj h2
   exact ⟨rfl, rfl⟩
theorem rch_eq {act rs : Int} {es : List Ev} {r : Rg} {g : Nat} (h : (esV act es ∧ 1 ≤ act ∧ act ≤ 3) ∧ RV r.1 ∧ g < 12) : ct_rch.fs [.t (.agg [.int .i64 act, .int .i64 rs, .sl (es.map evT)]), .t (.agg [.sl (r.1.map bankT), .int .i64 r.2]), .t (.int .i64 g)] [] = some (.t (.int .i64 (rcV r.1 act g es)), []) := ct_rch.eq ((act, rs, es), r, g) h
theorem ext_valG {act : Int} {x : Rg} {n g : Nat} {k : Int} {ds : List (List UInt8)} {d : List UInt8} (hx : RQ act n x) (hn : n < 1000000) (hm : evX ((g : Int), k, ds, d)) (hc : chkE ((g : Int), k, ds, d) act = 0) (h5 : k ≠ 5) :
   ct_ext.fs [.t (.agg [.sl (x.1.map bankT), .int .i64 x.2]), .t (.int .i64 0), .t (.int .i64 g), .t (.sl (ds.map bsT))] [] = some (.tup [.t (.agg [.sl ((extP x 0 g ds).1.map bankT), .int .i64 (extP x 0 g ds).2]), .t (.int .i64 0)], []) := by
 have := ext_val0 hx hn hm (by rw [chk_len hc]; omega) hc h5
 have e : rpS x ((g : Int), k, ds, d) = extP x 0 g ds := if_neg h5
 rw [e] at this
 exact this
theorem drop_at {es : List Ev} {i : Nat} {e : Ev} (h : es[i]? = some e) : es.drop i = e :: es.drop (i + 1) := by
 obtain ⟨hl, he⟩ := List.getElem?_eq_some_iff.1 h
 rw [List.drop_eq_getElem_cons hl, he]
theorem w_replay_reached (tab : Tab) (gl : Gl) (n1 n2 n3 : Nat) (h1 : tab.look n1 = some ct_new.fs) (h2 : tab.look n2 = some ct_rsm2.fs) (h3 : tab.look n3 = some ct_ext.fs) (act rs : Int) (es : List Ev) (r : Rg) (g : Nat) (hV : esV act es) (ha : 1 ≤ act ∧ act ≤ 3) (hr : RV r.1) (hg : g < 12) :
   (ac_replay_reached n1 n2 n3).wp tab gl (zipF 0 [.t (lgT (act, rs, es)), .t (regT r.1 r.2), .t (.int .i64 g)]) (zipF 0 []) (resW [(6, none)] 0 (fun r' o => r' = .t (.int .i64 (rcV r.1 act g es)) ∧ o = [])) := by
 obtain ⟨b0, b1, hb, hl0, hl1, hN⟩ := new2 ha
 obtain ⟨hm, hc⟩ := hV
 have hlen := hm.1
 have t0 : List.take b0.length b0 = b0 := List.take_length
 have t1 : List.take b1.length b1 = b1 := List.take_length
 have hq0 := RQ.zero ha
 have hS0 := fun h => rsm2_eq (x := rp0 act) (r := r) (act := act) (g := g) ⟨⟨hq0.1, hr⟩, ha, hg⟩ h
 have hS0n := fun h => rsm2_no (x := rp0 act) (r := r) (act := act) (g := g) ⟨⟨hq0.1, hr⟩, ha, hg⟩ h
 have e0 : rp0 act = ([b0, b1], 0) := by rw [← hb]; rfl
 have eb : bankT b0 = .sl (b0.map bsT) ∧ bankT b1 = .sl (b1.map bsT) := ⟨rfl, rfl⟩
 simp only [e0, List.map_cons, List.map_nil, eb.1, eb.2] at hS0 hS0n
 have hrv : rcV r.1 act g es = if agB (newBk act) r.1 act g then 0 else rcN r.1 act g es (rp0 act) 0 := rfl
 rw [hb] at hrv
 cases hh : hasB r.1 act
 · rw [rcV_no hh]
   have hS := hS0n hh
   simp (disch := omega) only [go_sem, ↓reduceIte, Nat.reduceAdd, Nat.reduceEqDiff, Nat.reduceLeDiff, Int.reduceNeg, reduceCtorEq, ac_replay_reached, lgT_def, h1, hN, h2, hS, t0, t1]
 · have hS := hS0 hh
   generalize hR : rcV r.1 act g es = R at *
   simp (disch := omega) only [go_sem, ↓reduceIte, Nat.reduceAdd, Nat.reduceEqDiff, Nat.reduceLeDiff, Int.reduceNeg, reduceCtorEq, ac_replay_reached, lgT_def, h1, hN, h2, hS, t0, t1]
   refine loop_inv (σ := Nat × Rg × Nat × Bool) (fun s => s.1 ≤ es.length ∧ RQ act s.1 s.2.1 ∧ s.2.2.1 ≤ s.1 ∧ (if s.2.2.2 then R = s.2.2.1 else R = rcN r.1 act g (es.drop s.1) s.2.1 s.2.2.1)) (fun s => es.length - s.1)
     (fun s => [(2, .t (.int .i64 g)), (3, .ref 4096 0 0), (4, .ref 4112 0 0), (7, .ref 8240 0 0), (8, .t (.bool s.2.2.2)), (10, .t (.int .i64 (s.2.2.1 : Nat))), (11, .t (.int .i64 (s.1 : Nat)))])
     (fun s => [(8240, .live 2 [.t (.agg [.sl (s.2.1.1.map bankT), .int .i64 s.2.1.2])] true true), (4112, .live 2 [.t (.agg [.sl (r.1.map bankT), .int .i64 r.2])] true true), (4096, .live 3 [.t (.agg [.int .i64 act, .int .i64 rs, .sl (es.map evT)])] true true)]) (0, rp0 act, 0, agB [b0, b1] r.1 act g) ⟨Nat.zero_le _, hq0, Nat.le_refl _, ?_⟩ ?_ ?_
   · simp only
     cases hA : agB [b0, b1] r.1 act g
     · rw [hA, if_neg (by decide)] at hrv
       rw [if_neg (by decide)]; exact hrv
     · rw [hA, if_pos rfl] at hrv
       rw [if_pos rfl]; exact hrv
   · refine Weak.cv (hv := []) [8225, 8226, 8224] id ?_ rfl
     simp (disch := omega) only [go_sem, ↓reduceIte, Nat.reduceAdd, Nat.reduceEqDiff, Nat.reduceLeDiff, Nat.reduceBEq, reduceCtorEq, id, e0, List.map_nil, List.map_cons]
     all_goals rfl
   · rintro ⟨i, x, n, q⟩ ⟨hi, hx, hn, hE⟩
     simp only at hi hx hn hE ⊢
     cases q
     · rw [if_neg (by decide)] at hE
       by_cases hlt : i < es.length
       · obtain ⟨⟨er, k, ds, d⟩, he⟩ : ∃ e, es[i]? = some e := ⟨es[i], by simp [hlt]⟩
         have hmx := hm.2 _ (List.mem_of_getElem? he)
         have hcx := hc _ (List.mem_of_getElem? he)
         rw [drop_at he, rcN] at hE
         simp only at hE
         by_cases h5 : k = 5
         · subst h5
           rw [if_neg (fun h => h.1 rfl)] at hE
           simp (disch := omega) only [go_sem, ↓reduceIte, Nat.reduceAdd, Nat.reduceEqDiff, Nat.reduceLeDiff, Int.reduceNeg, reduceCtorEq, ac_replay_reached_L0, evT_def, he]
           repeat refine And.intro rfl ?_
           refine invG.of (i + 1, x, n, false) ⟨by simp only; omega, hx.up (by omega), by simp only; omega, hE⟩ (by simp only; omega) (Weak.rd id ?_ ?_ rfl)
           all_goals simp (disch := omega) only [go_sem, ↓reduceIte, Nat.reduceEqDiff, Nat.reduceBEq, id]
         · have h5b : (k != 5) = true := by simpa using h5
           by_cases hk : er = (g : Int)
           · subst hk
             rw [if_pos ⟨h5, rfl⟩] at hE
             have hX := ext_valG hx (by omega) hmx hcx h5
             have hqx := hx.ext 0 g ds
             have hS2 := rsm2_eq (x := extP x 0 g ds) (r := r) (act := act) (g := g) ⟨⟨hqx.1, hr⟩, ha, hg⟩ hh
             generalize extP x 0 g ds = Y at *
             simp (disch := omega) only [go_sem, ↓reduceIte, Nat.reduceAdd, Nat.reduceEqDiff, Nat.reduceLeDiff, Int.reduceNeg, reduceCtorEq, ac_replay_reached_L0, evT_def, he, h5b, beq_self_eq_true, h3, hX, h2, hS2]
             repeat refine And.intro rfl ?_
             refine invG.of (i + 1, Y, n + 1, agB Y.1 r.1 act g) ⟨by simp only; omega, hqx, by simp only; omega, ?_⟩ (by simp only; omega) (Weak.rd id ?_ ?_ rfl)
             · simp only
               cases hA : agB Y.1 r.1 act g
               · rw [hA, if_neg (by decide)] at hE
                 rw [if_neg (by decide)]; exact hE
               · rw [hA, if_pos rfl] at hE
                 rw [if_pos rfl]; exact hE
             all_goals simp (disch := omega) only [go_sem, ↓reduceIte, Nat.reduceEqDiff, Nat.reduceBEq, id]
           · have hkb : (er == (g : Int)) = false := by simpa using hk
             rw [if_neg (fun h => hk h.2)] at hE
             simp (disch := omega) only [go_sem, ↓reduceIte, Nat.reduceAdd, Nat.reduceEqDiff, Nat.reduceLeDiff, Int.reduceNeg, reduceCtorEq, ac_replay_reached_L0, evT_def, he, h5b, hkb]
             repeat refine And.intro rfl ?_
             refine invG.of (i + 1, x, n, false) ⟨by simp only; omega, hx.up (by omega), by simp only; omega, hE⟩ (by simp only; omega) (Weak.rd id ?_ ?_ rfl)
             all_goals simp (disch := omega) only [go_sem, ↓reduceIte, Nat.reduceEqDiff, Nat.reduceBEq, id]
       · have e : es.drop i = [] := List.drop_eq_nil_of_le (by omega)
         rw [e] at hE
         have hE' : R = -1 := hE
         simp (disch := omega) only [go_sem, ↓reduceIte, Nat.reduceAdd, Nat.reduceEqDiff, Nat.reduceLeDiff, Int.reduceNeg, reduceCtorEq, ac_replay_reached_L0, hE']
     · rw [if_pos rfl] at hE
       simp (disch := omega) only [go_sem, ↓reduceIte, Nat.reduceAdd, Nat.reduceEqDiff, Int.reduceNeg, ac_replay_reached_L0, hE]
def ct_rcI : Ct where
 α := Lg × Rg × Int
 as x := [.t (lgT x.1), .t (regT x.2.1.1 x.2.1.2), .t (.int .i64 x.2.2)]
 ins _ := []
 pre x := esM x.1.2.2 ∧ RV x.2.1.1
 r x := .t (.int .i64 (rcI x.2.1.1 x.1.1 x.1.2.2 x.2.2))
 outs _ := []
 inj := by
   rintro ⟨l, ⟨a, u⟩, g⟩ ⟨m, ⟨b, v⟩, g'⟩ h _
   simp only [List.cons.injEq, V.t.injEq, T.int.injEq, true_and, and_true] at h
   obtain ⟨h1, h2, rfl⟩ := h
   cases lgT_inj h1
   obtain ⟨rfl, rfl⟩ := regT_inj h2
   exact ⟨rfl, rfl⟩
theorem rcI_eq {act rs : Int} {es : List Ev} {r : Rg} {g : Int} (h : esM es ∧ RV r.1) : ct_rcI.fs [.t (.agg [.int .i64 act, .int .i64 rs, .sl (es.map evT)]), .t (.agg [.sl (r.1.map bankT), .int .i64 r.2]), .t (.int .i64 g)] [] = some (.t (.int .i64 (rcI r.1 act es g)), []) := ct_rcI.eq ((act, rs, es), r, g) h
theorem rpE_good {act : Int} {es : List Ev} (h : rpE act es = 0) : (1 ≤ act ∧ act ≤ 3) ∧ ∀ e ∈ es, chkE e act = 0 := by
 unfold rpE at h
 split at h
 · simp at h
 · exact ⟨by omega, firstE_ok h⟩
theorem w_ref25_Reached (tab : Tab) (gl : Gl) (n1 n2 n3 n4 : Nat) (h1 : tab.look n1 = some ct_rpl.fs) (h2 : tab.look n2 = some ct_new.fs) (h3 : tab.look n3 = some ct_agr.fs) (h4 : tab.look n4 = some ct_ext.fs) (act rs : Int) (es : List Ev) (r : Rg) (g : Int) (hm : esM es) (hr : RV r.1) :
   (ac_ref25_Reached n1 n2 n3 n4).wp tab gl (zipF 0 [.t (lgT (act, rs, es)), .t (regT r.1 r.2), .t (.int .i64 g)]) (zipF 0 []) (resW [(6, none)] 0 (fun r' o => r' = .t (.int .i64 (rcI r.1 act es g)) ∧ o = [])) := by
 have hR := rpl_eq (act := act) (rs := rs) hm
 by_cases z : rpE act es = 0
 · obtain ⟨ha, hc⟩ := rpE_good z
   rw [z] at hR
   by_cases g0 : g < 0
   · have hr' : rcI r.1 act es g = -1 := if_pos (.inr (.inl g0))
     rw [hr']
     generalize rpG act es = X at *
     simp (disch := omega) only [go_sem, ↓reduceIte, Nat.reduceAdd, Nat.reduceEqDiff, Nat.reduceLeDiff, Int.reduceNeg, reduceCtorEq, ac_ref25_Reached, lgT_def, h1, hR, g0]
   by_cases g1 : 11 < g
   · have hr' : rcI r.1 act es g = -1 := if_pos (.inr (.inr (by omega)))
     rw [hr']
     generalize rpG act es = X at *
     simp (disch := omega) only [go_sem, ↓reduceIte, Nat.reduceAdd, Nat.reduceEqDiff, Nat.reduceLeDiff, Int.reduceNeg, reduceCtorEq, ac_ref25_Reached, lgT_def, h1, hR, g0, g1]
   obtain ⟨m, rfl⟩ := Int.eq_ofNat_of_zero_le (show 0 ≤ g by omega)
   have hg : m < 12 := by omega
   have hr' : rcI r.1 act es m = rcV r.1 act m es := if_neg (by omega)
   rw [hr']
   obtain ⟨b0, b1, hb, hl0, hl1, hN⟩ := new2 ha
   have hlen := hm.1
   have t0 : List.take b0.length b0 = b0 := List.take_length
   have t1 : List.take b1.length b1 = b1 := List.take_length
   have hq0 := RQ.zero ha
   have hS0 := agr_eq (x := rp0 act) (r := r) (act := act) (g := m) ⟨⟨hq0.1, hr⟩, ha, hg⟩
   have e0 : rp0 act = ([b0, b1], 0) := by rw [← hb]; rfl
   have eb : bankT b0 = .sl (b0.map bsT) ∧ bankT b1 = .sl (b1.map bsT) := ⟨rfl, rfl⟩
   simp only [e0, List.map_cons, List.map_nil, eb.1, eb.2] at hS0
   have hrv : rcV r.1 act m es = if agB (newBk act) r.1 act m then 0 else rcN r.1 act m es (rp0 act) 0 := rfl
   rw [hb] at hrv
   generalize hRR : rcV r.1 act m es = R at *
   generalize rpG act es = X at *
   cases hA : agB [b0, b1] r.1 act m
   · rw [hA] at hS0 hrv
     rw [if_neg (by decide)] at hrv
     simp (disch := omega) only [go_sem, ↓reduceIte, Nat.reduceAdd, Nat.reduceEqDiff, Nat.reduceLeDiff, Int.reduceNeg, reduceCtorEq, ac_ref25_Reached, lgT_def, h1, hR, g0, g1, h2, hN, h3, hS0, t0, t1]
     refine loop_inv (σ := Nat × Rg × Nat) (fun s => s.1 ≤ es.length ∧ RQ act s.1 s.2.1 ∧ s.2.2 ≤ s.1 ∧ R = rcN r.1 act m (es.drop s.1) s.2.1 s.2.2) (fun s => es.length - s.1)
       (fun s => [(2, .t (.int .i64 m)), (3, .ref 4096 0 0), (4, .ref 4112 0 0), (9, .ref 20528 0 0), (10, .t (.int .i64 (s.2.2 : Nat))), (11, .t (.int .i64 (s.1 : Nat)))])
       (fun s => [(20528, .live 2 [.t (.agg [.sl (s.2.1.1.map bankT), .int .i64 s.2.1.2])] true true), (4112, .live 2 [.t (.agg [.sl (r.1.map bankT), .int .i64 r.2])] true true), (4096, .live 3 [.t (.agg [.int .i64 act, .int .i64 rs, .sl (es.map evT)])] true true)]) (0, rp0 act, 0) ⟨Nat.zero_le _, hq0, Nat.le_refl _, hrv⟩ ?_ ?_
     · refine Weak.cv (hv := []) [20513, 20514, 20512] id ?_ rfl
       simp (disch := omega) only [go_sem, ↓reduceIte, Nat.reduceAdd, Nat.reduceEqDiff, Nat.reduceLeDiff, Nat.reduceBEq, reduceCtorEq, id, e0, List.map_nil, List.map_cons]
       all_goals rfl
     · rintro ⟨i, x, n⟩ ⟨hi, hx, hn, hE⟩
       simp only at hi hx hn hE ⊢
       by_cases hlt : i < es.length
       · obtain ⟨⟨er, k, ds, d⟩, he⟩ : ∃ e, es[i]? = some e := ⟨es[i], by simp [hlt]⟩
         have hmx := hm.2 _ (List.mem_of_getElem? he)
         have hcx := hc _ (List.mem_of_getElem? he)
         rw [drop_at he, rcN] at hE
         simp only at hE
         by_cases h5 : k = 5
         · subst h5
           rw [if_neg (fun h => h.1 rfl)] at hE
           simp (disch := omega) only [go_sem, ↓reduceIte, Nat.reduceAdd, Nat.reduceEqDiff, Nat.reduceLeDiff, Int.reduceNeg, reduceCtorEq, ac_ref25_Reached_L0, evT_def, he]
           repeat refine And.intro rfl ?_
           refine invG.of (i + 1, x, n) ⟨by simp only; omega, hx.up (by omega), by simp only; omega, hE⟩ (by simp only; omega) (Weak.rd id ?_ ?_ rfl)
           all_goals simp (disch := omega) only [go_sem, ↓reduceIte, Nat.reduceEqDiff, Nat.reduceBEq, id]
         · have h5b : (k == 5) = false := by simpa using h5
           by_cases hk : er = (m : Int)
           · subst hk
             rw [if_pos ⟨h5, rfl⟩] at hE
             have hX := ext_valG hx (by omega) hmx hcx h5
             have hqx := hx.ext 0 m ds
             have hS2 := agr_eq (x := extP x 0 m ds) (r := r) (act := act) (g := m) ⟨⟨hqx.1, hr⟩, ha, hg⟩
             generalize extP x 0 m ds = Y at *
             cases hA2 : agB Y.1 r.1 act m
             · rw [hA2] at hS2
               rw [hA2, if_neg (by decide)] at hE
               simp (disch := omega) only [go_sem, ↓reduceIte, Nat.reduceAdd, Nat.reduceEqDiff, Nat.reduceLeDiff, Int.reduceNeg, reduceCtorEq, ac_ref25_Reached_L0, evT_def, he, h5b, bne_self_eq_false, h4, hX, h3, hS2]
               repeat refine And.intro rfl ?_
               refine invG.of (i + 1, Y, n + 1) ⟨by simp only; omega, hqx, by simp only; omega, hE⟩ (by simp only; omega) (Weak.rd id ?_ ?_ rfl)
               all_goals simp (disch := omega) only [go_sem, ↓reduceIte, Nat.reduceEqDiff, Nat.reduceBEq, id]
             · rw [hA2] at hS2
               rw [hA2, if_pos rfl] at hE
               simp (disch := omega) only [go_sem, ↓reduceIte, Nat.reduceAdd, Nat.reduceEqDiff, Nat.reduceLeDiff, Int.reduceNeg, reduceCtorEq, ac_ref25_Reached_L0, evT_def, he, h5b, bne_self_eq_false, h4, hX, h3, hS2, hE]
               all_goals rfl
           · have hkb : (er != (m : Int)) = true := by simpa using hk
             rw [if_neg (fun h => hk h.2)] at hE
             simp (disch := omega) only [go_sem, ↓reduceIte, Nat.reduceAdd, Nat.reduceEqDiff, Nat.reduceLeDiff, Int.reduceNeg, reduceCtorEq, ac_ref25_Reached_L0, evT_def, he, h5b, hkb]
             repeat refine And.intro rfl ?_
             refine invG.of (i + 1, x, n) ⟨by simp only; omega, hx.up (by omega), by simp only; omega, hE⟩ (by simp only; omega) (Weak.rd id ?_ ?_ rfl)
             all_goals simp (disch := omega) only [go_sem, ↓reduceIte, Nat.reduceEqDiff, Nat.reduceBEq, id]
       · have e : es.drop i = [] := List.drop_eq_nil_of_le (by omega)
         rw [e] at hE
         have hE' : R = -1 := hE
         simp (disch := omega) only [go_sem, ↓reduceIte, Nat.reduceAdd, Nat.reduceEqDiff, Nat.reduceLeDiff, Int.reduceNeg, reduceCtorEq, ac_ref25_Reached_L0, hE']
   · rw [hA] at hS0 hrv
     rw [if_pos rfl] at hrv
     simp (disch := omega) only [go_sem, ↓reduceIte, Nat.reduceAdd, Nat.reduceEqDiff, Nat.reduceLeDiff, Int.reduceNeg, reduceCtorEq, ac_ref25_Reached, lgT_def, h1, hR, g0, g1, h2, hN, h3, hS0, t0, t1, hrv]
 · have z' : (rpE act es != 0) = true := by simpa using z
   have hr' : rcI r.1 act es g = -1 := if_pos (.inl z)
   rw [hr']
   generalize rpE act es = c at *
   generalize rpG act es = X at *
   simp (disch := omega) only [go_sem, ↓reduceIte, Nat.reduceAdd, Nat.reduceEqDiff, Nat.reduceLeDiff, Int.reduceNeg, reduceCtorEq, ac_ref25_Reached, lgT_def, h1, hR, z']
theorem intsOf_map {k : IntKind} : ∀ {l : List Int}, intsOf k (l.map (T.int k)) = some l
 | [] => rfl
 | n :: l => by simp only [List.map_cons, intsOf, if_true, intsOf_map, Option.map_some]
theorem ones_ints {k : IntKind} {l : List Int} : ones (List.map V.t (List.map (T.int k) l)) = true := by
 unfold ones
 refine List.all_eq_true.2 fun x hx => ?_
 obtain ⟨y, hy, rfl⟩ := List.mem_map.1 hx
 obtain ⟨n, -, rfl⟩ := List.mem_map.1 hy
 rfl
def arL (f : Nat → Int) : List Int := (List.range 12).map f
theorem arL_len {f : Nat → Int} : (arL f).length = 12 := by simp [arL]
theorem arL_get {f : Nat → Int} {g : Nat} (h : g < 12) : (arL f)[g]? = some (f g) := by simp [arL, h]
theorem arL_set {f : Nat → Int} {g : Nat} {v : Int} : (arL f).set g v = arL (fun h => if h = g then v else f h) := by
 refine List.ext_getElem (by simp [arL]) (fun i h1 h2 => ?_)
 simp only [arL, List.getElem_set, List.getElem_map, List.getElem_range]
 by_cases h : g = i
 · subst h; simp
 · rw [if_neg h, if_neg (fun e => h e.symm)]
theorem arL_beq {f h : Nat → Int} : (arL f == arL h) = (List.range 12).all fun g => decide (h g = f g) := by
 rw [Bool.eq_iff_iff]
 simp only [beq_iff_eq, List.all_eq_true, List.mem_range, decide_eq_true_eq]
 constructor
 · intro e g hg
   have := congrArg (fun l => l[g]?) e
   simp only [arL_get hg, Option.some.injEq] at this
   exact this.symm
 · intro e
   exact List.map_congr_left (fun g hg => (e g (List.mem_range.1 hg)).symm)
theorem chk_reg {r k act : Int} {ds : List (List UInt8)} {d : List UInt8} (hc : chkE (r, k, ds, d) act = 0) : 0 ≤ r ∧ r ≤ 11 := by
 unfold chkE at hc
 split at hc
 · simp at hc
 · rename_i hb
   have := (goodE hb).2.1
   simp only at this
   omega
def mostI (r : List Bank) (act : Int) (es : List Ev) (i g : Nat) : Int := if g < i then rcV r act g es else 0
theorem mostI_s {r : List Bank} {act : Int} {es : List Ev} {i : Nat} : arL (fun h => if h = i then rcV r act i es else mostI r act es i h) = arL (mostI r act es (i + 1)) := by
 congr 1
 funext h
 unfold mostI
 by_cases e : h = i
 · subst e; rw [if_pos rfl, if_pos (by omega)]
 · rw [if_neg e]
   by_cases l : h < i
   · rw [if_pos l, if_pos (by omega)]
   · rw [if_neg l, if_neg (by omega)]
theorem mostI_12 {r : List Bank} {act : Int} {es : List Ev} : arL (mostI r act es 12) = arL (fun g => rcV r act g es) := by
 refine List.map_congr_left (fun g hg => ?_)
 exact if_pos (List.mem_range.1 hg)
def cntF (es : List Ev) (i : Nat) : Nat → Int := fun g => (cntG g (es.take i) : Int)
theorem cntG_take {es : List Ev} {i g : Nat} {e : Ev} (h : es[i]? = some e) : cntG g (es.take (i + 1)) = cntG g (es.take i) + if isG g e then 1 else 0 := by
 rw [List.take_add_one, h, Option.toList_some, cntG_app, cntG_cons, cntG_nil, Nat.add_zero]
def fsC (most : Nat → Int) (es : List Ev) (i : Nat) : Option Nat := fsN most (es.drop i) (fun g => cntG g (es.take i)) i
theorem fsC_0 {most : Nat → Int} {es : List Ev} : fsC most es 0 = fsN most es (fun _ => 0) 0 := rfl
theorem fsC_note {most : Nat → Int} {es : List Ev} {i : Nat} {e : Ev} (h : es[i]? = some e) (h5 : e.2.1 = 5) : fsC most es i = fsC most es (i + 1) ∧ arL (cntF es (i + 1)) = arL (cntF es i) := by
 have hc : ∀ g, cntG g (es.take (i + 1)) = cntG g (es.take i) := fun g => by rw [cntG_take h, if_neg (fun q => q.1 h5)]; rfl
 refine ⟨?_, ?_⟩
 · unfold fsC
   rw [drop_at h, fsN, if_pos h5]
   congr 1
   funext g; exact (hc g).symm
 · congr 1
   funext g; unfold cntF; rw [hc]
theorem fsC_stop {most : Nat → Int} {es : List Ev} {i g : Nat} {e : Ev} (h : es[i]? = some e) (h5 : e.2.1 ≠ 5) (hg : e.1.toNat = g) (hm : most g ≤ cntF es i g) : fsC most es i = some i := by
 unfold fsC
 rw [drop_at h, fsN, if_neg h5, hg]
 exact if_pos hm
theorem fsC_go {most : Nat → Int} {es : List Ev} {i g : Nat} {e : Ev} (h : es[i]? = some e) (h5 : e.2.1 ≠ 5) (hg : e.1 = (g : Int)) (hm : ¬ most g ≤ cntF es i g) : fsC most es i = fsC most es (i + 1) ∧ arL (fun k => if k = g then cntF es i g + 1 else cntF es i k) = arL (cntF es (i + 1)) := by
 have hi : ∀ k : Nat, isG k e ↔ k = g := fun k => ⟨fun q => by have := q.2; omega, fun q => ⟨h5, by omega⟩⟩
 have hgn : e.1.toNat = g := by omega
 refine ⟨?_, ?_⟩
 · unfold fsC
   rw [drop_at h, fsN, if_neg h5, hgn]
   refine (if_neg hm).trans ?_
   congr 1
   funext k
   rw [cntG_take h]
   by_cases e2 : k = g
   · rw [if_pos e2, if_pos ((hi k).2 e2)]
   · rw [if_neg e2, if_neg (fun q => e2 ((hi k).1 q))]; rfl
 · congr 1
   funext k
   unfold cntF
   rw [cntG_take h]
   by_cases e2 : k = g
   · subst e2
     rw [if_pos rfl, if_pos ((hi k).2 rfl)]; omega
   · rw [if_neg e2, if_neg (fun q => e2 ((hi k).1 q))]; omega
theorem fsC_end {most : Nat → Int} {es : List Ev} : fsC most es es.length = none := by
 unfold fsC
 rw [List.drop_length]; rfl
theorem fsI_some {r : List Bank} {act : Int} {es : List Ev} {k : Nat} (h : rpE act es = 0) (hf : fsC (fun g => rcV r act g es) es 0 = some k) : fsI r act es = k := by
 unfold fsI
 rw [if_neg (by omega), ← fsC_0, hf]
theorem fsI_none {r : List Bank} {act : Int} {es : List Ev} (h : rpE act es = 0) (hf : fsC (fun g => rcV r act g es) es 0 = none) : fsI r act es = if ((List.range 12).all fun g => decide (rcV r act g es = cntF es es.length g)) = true then (-1 : Int) else (es.length : Int) := by
 unfold fsI
 rw [if_neg (by omega), ← fsC_0, hf]
 simp only
 unfold cntF
 rw [List.take_length]
theorem cntF_le {es : List Ev} {i g : Nat} : 0 ≤ cntF es i g ∧ cntF es i g ≤ i := by
 unfold cntF cntG
 have := List.length_filter_le (fun (e : Ev) => decide (e.2.1 ≠ 5) && decide (e.1 = (g : Int))) (es.take i)
 rw [List.length_take] at this
 omega
def ct_fsI : Ct where
 α := Lg × Rg
 as x := [.t (lgT x.1), .t (regT x.2.1 x.2.2)]
 ins _ := []
 pre x := esM x.1.2.2 ∧ RV x.2.1
 r x := .t (.int .i64 (fsI x.2.1 x.1.1 x.1.2.2))
 outs _ := []
 inj := by
   rintro ⟨l, a, u⟩ ⟨m, b, v⟩ h _
   simp only [List.cons.injEq, V.t.injEq, and_true] at h
   obtain ⟨h1, h2⟩ := h
   cases lgT_inj h1
   obtain ⟨rfl, rfl⟩ := regT_inj h2
   exact ⟨rfl, rfl⟩
theorem fsI_eq {act rs : Int} {es : List Ev} {r : Rg} (h : esM es ∧ RV r.1) : ct_fsI.fs [.t (.agg [.int .i64 act, .int .i64 rs, .sl (es.map evT)]), .t (.agg [.sl (r.1.map bankT), .int .i64 r.2])] [] = some (.t (.int .i64 (fsI r.1 act es)), []) := ct_fsI.eq ((act, rs, es), r) h
theorem w_replay_First (tab : Tab) (gl : Gl) (n1 n2 : Nat) (h1 : tab.look n1 = some ct_rpl.fs) (h2 : tab.look n2 = some ct_rch.fs) (act rs : Int) (es : List Ev) (r : Rg) (hm : esM es) (hr : RV r.1) :
   (ac_replay_First n1 n2).wp tab gl (zipF 0 [.t (lgT (act, rs, es)), .t (regT r.1 r.2)]) (zipF 0 []) (resW [(4, none)] 0 (fun r' o => r' = .t (.int .i64 (fsI r.1 act es)) ∧ o = [])) := by
 have hR := rpl_eq (act := act) (rs := rs) hm
 have hlen := hm.1
 by_cases z : rpE act es = 0
 · obtain ⟨ha, hc⟩ := rpE_good z
   have hfs := fsI_some (r := r.1) (k := 0) z
   rw [z] at hR
   generalize rpG act es = X at *
   simp (disch := omega) only [go_sem, ↓reduceIte, Nat.reduceAdd, Nat.reduceEqDiff, Nat.reduceLeDiff, Int.reduceNeg, reduceCtorEq, ac_replay_First, lgT_def, h1, hR]
   refine loop_upto 12 (fun i => [(2, .ref 4096 0 0), (3, .ref 4112 0 0), (7, .ref 20480 0 0), (8, .ref 20496 0 0), (19, .t (.int .i64 (i : Nat)))])
     (fun i => [(20496, .live 1 (((arL (cntF es 0)).map (T.int .i64)).map V.t) true true), (20480, .live 1 (((arL (mostI r.1 act es i)).map (T.int .i64)).map V.t) true true), (4112, .live 2 [.t (.agg [.sl (r.1.map bankT), .int .i64 r.2])] true true), (4096, .live 3 [.t (.agg [.int .i64 act, .int .i64 rs, .sl (es.map evT)])] true true)]) ?_ (fun i hi => ?_)
   · have z1 : (arL (cntF es 0)).map (T.int .i64) = List.replicate 12 (T.int .i64 0) := rfl
     have z2 : (arL (mostI r.1 act es 0)).map (T.int .i64) = List.replicate 12 (T.int .i64 0) := rfl
     refine Weak.rd id ?_ ?_ rfl
     all_goals simp (disch := omega) only [go_sem, ↓reduceIte, Nat.reduceEqDiff, Nat.reduceBEq, id, z1, z2]
   · by_cases hlt : i < 12
     · have hC := rch_eq (rs := rs) (g := i) ⟨⟨⟨hm, hc⟩, ha⟩, hr, hlt⟩
       have hg := arL_get (f := mostI r.1 act es i) hlt
       have hl := arL_len (f := mostI r.1 act es i)
       have hs : (arL (mostI r.1 act es i)).set i (rcV r.1 act i es) = arL (mostI r.1 act es (i + 1)) := by rw [arL_set]; exact mostI_s
       generalize hA : arL (mostI r.1 act es i) = A at *
       generalize rcV r.1 act i es = v at *
       generalize mostI r.1 act es i i = v0 at *
       simp (disch := omega) only [go_sem, ↓reduceIte, Nat.reduceAdd, Nat.reduceEqDiff, Nat.reduceLeDiff, Int.reduceNeg, ac_replay_First_L0, h2, hC, hg, hl]
       refine ⟨hlt, Weak.rd id ?_ ?_ rfl⟩
       all_goals simp (disch := omega) only [go_sem, ↓reduceIte, Nat.reduceEqDiff, Nat.reduceBEq, id, hs]
     · have e : i = 12 := by omega
       subst e
       rw [mostI_12]
       have hml := arL_len (f := fun g => rcV r.1 act g es)
       simp (disch := omega) only [go_sem, ↓reduceIte, Nat.reduceAdd, Nat.reduceEqDiff, Nat.reduceLeDiff, Int.reduceLT, Int.reduceNeg, reduceCtorEq, ac_replay_First_L0]
       refine loop_uptoP es.length (fun j => fsC (fun g => rcV r.1 act g es) es 0 = fsC (fun g => rcV r.1 act g es) es j) (fun j => [(2, .ref 4096 0 0), (7, .ref 20480 0 0), (8, .ref 20496 0 0), (30, .t (.sl (es.map evT))), (31, .t (.int .i64 es.length)), (32, .t (.int .i64 (j : Nat)))])
         (fun j => [(20496, .live 1 (((arL (cntF es j)).map (T.int .i64)).map V.t) true true), (20480, .live 1 (((arL (fun g => rcV r.1 act g es)).map (T.int .i64)).map V.t) true true), (4096, .live 3 [.t (.agg [.int .i64 act, .int .i64 rs, .sl (es.map evT)])] true true)]) rfl ?_ (fun j hj hP => ?_)
       · refine Weak.rd id ?_ ?_ rfl
         all_goals simp (disch := omega) only [go_sem, ↓reduceIte, Nat.reduceEqDiff, Nat.reduceBEq, id]
       · have hcl := arL_len (f := cntF es j)
         by_cases hlt : j < es.length
         · obtain ⟨⟨er, k, ds, d⟩, he⟩ : ∃ e, es[j]? = some e := ⟨es[j], by simp [hlt]⟩
           have hcx := hc _ (List.mem_of_getElem? he)
           have hreg := chk_reg hcx
           by_cases h5 : k = 5
           · subst h5
             obtain ⟨q1, q2⟩ := fsC_note (most := fun g => rcV r.1 act g es) he rfl
             have hP' := hP.trans q1
             generalize arL (cntF es j) = C at *
             simp (disch := omega) only [go_sem, ↓reduceIte, Nat.reduceAdd, Nat.reduceEqDiff, Nat.reduceLeDiff, Int.reduceNeg, reduceCtorEq, ac_replay_First_L1, evT_def, he]
             refine ⟨hlt, hP', Weak.rd id ?_ ?_ rfl⟩
             all_goals simp (disch := omega) only [go_sem, ↓reduceIte, Nat.reduceEqDiff, Nat.reduceBEq, id, q2]
           · have h5b : (k == 5) = false := by simpa using h5
             obtain ⟨g, rfl⟩ := Int.eq_ofNat_of_zero_le hreg.1
             have hg : g < 12 := by omega
             have g1 := arL_get (f := cntF es j) hg
             have g2 := arL_get (f := fun g => rcV r.1 act g es) hg
             have hcb := cntF_le (es := es) (i := j) (g := g)
             have hrb := rcV_le (r := r.1) (act := act) (g := g) (es := es)
             by_cases hst : rcV r.1 act g es ≤ cntF es j g
             · have hF := fsC_stop (most := fun g => rcV r.1 act g es) he h5 (g := g) (by simp) hst
               rw [fsI_some z (hP.trans hF)]
               generalize arL (cntF es j) = C at *
               generalize arL (fun g => rcV r.1 act g es) = M at *
               generalize rcV r.1 act g es = vm at *
               generalize cntF es j g = vc at *
               simp (disch := omega) only [go_sem, ↓reduceIte, Nat.reduceAdd, Nat.reduceEqDiff, Nat.reduceLeDiff, Int.reduceNeg, reduceCtorEq, ac_replay_First_L1, evT_def, he, h5b, g1, g2, hcl, hml, hst]
               all_goals rfl
             · obtain ⟨q1, q2⟩ := fsC_go (most := fun g => rcV r.1 act g es) he h5 (g := g) rfl hst
               have hP' := hP.trans q1
               have hs : (arL (cntF es j)).set g (cntF es j g + 1) = arL (cntF es (j + 1)) := by rw [arL_set]; exact q2
               generalize arL (cntF es j) = C at *
               generalize arL (fun g => rcV r.1 act g es) = M at *
               generalize rcV r.1 act g es = vm at *
               generalize cntF es j g = vc at *
               simp (disch := omega) only [go_sem, ↓reduceIte, Nat.reduceAdd, Nat.reduceEqDiff, Nat.reduceLeDiff, Int.reduceNeg, reduceCtorEq, ac_replay_First_L1, evT_def, he, h5b, g1, g2, hcl, hml, hst]
               repeat refine And.intro rfl ?_
               refine ⟨hlt, hP', Weak.rd id ?_ ?_ rfl⟩
               all_goals simp (disch := omega) only [go_sem, ↓reduceIte, Nat.reduceEqDiff, Nat.reduceBEq, id, hs]
         · have e : j = es.length := by omega
           subst e
           have hF := fsI_none z (hP.trans fsC_end)
           have hbe := arL_beq (f := cntF es es.length) (h := fun g => rcV r.1 act g es)
           rw [← hbe] at hF
           rw [hF]
           have c0 := arL_get (f := cntF es es.length) (g := 0) (by omega)
           have m0 := arL_get (f := fun g => rcV r.1 act g es) (g := 0) (by omega)
           generalize cntF es es.length 0 = w0 at *
           generalize arL (cntF es es.length) = C at *
           generalize arL (fun g => rcV r.1 act g es) = M at *
           have tC : List.take 12 C = C := List.take_of_length_le (by omega)
           have tM : List.take 12 M = M := List.take_of_length_le (by omega)
           cases hq : (C == M)
           · simp (disch := omega) only [go_sem, ↓reduceIte, Nat.reduceAdd, Nat.reduceEqDiff, Nat.reduceLeDiff, Int.reduceNeg, reduceCtorEq, ac_replay_First_L1, tC, tM, c0, m0, ones_ints, intsOf_map, hcl, hml, hq]
           · simp (disch := omega) only [go_sem, ↓reduceIte, Nat.reduceAdd, Nat.reduceEqDiff, Nat.reduceLeDiff, Int.reduceNeg, ac_replay_First_L1, tC, tM, c0, m0, ones_ints, intsOf_map, hcl, hml, hq]
 · have z' : (rpE act es != 0) = true := by simpa using z
   have hr' : fsI r.1 act es = 0 := if_pos z
   rw [hr']
   generalize rpE act es = c at *
   generalize rpG act es = X at *
   simp (disch := omega) only [go_sem, ↓reduceIte, Nat.reduceAdd, Nat.reduceEqDiff, Nat.reduceLeDiff, Int.reduceNeg, reduceCtorEq, ac_replay_First, lgT_def, h1, hR, z']
theorem evsI_m {l : List Im} {act : Int} : (∀ e ∈ evsI l act, evM e) ∧ (evsI l act).length ≤ 136 ∧ esM (evsI l act) := by
 unfold evsI
 split
 · exact ⟨by simp, by simp, by simp, by simp⟩
 · rename_i h
   have hz : chkC l = 0 := by omega
   obtain ⟨hok, _, h8⟩ := chkC_ok hz
   have hv := evsC_ok (act := act) (by omega) hok
   have hl := evsC_len (act := act) (l := l)
   exact ⟨fun e he => (hv e he).2, by omega, by omega, fun e he => (hv e he).2.x⟩
theorem evsI_ok {l : List Im} {act : Int} (h : prE l act = 0) : evsI l act = evsC act l ∧ (∀ e ∈ evsC act l, evV act e) ∧ rpE act (evsC act l) = 0 ∧ rpG act (evsC act l) = prG l act := by
 obtain ⟨hz, ha⟩ := prE_ok h
 have hv := evsC_ok (act := act) (by omega) (chkC_ok hz).1
 have hE := rpE_ok ha hv
 refine ⟨by unfold evsI; rw [if_neg (by omega)], hv, hE, ?_⟩
 unfold rpG prG
 rw [if_pos hE, if_pos h]
def ct_prd : Ct where
 α := List Im × Int
 as x := [.t (.sl (x.1.map imT)), .t (.int .i64 x.2)]
 ins _ := []
 pre x := imsM x.1
 r x := .tup [.t (.agg [.sl ((prG x.1 x.2).1.map bankT), .int .i64 (prG x.1 x.2).2]), .t (.int .i64 (prE x.1 x.2))]
 outs _ := []
 inj := by
   rintro ⟨a, b⟩ ⟨c, d⟩ h _
   simp only [List.cons.injEq, V.t.injEq, T.sl.injEq, T.int.injEq, true_and, and_true, mapI_inj] at h
   obtain ⟨rfl, rfl⟩ := h
   exact ⟨rfl, rfl⟩
theorem prd_eq {l : List Im} {act : Int} (h : imsM l) : ct_prd.fs [.t (.sl (l.map imT)), .t (.int .i64 act)] [] = some (.tup [.t (.agg [.sl ((prG l act).1.map bankT), .int .i64 (prG l act).2]), .t (.int .i64 (prE l act))], []) := ct_prd.eq (l, act) h
theorem prG_bad {l : List Im} {act c : Int} (h : prE l act = c) (hc : c ≠ 0) : V.tup [.t (.agg [.sl ((prG l act).1.map bankT), .int .i64 (prG l act).2]), .t (.int .i64 (prE l act))] = .tup [.t (.agg [.sl [], .int .i64 0]), .t (.int .i64 c)] := by
 unfold prG
 rw [h, if_neg hc]; rfl
theorem w_predict_Registers (tab : Tab) (gl : Gl) (n1 n2 n3 : Nat) (h1 : tab.look n1 = some ct_chc.fs) (h2 : tab.look n2 = some ct_evI.fs) (h3 : tab.look n3 = some ct_rpl.fs) (l : List Im) (act : Int) (hm : imsM l) :
   (ac_predict_Registers n1 n2 n3).wp tab gl (zipF 0 [.t (.sl (l.map imT)), .t (.int .i64 act)]) (zipF 0 []) (resW [(4, some (2, true)), (5, none)] 0 (fun r o => r = .tup [.t (.agg [.sl ((prG l act).1.map bankT), .int .i64 (prG l act).2]), .t (.int .i64 (prE l act))] ∧ o = [])) := by
 have hC := chc_eq hm
 by_cases hz : chkC l = 0
 · rw [hz] at hC
   by_cases a1 : act < 1
   · rw [prG_bad (c := 1) (by unfold prE; rw [if_neg (by omega), if_pos (.inl a1)]) (by decide)]
     simp (disch := omega) only [go_sem, ↓reduceIte, Nat.reduceAdd, Nat.reduceEqDiff, Nat.reduceLeDiff, reduceCtorEq, ac_predict_Registers, h1, hC, a1]
   by_cases a3 : 3 < act
   · rw [prG_bad (c := 1) (by unfold prE; rw [if_neg (by omega), if_pos (.inr a3)]) (by decide)]
     simp (disch := omega) only [go_sem, ↓reduceIte, Nat.reduceAdd, Nat.reduceEqDiff, Nat.reduceLeDiff, reduceCtorEq, ac_predict_Registers, h1, hC, a1, a3]
   have e0 : prE l act = 0 := by unfold prE; rw [if_neg (by omega), if_neg (by omega)]
   obtain ⟨q1, q2, q3, q4⟩ := evsI_ok e0
   have hE := evI_eq (act := act) hm
   have hR := rpl_eq (act := act) (rs := 0) (evsI_m (l := l) (act := act)).2.2
   rw [q1] at hE hR
   rw [q3, q4] at hR
   rw [e0]
   generalize evsC act l = es at *
   generalize prG l act = X at *
   simp (disch := omega) only [go_sem, ↓reduceIte, Nat.reduceAdd, Nat.reduceEqDiff, Nat.reduceLeDiff, reduceCtorEq, ac_predict_Registers, h1, hC, a1, a3, h2, hE, h3, hR]
 · have hz' : (chkC l != 0) = true := by simpa using hz
   rw [prG_bad (c := chkC l) (if_pos hz) hz]
   generalize chkC l = c at *
   simp (disch := omega) only [go_sem, ↓reduceIte, Nat.reduceAdd, Nat.reduceEqDiff, Nat.reduceLeDiff, reduceCtorEq, ac_predict_Registers, h1, hC, hz']
def ct_twi : Ct where
 α := Int × List Ev
 as x := [.t (.agg [.int .i64 x.1, .int .i64 0, .sl (x.2.map evT)])]
 ins _ := []
 pre x := esM x.2 ∧ x.2.length ≤ 1000
 r x := .t (.bool (twB x.1 x.2))
 outs _ := []
 inj := by
   rintro ⟨a, b⟩ ⟨c, d⟩ h _
   simp only [List.cons.injEq, V.t.injEq, T.agg.injEq, T.sl.injEq, T.int.injEq, true_and, and_true, mapE_inj] at h
   obtain ⟨rfl, rfl⟩ := h
   exact ⟨rfl, rfl⟩
theorem twi_eq {act : Int} {es : List Ev} (h : esM es ∧ es.length ≤ 1000) : ct_twi.fs [.t (.agg [.int .i64 act, .int .i64 0, .sl (es.map evT)])] [] = some (.t (.bool (twB act es)), []) := ct_twi.eq (act, es) h
theorem any_range_s {p : Nat → Bool} {n : Nat} : (List.range (n + 1)).any p = ((List.range n).any p || p n) := by
 rw [List.range_succ, List.any_append]; simp
theorem any_at {p : Nat → Bool} {n k : Nat} (h : k < n) (hp : p k = true) : (List.range n).any p = true := List.any_eq_true.2 ⟨k, List.mem_range.2 h, hp⟩
theorem cntG_le {g : Nat} {l : List Ev} : cntG g l ≤ l.length := by unfold cntG; exact List.length_filter_le _ _
theorem w_law29_twice (tab : Tab) (gl : Gl) (n1 n2 : Nat) (h1 : tab.look n1 = some ct_rpl.fs) (h2 : tab.look n2 = some ct_rcI.fs) (act : Int) (es : List Ev) (hm : esM es) (hl : es.length ≤ 1000) :
   (ac_law29_twice n1 n2).wp tab gl (zipF 0 [.t (.agg [.int .i64 act, .int .i64 0, .sl (es.map evT)])]) (zipF 0 []) (resW [(2, none)] 0 (fun r o => r = .t (.bool (twB act es)) ∧ o = [])) := by
 simp (disch := omega) only [go_sem, ↓reduceIte, Nat.reduceAdd, ac_law29_twice]
 refine loop_uptoP (es.length + 1) (fun n => (List.range n).any (twRow act es) = false) (fun n => [(1, .ref 4096 0 0), (3, .t (.int .i64 (n : Nat)))]) (fun _ => [(4096, .live 3 [.t (.agg [.int .i64 act, .int .i64 0, .sl (es.map evT)])] true true)]) rfl ?_ (fun n hn hP => ?_)
 · refine Weak.rd id ?_ ?_ rfl
   all_goals simp (disch := omega) only [go_sem, ↓reduceIte, Nat.reduceEqDiff, id]
 · by_cases hlt : n < es.length + 1
   · have ltn : (es.take n).length = n := by rw [List.length_take]; omega
     have hmn : esM (es.take n) := ⟨by have := hm.1; omega, fun e he => hm.2 e (List.mem_of_mem_take he)⟩
     have hR := rpl_eq (act := act) (rs := 0) hmn
     have hv := (rpG_rv (act := act) (es := es.take n)).1
     have hst := any_range_s (p := twRow act es) (n := n)
     rw [hP, Bool.false_or] at hst
     have htw : ∀ g, tw1 act es n g = (decide (0 ≤ rcI (rpG act (es.take n)).1 act es g) && decide (rcI (rpG act (es.take n)).1 act es g < cntG g (es.take n))) := fun g => rfl
     have hyes : ∀ g, g < 12 → tw1 act es n g = true → twB act es = true := fun g hg h => any_at (p := twRow act es) hlt (show twRow act es n = true from any_at (p := fun g => tw1 act es n g) hg h)
     generalize rpG act (es.take n) = X at *
     generalize rpE act (es.take n) = c at *
     have hmt : List.take n (List.map evT es) = List.map evT (es.take n) := (List.map_take ..).symm
     simp (disch := omega) only [go_sem, ↓reduceIte, Nat.reduceAdd, Nat.reduceEqDiff, Nat.reduceLeDiff, Int.reduceLE, reduceCtorEq, ac_law29_twice_L0, h1, hR, hmt, zEv]
     repeat refine And.intro rfl ?_
     refine loop_uptoP 12 (fun g => ((List.range g).any fun g => tw1 act es n g) = false) (fun g => [(1, .ref 4096 0 0), (3, .t (.int .i64 (n : Nat))), (4, .ref 20656 0 0), (6, .t (.int .i64 (g : Nat)))]) (fun _ => [(20656, .live 2 [.t (.agg [.sl (X.1.map bankT), .int .i64 X.2])] true true), (4096, .live 3 [.t (.agg [.int .i64 act, .int .i64 0, .sl (es.map evT)])] true true)]) rfl ?_ (fun g hg hQ => ?_)
     · refine Weak.rd id ?_ ?_ rfl
       all_goals simp (disch := omega) only [go_sem, ↓reduceIte, Nat.reduceEqDiff, Nat.reduceBEq, id]
     · by_cases hlg : g < 12
       · have hI := rcI_eq (act := act) (rs := 0) (g := (g : Int)) (r := X) ⟨hm, hv⟩
         have hsg := any_range_s (p := fun g => tw1 act es n g) (n := g)
         rw [hQ, Bool.false_or] at hsg
         have ht := htw g
         have hy := hyes g hlg
         have hcn := cntG_le (g := g) (l := es.take n)
         generalize rcI X.1 act es (g : Int) = k at *
         simp (disch := omega) only [go_sem, ↓reduceIte, Nat.reduceAdd, Nat.reduceEqDiff, ac_law29_twice_L1]
         refine loop_upto n (fun i => [(1, .ref 4096 0 0), (3, .t (.int .i64 (n : Nat))), (4, .ref 20656 0 0), (6, .t (.int .i64 (g : Nat))), (7, .t (.int .i64 (cntG g (es.take i) : Nat))), (8, .t (.int .i64 (i : Nat)))]) (fun _ => [(20656, .live 2 [.t (.agg [.sl (X.1.map bankT), .int .i64 X.2])] true true), (4096, .live 3 [.t (.agg [.int .i64 act, .int .i64 0, .sl (es.map evT)])] true true)]) ?_ (fun i hi => ?_)
         · refine Weak.rd id ?_ ?_ rfl
           all_goals simp (disch := omega) only [go_sem, ↓reduceIte, Nat.reduceEqDiff, Nat.reduceBEq, id, List.take_zero, cntG_nil]
           all_goals rfl
         · by_cases hli : i < n
           · obtain ⟨⟨er, ek, eds, ed⟩, he⟩ : ∃ e, es[i]? = some e := ⟨es[i], by simp⟩
             have hc := cntG_take (g := g) he
             have hb := cntG_le (g := g) (l := es.take i)
             rw [List.length_take] at hb
             by_cases q1 : er = (g : Int)
             · subst q1
               by_cases q5 : ek = 5
               · subst q5
                 rw [if_neg (fun h => h.1 rfl), Nat.add_zero] at hc
                 simp (disch := omega) only [go_sem, ↓reduceIte, Nat.reduceAdd, Nat.reduceEqDiff, Nat.reduceLeDiff, reduceCtorEq, ac_law29_twice_L2, evT_def, he, beq_self_eq_true]
                 refine ⟨hli, Weak.rd id ?_ ?_ rfl⟩
                 all_goals simp (disch := omega) only [go_sem, ↓reduceIte, Nat.reduceEqDiff, Nat.reduceBEq, id, hc]
               · have q5b : (ek != 5) = true := by simpa using q5
                 rw [if_pos ⟨q5, rfl⟩] at hc
                 simp (disch := omega) only [go_sem, ↓reduceIte, Nat.reduceAdd, Nat.reduceEqDiff, Nat.reduceLeDiff, reduceCtorEq, ac_law29_twice_L2, evT_def, he, beq_self_eq_true, q5b]
                 refine ⟨hli, Weak.rd id ?_ ?_ rfl⟩
                 all_goals simp (disch := omega) only [go_sem, ↓reduceIte, Nat.reduceEqDiff, Nat.reduceBEq, id, hc]
             · have q1b : (er == (g : Int)) = false := by simpa using q1
               rw [if_neg (fun h => q1 h.2), Nat.add_zero] at hc
               simp (disch := omega) only [go_sem, ↓reduceIte, Nat.reduceAdd, Nat.reduceEqDiff, Nat.reduceLeDiff, reduceCtorEq, ac_law29_twice_L2, evT_def, he, q1b]
               refine ⟨hli, Weak.rd id ?_ ?_ rfl⟩
               all_goals simp (disch := omega) only [go_sem, ↓reduceIte, Nat.reduceEqDiff, Nat.reduceBEq, id, hc]
           · have e : i = n := by omega
             subst e
             by_cases k0 : 0 ≤ k
             · by_cases k1 : k < (cntG g (es.take i) : Nat)
               · rw [hy (by rw [ht, decide_eq_true k0, decide_eq_true k1]; rfl)]
                 simp (disch := omega) only [go_sem, ↓reduceIte, Nat.reduceAdd, Nat.reduceEqDiff, Nat.reduceLeDiff, ac_law29_twice_L2, h2, hI, k0, k1]
               · simp (disch := omega) only [go_sem, ↓reduceIte, Nat.reduceAdd, Nat.reduceEqDiff, Nat.reduceLeDiff, ac_law29_twice_L2, h2, hI, k0, k1]
                 refine ⟨hlg, by rw [← List.range_succ, hsg, ht, decide_eq_false k1, Bool.and_false], Weak.rd id ?_ ?_ rfl⟩
                 all_goals simp (disch := omega) only [go_sem, ↓reduceIte, Nat.reduceEqDiff, Nat.reduceBEq, id]
             · simp (disch := omega) only [go_sem, ↓reduceIte, Nat.reduceAdd, Nat.reduceEqDiff, Nat.reduceLeDiff, ac_law29_twice_L2, h2, hI, k0]
               refine ⟨hlg, by rw [← List.range_succ, hsg, ht, decide_eq_false k0, Bool.false_and], Weak.rd id ?_ ?_ rfl⟩
               all_goals simp (disch := omega) only [go_sem, ↓reduceIte, Nat.reduceEqDiff, Nat.reduceBEq, id]
       · have e : g = 12 := by omega
         subst e
         have hrow : twRow act es n = false := hQ
         rw [hrow] at hst
         simp (disch := omega) only [go_sem, ↓reduceIte, Nat.reduceAdd, Nat.reduceEqDiff, Int.reduceLT, ac_law29_twice_L1]
         refine ⟨hlt, by rw [← List.range_succ]; exact hst, Weak.rd id ?_ ?_ rfl⟩
         all_goals simp (disch := omega) only [go_sem, ↓reduceIte, Nat.reduceEqDiff, id]
   · have e : n = es.length + 1 := by omega
     subst e
     have hr : twB act es = false := hP
     rw [hr]
     simp (disch := omega) only [go_sem, ↓reduceIte, Nat.reduceAdd, Nat.reduceEqDiff, Nat.reduceLeDiff, reduceCtorEq, ac_law29_twice_L0]
end Go.Eng
end
section
set_option maxRecDepth 20000
namespace Go.Eng
open Go.MuLone
theorem tieW {P : Program} {G : Gl} {tab : Tab} {f : FuncId} {fn : Func} {c : Code} {ac : AC} {hints : List (Nat × List Nat)} {rs : List (Nat × Option (Nat × Bool))} (hf : P.funcs[f]? = some fn) (hname : (fn.name == "runtime.NumGoroutine") = false) (hb : fn.body = some c) (hann : ann P fn.ntmps hints c = some ac) (hmx : P.follows .mixedOrders = true)
   (ht : TabOk P G tab) (hrs : resOf P fn.results.toList = some rs) (ct : Ct) (hn : ∀ x, (ct.as x).length ≤ fn.ntmps) (hi : ∀ x, (ct.ins x).length ≤ 100)
   (h : ∀ x, ct.pre x → ac.wp tab G (zipF 0 (ct.as x)) (zipF 0 (ct.ins x)) (resW rs (ct.ins x).length (fun r' o' => r' = ct.r x ∧ o' = ct.outs x))) : FOk P G f ct.fs :=
 ct.ok (fun args w => run_callFunc_enter hf hname hb args w) (fun x hx => spec_of hf hb hann hmx ht hrs (hn x) (hi x) (h x hx))
theorem tieF {P : Program} {G : Gl} {tab : Tab} {f : FuncId} {fn : Func} {c : Code} {ac : AC} {hints : List (Nat × List Nat)} {rs : List (Nat × Option (Nat × Bool))} (fz : List Nat) (hf : P.funcs[f]? = some fn) (hname : (fn.name == "runtime.NumGoroutine") = false) (hb : fn.body = some c) (hann : ann P fn.ntmps hints c = some ac) (hmx : P.follows .mixedOrders = true)
   (ht : TabOk P G tab) (hrs : resOf P fn.results.toList = some rs) (ct : Ct) (hn : ∀ x, (ct.as x).length ≤ fn.ntmps) (hi : ∀ x, (ct.ins x).length ≤ 100)
   (h : ∀ x, ct.pre x → ac.wp tab G (zipF 0 (ct.as x)) (zipF 0 (ct.ins x)) (resF fz rs (ct.ins x).length (fun r' o' => r' = ct.r x ∧ o' = ct.outs x))) : FOk P G f ct.fs :=
 ct.ok (fun args w => run_callFunc_enter hf hname hb args w) (fun x hx => spec_live fz hf hb hann hmx ht hrs (hn x) (hi x) (h x hx))
theorem tieL {P : Program} {G : Gl} {tab : Tab} {f : FuncId} {fn : Func} {c : Code} {ac : AC} {hints : List (Nat × List Nat)} {rs : List (Nat × Option (Nat × Bool))} (hf : P.funcs[f]? = some fn) (hb : fn.body = some c) (hann : ann P fn.ntmps hints c = some ac) (hmx : P.follows .mixedOrders = true)
   (ht : TabOk P G tab) (hrs : resOf P fn.results.toList = some rs) {as : List V} (hn : as.length ≤ fn.ntmps)
   (h : ac.wp tab G (zipF 0 as) (zipF 0 []) (resW rs 0 (fun r o => r = .t (.bool true) ∧ o = []))) : Spec P G f as [] (.t (.bool true)) [] :=
 spec_of hf hb hann hmx ht hrs hn (Nat.zero_le _) h
theorem tieW' {P : Program} {G : Gl} {tab : Tab} {f : FuncId} (fn : Func) (hints : List (Nat × List Nat)) (ac : AC) (rs : List (Nat × Option (Nat × Bool))) (ht : TabOk P G tab) (ct : Ct)
   (h : ∀ x, ct.pre x → ac.wp tab G (zipF 0 (ct.as x)) (zipF 0 (ct.ins x)) (resW rs (ct.ins x).length (fun r' o' => r' = ct.r x ∧ o' = ct.outs x)))
   (hf : P.funcs[f]? = some fn := by kernel_rfl) (hname : (fn.name == "runtime.NumGoroutine") = false := by kernel_rfl) (hb : fn.body = some (fn.body.getD .skip) := by kernel_rfl) (hann : ann P fn.ntmps hints (fn.body.getD .skip) = some ac := by kernel_rfl) (hmx : P.follows .mixedOrders = true := by kernel_rfl)
   (hrs : resOf P fn.results.toList = some rs := by kernel_rfl) (hn : ∀ x, (ct.as x).length ≤ fn.ntmps := by exact fun _ => Nat.le_of_ble_eq_true (by kernel_rfl)) (hi : ∀ x, (ct.ins x).length ≤ 100 := by exact fun _ => Nat.le_of_ble_eq_true (by kernel_rfl)) : FOk P G f ct.fs := tieW hf hname hb hann hmx ht hrs ct hn hi h
theorem tieF' {P : Program} {G : Gl} {tab : Tab} {f : FuncId} (fz : List Nat) (fn : Func) (hints : List (Nat × List Nat)) (ac : AC) (rs : List (Nat × Option (Nat × Bool))) (ht : TabOk P G tab) (ct : Ct)
   (h : ∀ x, ct.pre x → ac.wp tab G (zipF 0 (ct.as x)) (zipF 0 (ct.ins x)) (resF fz rs (ct.ins x).length (fun r' o' => r' = ct.r x ∧ o' = ct.outs x)))
   (hf : P.funcs[f]? = some fn := by kernel_rfl) (hname : (fn.name == "runtime.NumGoroutine") = false := by kernel_rfl) (hb : fn.body = some (fn.body.getD .skip) := by kernel_rfl) (hann : ann P fn.ntmps hints (fn.body.getD .skip) = some ac := by kernel_rfl) (hmx : P.follows .mixedOrders = true := by kernel_rfl)
   (hrs : resOf P fn.results.toList = some rs := by kernel_rfl) (hn : ∀ x, (ct.as x).length ≤ fn.ntmps := by exact fun _ => Nat.le_of_ble_eq_true (by kernel_rfl)) (hi : ∀ x, (ct.ins x).length ≤ 100 := by exact fun _ => Nat.le_of_ble_eq_true (by kernel_rfl)) : FOk P G f ct.fs := tieF fz hf hname hb hann hmx ht hrs ct hn hi h
theorem tieL' {P : Program} {G : Gl} {tab : Tab} {f : FuncId} (fn : Func) (hints : List (Nat × List Nat)) (ac : AC) (rs : List (Nat × Option (Nat × Bool))) (ht : TabOk P G tab) {as : List V}
   (h : ac.wp tab G (zipF 0 as) (zipF 0 []) (resW rs 0 (fun r o => r = .t (.bool true) ∧ o = [])))
   (hf : P.funcs[f]? = some fn := by kernel_rfl) (hb : fn.body = some (fn.body.getD .skip) := by kernel_rfl) (hann : ann P fn.ntmps hints (fn.body.getD .skip) = some ac := by kernel_rfl) (hmx : P.follows .mixedOrders = true := by kernel_rfl)
   (hrs : resOf P fn.results.toList = some rs := by kernel_rfl) (hn : as.length ≤ fn.ntmps := by exact Nat.le_of_ble_eq_true (by kernel_rfl)) : Spec P G f as [] (.t (.bool true)) [] := tieL hf hb hann hmx ht hrs hn h
end Go.Eng
end
section
set_option maxRecDepth 20000
namespace Go.Eng
open Go.MuLone
def SW (tab : Tab) (gl : Gl) (ac : AC) (fs : Fs) (hs : Hs) (Qa : Post) : Prop :=
 ∀ (cx : Cx) (hints : List (Nat × List Nat)) (c : Code), cx.gl = gl → TabOk cx.P cx.gl tab → cx.P.follows .mixedOrders = true → ann cx.P cx.nt hints c = some ac →
   ∀ {Qx : Exit → Act → World → Prop} {β : Nat → Option BI} {F : Nat → Prop} {a : Act} {w : World}, Rel cx β F (look fs) (look hs) a w →
     (∀ e fs' hs' β' F' a' w', Qa e fs' hs' → Rel cx β' F' (look fs') (look hs') a' w' → Qx e.ex a' w') → c.wp cx.P Qx a w
def seqS (tab : Tab) (gl : Gl) (b : AC) (Q : Post) : Post := fun e fs hs => match e with | .normal => SW tab gl b fs hs Q | e => Q e fs hs
theorem seqS_normal {tab : Tab} {gl : Gl} {b : AC} {Q : Post} {fs : Fs} {hs : Hs} : seqS tab gl b Q .normal fs hs = SW tab gl b fs hs Q := Eq.trans (Eq.refl _) rfl
theorem seqS_ret {tab : Tab} {gl : Gl} {b : AC} {Q : Post} {fs : Fs} {hs : Hs} : seqS tab gl b Q .ret fs hs = Q .ret fs hs := Eq.trans (Eq.refl _) rfl
attribute [go_sem] seqS_normal seqS_ret
theorem SW.of {tab : Tab} {gl : Gl} {ac : AC} {fs : Fs} {hs : Hs} {Q : Post} (h : ac.wp tab gl fs hs Q) : SW tab gl ac fs hs Q := by
 intro cx hints c hg ht hm ha Qx β F a w R hQ
 subst hg
 exact AC.sound ht hm ha h R hQ
theorem SW.weak {tab : Tab} {gl : Gl} {ac : AC} {fs fs' : Fs} {hs hs' : Hs} {Q : Post} (hw : Weak fs hs fs' hs') (h : SW tab gl ac fs' hs' Q) : SW tab gl ac fs hs Q := by
 intro cx hints c hg ht hm ha Qx β F a w R hQ
 obtain ⟨β', F', R'⟩ := hw cx β F a w R
 exact h cx hints c hg ht hm ha R' hQ
theorem SW.seq {tab : Tab} {gl : Gl} {a b : AC} {fs : Fs} {hs : Hs} {Q : Post} (h : SW tab gl a fs hs (seqS tab gl b Q)) : SW tab gl (.seq a b) fs hs Q := by
 intro cx hints c hg ht hm ha Qx β F act w R hQ
 cases c with
 | seq x y =>
   simp only [ann, Option.bind_eq_some_iff, Option.map_eq_some_iff] at ha
   obtain ⟨cx', hx, cy, hy, e⟩ := ha
   cases e
   refine wp_seq (h cx hints x hg ht hm hx R (fun e fs' hs' β' F' a' w' hq R' => ?_))
   cases e with
   | normal => exact hq cx hints y hg ht hm hy R' hQ
   | exit id => exact hQ (.exit id) _ _ _ _ _ _ hq R'
   | ret => exact hQ .ret _ _ _ _ _ _ hq R'
 | cond o x y =>
   simp only [ann, Option.bind_eq_some_iff, Option.map_eq_some_iff] at ha
   obtain ⟨_, _, _, _, _, _, e⟩ := ha
   cases e
 | region id ops draw =>
   simp only [ann, Option.bind_eq_some_iff] at ha
   obtain ⟨_, _, e⟩ := ha
   split at e
   · split at e
     · cases e
     · cases e
   · cases e
 | _ => simp [ann] at ha
theorem spec_ofS {P : Program} {G : Gl} {tab : Tab} {f : FuncId} {fn : Func} {c : Code} {ac : AC} {hints : List (Nat × List Nat)} {rs : List (Nat × Option (Nat × Bool))} (hf : P.funcs[f]? = some fn) (hb : fn.body = some c) (hann : ann P fn.ntmps hints c = some ac) (hmx : P.follows .mixedOrders = true)
   (ht : TabOk P G tab) (hrs : resOf P fn.results.toList = some rs) {as : List V} {ins : List Ob} {r : V} {outs : List Ob} (hn : as.length ≤ fn.ntmps) (hi : ins.length ≤ 100)
   (h : SW tab G ac (zipF 0 as) (zipF 0 ins) (resW rs ins.length (fun r' outs' => r' = r ∧ outs' = outs))) : Spec P G f as ins r outs := by
 intro w β F vals env fits hargs
 have hd0 : ∀ k bi, β k = some bi → k < 100 := by
   intro k bi h
   rcases Nat.lt_or_ge k ins.length with h1 | h1
   · omega
   · rw [fits.dom k h1] at h; cases h
 let cx : Cx := { P, w0 := w, F0 := F, inb := fun b => ∃ k bi, β k = some bi ∧ bi.blk = some b, nt := fn.ntmps, gl := G, β0 := β, d0 := hd0 }
 have hlen : as.length = vals.size := by simpa using hargs.length
 have lookAs : ∀ t v, look (zipF 0 as) t = some v → as[t]? = some v := by
   intro t v h; simpa [look_zipF] using h
 have lookIns : ∀ t v, look (zipF 0 ins) t = some v → ins[t]? = some v := by
   intro t v h; simpa [look_zipF] using h
 have R0 : Rel cx β F (look (zipF 0 as)) (look (zipF 0 ins)) { tmps := vals ++ Array.replicate (fn.ntmps - vals.size) undef, defers := [] } w := by
   refine ⟨by simp [cx]; omega, rfl, fun t v hv => ?_, fun id o ho => ?_, fun id hn => ?_, fun i j bi bj b oi oj h1 h2 h3 h4 _ _ _ _ => fits.inj i j bi bj b h1 h2 h3 h4, rfl, rfl, rfl, Nat.le_refl _, fun _ _ _ => rfl, fun id z es full bi b h1 h2 h3 => .inr ⟨?_, id, bi, h2, h3⟩, fun b hb => ?_, fun b hb => ?_, env.Fw, fun _ _ => Iff.rfl, fun id bi b h1 h2 => (fits.blt id bi b h1 h2).1, fun g cs hg => ?_, fun _ _ h => h, env.gs⟩
   · obtain ⟨x, h1, h2⟩ := hargs.get' t v (lookAs t v hv)
     refine ⟨x, ?_, h2⟩
     have hlt : t < vals.size := by
       have := (List.getElem?_eq_some_iff.1 (lookAs t v hv)).1
       omega
     rw [Array.getElem?_append_left hlt]
     simpa using h1
   · obtain ⟨bi, h1, h2, _⟩ := fits.ok id o (lookIns id o ho)
     exact ⟨bi, h1, h2⟩
   · refine fits.dom id ?_
     rcases Nat.lt_or_ge id ins.length with h1 | h1
     · rw [look_zipF] at hn
       simp [h1] at hn
     · exact h1
   · have := (List.getElem?_eq_some_iff.1 (lookIns id _ h1)).1
     omega
   · obtain ⟨k, bi, h1, h2⟩ := hb
     exact (fits.blt k bi b h1 h2).2
   · obtain ⟨k, bi, h1, h2⟩ := hb
     exact (fits.blt k bi b h1 h2).1
   · exact (env.gl g cs hg).mono (fun _ _ h => by cases h) (fun _ h => h) (fun _ _ => rfl)
 refine calls_of_wp hf hb (h cx hints c rfl ht hmx hann R0 (fun e fs hs βR FR a w' hq R => ?_))
 have fin : ((rsQ fs rs).bind fun vs => retQ ins.length vs).wp hs (fun p _ => p.1 = r ∧ p.2 = outs) → a.defers = [] ∧ ∃ v, (results fn a.tmps).run P w' = .ok v w' ∧ ∃ x β' F', Ending.returned v = .returned x ∧ SpecPost w β F ins r outs x β' F' w' := by
   intro hq
   rw [Q.wp_bind] at hq
   obtain ⟨vs, l0, hvs, ⟨r', outs'⟩, l, hrun, e1, e2⟩ := hq
   obtain ⟨xs, hxs, hall⟩ := rs_sound (cx := cx) R hrs hvs
   refine ⟨R.dfr, _, run_results hxs, ?_⟩
   · simp only at e1 e2
     subst e1 e2
     unfold retQ at hrun
     obtain ⟨p, l1, l2, hp, hrun, _⟩ := bind_inv hrun
     obtain ⟨q, l3, l4, hqq, hrun, _⟩ := bind_inv hrun
     obtain ⟨hdis, hrun⟩ := assert_inv hrun
     obtain ⟨fw, l5, l6, hfw, hrun, _⟩ := bind_inv hrun
     obtain ⟨e, _⟩ := ret_inv hrun
     simp only [Prod.mk.injEq] at e
     obtain ⟨rfl, rfl⟩ := e
     obtain ⟨ids, obs, fzq⟩ := q
     obtain ⟨t, htt⟩ := gather_range (s := 0) (m := ins.length) (n := 12 + ins.length) (rest := refsL p.1) (by simpa [List.range_eq_range'] using hqq)
     have hidk : ∀ k, k < ins.length → ids[k]? = some k := by
       intro k hk
       rw [htt, List.getElem?_append_left (by simpa using hk)]
       simp [hk]
     obtain ⟨F1, R1, hFF, hnd, hlo, hfwl, hlive, fits', hres⟩ := pre_core R hp hqq (fun r h => by simp [h]) hdis hfw hall
     have hβk : ∀ k bi, β k = some bi → βR k = some bi := R1.ext0
     have hklt : ∀ k bi, β k = some bi → k < ins.length := by
       intro k bi h
       rcases Nat.lt_or_ge k ins.length with h1 | h1
       · exact h1
       · rw [fits.dom k h1] at h; cases h
     refine ⟨_, nums ids βR, F1, rfl, fits', res_sound hres, fun k hk => ?_, fun k bi b hk h1 h2 => ?_, fun b hb => R1.F0 b hb, R1.Fw, R1.os, R1.tape, R1.output, R1.size, fun b hb hk => R1.ext b hb (fun ⟨k, bi, h1, h2⟩ => hk k bi h1 h2)⟩
     · obtain ⟨bi, h1, _⟩ := fits.ok k ins[k] (by simp [hk])
       simp [nums, hidk k hk, hβk k bi h1, h1]
     · unfold nums at h1
       rw [Option.bind_eq_some_iff] at h1
       obtain ⟨id, hid, h1⟩ := h1
       obtain ⟨z, es, full, _, hl⟩ := hlive k id hid
       rcases R1.old id z es full bi b hl h1 h2 with h | ⟨_, k0, bi0, g1, g2⟩
       · exact h
       · exfalso
         have hk0 := hklt k0 bi0 g1
         obtain ⟨z0, es0, full0, _, hl0⟩ := hlive k0 k0 (hidk k0 hk0)
         have e := R1.inj id k0 bi bi0 b _ _ h1 (hβk k0 bi0 g1) h2 g2 hl hl0 (by simp) (by simp)
         subst e
         have hi1 : k < ids.length := (List.getElem?_eq_some_iff.1 hid).1
         have hi2 : id < ids.length := (List.getElem?_eq_some_iff.1 (hidk id hk0)).1
         have := nodup_inj hnd hi1 hi2 (by
           have a1 := hid
           have a2 := hidk id hk0
           rw [List.getElem?_eq_getElem hi1] at a1
           rw [List.getElem?_eq_getElem hi2] at a2
           rw [Option.some.inj a1, Option.some.inj a2])
         omega
 cases e with
 | normal => exact fin hq
 | ret => exact fin hq
 | exit id => exact hq.elim
theorem tieS' {P : Program} {G : Gl} {tab : Tab} {f : FuncId} (fn : Func) (hints : List (Nat × List Nat)) (ac : AC) (rs : List (Nat × Option (Nat × Bool))) (ht : TabOk P G tab) (ct : Ct)
   (h : ∀ x, ct.pre x → SW tab G ac (zipF 0 (ct.as x)) (zipF 0 (ct.ins x)) (resW rs (ct.ins x).length (fun r' o' => r' = ct.r x ∧ o' = ct.outs x)))
   (hf : P.funcs[f]? = some fn := by kernel_rfl) (hname : (fn.name == "runtime.NumGoroutine") = false := by kernel_rfl) (hb : fn.body = some (fn.body.getD .skip) := by kernel_rfl) (hann : ann P fn.ntmps hints (fn.body.getD .skip) = some ac := by kernel_rfl) (hmx : P.follows .mixedOrders = true := by kernel_rfl)
   (hrs : resOf P fn.results.toList = some rs := by kernel_rfl) (hn : ∀ x, (ct.as x).length ≤ fn.ntmps := by exact fun _ => Nat.le_of_ble_eq_true (by kernel_rfl)) (hi : ∀ x, (ct.ins x).length ≤ 100 := by exact fun _ => Nat.le_of_ble_eq_true (by kernel_rfl)) : FOk P G f ct.fs :=
 ct.ok (fun args w => run_callFunc_enter hf hname hb args w) (fun x hx => spec_ofS hf hb hann hmx ht hrs (hn x) (hi x) (h x hx))
end Go.Eng
end
section
set_option maxRecDepth 20000
set_option maxHeartbeats 64000000
namespace Go.Eng
def awL : List Im := [(1, [102], 0, []), (3, [107], 0, []), (4, [99], 0, [97, 61, 49, 10, 98, 10])]
theorem aw29_a : chkC awL = 0 ∧ (evsC 2 awL).length = 12 ∧ ((evsC 2 awL)[9]?).map (fun e => e.1) = some 8 ∧ ((evsC 2 awL)[11]?).map (fun e => e.2.2.2) = some [98] := by decide +kernel
theorem aw29_b : (rpF 2 (evsC 2 awL)).2 = 12 ∧ valL (rpF 2 (evsC 2 awL)).1 1 4 = valL (rpF 2 (evsC 2 awL)).1 1 5 := by decide +kernel
theorem awL_m : imsM awL := by
 refine ⟨by simp [awL], fun x hx => ?_⟩
 simp only [awL, List.mem_cons, List.not_mem_nil, or_false] at hx
 rcases hx with rfl | rfl | rfl
 all_goals exact ⟨by simp, by simp, by unfold rI; simp, by unfold rI; simp⟩
theorem w_awake29 (tab : Tab) (gl : Gl) (n1 n2 n3 n4 : Nat) (h1 : tab.look n1 = some ct_evI.fs) (h2 : tab.look n2 = some ct_prd.fs) (h3 : tab.look n3 = some ct_val.fs) (h4 : tab.look n4 = some ct_same.fs) :
   SW tab gl (ac_law29_awake n1 n2 n3 n4) (zipF 0 []) (zipF 0 []) (resW [(0, none)] 0 (fun r o => r = .t (.bool true) ∧ o = [])) := by
 obtain ⟨a1, a2, a3, a4⟩ := aw29_a
 obtain ⟨b1, b2⟩ := aw29_b
 have e0 : prE awL 2 = 0 := by unfold prE; rw [if_neg (by omega), if_neg (by omega)]
 have eI : evsI awL 2 = evsC 2 awL := (evsI_ok e0).1
 have eG : prG awL 2 = rpF 2 (evsC 2 awL) := if_pos e0
 have hE : ct_evI.fs [.t (.sl [.agg [.int .i64 1, strT [102], .int .i64 0, .sl []], .agg [.int .i64 3, strT [107], .int .i64 0, .sl []], .agg [.int .i64 4, strT [99], .int .i64 0, .sl [byteT 97, byteT 61, byteT 49, byteT 10, byteT 98, byteT 10]]]), .t (.int .i64 2)] [] = _ := evI_eq (l := awL) (act := 2) awL_m
 have hR : ct_prd.fs [.t (.sl [.agg [.int .i64 1, strT [102], .int .i64 0, .sl []], .agg [.int .i64 3, strT [107], .int .i64 0, .sl []], .agg [.int .i64 4, strT [99], .int .i64 0, .sl [byteT 97, byteT 61, byteT 49, byteT 10, byteT 98, byteT 10]]]), .t (.int .i64 2)] [] = _ := prd_eq (l := awL) (act := 2) awL_m
 have hS := (rpF_rq (act := 2) (by omega) (es := evsC 2 awL)).1
 have on : onB (rpF 2 (evsC 2 awL)).1 1 = true := hS.on (by omega) (by decide)
 have v4 := val_on (u := (rpF 2 (evsC 2 awL)).2) hS.rv.rm (a := 1) (n := 4) (by omega) (by omega) on
 have v5 := val_on (u := (rpF 2 (evsC 2 awL)).2) hS.rv.rm (a := 1) (n := 5) (by omega) (by omega) on
 have lv := valL_le hS.rv (a := 1) (g := 5)
 rw [show ((1 : Nat) : Int) = 1 from rfl, show ((4 : Nat) : Int) = 4 from rfl] at v4
 rw [show ((1 : Nat) : Int) = 1 from rfl, show ((5 : Nat) : Int) = 5 from rfl] at v5
 rw [eI] at hE
 rw [eG, e0] at hR
 rw [b2] at v4
 rw [b1] at hR v4 v5
 clear a1 b1 b2 e0 eI eG hS on
 generalize valL (rpF 2 (evsC 2 awL)).1 1 5 = v at *
 generalize (rpF 2 (evsC 2 awL)).1 = X at *
 generalize evsC 2 awL = es at *
 obtain ⟨⟨q1, q2, q3, q4⟩, h9, g9⟩ := Option.map_eq_some_iff.1 a3
 obtain ⟨⟨p1, p2, p3, p4⟩, h11, g11⟩ := Option.map_eq_some_iff.1 a4
 simp only at g9 g11
 subst g9
 have hd : decide (p4 = [98]) = true := decide_eq_true g11
 have hq := same_eq (a := v) (b := v) ⟨by omega, by omega⟩
 rw [decide_eq_true rfl] at hq
 have tv : List.take v.length v = v := List.take_length
 obtain ⟨A, B, C, hA⟩ : ∃ A B C, ac_law29_awake n1 n2 n3 n4 = .seq A (.seq B C) := ⟨_, _, _, rfl⟩
 have hA' := hA
 simp only [ac_law29_awake, AC.seq.injEq] at hA'
 obtain ⟨eA, eB, eC⟩ := hA'
 rw [hA]
 refine SW.seq (SW.of ?_)
 subst eA
 simp (disch := omega) only [go_sem, Nat.reduceAdd]
 refine SW.seq (SW.of ?_)
 subst eB
 simp (disch := omega) only [go_sem, ↓reduceIte, Nat.reduceAdd, Nat.reduceEqDiff, Nat.reduceLT, Nat.reduceLeDiff]
 refine SW.weak (fs' := [(0, .t (.bool false)), (1, .sl 8272 0 3)]) (hs' := [(8272, .live 4 [.t (.agg [.int .i64 1, strT [102], .int .i64 0, .sl []]), .t (.agg [.int .i64 3, strT [107], .int .i64 0, .sl []]), .t (.agg [.int .i64 4, strT [99], .int .i64 0, .sl [byteT 97, byteT 61, byteT 49, byteT 10, byteT 98, byteT 10]])] true true)]) (Weak.cv (hv := []) (ho := [(8272, .live 4 [.t (.agg [.int .i64 1, strT [102], .int .i64 0, .sl []]), .t (.agg [.int .i64 3, strT [107], .int .i64 0, .sl []]), .t (.agg [.int .i64 4, strT [99], .int .i64 0, .sl [byteT 97, byteT 61, byteT 49, byteT 10, byteT 98, byteT 10]])] true true)]) [8224] id ?_ rfl) (SW.of ?_)
 · simp (disch := omega) only [go_sem, ↓reduceIte, Nat.reduceAdd, Nat.reduceEqDiff, Nat.reduceLeDiff, reduceCtorEq, id]
   all_goals rfl
 · subst eC
   simp (disch := omega) only [go_sem, ↓reduceIte, Nat.reduceAdd, Nat.reduceEqDiff, Nat.reduceLeDiff, Int.reduceLE, reduceCtorEq, h1, hE, h2, hR, h3, v4, v5, h4, hq, tv, a2, h9, h11, evT_def, hd]
   all_goals rfl
theorem chG_m {b : List UInt8} : imsM (chG b) := by
 obtain ⟨_, h1, h2⟩ := chG_ok (b := b)
 exact ⟨by omega, fun x hx => chkI_m (h1 x hx)⟩
def zero32 : List UInt8 := List.replicate 32 0
def dgE (e : Ev) : List UInt8 := e.2.2.1.getD 1 []
def msE (v : List (List UInt8)) (e : Ev) : List (List UInt8) := (if e.2.1 ≠ 1 then [e.2.2.2] else []) ++ [v.getD e.1.toNat [] ++ dgE e]
def stV (v : List (List UInt8)) (e : Ev) : List (List UInt8) := v.set e.1.toNat (sum256 (v.getD e.1.toNat [] ++ dgE e))
def hsE : List (List UInt8) → List Ev → List (List UInt8)
 | _, [] => []
 | v, e :: r => msE v e ++ hsE (stV v e) r
def v0 : List (List UInt8) := List.replicate 12 zero32
def hsd (l : List Im) : List (List UInt8) := (imgs l).map encI' ++ hsE v0 (evsI l 2)
def rolR (r : Int) (l : List Im) : List Im := l.filter fun x => decide (x.1 = r)
theorem chF_pw : ∀ {l pre : List Im}, chF pre l = 0 → pre.Pairwise (fun a b => a.1 ≤ b.1) → (∀ y ∈ pre, y.1 ≤ (pre.getLastD (0, [], 0, [])).1) → (pre ++ l).Pairwise (fun a b => a.1 ≤ b.1)
 | [], pre, _, hp, _ => by simpa using hp
 | x :: r, pre, h, hp, hl => by
   unfold chF at h
   split at h
   · omega
   · split at h
     · simp at h
     · rename_i hno
       split at h
       · simp at h
       · have hx : ∀ y ∈ pre, y.1 ≤ x.1 := fun y hy => by
           have h1 := hl y hy
           have h2 : ¬ x.1 < (pre.getLastD (0, [], 0, [])).1 := fun h3 => hno ⟨List.ne_nil_of_mem hy, h3⟩
           omega
         have := chF_pw (l := r) (pre := pre ++ [x]) h (List.pairwise_append.2 ⟨hp, by simp, fun a ha b hb => by rw [List.mem_singleton.1 hb]; exact hx a ha⟩) (fun y hy => by
           have e : (pre ++ [x]).getLastD (0, [], 0, []) = x := by simp
           rw [e]
           rcases List.mem_append.1 hy with hy | hy
           · exact hx y hy
           · rw [List.mem_singleton.1 hy]; exact Int.le_refl _)
         simpa using this
theorem rol_none {r : Int} {l : List Im} (h : ∀ x ∈ l, x.1 ≠ r) : rolR r l = [] := List.filter_eq_nil_iff.2 fun x hx => by simpa using h x hx
theorem rol_cons {r : Int} {x : Im} {l : List Im} : rolR r (x :: l) = if x.1 = r then x :: rolR r l else rolR r l := by
 unfold rolR
 rw [List.filter_cons]
 by_cases h : x.1 = r <;> simp [h]
theorem pw_split : ∀ {l : List Im}, l.Pairwise (fun a b => a.1 ≤ b.1) → (∀ x ∈ l, 1 ≤ x.1 ∧ x.1 ≤ 3) → l = rolR 1 l ++ (rolR 2 l ++ rolR 3 l)
 | [], _, _ => rfl
 | x :: l, hp, hr => by
   obtain ⟨h1, h2⟩ := List.pairwise_cons.1 hp
   have ih := pw_split h2 (fun y hy => hr y (by simp [hy]))
   have hx := hr x (by simp)
   rw [rol_cons, rol_cons, rol_cons]
   rcases (show x.1 = 1 ∨ x.1 = 2 ∨ x.1 = 3 by omega) with e | e | e
   · rw [if_pos e, if_neg (by omega), if_neg (by omega), List.cons_append, ← ih]
   · have n1 := rol_none (r := 1) (l := l) (fun y hy => by have := h1 y hy; omega)
     rw [n1, List.nil_append] at ih
     rw [if_neg (by omega), if_pos e, if_neg (by omega), n1, List.nil_append, List.cons_append, ← ih]
   · have n1 := rol_none (r := 1) (l := l) (fun y hy => by have := h1 y hy; omega)
     have n2 := rol_none (r := 2) (l := l) (fun y hy => by have := h1 y hy; omega)
     rw [n1, n2, List.nil_append, List.nil_append] at ih
     rw [if_neg (by omega), if_neg (by omega), if_pos e, n1, n2, List.nil_append, List.nil_append, ← ih]
theorem rol_imgs {r : Int} (h : r ≠ 4) {l : List Im} : rolR r (imgs l) = rolR r l := by
 unfold rolR imgs
 rw [List.filter_filter]
 refine List.filter_congr fun x _ => ?_
 by_cases hx : x.1 = r
 · rw [decide_eq_true hx, decide_eq_true (by omega)]; rfl
 · rw [decide_eq_false hx]; rfl
theorem imgs_split {l : List Im} (h : chkC l = 0) : imgs l = rolR 1 l ++ (rolR 2 l ++ rolR 3 l) := by
 obtain ⟨ok, h1, h8⟩ := chkC_ok h
 unfold chkC at h
 rw [if_neg (by omega)] at h
 have hp := chF_pw h .nil (by simp)
 rw [List.nil_append] at hp
 have := pw_split (l := imgs l) (hp.filter _) (fun x hx => by
   obtain ⟨hx1, hx2⟩ := List.mem_filter.1 hx
   have := (chkI_good (ok x hx1)).1
   have h4 : x.1 ≠ 4 := by simpa using hx2
   omega)
 rw [rol_imgs (by decide), rol_imgs (by decide), rol_imgs (by decide)] at this
 exact this
theorem evsR_cnt {act r : Int} (h4 : r ≠ 4) {l : List Im} : (evsR act r l).length = (rolR r l).length := by
 unfold evsR rolR
 simp only [if_neg h4]
 induction (l.filter fun x => decide (x.1 = r)) with
 | nil => rfl
 | cons x t ih => rw [List.flatMap_cons, List.length_append, ih, List.length_cons, List.length_cons, List.length_nil]; omega
theorem evsC_chG {b : List UInt8} {act : Int} : 10 ≤ (evsC act (chG b)).length ∧ (evsC act (chG b)).length ≤ 40 := by
 obtain ⟨_, h2, _, ⟨y, hy, hy1⟩, ⟨z, hz, hz1⟩, h6⟩ := chG_lns (b := b)
 have hs := imgs_split (chG_ok (b := b)).1
 have e1 := evsR_cnt (act := act) (r := 1) (by decide) (l := chG b)
 have e2 := evsR_cnt (act := act) (r := 2) (by decide) (l := chG b)
 have e3 := evsR_cnt (act := act) (r := 3) (by decide) (l := chG b)
 have e4 : (evsR act 4 (chG b)).length = (lnsC (chG b)).length := by rw [evsR_lns, List.length_map]
 have e8 := seps_len (act := act)
 have m1 : y ∈ rolR 1 (chG b) := List.mem_filter.2 ⟨(List.mem_filter.1 hy).1, by simp [hy1]⟩
 have m3 : z ∈ rolR 3 (chG b) := List.mem_filter.2 ⟨(List.mem_filter.1 hz).1, by simp [hz1]⟩
 have p1 := List.length_pos_of_mem m1
 have p3 := List.length_pos_of_mem m3
 have hl := congrArg List.length hs
 simp only [List.length_append] at hl
 unfold evsC
 simp only [List.length_append]
 omega
theorem evsI_chG {b : List UInt8} {A : Int} (hA : 1 ≤ A ∧ A ≤ 3) : evsI (chG b) A = evsC A (chG b) ∧ prE (chG b) A = 0 ∧ prG (chG b) A = rpF A (evsC A (chG b)) ∧ (∀ e ∈ evsC A (chG b), evV A e) ∧ esM (evsC A (chG b)) := by
 have hz := (chG_ok (b := b)).1
 have e0 : prE (chG b) A = 0 := by unfold prE; rw [if_neg (by omega), if_neg (by omega)]
 have hm := (evsI_m (l := chG b) (act := A)).2.2
 rw [(evsI_ok e0).1] at hm
 exact ⟨(evsI_ok e0).1, e0, if_pos e0, (evsI_ok e0).2.1, hm⟩
theorem w_PredictReplay (tab : Tab) (gl : Gl) (n1 n2 n3 n4 n5 n6 n7 : Nat) (h1 : tab.look n1 = some ct_awake.fs) (h2 : tab.look n2 = some ct_dact.fs) (h3 : tab.look n3 = some ct_dch.fs) (h4 : tab.look n4 = some ct_evI.fs) (h5 : tab.look n5 = some ct_prd.fs) (h6 : tab.look n6 = some ct_fsI.fs) (h7 : tab.look n7 = some ct_twi.fs)
   (cs : List UInt8) (hcs : cs.length ≤ 9223372036854775807) (a : Int) (ha : rI a) :
   (ac_law29_PredictReplay n1 n2 n3 n4 n5 n6 n7).wp tab gl (zipF 0 [.t (.sl (cs.map byteT)), .t (.int .i64 a)]) (zipF 0 []) (resW [(4, none)] 0 (fun r' o => r' = .t (.bool true) ∧ o = [])) := by
 have lA := modI_lt (a := a) (m := 3) (by omega)
 have hA := dact_eq ha
 obtain ⟨A, hAe⟩ : ∃ A, 1 + modI a 3 = A := ⟨_, rfl⟩
 rw [hAe] at hA
 have lA2 : 1 ≤ A ∧ A ≤ 3 := by omega
 have hC := dch_eq hcs
 have hE := evI_eq (act := A) (chG_m (b := cs))
 have hR := prd_eq (act := A) (chG_m (b := cs))
 obtain ⟨q1, q2, q3, q4, q5⟩ := evsI_chG (b := cs) lA2
 rw [q1] at hE
 rw [q2, q3] at hR
 have hl := evsC_chG (b := cs) (act := A)
 have hT := twi_eq (act := A) (es := evsC A (chG cs)) ⟨q5, by omega⟩
 have hS := (rpF_rq lA2 (es := evsC A (chG cs))).1
 have hF := fsI_eq (act := A) (rs := 0) (r := rpF A (evsC A (chG cs))) ⟨q5, hS.rv⟩
 have tw : fsI (rpF A (evsC A (chG cs))).1 A (evsC A (chG cs)) ≠ -1 → twB A (evsC A (chG cs)) = true := tw_end lA2 q4
 generalize fsI (rpF A (evsC A (chG cs))).1 A (evsC A (chG cs)) = k at *
 generalize rpF A (evsC A (chG cs)) = X at *
 generalize evsC A (chG cs) = es at *
 generalize chG cs = C at *
 by_cases hk : k = -1
 · subst hk
   simp (disch := omega) only [go_sem, ↓reduceIte, Nat.reduceAdd, Nat.reduceEqDiff, Nat.reduceLeDiff, Int.reduceNeg, reduceCtorEq, ac_law29_PredictReplay, h1, awake_eq, h2, hA, h3, hC, h4, hE, h5, hR, h6, hF]
   all_goals rfl
 · have hkb : (k != -1) = true := by simpa using hk
   rw [tw hk] at hT
   simp (disch := omega) only [go_sem, ↓reduceIte, Nat.reduceAdd, Nat.reduceEqDiff, Nat.reduceLeDiff, Int.reduceNeg, reduceCtorEq, ac_law29_PredictReplay, h1, awake_eq, h2, hA, h3, hC, h4, hE, h5, hR, h6, hF, hkb, h7, hT]
   all_goals rfl
end Go.Eng
end
section
set_option maxRecDepth 20000
namespace Go.Eng
open Go.MuLone
theorem ok_name {P : Program} {G : Gl} {f : FuncId} {fn : Func} {c : Code} (hf : P.funcs[f]? = some fn) (hname : (fn.name == "runtime.NumGoroutine") = false) (hb : fn.body = some c)
   (h : ∀ (s : ByteArray) (w : World), Calls P f #[.string s] w fun e w' => e = .returned (.bool (nameB s.data.toList)) ∧ (w' = w ∨ ∃ pos, w' = w.iter s pos)) : FOk P G f ct_name.fs := by
 refine ct_name.ok (fun args w => run_callFunc_enter hf hname hb args w) (fun x _ => ?_)
 intro w β F vals env fits hargs
 have hvals : vals = #[.string ⟨List.toArray x⟩] := by
   obtain ⟨l⟩ := vals
   cases hargs with
   | cons h1 h2 =>
     cases h2
     cases h1 with
     | t h => cases h; rfl
 subst hvals
 refine (h _ w).mono fun e w' he => ?_
 obtain ⟨rfl, hw⟩ := he
 refine ⟨_, β, F, rfl, ?_⟩
 have hβ : ∀ k, β k = none := fun k => fits.dom k (Nat.zero_le _)
 have hx : nameB (ByteArray.mk (List.toArray x)).data.toList = nameB x := rfl
 rw [hx]
 have res : ∀ w', RepV β F w' (ct_name.r x) (.bool (nameB x)) := fun w' => .t (.bool _)
 have fit : ∀ w', Fits β F w' (ct_name.outs x) := fun w' => ⟨fun k o hk => (by simp [ct_name] at hk), fun k _ => hβ k, fun i j bi bj b h1 => (by rw [hβ] at h1; cases h1), fun k bi b h1 => (by rw [hβ] at h1; cases h1)⟩
 rcases hw with rfl | ⟨pos, rfl⟩
 · exact ⟨fit _, res _, fun _ _ => rfl, fun k bi b _ h1 => by (rw [hβ] at h1; cases h1), fun _ _ => Iff.rfl, env.Fw, rfl, rfl, rfl, Nat.le_refl _, fun _ _ _ => rfl⟩
 · have hsz : (w.iter ⟨List.toArray x⟩ pos).heap.size = w.heap.size + 1 := by
     show (w.heap.push _).size = _
     exact Array.size_push _
   have hold : ∀ b, b < w.heap.size → (w.iter ⟨List.toArray x⟩ pos).heap[b]? = w.heap[b]? := by
     intro b hb
     show (w.heap.push _)[b]? = _
     rw [Array.getElem?_push, if_neg (by omega)]
   exact ⟨fit _, res _, fun _ _ => rfl, fun k bi b _ h1 => by (rw [hβ] at h1; cases h1), fun _ _ => Iff.rfl, fun b hb => by (have := env.Fw b hb; rw [hsz]; omega), rfl, rfl, rfl, by (rw [hsz]; omega), fun b hb _ => hold b hb⟩
end Go.Eng
end
section
namespace Go.Eng
def ac_image_printable_L0 : AC :=
 (.seq
 (rG 12288 [bT 8 .lss 7 6])
 (.seq
 (.cond (.tmp 8)
 .skip
 (.exit 0))
 (.seq
 (.block 1
 (.seq
 (rG 16384 [oO 9 (.iaddr 1) [.tmp 5, .tmp 7],oO 10 (.load 1 false) [.tmp 9],mv 4 10])
 (.seq
 (rG 20480 [mv 11 4,oO 12 (.bin .lss) [.tmp 11, .cst (.t (byteT 32))],mv 13 12,mF 14 4 13,oF 15 13 (.bin .gtr) [.tmp 14, .cst (.t (byteT 126))],oO 16 .pick [.tmp 13, .cst (.t (.bool true)), .tmp 15]])
 (.cond (.tmp 16)
 (.seq
 (rG 24576 [mC 2 (.t (.bool false))])
 .ret)
 .skip))))
 (rG 28672 [bN 17 .add 7 1,mv 7 17]))))
def ac_image_printable : AC :=
 (.seq
 (rG 4096 [mC 2 (.t (.bool false))])
 (.seq
 (.seq
 (rG 8192 [mv 5 0,oO 6 .len [.tmp 5],mC 7 (.t (.int .i64 0))])
 (.block 0
 (.loop ac_image_printable_L0)))
 (.seq
 (rG 32768 [mC 2 (.t (.bool true))])
 .ret)))
def hints_image_printable : List (Nat × List Nat) := []
def ac_image_Lines_L0 (n_bytes_IndexByte n_image_printable : Nat) : AC :=
 (.seq
 (.seq
 (rG 16384 [mv 8 4,oO 9 .len [.tmp 8],bN 10 .gtr 9 0])
 (.cond (.tmp 10)
 .skip
 (.exit 0)))
 (.block 1
 (.seq
 (rG 20480 [mv 11 4,cL 12 n_bytes_IndexByte false [.tmp 11, .cst (.t (byteT 10))],mv 5 12])
 (.seq
 (.seq
 (rG 24576 [mv 13 5,bN 14 .lss 13 1,mv 15 14,mF 16 3 15,oF 17 15 .len [.tmp 16],oF 18 15 (.bin .eql) [.tmp 17, .cst (.t (.int .i64 4))],oO 19 .pick [.tmp 15, .cst (.t (.bool true)), .tmp 18],mv 20 19,mF 21 4 20,mF 22 5 20,oF 23 20 (.slice 1 false true false) [.tmp 21, .tmp 22],cF 24 20 n_image_printable false [.tmp 23],oF 25 20 (.un .not) [.tmp 24],oO 26 .pick [.tmp 20, .cst (.t (.bool true)), .tmp 25]])
 (.cond (.tmp 26)
 (.seq
 (rG 28672 [mC 2 .nil])
 .ret)
 .skip))
 (.seq
 (rG 32768 [mv 27 3,mv 28 4,mv 29 5,mv 30 5,oO 31 (.slice 1 false true true) [.tmp 28, .tmp 29, .tmp 30],oO 32 (.bslice 1 1 .nil [0]) [.tmp 31],oO 33 (.append 1 24) [.tmp 27, .tmp 32],mv 3 33])
 (rG 36864 [mv 34 4,mv 35 5,bN 36 .add 35 1,oO 37 (.slice 1 true false false) [.tmp 34, .tmp 36],mv 4 37]))))))
def ac_image_Lines (n_bytes_IndexByte n_image_printable : Nat) : AC :=
 (.seq
 (rG 4096 [oO 1 .box [.tmp 0],mC 2 .nil])
 (.seq
 (rG 8192 [mC 3 .nil])
 (.seq
 (.seq
 (rG 12288 [oO 6 (.faddr 3) [.tmp 1],oO 7 (.load 1 false) [.tmp 6],mv 4 7])
 (.block 0
 (.loop (ac_image_Lines_L0 n_bytes_IndexByte n_image_printable))))
 (.seq
 (rG 40960 [mv 38 3,mv 2 38])
 .ret))))
def hints_image_Lines : List (Nat × List Nat) := []
def ac_image_Check (n_image_named n_image_Lines : Nat) : AC :=
 (.seq
 (rG 4096 [oO 1 .box [.tmp 0],mC 2 (.t (.int .i64 0))])
 (.seq
 (.block 0
 (.seq
 (rG 8192 [oO 4 (.faddr 0) [.tmp 1],oO 5 (.load 1 false) [.tmp 4],bN 6 .lss 5 1,mv 7 6,oF 8 7 (.faddr 0) [.tmp 1],oF 9 7 (.load 1 false) [.tmp 8],oF 10 7 (.bin .gtr) [.tmp 9, .cst (.t (.int .i64 4))],oO 11 .pick [.tmp 7, .cst (.t (.bool true)), .tmp 10],mv 12 11,oF 13 12 (.faddr 2) [.tmp 1],oF 14 12 (.load 1 false) [.tmp 13],oF 15 12 (.bin .lss) [.tmp 14, .cst (.t (.int .i64 0))],oO 16 .pick [.tmp 12, .cst (.t (.bool true)), .tmp 15],mv 17 16,oF 18 17 (.faddr 2) [.tmp 1],oF 19 17 (.load 1 false) [.tmp 18],oF 20 17 (.bin .gtr) [.tmp 19, .cst (.t (.int .i64 1000000))],oO 21 .pick [.tmp 17, .cst (.t (.bool true)), .tmp 20],mv 3 21])
 (.cond (.tmp 3)
 (.seq
 (rG 12288 [mC 2 (.t (.int .i64 1))])
 .ret)
 (.seq
 (rG 16384 [oO 23 (.faddr 1) [.tmp 1],oO 24 (.load 1 false) [.tmp 23],cL 25 n_image_named false [.tmp 24],oO 26 (.un .not) [.tmp 25],mv 22 26])
 (.cond (.tmp 22)
 (.seq
 (rG 20480 [mC 2 (.t (.int .i64 43))])
 .ret)
 (.seq
 (rG 24576 [oO 28 (.faddr 3) [.tmp 1],oO 29 (.load 1 false) [.tmp 28],oO 30 .len [.tmp 29],bN 31 .gtr 30 64,mv 27 31])
 (.cond (.tmp 27)
 (.seq
 (rG 28672 [mC 2 (.t (.int .i64 4))])
 .ret)
 (.seq
 (rG 32768 [oO 33 (.faddr 0) [.tmp 1],oO 34 (.load 1 false) [.tmp 33],bN 35 .eql 34 4,mv 36 35,oG 37 36 (.load 4 true) [.tmp 1],cG 38 36 n_image_Lines true [.tmp 37],oG 39 36 .len [.tmp 38],oG 40 36 (.bin .eql) [.tmp 39, .cst (.t (.int .i64 0))],oO 41 .pick [.tmp 36, .tmp 40, .cst (.t (.bool false))],mv 32 41])
 (.cond (.tmp 32)
 (.seq
 (rG 36864 [mC 2 (.t (.int .i64 40))])
 .ret)
 .skip)))))))))
 (.seq
 (rG 40960 [mC 2 (.t (.int .i64 0))])
 .ret)))
def hints_image_Check : List (Nat × List Nat) := [(7, [5])]
def ac_image_Encode (n_image_Check n_wire_Uint n_wire_Blob : Nat) : AC :=
 (.seq
 (rG 4096 [oO 1 .box [.tmp 0],mC 2 .nil])
 (.seq
 (.seq
 (rG 8192 [oO 4 (.load 4 true) [.tmp 1],cL 5 n_image_Check false [.tmp 4],bN 6 .neq 5 0])
 (.cond (.tmp 6)
 (.seq
 (rG 12288 [mC 2 .nil])
 .ret)
 .skip))
 (.seq
 (rG 16384 [oO 7 (.faddr 0) [.tmp 1],oO 8 (.load 1 false) [.tmp 7],cL 9 n_wire_Uint false [.cst .nil, .cst (.t (.int .i64 1)), .tmp 8],mv 3 9])
 (.seq
 (rG 20480 [mv 10 3,oO 11 (.faddr 2) [.tmp 1],oO 12 (.load 1 false) [.tmp 11],cL 13 n_wire_Uint false [.tmp 10, .cst (.t (.int .i64 4)), .tmp 12],mv 3 13])
 (.seq
 (rG 24576 [mv 14 3,oO 15 (.faddr 1) [.tmp 1],oO 16 (.load 1 false) [.tmp 15],oO 17 .s2b [.tmp 16],cL 18 n_wire_Blob false [.tmp 14, .tmp 17],mv 3 18])
 (.seq
 (rG 28672 [mv 19 3,oO 20 (.faddr 3) [.tmp 1],oO 21 (.load 1 false) [.tmp 20],cL 22 n_wire_Blob false [.tmp 19, .tmp 21],mv 2 22])
 .ret))))))
def hints_image_Encode : List (Nat × List Nat) := []
def ac_image_Digests_L0 (n_digest_Sum : Nat) : AC :=
 (.seq
 (rG 20480 [bT 14 .lss 13 12])
 (.seq
 (.cond (.tmp 14)
 .skip
 (.exit 0))
 (.seq
 (.block 1
 (.seq
 (rG 24576 [mv 15 13,mv 7 15])
 (.seq
 (rG 28672 [mv 16 6,oO 17 .len [.tmp 16],bN 18 .gtr 17 0,mv 19 18,mG 20 1 19,mG 21 7 19,oG 22 19 (.bin .shr) [.tmp 20, .tmp 21],oG 23 19 (.bin .and) [.tmp 22, .cst (.t (.int .i64 1))],oG 24 19 (.bin .eql) [.tmp 23, .cst (.t (.int .i64 1))],oO 25 .pick [.tmp 19, .tmp 24, .cst (.t (.bool false))]])
 (.cond (.tmp 25)
 (rG 32768 [mv 26 5,mv 27 7,mv 28 7,mv 29 6,cL 30 n_digest_Sum false [.tmp 28, .tmp 29],oO 31 (.iaddr 1) [.tmp 26, .tmp 27],oS 1 31 30])
 .skip))))
 (rG 36864 [bN 32 .add 13 1,mv 13 32]))))
def ac_image_Digests (n_image_Encode n_digest_Sum : Nat) : AC :=
 (.seq
 (rG 4096 [oO 2 .box [.tmp 0],mC 4 .nil])
 (.seq
 (rG 8192 [oO 8 (.mkslice 1 24 .nil) [.cst (.t (.int .i64 2)), .cst (.t (.int .i64 2))],mv 5 8])
 (.seq
 (rG 12288 [oO 9 (.load 4 true) [.tmp 2],cL 10 n_image_Encode true [.tmp 9],mv 6 10])
 (.seq
 (.seq
 (rG 16384 [mv 11 5,oO 12 .len [.tmp 11],mC 13 (.t (.int .i64 0))])
 (.block 0
 (.loop (ac_image_Digests_L0 n_digest_Sum))))
 (.seq
 (rG 40960 [mv 33 5,mv 4 33])
 .ret)))))
def hints_image_Digests : List (Nat × List Nat) := [(2, [1])]
def ac_image_Register (g_image_measured : Nat) : AC :=
 (.seq
 (rG 4096 [mC 2 (.t (.int .i64 0))])
 (.seq
 (.seq
 (rG 8192 [mv 3 0,bN 4 .lss 3 0,mv 5 4,mF 6 0 5,oF 7 5 (.bin .geq) [.tmp 6, .cst (.t (.int .i64 5))],oO 8 .pick [.tmp 5, .cst (.t (.bool true)), .tmp 7]])
 (.cond (.tmp 8)
 (.seq
 (rG 12288 [mC 2 (.t (.int .i64 (-1)))])
 .ret)
 .skip))
 (.seq
 (rG 16384 [mv 9 0,oO 10 (.aaddr 5 1) [.glob g_image_measured, .tmp 9],oO 11 (.load 1 false) [.tmp 10],mv 2 11])
 .ret)))
def hints_image_Register : List (Nat × List Nat) := []
def ac_bytes_IndexByte (n_bytealg_IndexByte : Nat) : AC :=
 (.seq
 (rG 4096 [mC 4 (.t (.int .i64 0))])
 (.seq
 (rG 8192 [mv 5 0,mv 6 1,cL 7 n_bytealg_IndexByte false [.tmp 5, .tmp 6],mv 4 7])
 .ret))
def hints_bytes_IndexByte : List (Nat × List Nat) := []
def ac_event_OfImage (n_image_Check n_image_Register n_image_Digests n_strconv_Itoa : Nat) : AC :=
 (.seq
 (rG 4096 [oO 2 .box [.tmp 0],oO 4 (.new 4 [(.agg [(.t (.int .i64 0)), (.t (.int .i64 0)), .nil, .nil])]) []])
 (.seq
 (.seq
 (rG 8192 [oO 5 (.load 4 true) [.tmp 2],cL 6 n_image_Check false [.tmp 5],bN 7 .neq 6 0,mv 8 7,oF 9 8 (.faddr 0) [.tmp 2],oF 10 8 (.load 1 false) [.tmp 9],oF 11 8 (.bin .eql) [.tmp 10, .cst (.t (.int .i64 4))],oO 12 .pick [.tmp 8, .cst (.t (.bool true)), .tmp 11]])
 (.cond (.tmp 12)
 (.seq
 (rG 12288 [oO 13 (.build [(.t (.int .i64 0)), (.t (.int .i64 0)), .nil, .nil] []) [],oS 4 4 13])
 .ret)
 .skip))
 (.seq
 (.reg 16384 (some [0, 1, 3, 0, 0, 31, 0, 64, 192, 0, 512, 1599, 4095, 8191, 16383, 32767]) [oO 14 (.faddr 0) [.tmp 2],oO 15 (.load 1 false) [.tmp 14],cL 16 n_image_Register false [.tmp 15],oO 17 (.load 4 true) [.tmp 2],mv 18 1,cL 19 n_image_Digests true [.tmp 17, .tmp 18],oO 20 (.faddr 1) [.tmp 2],oO 21 (.load 1 false) [.tmp 20],oO 22 (.bin .add) [.tmp 21, .cst (.t (strT [32]))],oO 23 (.faddr 2) [.tmp 2],oO 24 (.load 1 false) [.tmp 23],cL 25 n_strconv_Itoa false [.tmp 24],bT 26 .add 22 25,oO 27 .s2b [.tmp 26],oO 28 (.build [(.t (.int .i64 0)), (.t (.int .i64 0)), .nil, .nil] [(0, 1), (1, 1), (2, 1), (3, 1)]) [.tmp 16, .cst (.t (.int .i64 1)), .tmp 19, .tmp 27],oS 4 4 28])
 .ret)))
def hints_event_OfImage : List (Nat × List Nat) := [(3, [5])]
end Go.Eng
end
section
set_option maxRecDepth 20000
set_option maxHeartbeats 64000000
namespace Go.Eng
def ixN (c : UInt8) : List UInt8 → Nat → Int
 | [], _ => -1
 | x :: r, n => if x = c then (n : Int) else ixN c r (n + 1)
theorem ixN_no {c : UInt8} : ∀ {b : List UInt8} {n : Nat}, c ∉ b → ixN c b n = -1
 | [], _, _ => rfl
 | x :: r, n, h => by
   rw [ixN, if_neg (fun e => h (by simp [e])), ixN_no (fun e => h (by simp [e]))]
theorem ixN_at {c : UInt8} : ∀ {p q : List UInt8} {n : Nat}, c ∉ p → ixN c (p ++ c :: q) n = ((n + p.length : Nat) : Int)
 | [], q, n, _ => by rw [List.nil_append, ixN, if_pos rfl]; rfl
 | x :: r, q, n, h => by
   rw [List.cons_append, ixN, if_neg (fun e => h (by simp [e])), ixN_at (fun e => h (by simp [e]))]
   simp only [List.length_cons]; congr 1; omega
theorem split_at {c : UInt8} : ∀ {b : List UInt8}, c ∈ b → ∃ p q, b = p ++ c :: q ∧ c ∉ p
 | [], h => by cases h
 | x :: r, h => by
   by_cases e : x = c
   · exact ⟨[], r, by rw [e]; rfl, by simp⟩
   · have : c ∈ r := by
       simp only [List.mem_cons] at h
       rcases h with h | h
       · exact absurd h.symm e
       · exact h
     obtain ⟨p, q, h1, h2⟩ := split_at this
     exact ⟨x :: p, q, by rw [h1]; rfl, by simp only [List.mem_cons, not_or]; exact ⟨fun h => e h.symm, h2⟩⟩
def ct_bix : Ct where
 α := List UInt8 × UInt8
 as x := [.t (.sl (x.1.map byteT)), .t (byteT x.2)]
 ins _ := []
 pre x := 0 < x.1.length ∧ x.1.length < 1000000000
 r x := .t (.int .i64 (ixN x.2 x.1 0))
 outs _ := []
 inj := by
   rintro ⟨a, c⟩ ⟨b, d⟩ h _
   simp only [List.cons.injEq, V.t.injEq, T.sl.injEq, mapB_inj, and_true] at h
   obtain ⟨rfl, h⟩ := h
   cases byteT_inj h
   exact ⟨rfl, rfl⟩
theorem bix_eq {b : List UInt8} {c : UInt8} (h : 0 < b.length ∧ b.length < 1000000000) : ct_bix.fs [.t (.sl (b.map byteT)), .t (byteT c)] [] = some (.t (.int .i64 (ixN c b 0)), []) := ct_bix.eq (b, c) h
theorem w_bytes_IndexByte (tab : Tab) (gl : Gl) (n1 : Nat) (h1 : tab.look n1 = some ct_bix.fs) (b : List UInt8) (c : UInt8) (h : 0 < b.length ∧ b.length < 1000000000) :
   (ac_bytes_IndexByte n1).wp tab gl (zipF 0 [.t (.sl (b.map byteT)), .t (byteT c)]) (zipF 0 []) (resW [(4, none)] 0 (fun r o => r = .t (.int .i64 (ixN c b 0)) ∧ o = [])) := by
 have hB := bix_eq (c := c) h
 simp (disch := omega) only [go_sem, ↓reduceIte, Nat.reduceAdd, Nat.reduceEqDiff, Nat.reduceLeDiff, reduceCtorEq, ac_bytes_IndexByte, h1, hB]
def ct_ipr : Ct where
 α := List UInt8
 as x := [.t (.sl (x.map byteT))]
 ins _ := []
 pre x := x.length < 1000000000
 r x := .t (.bool (x.all okC))
 outs _ := []
 inj := by
   intro a b h _
   simp only [List.cons.injEq, V.t.injEq, T.sl.injEq, mapB_inj, and_true] at h
   subst h; exact ⟨rfl, rfl⟩
theorem ipr_eq {b : List UInt8} (h : b.length < 1000000000) : ct_ipr.fs [.t (.sl (b.map byteT))] [] = some (.t (.bool (b.all okC)), []) := ct_ipr.eq b h
theorem w_image_printable (tab : Tab) (gl : Gl) (b : List UInt8) (h : b.length < 1000000000) :
   ac_image_printable.wp tab gl (zipF 0 [.t (.sl (b.map byteT))]) (zipF 0 []) (resW [(2, none)] 0 (fun r o => r = .t (.bool (b.all okC)) ∧ o = [])) := by
 simp (disch := omega) only [go_sem, ↓reduceIte, Nat.reduceAdd, reduceCtorEq, ac_image_printable]
 refine loop_uptoP b.length (fun i => (b.take i).all okC = true) (fun i => [(5, .t (.sl (b.map byteT))), (6, .t (.int .i64 b.length)), (7, .t (.int .i64 (i : Nat)))]) (fun _ => []) rfl ?_ (fun i hi hP => ?_)
 · refine Weak.rd id ?_ ?_ rfl
   all_goals simp (disch := omega) only [go_sem, ↓reduceIte, Nat.reduceEqDiff, id]
 · by_cases hlt : i < b.length
   · obtain ⟨c, hc⟩ : ∃ c, b.getD i 0 = c := ⟨_, rfl⟩
     have hc' : b[i]? = some c := by
       rw [← hc]; simp [List.getD, hlt]
     have hst : (b.take (i + 1)).all okC = okC c := by
       rw [List.take_add_one, hc', List.all_append, hP]; simp
     have hall : okC c = false → b.all okC = false := fun h => List.all_eq_false.2 ⟨c, List.mem_of_getElem? hc', by simp [h]⟩
     by_cases a1 : c.toNat < 32
     · have hk : okC c = false := by unfold okC; rw [decide_eq_true a1]; rfl
       rw [hall hk]
       simp (disch := omega) only [go_sem, ↓reduceIte, Nat.reduceAdd, Nat.reduceEqDiff, Nat.reduceLeDiff, ac_image_printable_L0, hc, a1]
     · by_cases a2 : 126 < c.toNat
       · have hk : okC c = false := by unfold okC; rw [decide_eq_true (show c.toNat > 126 from a2)]; simp
         rw [hall hk]
         simp (disch := omega) only [go_sem, ↓reduceIte, Nat.reduceAdd, Nat.reduceEqDiff, Nat.reduceLeDiff, ac_image_printable_L0, hc, a1, a2]
       · have hk : okC c = true := by unfold okC; rw [decide_eq_false a1, decide_eq_false (show ¬ c.toNat > 126 from a2)]; rfl
         rw [hk] at hst
         simp (disch := omega) only [go_sem, ↓reduceIte, Nat.reduceAdd, Nat.reduceEqDiff, Nat.reduceLeDiff, ac_image_printable_L0, hc, a1, a2]
         refine ⟨hlt, hst, Weak.rd id ?_ ?_ rfl⟩
         all_goals simp (disch := omega) only [go_sem, ↓reduceIte, Nat.reduceEqDiff, id]
   · have e : i = b.length := by omega
     subst e
     rw [List.take_length] at hP
     simp (disch := omega) only [go_sem, ↓reduceIte, Nat.reduceAdd, Nat.reduceEqDiff, ac_image_printable_L0, hP]
theorem lnS_line {pre post : List UInt8} (hn : (10 : UInt8) ∉ pre) : ∀ {out : List (List UInt8)} {line : List UInt8}, lnS out line (pre ++ 10 :: post) = if pre.all okC = true then (if (line ++ pre).length = 0 ∨ 4 ≤ out.length then [] else lnS (out ++ [line ++ pre]) [] post) else [] := by
 induction pre with
 | nil =>
   intro out line
   rw [List.nil_append, lnS, if_pos rfl, List.append_nil]
   simp
 | cons c r ih =>
   intro out line
   have hc : ¬ c = 10 := fun e => hn (by simp [e])
   have hr : (10 : UInt8) ∉ r := fun e => hn (by simp [e])
   rw [List.cons_append, lnS, if_neg hc]
   cases hk : okC c
   · rw [if_neg (by decide)]; simp [hk]
   · rw [if_pos rfl, ih hr]; simp [hk]
theorem lnS_none {pre : List UInt8} (hn : (10 : UInt8) ∉ pre) : ∀ {out : List (List UInt8)} {line : List UInt8}, 0 < (line ++ pre).length → lnS out line pre = [] := by
 induction pre with
 | nil => intro out line h; rw [lnS, if_pos (by simpa using h)]
 | cons c r ih =>
   intro out line h
   have hc : ¬ c = 10 := fun e => hn (by simp [e])
   have hr : (10 : UInt8) ∉ r := fun e => hn (by simp [e])
   rw [lnS, if_neg hc]
   split
   · exact ih hr (by simp; omega)
   · rfl
theorem w_image_Lines (tab : Tab) (gl : Gl) (n1 n2 : Nat) (h1 : tab.look n1 = some ct_bix.fs) (h2 : tab.look n2 = some ct_ipr.fs) (x : Im) (hm : imM x) :
   (ac_image_Lines n1 n2).wp tab gl (zipF 0 [.t (imT x)]) (zipF 0 []) (resW [(2, none)] 0 (fun r o => r = .t (.sl ((lnL x.2.2.2).map bsT)) ∧ o = [])) := by
 obtain ⟨a, s, v, p⟩ := x
 have hp := hm.2.1
 simp only at hp ⊢
 simp (disch := omega) only [go_sem, ↓reduceIte, Nat.reduceAdd, Nat.reduceEqDiff, Nat.reduceLeDiff, reduceCtorEq, ac_image_Lines, imT_def]
 refine loop_inv (σ := List UInt8 × List (List UInt8)) (fun t => t.1.length ≤ p.length ∧ lnS t.2 [] t.1 = lnL p ∧ t.2.length ≤ 4) (fun t => t.1.length)
   (fun t => [(3, .sl 9000 0 t.2.length), (4, .t (.sl (t.1.map byteT)))])
   (fun t => [(9000, .live 1 ((t.2.map bsT).map V.t) true false)]) (p, []) ⟨Nat.le_refl _, rfl, by simp⟩ ?_ ?_
 · refine Weak.cv0 (hv := [(9000, .live 1 [] true false)]) (ho := []) id ?_ ?_ rfl rfl
   all_goals simp (disch := omega) only [go_sem, ↓reduceIte, Nat.reduceEqDiff, id]
 · rintro ⟨rest, out⟩ ⟨hi, hE, ho⟩
   simp only at hi hE ho ⊢
   by_cases hlt : 0 < rest.length
   · have hB := bix_eq (b := rest) (c := 10) ⟨hlt, by omega⟩
     by_cases hn : (10 : UInt8) ∈ rest
     · obtain ⟨pre, post, rfl, hpre⟩ := split_at hn
       rw [ixN_at hpre, Nat.zero_add] at hB
       rw [lnS_line hpre, List.nil_append] at hE
       simp only [List.length_append, List.length_cons] at hi hlt
       have tk : List.take pre.length (pre ++ 10 :: post) = pre := List.take_left' rfl
       have dk : List.drop (pre.length + 1) (pre ++ 10 :: post) = post := by rw [List.drop_append]; simp
       have tl : (pre ++ (10 : UInt8) :: post).length = pre.length + 1 + post.length := by simp; omega
       by_cases z1 : pre.length < 1
       · have hr : lnL p = [] := by rw [← hE]; split; rw [if_pos (.inl (by omega))]; rfl
         rw [hr]
         simp (disch := omega) only [go_sem, ↓reduceIte, Nat.reduceAdd, Nat.reduceEqDiff, Nat.reduceLeDiff, ac_image_Lines_L0, tl, h1, hB, z1, List.map_nil]
       · by_cases z2 : out.length = 4
         · have hr : lnL p = [] := by rw [← hE]; split; rw [if_pos (.inr (by omega))]; rfl
           rw [hr]
           simp (disch := omega) only [go_sem, ↓reduceIte, Nat.reduceAdd, Nat.reduceEqDiff, Nat.reduceLeDiff, ac_image_Lines_L0, tl, h1, hB, z1, z2, List.map_nil]
         · have z2b : ((out.length : Int) == 4) = false := by simpa using (by omega : ¬ (out.length : Int) = 4)
           have hP := ipr_eq (b := pre) (by omega)
           cases hk : pre.all okC
           · rw [hk] at hP hE
             rw [if_neg (by decide)] at hE
             rw [← hE]
             simp (disch := omega) only [go_sem, ↓reduceIte, Nat.reduceAdd, Nat.reduceEqDiff, Nat.reduceLeDiff, Int.reduceLE, reduceCtorEq, ac_image_Lines_L0, tl, h1, hB, z1, z2, z2b, tk, h2, hP, List.map_nil]
           · rw [hk] at hP hE
             rw [if_pos rfl, if_neg (by omega)] at hE
             simp (disch := omega) only [go_sem, ↓reduceIte, Nat.reduceAdd, Nat.reduceEqDiff, Nat.reduceLT, Nat.reduceLeDiff, Int.reduceLE, reduceCtorEq, ac_image_Lines_L0, tl, h1, hB, z1, z2, z2b, tk, h2, hP, dk]
             refine invG.of (post, out ++ [pre]) ⟨by simp only; omega, hE, by simp; omega⟩ (by simp only; omega) ?_
             refine Weak.cv (hv := []) (ho := [(9000, .live 1 (((out ++ [pre]).map bsT).map V.t) true false)]) [] (fun j => if j = 9000 then 32864 else j) ?_ rfl
             simp (disch := omega) only [go_sem, ↓reduceIte, Nat.reduceAdd, Nat.reduceEqDiff, id, List.map_cons, List.map_nil, List.take_length]
             rfl
     · rw [ixN_no hn] at hB
       rw [lnS_none hn (by simpa using hlt)] at hE
       rw [← hE]
       simp (disch := omega) only [go_sem, ↓reduceIte, Nat.reduceAdd, Nat.reduceEqDiff, Nat.reduceLeDiff, Int.reduceLT, Int.reduceNeg, ac_image_Lines_L0, h1, hB, List.map_nil]
   · have e : rest = [] := List.length_eq_zero_iff.1 (by omega)
     subst e
     rw [lnS, if_neg (by simp)] at hE
     rw [← hE]
     simp (disch := omega) only [go_sem, ↓reduceIte, Nat.reduceAdd, Nat.reduceEqDiff, Nat.reduceLeDiff, ac_image_Lines_L0, List.take_length]
theorem w_image_Check (tab : Tab) (gl : Gl) (n1 n2 : Nat) (h1 : tab.look n1 = some ct_name.fs) (h2 : tab.look n2 = some ct_lns.fs) (x : Im) (hm : imM x) :
   (ac_image_Check n1 n2).wp tab gl (zipF 0 [.t (imT x)]) (zipF 0 []) (resW [(2, none)] 0 (fun r o => r = .t (.int .i64 (chkI x)) ∧ o = [])) := by
 obtain ⟨a, s, v, p⟩ := x
 have hp := hm.2.1
 have hN := name_eq hm.1
 have hL := lns_eq hm
 have lL := lnL_len (p := p)
 simp only at hp hN
 have hl2 : ((lnL p).map bsT).length = (lnL p).length := List.length_map _
 by_cases hb : badI a v
 · have hr : chkI (a, s, v, p) = 1 := if_pos hb
   rw [hr]
   by_cases c1 : a < 1
   · simp (disch := omega) only [go_sem, ↓reduceIte, Nat.reduceAdd, Nat.reduceEqDiff, Nat.reduceLeDiff, ac_image_Check, imT_def, c1]
   by_cases c2 : 4 < a
   · simp (disch := omega) only [go_sem, ↓reduceIte, Nat.reduceAdd, Nat.reduceEqDiff, Nat.reduceLeDiff, ac_image_Check, imT_def, c1, c2]
   by_cases c3 : v < 0
   · simp (disch := omega) only [go_sem, ↓reduceIte, Nat.reduceAdd, Nat.reduceEqDiff, Nat.reduceLeDiff, reduceCtorEq, ac_image_Check, imT_def, c1, c2, c3]
   have c4 : 1000000 < v := by unfold badI at hb; omega
   simp (disch := omega) only [go_sem, ↓reduceIte, Nat.reduceAdd, Nat.reduceEqDiff, Nat.reduceLeDiff, reduceCtorEq, ac_image_Check, imT_def, c1, c2, c3, c4]
 · have hb' := hb
   unfold badI at hb'
   have c1 : ¬ a < 1 := by omega
   have c2 : ¬ 4 < a := by omega
   have c3 : ¬ v < 0 := by omega
   have c4 : ¬ 1000000 < v := by omega
   cases hn : nameB s
   · have hr : chkI (a, s, v, p) = 43 := by unfold chkI; rw [if_neg hb, if_pos hn]
     rw [hr]
     rw [hn] at hN
     simp (disch := omega) only [go_sem, ↓reduceIte, Nat.reduceAdd, Nat.reduceEqDiff, Nat.reduceLeDiff, reduceCtorEq, ac_image_Check, imT_def, c1, c2, c3, c4, h1, hN]
   · rw [hn] at hN
     have hn2 : ¬ nameB s = false := by rw [hn]; decide
     by_cases c5 : 64 < p.length
     · have hr : chkI (a, s, v, p) = 4 := by unfold chkI; rw [if_neg hb, if_neg hn2, if_pos c5]
       rw [hr]
       simp (disch := omega) only [go_sem, ↓reduceIte, Nat.reduceAdd, Nat.reduceEqDiff, Nat.reduceLeDiff, reduceCtorEq, ac_image_Check, imT_def, c1, c2, c3, c4, h1, hN, c5]
     · have hr : chkI (a, s, v, p) = if a = 4 ∧ (lnL p).length = 0 then 40 else 0 := by unfold chkI; rw [if_neg hb, if_neg hn2, if_neg c5]
       rw [hr]
       generalize lnL p = L at *
       by_cases c6 : a = 4
       · subst c6
         by_cases c7 : L.length = 0
         · simp (disch := omega) only [go_sem, ↓reduceIte, Nat.reduceAdd, Nat.reduceEqDiff, Nat.reduceLeDiff, Int.reduceLT, reduceCtorEq, ac_image_Check, imT_def, c3, c4, h1, hN, c5, h2, hL, c7]
         · have c8 : ((L.length : Int) == 0) = false := by simpa using (by omega : ¬ (L.length : Int) = 0)
           simp (disch := omega) only [go_sem, ↓reduceIte, Nat.reduceAdd, Nat.reduceEqDiff, Nat.reduceLeDiff, Int.reduceLT, reduceCtorEq, ac_image_Check, imT_def, c3, c4, h1, hN, c5, h2, hL, c7, c8]
       · have c8 : (a == 4) = false := by simpa using c6
         simp (disch := omega) only [go_sem, ↓reduceIte, Nat.reduceAdd, Nat.reduceEqDiff, Nat.reduceLeDiff, reduceCtorEq, ac_image_Check, imT_def, c1, c2, c3, c4, h1, hN, c5, c6, c8]
theorem w_image_Encode (tab : Tab) (gl : Gl) (n1 n2 n3 : Nat) (h1 : tab.look n1 = some ct_imc.fs) (h2 : tab.look n2 = some ct_uint.fs) (h3 : tab.look n3 = some ct_blob.fs) (x : Im) (hm : imM x) :
   (ac_image_Encode n1 n2 n3).wp tab gl (zipF 0 [.t (imT x)]) (zipF 0 []) (resW [(2, none)] 0 (fun r o => r = .t (.sl ((encI' x).map byteT)) ∧ o = [])) := by
 obtain ⟨a, s, v, p⟩ := x
 have hC := imc_eq hm
 by_cases hz : chkI (a, s, v, p) = 0
 · obtain ⟨g1, g2, g3, g4, g5⟩ := chkI_good hz
   have g6 := nameB_len g3
   simp only at g1 g2 g3 g4 g6
   have hr : encI' (a, s, v, p) = blL (blL (beI 1 a 1 ++ beI 4 v 4) s) p := if_pos hz
   rw [hr]
   rw [hz] at hC
   have u1 : ct_uint.fs [.t (.sl []), .t (.int .i64 1), .t (.int .i64 a)] [] = _ := uintN (b := []) (k := 1) (n := a) ⟨by decide, by decide, by decide⟩
   rw [List.nil_append] at u1
   have l1 : (beI 1 a 1).length = 1 := beI_len
   have u2 : ct_uint.fs [.t (.sl ((beI 1 a 1).map byteT)), .t (.int .i64 4), .t (.int .i64 v)] [] = _ := uintN (b := beI 1 a 1) (k := 4) (n := v) ⟨by rw [l1]; decide, by decide, by decide⟩
   have l2 : (beI 1 a 1 ++ beI 4 v 4).length = 5 := by rw [List.length_append, beI_len, beI_len]
   have b1 := blob_eq (b := beI 1 a 1 ++ beI 4 v 4) (x := s) ⟨by omega, by omega⟩
   have l3 : (blL (beI 1 a 1 ++ beI 4 v 4) s).length = 5 + 2 + s.length := by rw [blL_len, l2]
   have b2 := blob_eq (b := blL (beI 1 a 1 ++ beI 4 v 4) s) (x := p) ⟨by omega, by omega⟩
   have l4 : (blL (blL (beI 1 a 1 ++ beI 4 v 4) s) p).length = 5 + 2 + s.length + 2 + p.length := by rw [blL_len, l3]
   rw [l1] at u2
   rw [l2] at b1
   rw [l3] at b2
   generalize blL (blL (beI 1 a 1 ++ beI 4 v 4) s) p = B4 at *
   generalize blL (beI 1 a 1 ++ beI 4 v 4) s = B3 at *
   generalize beI 1 a 1 ++ beI 4 v 4 = B2 at *
   generalize beI 1 a 1 = B1 at *
   have t1 : List.take 1 B1 = B1 := List.take_of_length_le (by omega)
   have t2 : List.take 5 B2 = B2 := List.take_of_length_le (by omega)
   have t3 : List.take (5 + 2 + s.length) B3 = B3 := List.take_of_length_le (by omega)
   have t4 : List.take (5 + 2 + s.length + 2 + p.length) B4 = B4 := List.take_of_length_le (by omega)
   simp (disch := omega) only [go_sem, ↓reduceIte, Nat.reduceAdd, Nat.reduceEqDiff, Nat.reduceLeDiff, reduceCtorEq, ac_image_Encode, imT_def, h1, hC, h2, u1, l1, t1, u2, l2, t2, h3, b1, l3, t3, b2, l4, t4, List.length_nil, List.map_nil, List.take_length]
 · have hr : encI' (a, s, v, p) = [] := if_neg hz
   rw [hr]
   have hz' : (chkI (a, s, v, p) != 0) = true := by simpa using hz
   simp (disch := omega) only [go_sem, ↓reduceIte, Nat.reduceAdd, Nat.reduceEqDiff, Nat.reduceLeDiff, ac_image_Encode, imT_def, h1, hC, hz', List.map_nil]
theorem w_image_Digests (tab : Tab) (gl : Gl) (n1 n2 : Nat) (h1 : tab.look n1 = some ct_enI.fs) (h3 : tab.look n2 = some ct_sumA.fs) (x : Im) (act : Int) (hm : imM x) (ha : 0 ≤ act ∧ act < 4) :
   (ac_image_Digests n1 n2).wp tab gl (zipF 0 [.t (imT x), .t (.int .i64 act)]) (zipF 0 []) (resW [(4, none)] 0 (fun r o => r = .t (.sl [bsT (digI x act 0), bsT (digI x act 1)]) ∧ o = [])) := by
 have hl := encI_len hm
 have e0 : digI x act 0 = if 0 < (encI' x).length ∧ act % 2 = 1 then sum1 (encI' x) else [] := by unfold digI; simp [sumA]
 have e1 : digI x act 1 = if 0 < (encI' x).length ∧ act / 2 % 2 = 1 then sum256 (encI' x) else [] := by unfold digI; simp [sumA]
 obtain ⟨a, s, v, p⟩ := x
 have hE := enI_eq hm
 generalize encI' (a, s, v, p) = B at *
 have s0 := sumA_eq0 (bs := B) (by omega)
 have s1 := sumA_eq1 (bs := B) (by omega)
 have l0 : (sum1 B).length = 20 := sum1_length
 have l1 : (sum256 B).length = 32 := sum256_length
 have t0 : List.take 20 (sum1 B) = sum1 B := take_sum1
 have t1 : List.take 32 (sum256 B) = sum256 B := take_sum256
 generalize sum1 B = S0 at *
 generalize sum256 B = S1 at *
 simp only [bsT_def]
 simp (disch := omega) only [go_sem, ↓reduceIte, Nat.reduceAdd, Nat.reduceEqDiff, Nat.reduceMul, Nat.reduceLeDiff, Int.reduceLE, ac_image_Digests, imT_def, h1, hE]
 repeat refine And.intro rfl ?_
 refine loop_upto 2 (fun i => [(1, .t (.int .i64 act)), (5, .sl 8192 0 2), (6, .t (.sl (B.map byteT))), (12, .t (.int .i64 2)), (13, .t (.int .i64 (i : Nat)))])
   (fun i => [(8192, .live 1 [.t (.sl ((if 0 < i then digI (a, s, v, p) act 0 else []).map byteT)), .t (.sl ((if 1 < i then digI (a, s, v, p) act 1 else []).map byteT))] true false)]) ?_ (fun i hi => ?_)
 · refine Weak.rd id ?_ ?_ rfl
   all_goals simp (disch := omega) only [go_sem, ↓reduceIte, Nat.reduceAdd, Nat.reduceEqDiff, reduceCtorEq, id, List.map_nil, Nat.lt_irrefl, Nat.not_lt_zero]
 · have f0 : Int.fdiv act 1 = act := by rw [Int.fdiv_eq_ediv_of_nonneg _ (by decide), Int.ediv_one]
   have f1 : Int.fdiv act 2 = act / 2 := Int.fdiv_eq_ediv_of_nonneg _ (by decide)
   rcases (show i = 0 ∨ i = 1 ∨ i = 2 by omega) with rfl | rfl | rfl
   · by_cases z : 0 < B.length
     · by_cases b0 : act % 2 = 1
       · rw [if_pos ⟨z, b0⟩] at e0
         have q : (act % 2 == 1) = true := by simpa using b0
         simp (disch := omega) only [go_sem, ↓reduceIte, Nat.reduceAdd, Nat.reduceEqDiff, Nat.reduceLT, Nat.reduceLeDiff, Int.reduceLT, Int.reduceLE, Int.reduceAdd, Int.reducePow, ac_image_Digests_L0, f0, q, z, h3, s0, List.map_nil, Nat.lt_irrefl, Nat.not_lt_zero]
         refine Weak.cv (hv := []) [32832] id ?_ rfl
         simp (disch := omega) only [go_sem, ↓reduceIte, Nat.reduceAdd, Nat.reduceEqDiff, Nat.reduceLeDiff, id, e0, l0, t0, List.map_nil]
         rfl
       · rw [if_neg (fun h => b0 h.2)] at e0
         have q : (act % 2 == 1) = false := by simpa using b0
         simp (disch := omega) only [go_sem, ↓reduceIte, Nat.reduceAdd, Nat.reduceEqDiff, Nat.reduceLT, Int.reduceLT, Int.reduceAdd, Int.reducePow, ac_image_Digests_L0, f0, q, z, List.map_nil, Nat.lt_irrefl, Nat.not_lt_zero]
         refine Weak.rd id ?_ ?_ rfl
         all_goals simp (disch := omega) only [go_sem, ↓reduceIte, Nat.reduceAdd, Nat.reduceEqDiff, id, e0, List.map_nil, Nat.lt_irrefl]
     · rw [if_neg (fun h => z h.1)] at e0
       simp (disch := omega) only [go_sem, ↓reduceIte, Nat.reduceAdd, Nat.reduceEqDiff, Nat.reduceLT, Int.reduceLT, Int.reduceAdd, ac_image_Digests_L0, z, List.map_nil, Nat.lt_irrefl, Nat.not_lt_zero]
       refine Weak.rd id ?_ ?_ rfl
       all_goals simp (disch := omega) only [go_sem, ↓reduceIte, Nat.reduceAdd, Nat.reduceEqDiff, id, e0, List.map_nil, Nat.lt_irrefl]
   · by_cases z : 0 < B.length
     · by_cases b0 : act / 2 % 2 = 1
       · rw [if_pos ⟨z, b0⟩] at e1
         have q : (act / 2 % 2 == 1) = true := by simpa using b0
         simp (disch := omega) only [go_sem, ↓reduceIte, Nat.reduceAdd, Nat.reduceEqDiff, Nat.reduceLT, Nat.reduceLeDiff, Int.reduceLT, Int.reduceLE, Int.reduceAdd, Int.reducePow, ac_image_Digests_L0, f1, q, z, h3, s1, List.map_nil, Nat.lt_irrefl, Nat.not_lt_zero]
         refine Weak.cv (hv := []) [32832] id ?_ rfl
         simp (disch := omega) only [go_sem, ↓reduceIte, Nat.reduceAdd, Nat.reduceEqDiff, Nat.reduceLeDiff, id, e1, l1, t1, List.map_nil]
         rfl
       · rw [if_neg (fun h => b0 h.2)] at e1
         have q : (act / 2 % 2 == 1) = false := by simpa using b0
         simp (disch := omega) only [go_sem, ↓reduceIte, Nat.reduceAdd, Nat.reduceEqDiff, Nat.reduceLT, Int.reduceLT, Int.reduceAdd, Int.reducePow, ac_image_Digests_L0, f1, q, z, List.map_nil, Nat.lt_irrefl, Nat.not_lt_zero]
         refine Weak.rd id ?_ ?_ rfl
         all_goals simp (disch := omega) only [go_sem, ↓reduceIte, Nat.reduceAdd, Nat.reduceEqDiff, id, e1, List.map_nil, Nat.lt_irrefl]
     · rw [if_neg (fun h => z h.1)] at e1
       simp (disch := omega) only [go_sem, ↓reduceIte, Nat.reduceAdd, Nat.reduceEqDiff, Nat.reduceLT, Int.reduceLT, Int.reduceAdd, ac_image_Digests_L0, z, List.map_nil, Nat.lt_irrefl, Nat.not_lt_zero]
       refine Weak.rd id ?_ ?_ rfl
       all_goals simp (disch := omega) only [go_sem, ↓reduceIte, Nat.reduceAdd, Nat.reduceEqDiff, id, e1, List.map_nil, Nat.lt_irrefl]
   · simp (disch := omega) only [go_sem, ↓reduceIte, Nat.reduceAdd, Nat.reduceEqDiff, Nat.reduceLT, Nat.reduceLeDiff, Int.reduceLT, ac_image_Digests_L0]
def measT : List T := [.int .i64 (-1), .int .i64 0, .int .i64 4, .int .i64 8, .int .i64 9]
theorem w_image_Register (tab : Tab) (gl : Gl) (g : Nat) (hg : gl g = some measT) (a : Int) : (ac_image_Register g).wp tab gl (zipF 0 [.t (.int .i64 a)]) (zipF 0 []) (resW [(2, none)] 0 (fun r o => r = .t (.int .i64 (regI a)) ∧ o = [])) := by
 by_cases c0 : a < 0
 · have hr : regI a = -1 := by unfold regI; rw [if_neg (by omega), if_neg (by omega), if_neg (by omega), if_neg (by omega)]
   simp (disch := omega) only [go_sem, ↓reduceIte, Nat.reduceAdd, Nat.reduceEqDiff, Int.reduceNeg, reduceCtorEq, ac_image_Register, c0, hr]
 by_cases c5 : 5 ≤ a
 · have hr : regI a = -1 := by unfold regI; rw [if_neg (by omega), if_neg (by omega), if_neg (by omega), if_neg (by omega)]
   simp (disch := omega) only [go_sem, ↓reduceIte, Nat.reduceAdd, Nat.reduceEqDiff, Int.reduceNeg, reduceCtorEq, ac_image_Register, c0, c5, hr]
 rcases (show a = 0 ∨ a = 1 ∨ a = 2 ∨ a = 3 ∨ a = 4 by omega) with rfl | rfl | rfl | rfl | rfl
 all_goals simp (disch := omega) only [go_sem, ↓reduceIte, Nat.reduceAdd, Nat.reduceEqDiff, Nat.reduceLeDiff, Int.reduceEq, Int.reduceLT, Int.reduceLE, Int.reduceNeg, reduceCtorEq, ac_image_Register, hg, measT, regI]
 all_goals trace_state
def ct_itoa : Ct where
 α := Int
 as x := [.t (.int .i64 x)]
 ins _ := []
 pre x := 0 ≤ x ∧ x ≤ 1000000
 r x := .t (strT (numL x.toNat))
 outs _ := []
 inj := by
   intro a b h _
   simp only [List.cons.injEq, V.t.injEq, T.int.injEq, true_and, and_true] at h
   subst h; exact ⟨rfl, rfl⟩
theorem itoa_eq {n : Nat} (h : n ≤ 1000000) : ct_itoa.fs [.t (.int .i64 (n : Int))] [] = some (.t (strT (numL n)), []) := ct_itoa.eq (n : Int) ⟨by omega, by omega⟩
theorem w_event_OfImage (tab : Tab) (gl : Gl) (n1 n2 n3 n4 : Nat) (h1 : tab.look n1 = some ct_imc.fs) (h2 : tab.look n2 = some ct_reg.fs) (h3 : tab.look n3 = some ct_imd.fs) (h4 : tab.look n4 = some ct_itoa.fs) (x : Im) (act : Int) (hm : imM x) (ha : 0 ≤ act ∧ act < 4) :
   (ac_event_OfImage n1 n2 n3 n4).wp tab gl (zipF 0 [.t (imT x), .t (.int .i64 act)]) (zipF 0 []) (resW [(4, some (4, true))] 0 (fun r o => r = .t (evT (ofI x act)) ∧ o = [])) := by
 obtain ⟨a, s, v, p⟩ := x
 have hC := imc_eq hm
 have hD := imd_eq (act := act) ⟨hm, ha⟩
 have hR := reg_eq (a := a)
 by_cases hz : chkI (a, s, v, p) = 0
 · obtain ⟨g1, g2, g3, g4, g5⟩ := chkI_good hz
   have g6 := nameB_len g3
   simp only at g1 g2 g3 g4 g6
   rw [hz] at hC
   by_cases c4 : a = 4
   · subst c4
     have hr : ofI (4, s, v, p) act = (0, 0, [], []) := if_pos (.inr rfl)
     rw [hr]
     simp (disch := omega) only [go_sem, ↓reduceIte, Nat.reduceAdd, Nat.reduceEqDiff, Nat.reduceLeDiff, ac_event_OfImage, imT_def, evT_def, h1, hC, List.map_nil]
   · have d4 : (a == 4) = false := by simpa using c4
     obtain ⟨m, rfl⟩ := Int.eq_ofNat_of_zero_le g2.1
     have hL := itoa_eq (n := m) (by omega)
     have hr : ofI (a, s, (m : Int), p) act = (regI a, 1, [digI (a, s, (m : Int), p) act 0, digI (a, s, (m : Int), p) act 1], labL s m) := by
       unfold ofI; rw [if_neg (by simp only; omega)]; rfl
     have hlN : (numL m).length ≤ 8 := decL_len.2
     have hlab : labL s m = s ++ [32] ++ numL m := rfl
     rw [hr, hlab]
     generalize digI (a, s, (m : Int), p) act 0 = D0 at *
     generalize digI (a, s, (m : Int), p) act 1 = D1 at *
     generalize numL m = N at *
     generalize regI a = R at *
     have tL : List.take (s.length + 1 + N.length) (s ++ [32] ++ N) = s ++ [32] ++ N := List.take_of_length_le (by simp; omega)
     have tl : (s ++ [32] ++ N).length = s.length + 1 + N.length := by simp; omega
     have t2 : (s ++ [32]).length = s.length + 1 := by simp
     have b1 : binT .add (strT s) (strT [32]) = some (strT (s ++ [32])) := bin_s_add (by simp; omega)
     have b2 : binT .add (strT (s ++ [32])) (strT N) = some (strT (s ++ [32] ++ N)) := bin_s_add (by simp; omega)
     simp (disch := omega) only [go_sem, ↓reduceIte, Nat.reduceAdd, Nat.reduceEqDiff, Nat.reduceLeDiff, reduceCtorEq, ac_event_OfImage, imT_def, evT_def, h1, hC, d4, h2, hR, h3, hD, b1, h4, hL, b2, tl, tL, List.take_length]
     all_goals rfl
 · have hr : ofI (a, s, v, p) act = (0, 0, [], []) := if_pos (.inl hz)
   rw [hr]
   have hz' : (chkI (a, s, v, p) != 0) = true := by simpa using hz
   simp (disch := omega) only [go_sem, ↓reduceIte, Nat.reduceAdd, Nat.reduceEqDiff, Nat.reduceLeDiff, ac_event_OfImage, imT_def, evT_def, h1, hC, hz', List.map_nil]
end Go.Eng
end
section
set_option maxRecDepth 20000
namespace Go.Eng
open Go.MuLone
theorem decL_dec : ∀ {k n : Nat}, n < 10 ^ (k + 1) → Lib.decDigits n = decL k n
 | 0, n, h => by rw [decL, Lib.decDigits, dif_pos (by omega)]
 | k + 1, n, h => by
   rw [decL, Lib.decDigits]
   by_cases h10 : n < 10
   · rw [if_pos h10, dif_pos h10]
   · rw [if_neg h10, dif_neg h10, decL_dec (k := k) (n := n / 10) (by rw [Nat.pow_succ] at h; omega)]
theorem itoa_numL {n : Nat} (h : n ≤ 1000000) : Lib.itoa (n : Int) = numL n := by
 unfold Lib.itoa numL
 rw [if_neg (by omega), Int.toNat_natCast]
 exact decL_dec (by have : (10 : Nat) ^ (7 + 1) = 100000000 := by decide
                    omega)
def pow10T : List T := Lib.pow10Tab.map (T.int .u64)
theorem tab_is {P : Program} {nm : String} {g : Nat} {k : IntKind} {zs : List Int} {F : Nat → Prop} {w : World} (hg : P.globalNamed nm = some g)
   (h : RepV (fun _ => none) F w (.ro (zs.map (T.int k))) (.pointer (some ⟨g, 0, none⟩))) (hs : GSz w g (zs.map (T.int k)).length) : Lib.TabIs P w nm k zs := by
 obtain ⟨c, e, z, hc, hz⟩ := hs
 rw [List.length_map] at hz
 have hv : w.var? P nm = some c := by
   unfold World.var?
   rw [hg, Option.bind_some, hc]
 unfold Lib.TabIs
 rw [hv]
 congr 1
 cases h with
 | ro _ a news ha hn h1 hF hw h =>
   rw [List.length_map] at hn
   apply Array.ext
   · simp [hz]
   · intro i hi1 hi2
     have hi : i < zs.length := by omega
     have hn2 : i < news.length := by omega
     have hu : news[i]? = some news[i] := List.getElem?_eq_getElem hn2
     have hr := h i (.int k zs[i]) news[i] (by rw [List.getElem?_map, List.getElem?_eq_getElem hi]; rfl) hu
     have hcell := hw i _ hu
     have e : (⟨g, 0, none⟩ : Addr).add i = ⟨g, i, none⟩ := by
       unfold Addr.add; split
       · rename_i h0; rw [h0]
       · simp
     rw [e] at hcell
     unfold World.cell? at hcell
     simp only [hc] at hcell
     generalize news[i] = u at *
     cases hr
     have h2 : c[i]? = some (.int k zs[i]) := by simpa using hcell
     rw [Array.getElem?_eq_getElem hi1] at h2
     rw [Option.some.inj h2]
     simp
theorem ok_itoa {P : Program} {G : Gl} {f : FuncId} {fn : Func} {c : Code} {g : Nat} (hf : P.funcs[f]? = some fn) (hname : (fn.name == "runtime.NumGoroutine") = false) (hb : fn.body = some c) (hG : G g = some pow10T)
   (hg : P.globalNamed "internal/strconv.uint64pow10" = some g)
   (h : ∀ (n : Int) (_ : -9223372036854775808 ≤ n) (_ : n ≤ 9223372036854775807) (w : World), Lib.TabIs P w "internal/strconv.uint64pow10" .u64 Lib.pow10Tab → Calls P f #[.int .i64 n] w fun e w' => e = .returned (.string ⟨(Lib.itoa n).toArray⟩) ∧ ∃ k os, w' = Go.Sort.grow (w.drewN k) os) : FOk P G f ct_itoa.fs := by
 refine ct_itoa.ok (fun args w => run_callFunc_enter hf hname hb args w) (fun (x : Int) hx => ?_)
 intro w β F vals env fits hargs
 have hx1 : (0 : Int) ≤ (x : Int) := hx.1
 have hx2 : (x : Int) ≤ (1000000 : Int) := hx.2
 have hvals : vals = #[.int .i64 x] := by
   obtain ⟨l⟩ := vals
   cases hargs with
   | cons h1 h2 =>
     cases h2
     cases h1 with
     | t h => cases h; rfl
 subst hvals
 refine (h x (by omega) (by omega) w (tab_is hg (env.gl g _ hG) (env.gs g _ hG))).mono fun e w' he => ?_
 obtain ⟨rfl, k, os, rfl⟩ := he
 refine ⟨_, β, F, rfl, ?_⟩
 have hβ : ∀ k, β k = none := fun k => fits.dom k (Nat.zero_le _)
 obtain ⟨n, rfl⟩ := Int.eq_ofNat_of_zero_le hx1
 have hr : ct_itoa.r (n : Int) = .t (strT (numL n)) := by
   show V.t (strT (numL (n : Int).toNat)) = _
   rw [Int.toNat_natCast]
 have hL : Lib.itoa (n : Int) = numL n := itoa_numL (by omega)
 have hsz : w.heap.size ≤ (Go.Sort.grow (w.drewN k) os).heap.size := by
   show _ ≤ (w.heap ++ os).size
   rw [Array.size_append]; omega
 have hold : ∀ b, b < w.heap.size → (Go.Sort.grow (w.drewN k) os).heap[b]? = w.heap[b]? := by
   intro b hb
   show (w.heap ++ os)[b]? = _
   rw [Array.getElem?_append_left hb]
 refine ⟨⟨fun k o hk => (by simp [ct_itoa] at hk), fun k _ => hβ k, fun i j bi bj b h1 => (by rw [hβ] at h1; cases h1), fun k bi b h1 => (by rw [hβ] at h1; cases h1)⟩, ?_, fun _ _ => rfl, fun k bi b _ h1 => by (rw [hβ] at h1; cases h1), fun _ _ => Iff.rfl, fun b hb => Nat.lt_of_lt_of_le (env.Fw b hb) hsz, rfl, rfl, rfl, hsz, fun b hb _ => hold b hb⟩
 rw [hr, hL]
 exact .t (.str _)
end Go.Eng
end
section
set_option maxRecDepth 20000
namespace Go.Eng
theorem ok_mnz {P : Program} {G : Nat → Option (List T)} {f : FuncId} {fn : Func} {ps : Array TypeId} {t e : TypeId} (hf : P.funcs[f]? = some fn) (hname : (fn.name == "runtime.NumGoroutine") = false) (hb : fn.body.isNone = true) (hn : Extern.findNext fn = none)
   (he : Extern.find fn = some (Extern.BytealgMakeNoZero.makeNoZero ps #[t])) (ht : P.underlying t = some (.slice e)) : FOk P G f ct_mnz.fs := by
 intro as ins r outs hs
 have key : ∃ n : Nat, (n = 20 ∨ n = 32) ∧ as = [.t (.int .i64 n)] ∧ ins = [] ∧ r = .sl 0 0 n ∧ outs = [.live 1 [] true false] := by
   unfold Ct.fs at hs
   split at hs
   · rename_i hx
     cases hs
     have h1 := hx.choose_spec
     generalize hx.choose = y at h1 ⊢
     obtain ⟨⟨rfl, rfl⟩, h3⟩ := h1
     have h4 : (show Int from y) = 20 ∨ (show Int from y) = 32 := h3
     rcases h4 with h4 | h4
     · refine ⟨20, .inl rfl, ?_⟩
       have h5 : y = (20 : Int) := h4
       subst h5
       exact ⟨rfl, rfl, rfl, rfl⟩
     · refine ⟨32, .inr rfl, ?_⟩
       have h5 : y = (32 : Int) := h4
       subst h5
       exact ⟨rfl, rfl, rfl, rfl⟩
   · cases hs
 obtain ⟨n, hn2, rfl, rfl, rfl, rfl⟩ := key
 intro w β F vals env fits hargs
 have hvals : vals = #[.int .i64 n] := by
   obtain ⟨l⟩ := vals
   cases hargs with
   | cons h1 h2 =>
     cases h2
     cases h1 with
     | t h => cases h; rfl
 subst hvals
 obtain ⟨cs, hrun, hle, hmx⟩ := Lib.run_makeNoZero (P := P) w ps t e ht n (by omega)
 refine .inr ⟨.slice (some ⟨w.heap.size, 0, none⟩) n cs.size, w.drew.drew.alloc (.cells cs e), ?_, .slice (some ⟨w.heap.size, 0, none⟩) n cs.size, fun k => if k = 0 then some ⟨some w.heap.size, 1, cs.size⟩ else none, F, rfl, ?_⟩
 · rw [run_callFunc_extern hf hname hb hn he, hrun]; rfl
 · have hsz : (w.drew.drew.alloc (.cells cs e)).heap.size = w.heap.size + 1 := by
     show (w.heap.push _).size = _
     exact Array.size_push _
   have hnew : (w.drew.drew.alloc (.cells cs e)).heap[w.heap.size]? = some (.cells cs e) := by
     show (w.heap.push _)[w.heap.size]? = _
     simp
   have hold : ∀ b, b < w.heap.size → (w.drew.drew.alloc (.cells cs e)).heap[b]? = w.heap[b]? := by
     intro b hb
     show (w.heap.push _)[b]? = _
     rw [Array.getElem?_push, if_neg (by omega)]
   have hFb : ¬ F w.heap.size := fun h => absurd (env.Fw _ h) (by omega)
   have mx : n ≤ maxLen := by have : (32 : Nat) ≤ maxLen := by decide
                              omega
   refine ⟨⟨fun k o hk => ?_, fun k hk => ?_, fun i j bi bj b h1 h2 h3 h4 => ?_, fun k bi b h1 h2 => ?_⟩, ?_, fun k hk => ?_, fun k bi b _ h1 h2 => ?_, fun b _ => Iff.rfl, fun b hb => ?_, rfl, rfl, rfl, ?_, fun b hb _ => hold b hb⟩
   · cases k with
     | succ k => simp at hk
     | zero =>
       simp only [List.getElem?_cons_zero, Option.some.injEq] at hk
       subst hk
       refine ⟨_, if_pos rfl, ⟨rfl, by simp, cs, e, (0, 0), hnew, by omega, by simp, by simp, hmx mx, fun i x h => by simp at h, ?_⟩, 1, [], false, rfl⟩
       simpa using hFb
   · have : k ≠ 0 := by simp at hk; omega
     exact if_neg this
   · split at h1 <;> split at h2 <;> simp_all
   · split at h1
     · cases h1
       cases h2
       exact ⟨by rw [hsz]; omega, hFb⟩
     · cases h1
   · exact .sl 0 0 n cs.size w.heap.size 1 cs.size _ (if_pos rfl) hle (by omega) (fun _ => by simp) rfl
   · simp at hk
   · split at h1
     · cases h1
       cases h2
       exact Nat.le_refl _
     · cases h1
   · have := env.Fw b hb
     rw [hsz]; omega
   · rw [hsz]; omega
end Go.Eng
end
section
set_option maxRecDepth 20000
namespace Go.Eng
open Go.ChangeShapes Go.WideShapes Go.RowKit
inductive Ty where
 | int (k : IntKind)
 | bool
 | str
 | sl (e : Ty)
 | st (fs : List Ty)
mutual
def Ty.size : Ty → Nat
 | .st fs => Ty.sizeL fs
 | _ => 1
def Ty.sizeL : List Ty → Nat
 | [] => 0
 | f :: r => f.size + Ty.sizeL r
end
def isK (P : Program) (t : TypeId) (k : IntKind) : Bool := match P.underlying t with
 | some (.int k') => decide (k' = k)
 | _ => false
theorem isK_of {P : Program} {t : TypeId} {k : IntKind} (h : isK P t k = true) : P.underlying t = some (.int k) := by
 unfold isK at h
 split at h
 · rename_i h1; rw [h1, of_decide_eq_true h]
 · cases h
mutual
def Ty.ok (P : Program) : Ty → TypeId → Bool
 | .int k, t => isK P t k
 | .bool, t => match P.underlying t with | some .bool => true | _ => false
 | .str, t => match P.underlying t with | some .string => true | _ => false
 | .sl e, t => match P.underlying t with | some (.slice te) => e.ok P te && Nat.beq (P.cellsOf te) e.size && Nat.ble 1 e.size | _ => false
 | .st fs, t => Nat.beq (P.cellsOf t) (Ty.sizeL fs) && match P.underlying t with
   | some (.struct gs) => Ty.okF P fs gs.toList 0
   | some (.array n te) => Nat.beq fs.length n && Ty.okA P fs te
   | _ => false
def Ty.okF (P : Program) : List Ty → List Field → Nat → Bool
 | [], [], _ => true
 | f :: r, g :: gs, off => Nat.beq g.offset off && Nat.beq (P.cellsOf g.type) f.size && f.ok P g.type && Ty.okF P r gs (off + f.size)
 | _, _, _ => false
def Ty.okA (P : Program) : List Ty → TypeId → Bool
 | [], _ => true
 | f :: r, te => f.ok P te && Nat.beq (P.cellsOf te) f.size && Ty.okA P r te
end
mutual
def Ty.is : Ty → T → Prop
 | .int k, x => ∃ n, (Lit.int k n).wf = true ∧ x = .int k n
 | .bool, x => ∃ b, x = .bool b
 | .str, x => ∃ s : ByteArray, s.size ≤ maxLen ∧ x = .str s
 | .sl e, x => ∃ es : List T, es.length ≤ maxLen ∧ (∀ y ∈ es, e.is y) ∧ x = .sl es
 | .st fs, x => ∃ cs, Ty.isL fs cs ∧ x = .agg cs
def Ty.isL : List Ty → List T → Prop
 | [], cs => cs = []
 | f :: r, cs => ∃ x rest, f.is x ∧ Ty.isL r rest ∧ cs = x.cells ++ rest
end
mutual
theorem Ty.is_size : ∀ (ty : Ty) (x : T), ty.is x → x.cells.length = ty.size
 | .int k, x, h => by obtain ⟨n, _, rfl⟩ := h; rfl
 | .bool, x, h => by obtain ⟨n, rfl⟩ := h; rfl
 | .str, x, h => by obtain ⟨n, _, rfl⟩ := h; rfl
 | .sl e, x, h => by obtain ⟨es, _, _, rfl⟩ := h; rfl
 | .st fs, x, h => by
   obtain ⟨cs, h1, rfl⟩ := h
   show cs.length = Ty.sizeL fs
   exact Ty.isL_size fs cs h1
theorem Ty.isL_size : ∀ (fs : List Ty) (cs : List T), Ty.isL fs cs → cs.length = Ty.sizeL fs
 | [], cs, h => by cases h; rfl
 | f :: r, cs, h => by
   obtain ⟨x, rest, h1, h2, rfl⟩ := h
   rw [List.length_append, Ty.is_size f x h1, Ty.isL_size r rest h2, Ty.sizeL]
end
theorem pick_list {α : Type} {Q : Nat → α → Prop} : ∀ (n : Nat), (∀ i, i < n → ∃ y, Q i y) → ∃ l : List α, l.length = n ∧ ∀ i y, l[i]? = some y → Q i y
 | 0, _ => ⟨[], rfl, by simp⟩
 | n + 1, h => by
   obtain ⟨l, hl, hq⟩ := pick_list n (fun i hi => h i (by omega))
   obtain ⟨y, hy⟩ := h n (by omega)
   refine ⟨l ++ [y], by simp [hl], fun i z hz => ?_⟩
   rw [List.getElem?_append] at hz
   split at hz
   · exact hq i z hz
   · have h1 : i - l.length = 0 := by
       rcases Nat.eq_zero_or_pos (i - l.length) with h | h
       · exact h
       · rw [List.getElem?_eq_none (by simp; omega)] at hz; cases hz
     rw [h1] at hz
     simp only [List.getElem?_cons_zero, Option.some.injEq] at hz
     subst hz
     have : i = n := by omega
     subst this; exact hy
theorem cell_some {w : World} {a : Addr} {u : Value} (h : w.cell? a = some u) : a.block < w.heap.size ∧ a.spot = none := by
 unfold World.cell? at h
 split at h
 · rename_i hb
   refine ⟨(Array.getElem?_eq_some_iff.1 hb).1, ?_⟩
   split at h
   · cases h
   · rename_i hs
     simpa using hs
 · cases h
section
variable {H : Type} {enc : TypeId × Value → H} {P : Program} {w : World} {base : Nat} {sp : Nat → Bool} {held : Bool}
structure Reads (w : World) (ds : List T) (cs : List Value) : Prop where
 len : ds.length = cs.length
 one : ∀ u ∈ cs, u.oneCell' = true
 rep : ∀ (i : Nat) (c : T) (u : Value), ds[i]? = some c → cs[i]? = some u → Rep (fun b => b < w.heap.size) w c u
theorem Reads.one1 {x : T} {c : Value} (hc : c.oneCell' = true) (h : Rep (fun b => b < w.heap.size) w x c) : Reads w [x] [c] :=
 ⟨rfl, by simpa using hc, fun i d u hd hu => by
   cases i with
   | zero => simp only [List.getElem?_cons_zero, Option.some.injEq] at hd hu; subst hd; subst hu; exact h
   | succ i => simp at hd⟩
theorem Reads.app {ds es : List T} {cs vs : List Value} (h : Reads w ds cs) (h2 : Reads w es vs) : Reads w (ds ++ es) (cs ++ vs) := by
 refine ⟨by rw [List.length_append, List.length_append, h.len, h2.len], fun u hu => ?_, fun i c u hc hu => ?_⟩
 · rcases List.mem_append.1 hu with h3 | h3
   · exact h.one u h3
   · exact h2.one u h3
 · rw [List.getElem?_append] at hc hu
   rw [h.len] at hc
   split at hc
   · rename_i hl; rw [if_pos hl] at hu; exact h.rep i c u hc hu
   · rename_i hl; rw [if_neg hl] at hu; exact h2.rep _ c u hc hu
theorem Reads.nil : Reads w [] [] := ⟨rfl, by simp, fun i c u hc => by simp at hc⟩
theorem open_fields (n : Nat) (IH : ∀ (ty : Ty) (t : TypeId) (cs : List Value) (x : DataW H × List MemPlace), ty.ok P t = true → cs.length = ty.size → DataW.trod enc P w base sp held n t cs = some x → ∃ y : T, ty.is y ∧ Reads w y.cells cs) {cs : List Value} :
   ∀ (fs : List Ty) (gs : List Field) (off : Nat), Ty.okF P fs gs off = true → off + Ty.sizeL fs = cs.length → (∀ g ∈ gs, ∃ x, DataW.trod enc P w base sp held n g.type ((cs.drop g.offset).take (P.cellsOf g.type)) = some x) →
     ∃ ds, Ty.isL fs ds ∧ Reads w ds (cs.drop off)
 | [], [], off, _, hl, _ => ⟨[], rfl, by
     have : cs.drop off = [] := List.drop_eq_nil_of_le (by simp only [Ty.sizeL] at hl; omega)
     rw [this]; exact Reads.nil⟩
 | [], _ :: _, _, h, _, _ => by simp [Ty.okF] at h
 | _ :: _, [], _, h, _, _ => by simp [Ty.okF] at h
 | f :: r, g :: gs, off, h, hl, hg => by
   simp only [Ty.okF, Bool.and_eq_true] at h
   obtain ⟨⟨⟨h1, h2⟩, h3⟩, h4⟩ := h
   have e1 := Nat.eq_of_beq_eq_true h1
   have e2 := Nat.eq_of_beq_eq_true h2
   simp only [Ty.sizeL] at hl
   obtain ⟨ds, hd1, hd2⟩ := open_fields n IH r gs (off + f.size) h4 (by omega) (fun g' hg' => hg g' (.tail _ hg'))
   obtain ⟨x, hx⟩ := hg g (.head _)
   rw [e1, e2] at hx
   obtain ⟨y, hy1, hy2⟩ := IH f g.type _ x h3 (by simp; omega) hx
   refine ⟨y.cells ++ ds, ⟨y, ds, hy1, hd1, rfl⟩, ?_⟩
   have e3 : cs.drop off = (cs.drop off).take f.size ++ cs.drop (off + f.size) := by
     rw [← List.drop_drop, List.take_append_drop]
   rw [e3]
   exact hy2.app hd2
theorem open_array (n : Nat) (IH : ∀ (ty : Ty) (t : TypeId) (cs : List Value) (x : DataW H × List MemPlace), ty.ok P t = true → cs.length = ty.size → DataW.trod enc P w base sp held n t cs = some x → ∃ y : T, ty.is y ∧ Reads w y.cells cs) {cs : List Value} {te : TypeId} :
   ∀ (fs : List Ty) (i : Nat), Ty.okA P fs te = true → i * P.cellsOf te + Ty.sizeL fs = cs.length → (∀ j, j < fs.length → ∃ x, DataW.trod enc P w base sp held n te ((cs.drop ((i + j) * P.cellsOf te)).take (P.cellsOf te)) = some x) →
     ∃ ds, Ty.isL fs ds ∧ Reads w ds (cs.drop (i * P.cellsOf te))
 | [], i, _, hl, _ => ⟨[], rfl, by
     have : cs.drop (i * P.cellsOf te) = [] := List.drop_eq_nil_of_le (by simp only [Ty.sizeL] at hl; omega)
     rw [this]; exact Reads.nil⟩
 | f :: r, i, h, hl, hg => by
   simp only [Ty.okA, Bool.and_eq_true] at h
   obtain ⟨⟨h3, h2⟩, h4⟩ := h
   have e2 := Nat.eq_of_beq_eq_true h2
   simp only [Ty.sizeL] at hl
   have e4 : (i + 1) * P.cellsOf te = i * P.cellsOf te + f.size := by rw [Nat.add_mul, Nat.one_mul, e2]
   obtain ⟨ds, hd1, hd2⟩ := open_array n IH (cs := cs) r (i + 1) h4 (by rw [e4]; omega) (fun j hj => by
     have := hg (j + 1) (by simp; omega)
     rw [show i + 1 + j = i + (j + 1) by omega]; exact this)
   obtain ⟨x, hx⟩ := hg 0 (by simp)
   rw [Nat.add_zero, e2, ← e2] at hx
   obtain ⟨y, hy1, hy2⟩ := IH f te _ x h3 (by rw [e2] at hl ⊢; rw [List.length_take, List.length_drop]; omega) hx
   refine ⟨y.cells ++ ds, ⟨y, ds, hy1, hd1, rfl⟩, ?_⟩
   have e3 : cs.drop (i * P.cellsOf te) = (cs.drop (i * P.cellsOf te)).take (P.cellsOf te) ++ cs.drop ((i + 1) * P.cellsOf te) := by
     rw [e4, ← e2, ← List.drop_drop, List.take_append_drop]
   rw [e3]
   exact hy2.app hd2
theorem open_cells : ∀ (n : Nat) (ty : Ty) (t : TypeId) (cs : List Value) (x : DataW H × List MemPlace), ty.ok P t = true → cs.length = ty.size → DataW.trod enc P w base sp held n t cs = some x → ∃ y : T, ty.is y ∧ Reads w y.cells cs := by
 intro n
 induction n with
 | zero => intro ty t cs x _ _ h; simp [DataW.trod] at h
 | succ n IH =>
   intro ty t cs x hty hlen h
   cases ty with
   | int k =>
     obtain ⟨m, rfl, _, hw⟩ := DataW.trod_int (isK_of hty) h
     exact ⟨.int k m, ⟨m, hw, rfl⟩, .one1 rfl (.int k m)⟩
   | bool =>
     simp only [Ty.ok] at hty
     split at hty
     · rename_i hu
       obtain ⟨b, rfl, _⟩ := DataW.trod_bool hu h
       exact ⟨.bool b, ⟨b, rfl⟩, .one1 rfl (.bool b)⟩
     · cases hty
   | str =>
     simp only [Ty.ok] at hty
     split at hty
     · rename_i hu
       obtain ⟨s, rfl, _, hs⟩ := DataW.trod_string hu h
       exact ⟨.str s, ⟨s, hs, rfl⟩, .one1 rfl (.str s)⟩
     · cases hty
   | sl e =>
     simp only [Ty.ok] at hty
     split at hty
     · rename_i te hu
       simp only [Bool.and_eq_true] at hty
       obtain ⟨⟨h1, h2⟩, h3⟩ := hty
       have e2 := Nat.eq_of_beq_eq_true h2
       have e3 := Nat.le_of_ble_eq_true h3
       rcases DataW.trod_slice hu h with ⟨rfl, _⟩ | ⟨a, len, cap, elems, rest, m, hm, rfl, _, _, hlc, hcm, hel, hget, _, _⟩
       · exact ⟨.sl [], ⟨[], by simp, by simp, rfl⟩, .one1 rfl .nil⟩
       · cases hm
         have hcells : ∀ i, i < len → ∃ y : T, e.is y ∧ ∃ cs', Reads w y.cells cs' ∧ cs'.length = e.size ∧ ∀ j, j < e.size → w.cell? ((a.add (i * e.size)).add j) = cs'[j]? := by
           intro i hi
           have hg := hget i hi
           have : elems[i]? = some elems[i] := List.getElem?_eq_getElem (by omega)
           rw [this, Option.bind_eq_some_iff] at hg
           obtain ⟨cs', hc, ht⟩ := hg
           obtain ⟨_, hl, hcell⟩ := World.cells?_some hc
           rw [e2] at hl hcell
           obtain ⟨y, hy1, hy2⟩ := IH e te cs' _ h1 hl ht
           exact ⟨y, hy1, cs', hy2, hl, hcell⟩
         obtain ⟨es, hes, hq⟩ := pick_list len hcells
         have hz : ∀ y ∈ es, y.cells.length = e.size := fun y hy => by
           obtain ⟨i, hi⟩ := List.getElem?_of_mem hy
           exact e.is_size y (hq i y hi).1
         have hcellk : ∀ k, k < len * e.size → ∃ (i j : Nat) (y : T) (cs' : List Value) (u : Value), k = i * e.size + j ∧ j < e.size ∧ es[i]? = some y ∧ Reads w y.cells cs' ∧ cs'[j]? = some u ∧ w.cell? (a.add k) = some u := by
           intro k hk
           have hi : k / e.size < len := (Nat.div_lt_iff_lt_mul (by omega)).2 hk
           have hj : k % e.size < e.size := Nat.mod_lt _ (by omega)
           have hy : es[k / e.size]? = some es[k / e.size] := List.getElem?_eq_getElem (by omega)
           obtain ⟨_, cs', hr, hl, hc⟩ := hq _ _ hy
           have hu : cs'[k % e.size]? = some cs'[k % e.size] := List.getElem?_eq_getElem (by omega)
           have ek : k = k / e.size * e.size + k % e.size := by rw [Nat.mul_comm]; exact (Nat.div_add_mod k e.size).symm
           refine ⟨_, _, _, cs', _, ek, hj, hy, hr, hu, ?_⟩
           rw [← hu, ← hc _ hj, Addr.add_add, ← ek]
         refine ⟨.sl es, ⟨es, by omega, fun y hy => ?_, rfl⟩, .one1 rfl ?_⟩
         · obtain ⟨i, hi⟩ := List.getElem?_of_mem hy
           exact (hq i y hi).1
         · have hnl : ((List.range (len * e.size)).map fun k => (w.cell? (a.add k)).getD default).length = len * e.size := by simp
           have hnews : ∀ k u, ((List.range (len * e.size)).map fun k => (w.cell? (a.add k)).getD default)[k]? = some u → k < len * e.size ∧ w.cell? (a.add k) = some u := by
             intro k u hu
             have hk : k < len * e.size := by
               rcases Nat.lt_or_ge k (len * e.size) with h | h
               · exact h
               · rw [List.getElem?_eq_none (by omega)] at hu; cases hu
             obtain ⟨_, _, _, _, u', _, _, _, _, _, hc⟩ := hcellk k hk
             rw [List.getElem?_map, List.getElem?_range hk, Option.map_some, hc, Option.getD_some, Option.some.injEq] at hu
             subst hu
             exact ⟨hk, hc⟩
           have h0 : es ≠ [] → a.block < w.heap.size ∧ a.spot = none := by
             intro hne
             have hlp : 0 < len := by
               rw [← hes]; exact List.length_pos_iff.2 hne
             obtain ⟨_, _, _, _, u', _, _, _, _, _, hc⟩ := hcellk 0 (Nat.mul_pos hlp (by omega))
             have e9 : a.add 0 = a := by simp [Addr.add]
             rw [e9] at hc
             exact cell_some hc
           have key := Rep.sl (F := fun b => b < w.heap.size) (w := w) es a cap e.size _ (fun hne => (h0 hne).2) (by omega) (by rw [hes]; exact hnl) (fun u hu => by
             obtain ⟨k, hk⟩ := List.getElem?_of_mem hu
             obtain ⟨hk1, hk2⟩ := hnews k u hk
             obtain ⟨_, _, _, cs', u', _, _, _, hr, hcu, hc⟩ := hcellk k hk1
             rw [hk2] at hc; cases hc
             exact hr.one u (List.mem_of_getElem? hcu)) (fun hne => (h0 hne).1) (fun k u hk => (hnews k u hk).2) hz
             (fun i y j c u hy hc hu => by
               obtain ⟨hk1, hk2⟩ := hnews _ u hu
               obtain ⟨i', j', y', cs', u', e1, hj', hy', hr, hcu, hc'⟩ := hcellk _ hk1
               rw [hk2] at hc'; cases hc'
               have hj : j < e.size := by rw [← hz y (List.mem_of_getElem? hy)]; exact (List.getElem?_eq_some_iff.1 hc).1
               have ei : i = i' ∧ j = j' := by
                 have h5 := congrArg (· / e.size) e1
                 have h6 := congrArg (· % e.size) e1
                 simp only [Nat.mul_comm _ e.size, Nat.mul_add_div (show 0 < e.size by omega), Nat.mul_add_mod, Nat.div_eq_of_lt hj, Nat.div_eq_of_lt hj', Nat.mod_eq_of_lt hj, Nat.mod_eq_of_lt hj'] at h5 h6
                 exact ⟨by omega, h6⟩
               obtain ⟨rfl, rfl⟩ := ei
               rw [hy] at hy'; cases hy'
               exact hr.rep j c u hc hcu)
           rw [hes] at key
           exact key
     · cases hty
   | st fs =>
     simp only [Ty.ok, Bool.and_eq_true] at hty
     obtain ⟨h0, hty⟩ := hty
     have e0 := Nat.eq_of_beq_eq_true h0
     split at hty
     · rename_i gs hu
       obtain ⟨xs, m, hm, _, hl, hxl, hget⟩ := DataW.trod_struct hu h
       cases hm
       obtain ⟨ds, hd1, hd2⟩ := open_fields n IH (cs := cs) fs gs.toList 0 hty (by omega) (fun g hg => by
         obtain ⟨i, hi⟩ := List.getElem?_of_mem hg
         have hi' : gs[i]? = some g := by simpa using hi
         have hlt : i < xs.length := by rw [hxl]; exact (Array.getElem?_eq_some_iff.1 hi').1
         exact ⟨xs[i], by rw [hget i g hi']; exact List.getElem?_eq_getElem hlt⟩)
       rw [List.drop_zero] at hd2
       exact ⟨.agg ds, ⟨ds, hd1, rfl⟩, hd2⟩
     · rename_i m te hu
       simp only [Bool.and_eq_true] at hty
       have e5 := Nat.eq_of_beq_eq_true hty.1
       obtain ⟨xs, m', hm, _, hl, hxl, hget⟩ := DataW.trod_array hu h
       cases hm
       obtain ⟨ds, hd1, hd2⟩ := open_array n IH (cs := cs) fs 0 hty.2 (by omega) (fun j hj => by
         have hlt : j < xs.length := by omega
         rw [Nat.zero_add]
         exact ⟨xs[j], by rw [hget j (by omega)]; exact List.getElem?_eq_getElem hlt⟩)
       rw [Nat.zero_mul, List.drop_zero] at hd2
       exact ⟨.agg ds, ⟨ds, hd1, rfl⟩, hd2⟩
     · cases hty
theorem open_value {ty : Ty} {t : TypeId} {v : Value} {d : DataW H} {ps : List MemPlace} {b0 : Nat} (hty : ty.ok P t = true) (hval : Value.okWide P w .any b0 t v) (h : DataW.Trod enc P w base sp held t v d ps) :
   ∃ y : T, ty.is y ∧ Rep (fun b => b < w.heap.size) w y v := by
 obtain ⟨n, hn⟩ := h
 have scalar : ∀ c, v = c → c.cells = #[c] → ty.size = 1 → (∀ y : T, ty.is y → y.cells = [y]) → ∃ y : T, ty.is y ∧ Rep (fun b => b < w.heap.size) w y v := by
   intro c hv hc hs hy
   subst hv
   rw [hc] at hn
   obtain ⟨y, h1, h2⟩ := open_cells n ty t _ _ hty (by rw [hs]; rfl) hn
   rw [hy y h1] at h2
   exact ⟨y, h1, h2.rep 0 y v rfl rfl⟩
 cases ty with
 | int k =>
   obtain ⟨m, hv⟩ := okWide_int (isK_of hty) hval
   exact scalar _ hv rfl rfl (fun y hy => by obtain ⟨_, _, rfl⟩ := hy; rfl)
 | bool =>
   simp only [Ty.ok] at hty
   split at hty
   · rename_i hu
     obtain ⟨m, hv⟩ := okWide_bool hu hval
     exact scalar _ hv rfl rfl (fun y hy => by obtain ⟨_, rfl⟩ := hy; rfl)
   · cases hty
 | str =>
   simp only [Ty.ok] at hty
   split at hty
   · rename_i hu
     obtain ⟨m, hv⟩ := okWide_string hu hval
     exact scalar _ hv rfl rfl (fun y hy => by obtain ⟨_, _, rfl⟩ := hy; rfl)
   · cases hty
 | sl e =>
   have hty' := hty
   simp only [Ty.ok] at hty'
   split at hty'
   · rename_i te hu
     obtain ⟨a, l, c, hv⟩ := okWide_slice hu hval
     exact scalar _ hv rfl rfl (fun y hy => by obtain ⟨_, _, _, rfl⟩ := hy; rfl)
   · cases hty'
 | st fs =>
   have hagg : ∃ cs, v = .agg cs ∧ cs.size = P.cellsOf t := by
     have hty' := hty
     simp only [Ty.ok, Bool.and_eq_true] at hty'
     obtain ⟨_, h2⟩ := hty'
     unfold Value.okWide at hval
     split at h2
     · rename_i hu; rw [hu] at hval; obtain ⟨cs, h3, h4, _⟩ := hval; exact ⟨cs, h3, h4⟩
     · rename_i hu; rw [hu] at hval; obtain ⟨cs, h3, h4, _⟩ := hval; exact ⟨cs, h3, h4⟩
     · cases h2
   obtain ⟨cs, rfl, hsz⟩ := hagg
   have hsz2 : cs.size = Ty.sizeL fs := by
     simp only [Ty.ok, Bool.and_eq_true] at hty
     rw [hsz]; exact Nat.eq_of_beq_eq_true hty.1
   obtain ⟨y, h1, h2⟩ := open_cells n (.st fs) t _ _ hty (by show cs.toList.length = Ty.sizeL fs; simpa using hsz2) hn
   obtain ⟨ds, h3, rfl⟩ := h1
   refine ⟨.agg ds, ⟨ds, h3, rfl⟩, .agg ds cs ?_ ?_ ?_⟩
   · have := h2.len; simpa [Value.cells, T.cells] using this.symm
   · intro u hu; exact h2.one u (by simpa [Value.cells] using hu)
   · intro i c u hc hu; exact h2.rep i c u hc (by simpa [Value.cells] using hu)
theorem open_args : ∀ {tys : List Ty} {ts : List TypeId} {vs : List Value} {ds : List (DataW H)} {ps : List MemPlace} {b0 : Nat}, All2 (fun (ty : Ty) (t : TypeId) => ty.ok P t = true) tys ts →
   (∀ (j : Nat) t v, ts[j]? = some t → vs[j]? = some v → Value.okWide P w .any b0 t v) → DataW.TrodAll enc P w base sp held ts vs ds ps →
   ∃ ys : List T, All2 (fun (ty : Ty) (y : T) => ty.is y) tys ys ∧ All2 (RepV (fun _ => none) (fun b => b < w.heap.size) w) (ys.map V.t) vs
 | [], ts, vs, ds, ps, b0, h, hv, hd => by
   cases h
   obtain ⟨rfl, _, _⟩ := trodAll_nil hd
   exact ⟨[], .nil, .nil⟩
 | ty :: tys, ts, vs, ds, ps, b0, h, hv, hd => by
   cases h with
   | cons h1 h2 =>
     obtain ⟨v, vs', d, ds', p, q, rfl, rfl, rfl, hd1, hd2⟩ := trodAll_cons hd
     obtain ⟨y, hy1, hy2⟩ := open_value h1 (hv 0 _ v rfl rfl) hd1
     obtain ⟨ys, h3, h4⟩ := open_args h2 (fun j t v' ht hv' => hv (j + 1) t v' ht hv') hd2
     exact ⟨y :: ys, .cons hy1 h3, .cons (.t hy2) h4⟩
end
end Go.Eng
end
section
set_option maxRecDepth 20000
namespace Go.Eng
open Go.ChangeShapes Go.WideShapes Go.RowKit Go.WideElems
section
variable {H : Type} {enc : TypeId × Value → H} {P : Program}
theorem same_of_old {W W' : World} (hfr : ∀ b, b < W.heap.size → W'.heap[b]? = W.heap[b]?) {p : MemPlace} (hp : p.block < W.heap.size) : W.sameAt W' p := by
 cases p with
 | cell b off => exact World.cell?_of_block (hfr b hp)
 | map b => exact hfr b hp
theorem args_stay (hl : laidOutB P = true) {W W' : World} (hfr : ∀ b, b < W.heap.size → W'.heap[b]? = W.heap[b]?) {sp : Nat → Bool} :
   ∀ {ts : List TypeId} {vs : List Value} {ds : List (DataW H)} {ps : List MemPlace}, (∀ t ∈ ts, P.readableRec t = true ∧ t < P.types.size) → (∀ p ∈ ps, p.block < W.heap.size ∧ sp p.block = true) →
     DataW.TrodAll enc P W 0 (fun _ => true) true ts vs ds ps → DataW.TrodAll enc P W' 0 sp true ts vs ds ps
 | [], vs, ds, ps, _, _, h => by
   obtain ⟨rfl, rfl, rfl⟩ := trodAll_nil h
   exact trodAll_mk0
 | t :: ts, vs, ds, ps, ht, hp, h => by
   obtain ⟨v, vs', d, ds', p, q, rfl, rfl, rfl, h1, h2⟩ := trodAll_cons h
   obtain ⟨hr, hrow⟩ := ht t (.head _)
   exact ⟨p, q, Trod_stays hl hr hrow h1 (fun x hx => same_of_old hfr (hp x (List.mem_append_left _ hx)).1) (fun x hx => (hp x (List.mem_append_left _ hx)).2),
     args_stay hl hfr (fun t' ht' => ht t' (.tail _ ht')) (fun x hx => hp x (List.mem_append_right _ hx)) h2, rfl⟩
theorem law_post {fn : Func} {s : ChangeSpec} {tb : TypeId} {apart fresh handsOn again : Bool} {W W' : World} {args : Array Value} {ds gs : List (DataW H)} {before : List MemPlace}
   (hl : laidOutB P = true) (hts : ∀ t ∈ fn.params.toList, P.readableRec t = true ∧ t < P.types.size) (hrt : fn.resultTypes = #[tb]) (hb : P.underlying tb = some .bool) (hsv : s.vars = [])
   (hfn : (s.fn H (ds ++ gs)).results = [.lit (.bool true)] ∧ (s.fn H (ds ++ gs)).args = ds ∧ (s.fn H (ds ++ gs)).vars = [])
   (hW : DataW.Whole enc P fn.params.toList s.vars apart W args.toList ds gs before)
   (hos : W'.os = W.os) (hout : W'.output = W.output) (hfr : ∀ b, b < W.heap.size → W'.heap[b]? = W.heap[b]?) :
   s.post enc P fn apart fresh handsOn again W args (.bool true) W' := by
 have hlt : ∀ p ∈ before, p.block < W.heap.size := fun p hp => hW.lt p hp
 have hW' := hW
 obtain ⟨p, q, hA, hV, rfl, hz, hn⟩ := hW'
 rw [hsv] at hV
 obtain ⟨rfl, rfl⟩ := trodVars_none hV
 have hres : ∀ (b : Nat) (sp : Nat → Bool) (hd : Bool), DataW.TrodAll enc P W' b sp hd fn.resultTypes.toList ((Value.bool true).resultList fn.resultTypes.size) (s.fn H (ds ++ [])).results [] := by
   intro b sp hd
   rw [hrt, hfn.1]
   exact trodAll_mk1 (shut_bool hb true)
 have hargs : ∀ sp : Nat → Bool, (∀ x ∈ p ++ [], sp x.block = true) → DataW.TrodAll enc P W' 0 sp true fn.params.toList args.toList (s.fn H (ds ++ [])).args p := by
   intro sp hsp
   rw [hfn.2.1]
   exact args_stay hl hfr hts (fun x hx => ⟨hlt x (by simpa using hx), hsp x (by simpa using hx)⟩) hA
 have hvars : ∀ sp : Nat → Bool, DataW.TrodVars enc P W' sp s.vars (s.fn H (ds ++ [])).vars [] := by
   intro sp
   rw [hsv, hfn.2.2]
   rfl
 refine ⟨ds, [], _, [], p, [], hW, hres _ _ _, hargs _ (fun x hx => by simpa using hlt x hx), hvars _, ⟨hos, hout, fun i hi => ?_⟩, fun _ => ?_⟩
 · have e := hfr i hi
   revert e
   generalize W'.heap[i]? = o'
   intro e
   subst e
   split
   · rename_i h1 h2
     rw [h1] at h2
     cases h2
     exact ⟨rfl, rfl, rfl, fun _ _ => rfl⟩
   · rename_i h1 h2
     rw [h1] at h2
     cases h2
     exact .inr ⟨rfl, rfl⟩
   · rfl
 · refine ⟨ok_one hrt rfl (okWide_bool_mk hb _), _, _, ([] ++ p) ++ [], ⟨[] ++ p, [], trodAll_append (hargs _ (fun _ _ => rfl)) (hres _ _ _), hvars _, rfl, ?_, ?_⟩, ?_⟩
   · intro b off hx
     have hx' : MemPlace.cell b off ∈ p ++ [] := by simpa using hx
     have e : W'.frozen? ⟨b, off, none⟩ = W.frozen? ⟨b, off, none⟩ := by
       unfold World.frozen?
       rw [hfr b (hlt _ hx')]
     rw [e]
     exact hz b off hx'
   · intro ha
     have := hn ha
     simpa using this
   · intro x hx _
     simpa using hx
theorem laid_each {w : World} : ∀ {laid : List (String × DataW Unit)} {ps : List MemPlace}, DataW.LaidVars P w laid ps → ∀ x ∈ laid, ∃ g t cs fuel p, P.globalNamed x.1 = some g ∧ (P.globals[g]?).map (·.type) = some t ∧ w.var? P x.1 = some cs ∧
     DataW.trod (fun _ => ()) P w 0 (fun _ => true) false fuel t cs.toList = some (x.2, p)
 | [], _, _, x, hx => by cases hx
 | y :: r, ps, h, x, hx => by
   obtain ⟨g, t, cs, fuel, p, q, h1, h2, h3, h4, h5, _⟩ := h
   rcases List.mem_cons.1 hx with rfl | hx
   · exact ⟨g, t, cs, fuel, p, h1, h2, h3, h4⟩
   · exact laid_each h5 x hx
theorem ro_ints {w : World} {nm : String} {g t e n : Nat} {k : IntKind} {ns : List Int} {cs : Array Value} {fuel : Nat} {p : List MemPlace} {F : Nat → Prop} (hg : P.globalNamed nm = some g) (hv : w.var? P nm = some cs)
   (ht : P.underlying t = some (.array n e)) (he : P.underlying e = some (.int k)) (hc : P.cellsOf e = 1) (hct : P.cellsOf t = n) (hn : 0 < ns.length)
   (h : DataW.trod (fun _ => ()) P w 0 (fun _ => true) false fuel t cs.toList = some (.agg (ns.map fun m => .lit (.int k m)), p)) (hF : g < w.heap.size → F g) :
   RepV (fun _ => none) F w (.ro (ns.map (T.int k))) (.pointer (some ⟨g, 0, none⟩)) := by
 obtain ⟨xs, m, _, hx, hl, hxl, hget⟩ := DataW.trod_array ht h
 simp only [Prod.mk.injEq, DataW.agg.injEq] at hx
 have hlen : ns.length = n := by
   have := congrArg List.length hx.1
   simp only [List.length_map] at this
   omega
 have hcl : cs.toList.length = n := by rw [hl, hct]
 have hcell : ∀ i, i < n → cs.toList[i]? = some (.int k (ns.getD i 0)) := by
   intro i hi
   have h1 := hget i hi
   have h2 : xs[i]? = some xs[i] := List.getElem?_eq_getElem (by omega)
   rw [h2, hc, Nat.mul_one] at h1
   obtain ⟨z, hz1, hz2, _⟩ := DataW.trod_int he h1
   have h3 : cs.toList[i]? = some (.int k z) := by
     have h4 := congrArg (fun l => l[0]?) hz1
     simp only [List.getElem?_take, List.getElem?_drop, Nat.add_zero, List.getElem?_cons_zero] at h4
     simpa using h4
   have h5 := congrArg (fun l => l[i]?) hx.1
   simp only [List.getElem?_map, h2, Option.map_some, hz2] at h5
   have h6 : ns[i]? = some ns[i] := List.getElem?_eq_getElem (by omega)
   rw [h6] at h5
   simp only [Option.map_some, Option.some.injEq, DataW.lit.injEq, Lit.int.injEq, true_and] at h5
   rw [h3, List.getD_eq_getElem?_getD, h6, h5]; rfl
 have hw : ∀ j, w.cell? ((⟨g, 0, none⟩ : Addr).add j) = cs.toList[j]? := by
   intro j
   have e : (⟨g, 0, none⟩ : Addr).add j = ⟨g, j, none⟩ := by
     unfold Addr.add; split
     · rename_i h0; rw [h0]
     · simp
   rw [e, World.var?_cell hg hv j, Array.getElem?_toList]
 refine .ro (ns.map (T.int k)) ⟨g, 0, none⟩ cs.toList rfl (by rw [hcl, List.length_map, hlen]) ?_ (hF ?_) (fun j u hu => (hw j).trans hu) ?_
 · intro u hu
   obtain ⟨i, hi⟩ := List.getElem?_of_mem hu
   rw [hcell i (by rw [← hcl]; exact (List.getElem?_eq_some_iff.1 hi).1)] at hi
   cases hi; rfl
 · have h0 := hw 0
   rw [hcell 0 (by omega)] at h0
   have := (cell_some h0).1
   rw [add_block] at this
   exact this
 · intro j c u hcj hu
   rw [List.getElem?_map, Option.map_eq_some_iff] at hcj
   obtain ⟨z, hz, rfl⟩ := hcj
   rw [hcell j (by rw [← hlen]; exact (List.getElem?_eq_some_iff.1 hz).1)] at hu
   cases hu
   rw [List.getD_eq_getElem?_getD, hz]
   exact .int k z
theorem gs_ints {w : World} {nm : String} {g t e n : Nat} {k : IntKind} {ns : List Int} {cs : Array Value} {fuel : Nat} {p : List MemPlace} (hg : P.globalNamed nm = some g) (hv : w.var? P nm = some cs)
   (ht : P.underlying t = some (.array n e)) (hct : P.cellsOf t = n)
   (h : DataW.trod (fun _ => ()) P w 0 (fun _ => true) false fuel t cs.toList = some (.agg (ns.map fun m => .lit (.int k m)), p)) : GSz w g (ns.map (T.int k)).length := by
 obtain ⟨xs, m, _, hx, hl, hxl, hget⟩ := DataW.trod_array ht h
 simp only [Prod.mk.injEq, DataW.agg.injEq] at hx
 have hlen : ns.length = n := by
   have := congrArg List.length hx.1
   simp only [List.length_map] at this
   omega
 have hcl : cs.toList.length = n := by rw [hl, hct]
 unfold World.var? at hv
 rw [hg, Option.bind_some] at hv
 split at hv
 · rename_i c e z hc
   cases hv
   exact ⟨_, e, z, hc, by rw [List.length_map, hlen, ← hcl]; simp⟩
 · cases hv
theorem trodAll_length {w : World} {base : Nat} {sp : Nat → Bool} {held : Bool} : ∀ {ts : List TypeId} {vs : List Value} {ds : List (DataW H)} {ps : List MemPlace}, DataW.TrodAll enc P w base sp held ts vs ds ps → ds.length = ts.length
 | [], _, _, _, h => by obtain ⟨rfl, rfl, rfl⟩ := trodAll_nil h; rfl
 | _ :: _, _, _, _, h => by
   obtain ⟨_, _, _, _, _, _, rfl, rfl, rfl, _, h2⟩ := trodAll_cons h
   simp [trodAll_length h2]
end
theorem law_lifted {H : Type} {enc : TypeId × Value → H} {C : Checked} {os : Os} {f : FuncId} {fn : Func} {s : ChangeSpec} {laid : List (String × DataW Unit)} {tys : List Ty} {G : Nat → Option (List T)} {tb : TypeId} {apart fresh handsOn again : Bool}
   (own : ownKnob C.prog.godebug = none) (started : os.Started) (noInit : C.prog.inits.idxOf? f = none) (hfn : C.prog.funcs[f]? = some fn)
   (witness : ∃ (w : World) (tape : Tape) (i : Input), w.os = os ∧ (w.forCall tape i).Shaped C.prog ∧ i.vars = [] ∧ Input.okWide C.prog (w.forCall tape i) .any w.heap.size f i ∧
     ((s.pre enc C.prog fn [] apart (w.forCall tape i).memory i.args ∧ laidMetH C.prog laid (w.forCall tape i).memory) ∧ sizedMet enc C.prog fn (OpenSpec.ofChange s) apart (w.forCall tape i).memory i.args) ∧ ({} : Assume).holds C.prog (lone (Frame.enter C.prog f i.args .normal) [] (w.forCall tape i)))
   (hl : laidOutB C.prog = true) (hts : fn.params.toList.all (fun t => C.prog.readableRec t && Nat.blt t C.prog.types.size) = true) (hrt : fn.resultTypes = #[tb]) (hb : C.prog.underlying tb = some .bool) (hsv : s.vars = [])
   (hspec : ∀ ds : List (DataW H), ds.length = tys.length → (s.fn H ds).results = [.lit (.bool true)] ∧ (s.fn H ds).args = ds ∧ (s.fn H ds).vars = [])
   (htys : All2 (fun (ty : Ty) (t : TypeId) => ty.ok C.prog t = true) tys fn.params.toList)
   (henv : ∀ W, laidMetH C.prog laid W → EnvOk G (fun b => b < W.heap.size) W)
   (hlaw : ∀ ys, All2 (fun (ty : Ty) (y : T) => ty.is y) tys ys → Spec C.prog G f (ys.map V.t) [] (.t (.bool true)) []) :
   ReturnsInHanded {} C os f .any (fun w args => (s.pre enc C.prog fn [] apart w args ∧ laidMetH C.prog laid w) ∧ sizedMet enc C.prog fn (OpenSpec.ofChange s) apart w args) (s.post enc C.prog fn apart fresh handsOn again) := by
 have hts' : ∀ t ∈ fn.params.toList, C.prog.readableRec t = true ∧ t < C.prog.types.size := by
   intro t ht
   have := List.all_eq_true.1 hts t ht
   rw [Bool.and_eq_true] at this
   exact ⟨this.1, by simpa [Nat.blt_eq] using this.2⟩
 refine returnsInHanded_of_change_and (C := C) (X := fun w _ => laidMetH C.prog laid w) (fun _ _ _ hh h => laidMetH.of_heap hh h) own started noInit hfn witness ?_
 intro W base args ds gs before hval hW _ _ hL _
 have hW' := hW
 obtain ⟨p, q, hA, hV, rfl, _, _⟩ := hW'
 rw [hsv] at hV
 obtain ⟨rfl, rfl⟩ := trodVars_none hV
 obtain ⟨ys, hys, hreps⟩ := open_args htys (fun j t v ht hv => hval j t v (by simpa using ht) (by simpa using hv)) hA
 have hlen : ds.length = tys.length := by rw [trodAll_length hA, htys.length]
 have hcall := hlaw ys hys W (fun _ => none) (fun b => b < W.heap.size) args (henv W hL)
   ⟨fun k o h => by simp at h, fun _ _ => rfl, fun _ _ _ _ _ h => by simp at h, fun _ _ _ h => by simp at h⟩ hreps
 refine hcall.mono fun e W' ⟨x, β', F', he, hp⟩ => ?_
 subst he
 have hx : x = .bool true := by
   have := hp.res
   cases this with
   | t h => cases h; rfl
 subst hx
 exact ⟨_, rfl, law_post hl hts' hrt hb hsv (by rw [List.append_nil]; exact hspec ds hlen) hW hp.os hp.output (fun b hb => hp.frame b hb (fun _ _ h => by simp at h))⟩
end Go.Eng
end
section
set_option maxRecDepth 20000
namespace Go.Eng
theorem is_int {y : T} (h : (Ty.int .i64).is y) : ∃ n : Int, (-9223372036854775808 ≤ n ∧ n < 9223372036854775808) ∧ y = .int .i64 n := by
 obtain ⟨n, hw, rfl⟩ := h
 refine ⟨n, ?_, rfl⟩
 simp only [Lit.wf, Bool.and_eq_true, decide_eq_true_eq] at hw
 obtain ⟨h1, h2⟩ := hw
 have e1 : IntKind.i64.min = -9223372036854775808 := by decide
 have e2 : IntKind.i64.max = 9223372036854775807 := by decide
 rw [e1] at h1
 rw [e2] at h2
 omega
theorem is_u8 {y : T} (h : (Ty.int .u8).is y) : ∃ b : UInt8, y = byteT b := by
 obtain ⟨n, hw, rfl⟩ := h
 simp only [Lit.wf, Bool.and_eq_true, decide_eq_true_eq] at hw
 obtain ⟨h1, h2⟩ := hw
 have e1 : IntKind.u8.min = 0 := by decide
 have e2 : IntKind.u8.max = 255 := by decide
 rw [e1] at h1
 rw [e2] at h2
 refine ⟨UInt8.ofNat n.toNat, ?_⟩
 unfold byteT
 congr 1
 rw [UInt8.toNat_ofNat']
 omega
theorem is_bool {y : T} (h : Ty.bool.is y) : ∃ b : Bool, y = .bool b := h
theorem list_of {α : Type} {f : α → T} {es : List T} (h : ∀ y ∈ es, ∃ a, y = f a) : ∃ l : List α, es = l.map f := by
 induction es with
 | nil => exact ⟨[], rfl⟩
 | cons y r ih =>
   obtain ⟨a, rfl⟩ := h y (.head _)
   obtain ⟨l, rfl⟩ := ih (fun z hz => h z (.tail _ hz))
   exact ⟨a :: l, rfl⟩
theorem mx : maxLen = 9223372036854775807 := by decide
theorem is_bytes {y : T} (h : (Ty.sl (.int .u8)).is y) : ∃ bs : List UInt8, bs.length ≤ 9223372036854775807 ∧ y = .sl (bs.map byteT) := by
 obtain ⟨es, hl, he, rfl⟩ := h
 obtain ⟨bs, rfl⟩ := list_of (f := byteT) (fun y hy => is_u8 (he y hy))
 rw [List.length_map, mx] at hl
 exact ⟨bs, hl, rfl⟩
theorem is_rows {y : T} (h : (Ty.sl (.sl (.int .u8))).is y) : ∃ l : List (List UInt8), l.length ≤ 9223372036854775807 ∧ (∀ d ∈ l, d.length < 9223372036854775808) ∧ y = .sl (l.map bsT) := by
 obtain ⟨es, hl, he, rfl⟩ := h
 obtain ⟨l, hl2⟩ := list_of (f := bsT) (es := es) (fun y hy => by
   obtain ⟨bs, _, h2⟩ := is_bytes (he y hy)
   exact ⟨bs, h2⟩)
 subst hl2
 rw [List.length_map, mx] at hl
 refine ⟨l, hl, fun d hd => ?_, rfl⟩
 obtain ⟨bs, hb, h2⟩ := is_bytes (he (bsT d) (List.mem_map_of_mem hd))
 have h3 : d.map byteT = bs.map byteT := by
   have : T.sl (d.map byteT) = T.sl (bs.map byteT) := h2
   exact T.sl.inj this
 have h4 := congrArg List.length h3
 simp only [List.length_map] at h4
 omega
theorem is_pair {y : T} (h : (Ty.st [.int .i64, .int .i64]).is y) : ∃ a b : Int, (-9223372036854775808 ≤ a ∧ a < 9223372036854775808) ∧ (-9223372036854775808 ≤ b ∧ b < 9223372036854775808) ∧ y = .agg [.int .i64 a, .int .i64 b] := by
 obtain ⟨cs, hc, rfl⟩ := h
 obtain ⟨x, r, hx, hr, rfl⟩ := hc
 obtain ⟨x2, r2, hx2, hr2, rfl⟩ := hr
 cases hr2
 obtain ⟨a, ha, rfl⟩ := is_int hx
 obtain ⟨b, hb, rfl⟩ := is_int hx2
 exact ⟨a, b, ha, hb, rfl⟩
theorem is_rows2 {y : T} (h : (Ty.sl (.sl (.int .u8))).is y) : ∃ l : List (List UInt8), l.length ≤ 9223372036854775807 ∧ (∀ d ∈ l, d.length ≤ 9223372036854775807) ∧ y = .sl (l.map bsT) := by
 obtain ⟨l, h1, h2, h3⟩ := is_rows h
 exact ⟨l, h1, fun d hd => by have := h2 d hd; omega, h3⟩
theorem is_ev {y : T} (h : (Ty.st [.int .i64, .int .i64, .sl (.sl (.int .u8)), .sl (.int .u8)]).is y) : ∃ (a b : Int) (l : List (List UInt8)) (d : List UInt8), (l.length ≤ 9223372036854775807 ∧ (∀ d ∈ l, d.length ≤ 9223372036854775807) ∧ d.length ≤ 9223372036854775807) ∧ y = .agg [.int .i64 a, .int .i64 b, .sl (l.map bsT), .sl (d.map byteT)] := by
 obtain ⟨cs, hc, rfl⟩ := h
 obtain ⟨x, r, hx, hr, rfl⟩ := hc
 obtain ⟨x2, r2, hx2, hr2, rfl⟩ := hr
 obtain ⟨x3, r3, hx3, hr3, rfl⟩ := hr2
 obtain ⟨x4, r4, hx4, hr4, rfl⟩ := hr3
 cases hr4
 obtain ⟨a, _, rfl⟩ := is_int hx
 obtain ⟨b, _, rfl⟩ := is_int hx2
 obtain ⟨l, h1, h2, rfl⟩ := is_rows2 hx3
 obtain ⟨d, h3, rfl⟩ := is_bytes hx4
 exact ⟨a, b, l, d, ⟨h1, h2, h3⟩, rfl⟩
end Go.Eng
end
section
set_option maxRecDepth 20000
namespace Go.Eng
theorem is_str {y : T} (h : Ty.str.is y) : ∃ s : List UInt8, s.length ≤ 9223372036854775807 ∧ y = strT s := by
 obtain ⟨⟨⟨s⟩⟩, hs, rfl⟩ := h
 rw [mx] at hs
 exact ⟨s, hs, rfl⟩
theorem is_im {y : T} (h : (Ty.st [.int .i64, .str, .int .i64, .sl (.int .u8)]).is y) : ∃ (a v : Int) (s p : List UInt8), rI a ∧ rI v ∧ s.length ≤ 9223372036854775807 ∧ p.length ≤ 9223372036854775807 ∧ y = imT (a, s, v, p) := by
 obtain ⟨cs, hc, rfl⟩ := h
 obtain ⟨x, r, hx, hr, rfl⟩ := hc
 obtain ⟨x2, r2, hx2, hr2, rfl⟩ := hr
 obtain ⟨x3, r3, hx3, hr3, rfl⟩ := hr2
 obtain ⟨x4, r4, hx4, hr4, rfl⟩ := hr3
 cases hr4
 obtain ⟨a, ha, rfl⟩ := is_int hx
 obtain ⟨s, hs, rfl⟩ := is_str hx2
 obtain ⟨v, hv, rfl⟩ := is_int hx3
 obtain ⟨p, hp, rfl⟩ := is_bytes hx4
 exact ⟨a, v, s, p, ha, hv, hs, hp, rfl⟩
end Go.Eng
end
section
set_option maxRecDepth 20000
namespace Go.Eng
open Go.MuLone
theorem ix_lib {c : UInt8} : ∀ {b : List UInt8} {n : Nat}, ixN c b n = if Lib.indexByte b c = -1 then -1 else (n : Int) + Lib.indexByte b c
 | [], n => rfl
 | x :: r, n => by
   have hg := Lib.indexByte_ge r c
   unfold ixN Lib.indexByte
   by_cases h : x = c
   · subst h; simp
   · rw [if_neg h, ix_lib]
     have hb : (x == c) = false := by simpa using h
     rw [hb]
     by_cases h2 : Lib.indexByte r c = -1
     · simp [h2]
     · have h2b : (Lib.indexByte r c == -1) = false := by simpa using h2
       rw [h2b, if_neg h2]
       simp only [Bool.false_eq_true, if_false]
       rw [if_neg (by omega)]
       push_cast; omega
theorem ok_bix {P : Program} {G : Nat → Option (List T)} {f : FuncId} {fn : Func} (hf : P.funcs[f]? = some fn) (hname : (fn.name == "runtime.NumGoroutine") = false) (hb : fn.body.isNone = true) (hn : Extern.findNext fn = none)
   (he : Extern.find fn = some Extern.BytealgIndexByte.indexByte) : FOk P G f ct_bix.fs := by
 intro as ins r outs hs
 have key : ∃ (b : List UInt8) (c : UInt8), 0 < b.length ∧ as = [.t (.sl (b.map byteT)), .t (byteT c)] ∧ ins = [] ∧ r = .t (.int .i64 (ixN c b 0)) ∧ outs = [] := by
   unfold Ct.fs at hs
   split at hs
   · rename_i hx
     cases hs
     have h1 := hx.choose_spec
     generalize hx.choose = y at h1 ⊢
     obtain ⟨⟨rfl, rfl⟩, h3⟩ := h1
     exact ⟨y.1, y.2, h3.1, rfl, rfl, rfl, rfl⟩
   · cases hs
 obtain ⟨b, c, hpos, rfl, rfl, rfl, rfl⟩ := key
 intro w β F vals env fits hargs
 have hβ : ∀ k, β k = none := fun k => fits.dom k (Nat.zero_le _)
 have hvals : ∃ (blk off cap : Nat), vals = #[.slice (some ⟨blk, off, none⟩) b.length cap, .int .u8 c.toNat] ∧ ∀ i, i < b.length → w.cell? ⟨blk, off + i, none⟩ = some (.int .u8 ((b.map fun x => (x.toNat : Int)).getD i 0)) := by
   obtain ⟨l⟩ := vals
   cases hargs with
   | cons h1 h2 =>
     cases h2 with
     | cons h2 h3 =>
       cases h3
       cases h1 with
       | t h1 =>
         cases h2 with
         | t h2 =>
           generalize hes : b.map byteT = es at h1
           have hlen : es.length = b.length := by rw [← hes]; simp
           cases h2
           cases h1 with
           | nil => simp at hlen; omega
           | sl _ ad cap sz news ha hc hn h1 hF hw hz h =>
             have hne : es ≠ [] := by intro e; rw [e] at hlen; simp at hlen; omega
             have hsp := ha hne
             have hsz : sz = 1 := by
               have hm : byteT b[0] ∈ es := by rw [← hes]; exact List.mem_map.2 ⟨_, List.getElem_mem hpos, rfl⟩
               exact (hz _ hm).symm
             subst hsz
             obtain ⟨blk, off, sp⟩ := ad
             simp only at hsp
             subst hsp
             refine ⟨blk, off, cap, by rw [hlen], fun i hi => ?_⟩
             have hi2 : i < news.length := by omega
             have hu : news[i]? = some news[i] := List.getElem?_eq_getElem hi2
             have hr : Rep F w (byteT b[i]) news[i] := h i (byteT b[i]) 0 (byteT b[i]) _ (by rw [← hes]; simp [hi]) rfl (by rw [Nat.mul_one, Nat.add_zero]; exact hu)
             have hc := hw i _ hu
             have e : (⟨blk, off, none⟩ : Addr).add i = ⟨blk, off + i, none⟩ := by unfold Addr.add; split <;> simp_all
             rw [e] at hc
             rw [hc]
             generalize news[i] = u at *
             cases hr
             simp [hi]
 obtain ⟨blk, off, cap, rfl, hc⟩ := hvals
 have hrun := Lib.run_indexByteSlice (P := P) w blk off b.length cap (b.map fun x => (x.toNat : Int)) (by simp) hc c.toNat
 have hbs : Lib.bytesOf (b.map fun x => (x.toNat : Int)) = b := by
   unfold Lib.bytesOf
   rw [List.map_map]
   refine (List.map_congr_left (fun x _ => ?_)).trans (List.map_id b)
   simp
 have hcc : ((c.toNat : Int).toNat).toUInt8 = c := by simp
 rw [hbs, hcc] at hrun
 have hres : ixN c b 0 = Lib.indexByte b c := by
   rw [ix_lib]
   split
   · rename_i h; rw [h]
   · simp
 refine .inr ⟨.int .i64 (Lib.indexByte b c), w, ?_, .int .i64 (Lib.indexByte b c), β, F, rfl, ?_⟩
 · rw [run_callFunc_extern hf hname hb hn he, hrun]; rfl
 · rw [hres]
   exact ⟨⟨fun k o hk => (by simp at hk), fun k _ => hβ k, fun i j bi bj b h1 => (by rw [hβ] at h1; cases h1), fun k bi b h1 => (by rw [hβ] at h1; cases h1)⟩, .t (.int _ _), fun _ _ => rfl, fun k bi b _ h1 => (by rw [hβ] at h1; cases h1), fun _ _ => Iff.rfl, env.Fw, rfl, rfl, rfl, Nat.le_refl _, fun _ _ _ => rfl⟩
end Go.Eng
end
