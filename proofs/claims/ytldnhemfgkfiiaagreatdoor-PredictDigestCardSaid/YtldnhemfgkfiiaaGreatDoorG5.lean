/- My own text: an abstract machine, its walks over the functions reached, and their tie to the program. -/
import Derived.Test.YtldnhemfgkfiiaaGreatDoorG4
import Derived.Test.YtldnhemfgkfiiaaGreatDoorG3
import Derived.Conc.MuLone
import Derived.KernelRfl
import Derived.Lib.OthersKept
import Derived.Laws.RangeAny
import Derived.Lib.ItoaNum
import Derived.Lib.LaidTab
import Derived.Sort.Grow
import Derived.Deep.Draws
import Derived.Lib.MakeNoZero
import Derived.Laws.Externs
import Derived.WideKeyArgs
import Derived.Handed
import Derived.OpenShut
import Derived.RowKit
import Derived.ProofKit
import Derived.LaidMore
import Derived.MakeChecks
import Derived.Stop.Joined
import Derived.Lib.BytesEntry
set_option linter.unusedSimpArgs false
set_option linter.unusedVariables false
section
set_option maxRecDepth 20000
set_option maxHeartbeats 64000000
namespace Go.Eng
theorem mapI_inj {l m : List Im} : (l.map imT = m.map imT) = (l = m) := propext ⟨map_inj' (fun _ _ => imT_inj), fun h => by rw [h]⟩
def imsM (l : List Im) : Prop := l.length ≤ 9223372036854775807 ∧ ∀ x ∈ l, imM x
def ct_chc : Ct where
 α := List Im
 as x := [.t (.sl (x.map imT))]
 ins _ := []
 pre x := imsM x
 r x := .t (.int .i64 (chkC x))
 outs _ := []
 inj := by
   intro a b h _
   simp only [List.cons.injEq, V.t.injEq, T.sl.injEq, and_true, mapI_inj] at h
   subst h; exact ⟨rfl, rfl⟩
theorem chc_eq {l : List Im} (h : imsM l) : ct_chc.fs [.t (.sl (l.map imT))] [] = some (.t (.int .i64 (chkC l)), []) := ct_chc.eq l h
theorem lastD {l : List Im} {y d : Im} {i : Nat} (h : l[i]? = some y) : (l.take (i + 1)).getLastD d = y := by
 rw [List.take_add_one, h]; simp
theorem isD_at {l : List Im} {x y : Im} {k i : Nat} (h : l[k]? = some y) (hk : k < i) (h1 : y.1 = x.1) (h2 : y.2.1 = x.2.1) : isD (l.take i) x = true := by
 unfold isD
 refine List.any_eq_true.2 ⟨y, ?_, by simp [h1, h2]⟩
 refine List.mem_of_getElem? (i := k) ?_
 rw [List.getElem?_take, if_pos hk, h]
theorem any_take {l : List Im} {y : Im} {i : Nat} {p : Im → Bool} (h : l[i]? = some y) : (l.take (i + 1)).any p = ((l.take i).any p || p y) := by
 rw [List.take_add_one, h, List.any_append]; simp
theorem w_ref25_Chain (tab : Tab) (gl : Gl) (n1 : Nat) (h1 : tab.look n1 = some ct_imc.fs) (l : List Im) (hm : imsM l) :
   (ac_ref25_Chain n1).wp tab gl (zipF 0 [.t (.sl (l.map imT))]) (zipF 0 []) (resW [(2, none)] 0 (fun r o => r = .t (.int .i64 (chkC l)) ∧ o = [])) := by
 have hlm := hm.1
 by_cases c0 : l.length = 0
 · have hr : chkC l = 1 := if_pos (.inl c0)
   rw [hr]
   simp (disch := omega) only [go_sem, ↓reduceIte, Nat.reduceAdd, Nat.reduceEqDiff, reduceCtorEq, ac_ref25_Chain, c0]
 have c0b : ((l.length : Int) == 0) = false := by simpa using (by omega : ¬ (l.length : Int) = 0)
 by_cases c8 : 8 < l.length
 · have hr : chkC l = 1 := if_pos (.inr c8)
   rw [hr]
   simp (disch := omega) only [go_sem, ↓reduceIte, Nat.reduceAdd, Nat.reduceEqDiff, reduceCtorEq, ac_ref25_Chain, c0b, c8]
 have hr : chkC l = chF [] l := if_neg (by omega)
 rw [hr]
 simp (disch := omega) only [go_sem, ↓reduceIte, Nat.reduceAdd, Nat.reduceEqDiff, reduceCtorEq, ac_ref25_Chain, c0b, c8]
 refine loop_uptoP l.length (fun i => chF (l.take i) (l.drop i) = chF [] l) (fun i => [(0, .t (.sl (l.map imT))), (3, .t (.bool ((l.take i).any (fun y => decide (y.1 = 1))))), (4, .t (.bool ((l.take i).any (fun y => decide (y.1 = 3))))), (5, .t (.int .i64 (i : Nat)))]) (fun _ => []) rfl ?_ (fun i hi hE => ?_)
 · refine Weak.rd id ?_ ?_ rfl
   all_goals simp (disch := omega) only [go_sem, ↓reduceIte, Nat.reduceEqDiff, reduceCtorEq, id, List.take_zero, List.any_nil]
 · by_cases hlt : i < l.length
   · obtain ⟨⟨xa, xs, xv, xp⟩, hx⟩ : ∃ x, l[i]? = some x := ⟨l[i], by simp [hlt]⟩
     have hd : l.drop i = (xa, xs, xv, xp) :: l.drop (i + 1) := by
       rw [List.drop_eq_getElem_cons hlt]
       have := (List.getElem?_eq_some_iff.1 hx).2
       rw [this]
     have hxm : imM (xa, xs, xv, xp) := hm.2 _ (List.mem_of_getElem? hx)
     have hC := imc_eq hxm
     rw [hd, chF] at hE
     have f1 := any_take (p := fun y => decide (y.1 = 1)) hx
     have f3 := any_take (p := fun y => decide (y.1 = 3)) hx
     simp only at f1 f3
     by_cases hz : chkI (xa, xs, xv, xp) = 0
     · rw [if_neg (by omega)] at hE
       rw [hz] at hC
       by_cases hi0 : i = 0
       · subst hi0
         rw [if_neg (fun h => h.1 (by simp)), if_neg (by simp)] at hE
         have ht : l.take 0 ++ [(xa, xs, xv, xp)] = l.take (0 + 1) := by rw [List.take_add_one, hx]; rfl
         rw [ht] at hE
         have z1 : (l.take 0).any (fun y => decide (y.1 = 1)) = false := rfl
         have z3 : (l.take 0).any (fun y => decide (y.1 = 3)) = false := rfl
         rw [z1, Bool.false_or] at f1
         rw [z3, Bool.false_or] at f3
         rw [z1, z3]
         simp (disch := omega) only [go_sem, ↓reduceIte, Nat.reduceAdd, Nat.reduceEqDiff, Nat.reduceLeDiff, Int.reduceLE, reduceCtorEq, ac_ref25_Chain_L0, imT_def, hx, h1, hC]
         repeat refine And.intro rfl ?_
         refine loop_fuel 1 ?_
         by_cases q1 : xa = 1
         · subst q1
           rw [decide_eq_true rfl] at f1
           rw [decide_eq_false (by decide)] at f3
           simp (disch := omega) only [go_sem, ↓reduceIte, Nat.reduceAdd, Nat.reduceEqDiff, Nat.reduceLeDiff, Int.reduceLT, Int.reduceLE, Int.reduceAdd, reduceCtorEq, loopN_succ, ac_ref25_Chain_L1, imT_def, hx, h1]
           repeat refine And.intro rfl ?_
           refine ⟨hlt, hE, Weak.rd id ?_ ?_ rfl⟩
           all_goals simp (disch := omega) only [go_sem, ↓reduceIte, Nat.reduceEqDiff, reduceCtorEq, id, f1, f3]
         · rw [decide_eq_false q1] at f1
           have q1b : (xa == 1) = false := by simpa using q1
           by_cases q3 : xa = 3
           · subst q3
             rw [decide_eq_true rfl] at f3
             simp (disch := omega) only [go_sem, ↓reduceIte, Nat.reduceAdd, Nat.reduceEqDiff, Nat.reduceLeDiff, Int.reduceLT, Int.reduceLE, Int.reduceAdd, reduceCtorEq, loopN_succ, ac_ref25_Chain_L1, imT_def, hx, h1, q1b]
             repeat refine And.intro rfl ?_
             refine ⟨hlt, hE, Weak.rd id ?_ ?_ rfl⟩
             all_goals simp (disch := omega) only [go_sem, ↓reduceIte, Nat.reduceEqDiff, reduceCtorEq, id, f1, f3]
           · rw [decide_eq_false q3] at f3
             have q3b : (xa == 3) = false := by simpa using q3
             simp (disch := omega) only [go_sem, ↓reduceIte, Nat.reduceAdd, Nat.reduceEqDiff, Nat.reduceLeDiff, Int.reduceLT, Int.reduceLE, Int.reduceAdd, reduceCtorEq, loopN_succ, ac_ref25_Chain_L1, imT_def, hx, h1, q1b, q3b]
             repeat refine And.intro rfl ?_
             refine ⟨hlt, hE, Weak.rd id ?_ ?_ rfl⟩
             all_goals simp (disch := omega) only [go_sem, ↓reduceIte, Nat.reduceEqDiff, reduceCtorEq, id, f1, f3]
       · obtain ⟨⟨ya, ys, yv, yp⟩, hy⟩ : ∃ y, l[i - 1]? = some y := ⟨l[i - 1], by simp⟩
         have hi1 : ((i : Int) - 1) = ((i - 1 : Nat) : Int) := by omega
         have hla := lastD (d := (0, [], 0, [])) hy
         rw [show i - 1 + 1 = i by omega] at hla
         have hne : l.take i ≠ [] := by
           intro h
           have := congrArg List.length h
           simp only [List.length_take, List.length_nil] at this
           omega
         have hgt : 0 < (i : Int) := by omega
         rw [hla] at hE
         by_cases ho : xa < ya
         · rw [if_pos ⟨hne, ho⟩] at hE
           rw [← hE]
           simp (disch := omega) only [go_sem, ↓reduceIte, Nat.reduceAdd, Nat.reduceEqDiff, Nat.reduceLeDiff, reduceCtorEq, ac_ref25_Chain_L0, imT_def, hx, hy, h1, hC, hgt, hi1, ho]
           all_goals rfl
         · rw [if_neg (fun h => ho h.2)] at hE
           have hE' : (if isD (l.take i) (xa, xs, xv, xp) = true then 42 else chF (l.take i ++ [(xa, xs, xv, xp)]) (l.drop (i + 1))) = chF [] l := hE
           have ht : l.take i ++ [(xa, xs, xv, xp)] = l.take (i + 1) := by rw [List.take_add_one, hx]; rfl
           rw [ht] at hE'
           generalize (l.take i).any (fun y => decide (y.1 = 1)) = b1 at *
           generalize (l.take i).any (fun y => decide (y.1 = 3)) = b3 at *
           simp (disch := omega) only [go_sem, ↓reduceIte, Nat.reduceAdd, Nat.reduceEqDiff, Nat.reduceLeDiff, reduceCtorEq, ac_ref25_Chain_L0, imT_def, hx, hy, h1, hC, hgt, hi1, ho]
           repeat refine And.intro rfl ?_
           refine loop_uptoP i (fun k => isD (l.take k) (xa, xs, xv, xp) = false) (fun k => [(0, .t (.sl (l.map imT))), (3, .t (.bool b1)), (4, .t (.bool b3)), (5, .t (.int .i64 (i : Nat))), (7, .t (.int .i64 (k : Nat)))]) (fun _ => []) rfl ?_ (fun k hk hP => ?_)
           · refine Weak.rd id ?_ ?_ rfl
             all_goals simp (disch := omega) only [go_sem, ↓reduceIte, Nat.reduceEqDiff, reduceCtorEq, id]
           · by_cases hkl : k < i
             · obtain ⟨⟨za, zs, zv, zp⟩, hzk⟩ : ∃ z, l[k]? = some z := ⟨l[k], by simp⟩
               have hst := isD_take (x := (xa, xs, xv, xp)) hzk
               rw [hP, Bool.false_or] at hst
               simp only at hst
               by_cases q1 : za = xa
               · subst q1
                 by_cases q2 : zs = xs
                 · subst q2
                   have hd2 := isD_at (x := (za, zs, xv, xp)) hzk hkl rfl rfl
                   rw [hd2, if_pos rfl] at hE'
                   rw [← hE']
                   simp (disch := omega) only [go_sem, ↓reduceIte, Nat.reduceAdd, Nat.reduceEqDiff, Nat.reduceLeDiff, reduceCtorEq, ac_ref25_Chain_L1, imT_def, hx, hzk, beq_self_eq_true]
                   all_goals rfl
                 · rw [decide_eq_true rfl, decide_eq_false q2] at hst
                   have q2b : decide (zs = xs) = false := decide_eq_false q2
                   simp (disch := omega) only [go_sem, ↓reduceIte, Nat.reduceAdd, Nat.reduceEqDiff, Nat.reduceLeDiff, reduceCtorEq, ac_ref25_Chain_L1, imT_def, hx, hzk, beq_self_eq_true, q2b]
                   repeat refine And.intro rfl ?_
                   refine ⟨hkl, hst, Weak.rd id ?_ ?_ rfl⟩
                   all_goals simp (disch := omega) only [go_sem, ↓reduceIte, Nat.reduceEqDiff, reduceCtorEq, id]
               · rw [decide_eq_false q1, Bool.false_and] at hst
                 have q1b : (za == xa) = false := by simpa using q1
                 simp (disch := omega) only [go_sem, ↓reduceIte, Nat.reduceAdd, Nat.reduceEqDiff, Nat.reduceLeDiff, reduceCtorEq, ac_ref25_Chain_L1, imT_def, hx, hzk, q1b]
                 repeat refine And.intro rfl ?_
                 refine ⟨hkl, hst, Weak.rd id ?_ ?_ rfl⟩
                 all_goals simp (disch := omega) only [go_sem, ↓reduceIte, Nat.reduceEqDiff, reduceCtorEq, id]
             · have e : k = i := by omega
               subst e
               rw [hP, if_neg (by decide)] at hE'
               by_cases q1 : xa = 1
               · subst q1
                 rw [decide_eq_true rfl, Bool.or_true] at f1
                 rw [decide_eq_false (by decide), Bool.or_false] at f3
                 cases b1 <;> cases b3
                 all_goals simp (disch := omega) only [go_sem, ↓reduceIte, Nat.reduceAdd, Nat.reduceEqDiff, Nat.reduceLeDiff, reduceCtorEq, ac_ref25_Chain_L1, imT_def, hx]
                 all_goals repeat refine And.intro rfl ?_
                 all_goals refine ⟨hlt, hE', Weak.rd id ?_ ?_ rfl⟩
                 all_goals simp (disch := omega) only [go_sem, ↓reduceIte, Nat.reduceEqDiff, reduceCtorEq, id, f1, f3]
               · rw [decide_eq_false q1, Bool.or_false] at f1
                 have q1b : (xa == 1) = false := by simpa using q1
                 by_cases q3 : xa = 3
                 · subst q3
                   rw [decide_eq_true rfl, Bool.or_true] at f3
                   cases b1 <;> cases b3
                   all_goals simp (disch := omega) only [go_sem, ↓reduceIte, Nat.reduceAdd, Nat.reduceEqDiff, Nat.reduceLeDiff, reduceCtorEq, ac_ref25_Chain_L1, imT_def, hx, q1b]
                   all_goals repeat refine And.intro rfl ?_
                   all_goals refine ⟨hlt, hE', Weak.rd id ?_ ?_ rfl⟩
                   all_goals simp (disch := omega) only [go_sem, ↓reduceIte, Nat.reduceEqDiff, reduceCtorEq, id, f1, f3]
                 · rw [decide_eq_false q3, Bool.or_false] at f3
                   have q3b : (xa == 3) = false := by simpa using q3
                   cases b1 <;> cases b3
                   all_goals simp (disch := omega) only [go_sem, ↓reduceIte, Nat.reduceAdd, Nat.reduceEqDiff, Nat.reduceLeDiff, reduceCtorEq, ac_ref25_Chain_L1, imT_def, hx, q1b, q3b]
                   all_goals repeat refine And.intro rfl ?_
                   all_goals refine ⟨hlt, hE', Weak.rd id ?_ ?_ rfl⟩
                   all_goals simp (disch := omega) only [go_sem, ↓reduceIte, Nat.reduceEqDiff, reduceCtorEq, id, f1, f3]
     · rw [if_pos hz] at hE
       rw [← hE]
       have hz' : (chkI (xa, xs, xv, xp) != 0) = true := by simpa using hz
       simp (disch := omega) only [go_sem, ↓reduceIte, Nat.reduceAdd, Nat.reduceEqDiff, Nat.reduceLeDiff, reduceCtorEq, ac_ref25_Chain_L0, imT_def, hx, h1, hC, hz']
   · have e : i = l.length := by omega
     subst e
     rw [List.take_length, List.drop_length, chF] at hE
     rw [← hE]
     rw [List.take_length]
     cases ha1 : l.any (fun y => decide (y.1 = 1)) <;> cases ha3 : l.any (fun y => decide (y.1 = 3))
     all_goals simp (disch := omega) only [go_sem, ↓reduceIte, Nat.reduceAdd, Nat.reduceEqDiff, reduceCtorEq, ac_ref25_Chain_L0]
end Go.Eng
end
section
namespace Go.Eng
def ac_image_CheckChain_L1 : AC :=
 (.seq
 (rG 57344 [bT 47 .lss 46 45])
 (.seq
 (.cond (.tmp 47)
 .skip
 (.exit 2))
 (.seq
 (.block 3
 (.seq
 (rG 61440 [oO 48 (.iaddr 4) [.tmp 44, .tmp 46],oO 49 (.load 4 true) [.tmp 48],oO 8 (.new 4 [(.agg [(.t (.int .i64 0)), (.t (strT [])), (.t (.int .i64 0)), .nil])]) [],oS 4 8 49])
 (.seq
 (rG 65536 [oO 50 (.faddr 0) [.tmp 8],oO 51 (.load 1 false) [.tmp 50],oO 52 (.faddr 0) [.tmp 5],oO 53 (.load 1 false) [.tmp 52],bT 54 .eql 51 53,mv 55 54,oG 56 55 (.faddr 1) [.tmp 8],oG 57 55 (.load 1 false) [.tmp 56],oG 58 55 (.faddr 1) [.tmp 5],oG 59 55 (.load 1 false) [.tmp 58],oG 60 55 (.bin .eql) [.tmp 57, .tmp 59],oO 61 .pick [.tmp 55, .tmp 60, .cst (.t (.bool false))]])
 (.cond (.tmp 61)
 (.seq
 (rG 69632 [mC 2 (.t (.int .i64 42))])
 .ret)
 .skip))))
 (rG 73728 [bN 62 .add 46 1,mv 46 62]))))
def ac_image_CheckChain_L0 (n_image_Check : Nat) : AC :=
 (.seq
 (rG 24576 [bT 20 .lss 19 18])
 (.seq
 (.cond (.tmp 20)
 .skip
 (.exit 0))
 (.seq
 (.block 1
 (.seq
 (rG 28672 [mv 21 19,oO 22 (.iaddr 4) [.tmp 17, .tmp 19],oO 23 (.load 4 true) [.tmp 22],oO 5 (.new 4 [(.agg [(.t (.int .i64 0)), (.t (strT [])), (.t (.int .i64 0)), .nil])]) [],mv 4 21,oS 4 5 23])
 (.seq
 (.seq
 (rG 32768 [oO 24 (.load 4 true) [.tmp 5],cL 25 n_image_Check false [.tmp 24],mv 6 25])
 (.seq
 (rG 36864 [mv 26 6,bN 27 .neq 26 0])
 (.cond (.tmp 27)
 (.seq
 (rG 40960 [mv 28 6,mv 2 28])
 .ret)
 .skip)))
 (.seq
 (.seq
 (.reg 45056 (some [0, 1, 3, 7, 15, 7, 7, 71, 231, 487, 999, 2047, 4095]) [mv 29 4,bN 30 .gtr 29 0,mv 31 30,oG 32 31 (.faddr 0) [.tmp 5],oG 33 31 (.load 1 false) [.tmp 32],mG 34 0 31,mG 35 4 31,oG 36 31 (.bin .sub) [.tmp 35, .cst (.t (.int .i64 1))],oG 37 31 (.iaddr 4) [.tmp 34, .tmp 36],oG 38 31 (.faddr 0) [.tmp 37],oG 39 31 (.load 1 false) [.tmp 38],oG 40 31 (.bin .lss) [.tmp 33, .tmp 39],oO 41 .pick [.tmp 31, .tmp 40, .cst (.t (.bool false))]])
 (.cond (.tmp 41)
 (.seq
 (rG 49152 [mC 2 (.t (.int .i64 41))])
 .ret)
 .skip))
 (.seq
 (.seq
 (rG 53248 [mv 42 0,mv 43 4,oO 44 (.slice 4 false true false) [.tmp 42, .tmp 43],oO 45 .len [.tmp 44],mC 46 (.t (.int .i64 0))])
 (.block 2
 (.loop ac_image_CheckChain_L1)))
 (rG 77824 [oO 63 (.faddr 0) [.tmp 5],oO 64 (.load 1 false) [.tmp 63],oO 65 (.aaddr 5 1) [.tmp 3, .tmp 64],⟨none, (.op (.store 1)), [.tmp 65, .cst (.t (.bool true))], none⟩]))))))
 (rG 81920 [bN 66 .add 19 1,mv 19 66]))))
def ac_image_CheckChain (n_image_Check : Nat) : AC :=
 (.seq
 (rG 4096 [mC 2 (.t (.int .i64 0))])
 (.seq
 (.seq
 (rG 8192 [mv 9 0,oO 10 .len [.tmp 9],bN 11 .eql 10 0,mv 12 11,mF 13 0 12,oF 14 12 .len [.tmp 13],oF 15 12 (.bin .gtr) [.tmp 14, .cst (.t (.int .i64 8))],oO 16 .pick [.tmp 12, .cst (.t (.bool true)), .tmp 15]])
 (.cond (.tmp 16)
 (.seq
 (rG 12288 [mC 2 (.t (.int .i64 1))])
 .ret)
 .skip))
 (.seq
 (rG 16384 [oO 3 (.new 1 [(.t (.bool false)), (.t (.bool false)), (.t (.bool false)), (.t (.bool false)), (.t (.bool false))]) []])
 (.seq
 (.seq
 (rG 20480 [mv 17 0,oO 18 .len [.tmp 17],mC 19 (.t (.int .i64 0))])
 (.block 0
 (.loop (ac_image_CheckChain_L0 n_image_Check))))
 (.seq
 (.seq
 (rG 86016 [oO 67 (.aaddr 5 1) [.tmp 3, .cst (.t (.int .i64 1))],oO 68 (.load 1 false) [.tmp 67],oO 69 (.un .not) [.tmp 68],mv 70 69,oF 71 70 (.aaddr 5 1) [.tmp 3, .cst (.t (.int .i64 3))],oF 72 70 (.load 1 false) [.tmp 71],oF 73 70 (.un .not) [.tmp 72],oO 74 .pick [.tmp 70, .cst (.t (.bool true)), .tmp 73]])
 (.cond (.tmp 74)
 (.seq
 (rG 90112 [mC 2 (.t (.int .i64 40))])
 .ret)
 .skip))
 (.seq
 (rG 94208 [mC 2 (.t (.int .i64 0))])
 .ret))))))
def hints_image_CheckChain : List (Nat × List Nat) := []
def ac_predict_Events_L1 (n_image_Register n_event_Make : Nat) : AC :=
 (.seq
 (rG 45056 [bT 48 .lss 47 46])
 (.seq
 (.cond (.tmp 48)
 .skip
 (.exit 2))
 (.seq
 (.block 3
 (.seq
 (rG 49152 [oO 49 (.iaddr 1) [.tmp 45, .tmp 47],oO 50 (.load 1 false) [.tmp 49],mv 9 50])
 (.reg 53248 (some [0, 1, 0, 4, 12, 28, 0, 64, 192, 0, 0, 1984, 4032, 8188, 16383, 32767]) [oO 51 (.faddr 0) [.tmp 7],oO 52 (.load 1 false) [.tmp 51],oO 53 (.faddr 0) [.tmp 7],oO 54 (.load 1 false) [.tmp 53],oO 55 (.aaddr 5 1) [.tmp 5, .tmp 54],oO 56 (.load 1 false) [.tmp 55],oO 57 (.faddr 0) [.tmp 7],oO 58 (.load 1 false) [.tmp 57],cL 59 n_image_Register false [.tmp 58],mv 60 1,mv 61 9,cL 62 n_event_Make true [.tmp 59, .cst (.t (.int .i64 3)), .tmp 60, .tmp 61],oO 63 (.bslice 4 1 (.agg [(.t (.int .i64 0)), (.t (.int .i64 0)), .nil, .nil]) [0]) [.tmp 62],oO 64 (.append 4 64) [.tmp 56, .tmp 63],oO 65 (.aaddr 5 1) [.tmp 5, .tmp 52],oS 1 65 64])))
 (rG 57344 [bN 66 .add 47 1,mv 47 66]))))
def ac_predict_Events_L0 (n_event_OfImage n_image_Lines n_image_Register n_event_Make : Nat) : AC :=
 (.seq
 (rG 24576 [bT 26 .lss 25 24])
 (.seq
 (.cond (.tmp 26)
 .skip
 (.exit 0))
 (.seq
 (.block 1
 (.seq
 (rG 28672 [oO 27 (.iaddr 4) [.tmp 23, .tmp 25],oO 28 (.load 4 true) [.tmp 27],oO 7 (.new 4 [(.agg [(.t (.int .i64 0)), (.t (strT [])), (.t (.int .i64 0)), .nil])]) [],oS 4 7 28])
 (.seq
 (.seq
 (rG 32768 [oO 29 (.faddr 0) [.tmp 7],oO 30 (.load 1 false) [.tmp 29],bN 31 .neq 30 4])
 (.cond (.tmp 31)
 (.seq
 (.reg 36864 (some [0, 1, 0, 4, 12, 28, 0, 0, 192, 448, 1020, 2047, 4095]) [oO 32 (.faddr 0) [.tmp 7],oO 33 (.load 1 false) [.tmp 32],oO 34 (.faddr 0) [.tmp 7],oO 35 (.load 1 false) [.tmp 34],oO 36 (.aaddr 5 1) [.tmp 5, .tmp 35],oO 37 (.load 1 false) [.tmp 36],oO 38 (.load 4 true) [.tmp 7],mv 39 1,cL 40 n_event_OfImage true [.tmp 38, .tmp 39],oO 41 (.bslice 4 1 (.agg [(.t (.int .i64 0)), (.t (.int .i64 0)), .nil, .nil]) [0]) [.tmp 40],oO 42 (.append 4 64) [.tmp 37, .tmp 41],oO 43 (.aaddr 5 1) [.tmp 5, .tmp 33],oS 1 43 42])
 (.exit 1))
 .skip))
 (.seq
 (rG 40960 [oO 44 (.load 4 true) [.tmp 7],cL 45 n_image_Lines true [.tmp 44],oO 46 .len [.tmp 45],mC 47 (.t (.int .i64 0))])
 (.block 2
 (.loop (ac_predict_Events_L1 n_image_Register n_event_Make)))))))
 (rG 61440 [bN 67 .add 25 1,mv 25 67]))))
def ac_predict_Events_L2 (n_event_Make : Nat) : AC :=
 (.seq
 (rG 73728 [bN 74 .lss 73 8])
 (.seq
 (.cond (.tmp 74)
 .skip
 (.exit 4))
 (.seq
 (.block 5
 (.seq
 (rG 77824 [mv 75 73,mv 11 75])
 (rG 81920 [mv 76 10,mv 77 11,mv 78 1,oO 79 (.mkslice 1 1 (.t (byteT 0))) [.cst (.t (.int .i64 4)), .cst (.t (.int .i64 4))],cL 80 n_event_Make true [.tmp 77, .cst (.t (.int .i64 2)), .tmp 78, .tmp 79],oO 81 (.bslice 4 1 (.agg [(.t (.int .i64 0)), (.t (.int .i64 0)), .nil, .nil]) [0]) [.tmp 80],oO 82 (.append 4 64) [.tmp 76, .tmp 81],mv 10 82])))
 (rG 86016 [bN 83 .add 73 1,mv 73 83]))))
def ac_predict_Events (n_image_CheckChain n_event_OfImage n_image_Lines n_image_Register n_event_Make : Nat) : AC :=
 (.seq
 (rG 4096 [mC 4 .nil])
 (.seq
 (.seq
 (rG 8192 [mv 12 1,bN 13 .lss 12 1,mv 14 13,mF 15 1 14,oF 16 14 (.bin .gtr) [.tmp 15, .cst (.t (.int .i64 3))],oO 17 .pick [.tmp 14, .cst (.t (.bool true)), .tmp 16],mv 18 17,mF 19 0 18,cF 20 18 n_image_CheckChain false [.tmp 19],oF 21 18 (.bin .neq) [.tmp 20, .cst (.t (.int .i64 0))],oO 22 .pick [.tmp 18, .cst (.t (.bool true)), .tmp 21]])
 (.cond (.tmp 22)
 (.seq
 (rG 12288 [mC 4 .nil])
 .ret)
 .skip))
 (.seq
 (rG 16384 [oO 5 (.new 1 [.nil, .nil, .nil, .nil, .nil]) []])
 (.seq
 (.seq
 (rG 20480 [mv 23 0,oO 24 .len [.tmp 23],mC 25 (.t (.int .i64 0))])
 (.block 0
 (.loop (ac_predict_Events_L0 n_event_OfImage n_image_Lines n_image_Register n_event_Make))))
 (.seq
 (rG 65536 [oO 68 (.aaddr 5 1) [.tmp 5, .cst (.t (.int .i64 1))],oO 69 (.load 1 false) [.tmp 68],oO 70 (.aaddr 5 1) [.tmp 5, .cst (.t (.int .i64 2))],oO 71 (.load 1 false) [.tmp 70],oO 72 (.append 4 64) [.tmp 69, .tmp 71],mv 10 72])
 (.seq
 (.seq
 (rG 69632 [mC 73 (.t (.int .i64 0))])
 (.block 4
 (.loop (ac_predict_Events_L2 n_event_Make))))
 (.seq
 (rG 90112 [mv 84 10,oO 85 (.aaddr 5 1) [.tmp 5, .cst (.t (.int .i64 3))],oO 86 (.load 1 false) [.tmp 85],oO 87 (.append 4 64) [.tmp 84, .tmp 86],mv 10 87])
 (.seq
 (rG 94208 [mv 88 10,oO 89 (.aaddr 5 1) [.tmp 5, .cst (.t (.int .i64 4))],oO 90 (.load 1 false) [.tmp 89],oO 91 (.append 4 64) [.tmp 88, .tmp 90],mv 4 91])
 .ret))))))))
def hints_predict_Events : List (Nat × List Nat) := [(8, [8]), (9, [1]), (12, [11]), (19, [4])]
def ac_predict_Registers (n_image_CheckChain n_predict_Events n_replay_Registers : Nat) : AC :=
 (.seq
 (rG 4096 [oO 4 (.new 2 [(.agg [.nil, (.t (.int .i64 0))])]) [],mC 5 (.t (.int .i64 0))])
 (.seq
 (.seq
 (rG 8192 [mv 7 0,cL 8 n_image_CheckChain false [.tmp 7],mv 6 8])
 (.seq
 (rG 12288 [mv 9 6,bN 10 .neq 9 0])
 (.cond (.tmp 10)
 (.seq
 (rG 16384 [oO 11 (.build [.nil, (.t (.int .i64 0))] []) [],mv 12 6,oS 2 4 11,mv 5 12])
 .ret)
 .skip)))
 (.seq
 (.seq
 (rG 20480 [mv 13 1,bN 14 .lss 13 1,mv 15 14,mF 16 1 15,oF 17 15 (.bin .gtr) [.tmp 16, .cst (.t (.int .i64 3))],oO 18 .pick [.tmp 15, .cst (.t (.bool true)), .tmp 17]])
 (.cond (.tmp 18)
 (.seq
 (rG 24576 [oO 19 (.build [.nil, (.t (.int .i64 0))] []) [],oS 2 4 19,mC 5 (.t (.int .i64 1))])
 .ret)
 .skip))
 (.seq
 (rG 28672 [mv 20 1,mv 21 0,mv 22 1,cL 23 n_predict_Events true [.tmp 21, .tmp 22],oO 24 (.build [(.t (.int .i64 0)), (.t (.int .i64 0)), .nil] [(0, 1), (2, 1)]) [.tmp 20, .tmp 23],cL 25 n_replay_Registers true [.tmp 24],oO 26 (.extract 0) [.tmp 25],oO 27 (.extract 1) [.tmp 25],oS 2 4 26,mv 5 27])
 .ret))))
def hints_predict_Registers : List (Nat × List Nat) := [(6, [3, 5])]
def ac_law29_awake (n_predict_Events n_predict_Registers n_registers_Value n_ref1_Same : Nat) : AC :=
 (.seq
 (rG 4096 [mC 0 (.t (.bool false))])
 (.seq
 (rG 8192 [oO 9 (.build [(.t (.int .i64 0)), (.t (strT [])), (.t (.int .i64 0)), .nil] [(0, 1), (1, 1)]) [.cst (.t (.int .i64 1)), .cst (.t (strT [102]))],oO 10 (.build [(.t (.int .i64 0)), (.t (strT [])), (.t (.int .i64 0)), .nil] [(0, 1), (1, 1)]) [.cst (.t (.int .i64 3)), .cst (.t (strT [107]))],oO 11 (.bslice 1 6 (.t (byteT 0)) [0, 1, 2, 3, 4, 5]) [.cst (.t (byteT 97)), .cst (.t (byteT 61)), .cst (.t (byteT 49)), .cst (.t (byteT 10)), .cst (.t (byteT 98)), .cst (.t (byteT 10))],oO 12 .idsl [.tmp 11],oO 13 (.build [(.t (.int .i64 0)), (.t (strT [])), (.t (.int .i64 0)), .nil] [(0, 1), (1, 1), (3, 1)]) [.cst (.t (.int .i64 4)), .cst (.t (strT [99])), .tmp 12],oO 14 (.bslice 4 3 (.agg [(.t (.int .i64 0)), (.t (strT [])), (.t (.int .i64 0)), .nil]) [0, 1, 2]) [.tmp 9, .tmp 10, .tmp 13],mv 1 14])
 (.seq
 (rG 12288 [mv 15 1,cL 16 n_predict_Events true [.tmp 15, .cst (.t (.int .i64 2))],mv 2 16])
 (.seq
 (rG 16384 [mv 18 1,cL 19 n_predict_Registers true [.tmp 18, .cst (.t (.int .i64 2))],mv 17 19,oO 20 (.extract 0) [.tmp 17],oO 21 (.extract 1) [.tmp 17],oO 3 (.new 2 [(.agg [.nil, (.t (.int .i64 0))])]) [],oS 2 3 20,mv 4 21])
 (.seq
 (.seq
 (rG 20480 [mv 22 2,oO 23 .len [.tmp 22],bN 24 .neq 23 12,mv 25 24,mF 26 4 25,oF 27 25 (.bin .neq) [.tmp 26, .cst (.t (.int .i64 0))],oO 28 .pick [.tmp 25, .cst (.t (.bool true)), .tmp 27],mv 29 28,oF 30 29 (.faddr 1) [.tmp 3],oF 31 29 (.load 1 false) [.tmp 30],oF 32 29 (.bin .neq) [.tmp 31, .cst (.t (.int .i64 12))],oO 33 .pick [.tmp 29, .cst (.t (.bool true)), .tmp 32]])
 (.cond (.tmp 33)
 (.seq
 (rG 24576 [mC 0 (.t (.bool false))])
 .ret)
 .skip))
 (.seq
 (rG 28672 [oO 35 (.load 2 true) [.tmp 3],cL 36 n_registers_Value true [.tmp 35, .cst (.t (.int .i64 1)), .cst (.t (.int .i64 4))],mv 34 36,oO 37 (.extract 0) [.tmp 34],oO 38 (.extract 1) [.tmp 34],mv 5 37,mv 6 38])
 (.seq
 (rG 32768 [oO 40 (.load 2 true) [.tmp 3],cL 41 n_registers_Value true [.tmp 40, .cst (.t (.int .i64 1)), .cst (.t (.int .i64 5))],mv 39 41,oO 42 (.extract 0) [.tmp 39],oO 43 (.extract 1) [.tmp 39],mv 7 42,mv 8 43])
 (.seq
 (rG 36864 [mv 44 6,bN 45 .eql 44 0,mv 46 45,mG 47 8 46,oG 48 46 (.bin .eql) [.tmp 47, .cst (.t (.int .i64 0))],oO 49 .pick [.tmp 46, .tmp 48, .cst (.t (.bool false))],mv 50 49,mG 51 5 50,mG 52 7 50,cG 53 50 n_ref1_Same false [.tmp 51, .tmp 52],oO 54 .pick [.tmp 50, .tmp 53, .cst (.t (.bool false))],mv 55 54,mG 56 2 55,oG 57 55 (.iaddr 4) [.tmp 56, .cst (.t (.int .i64 9))],oG 58 55 (.faddr 0) [.tmp 57],oG 59 55 (.load 1 false) [.tmp 58],oG 60 55 (.bin .eql) [.tmp 59, .cst (.t (.int .i64 8))],oO 61 .pick [.tmp 55, .tmp 60, .cst (.t (.bool false))],mv 62 61,mG 63 2 62,oG 64 62 (.iaddr 4) [.tmp 63, .cst (.t (.int .i64 11))],oG 65 62 (.faddr 3) [.tmp 64],oG 66 62 (.load 1 false) [.tmp 65],oG 67 62 .b2s [.tmp 66],oG 68 62 (.bin .eql) [.tmp 67, .cst (.t (strT [98]))],oO 69 .pick [.tmp 62, .tmp 68, .cst (.t (.bool false))],mv 0 69])
 .ret))))))))
def hints_law29_awake : List (Nat × List Nat) := [(2, [1]), (3, [1]), (6, [1]), (7, [1])]
def ac_law29_few_L0 (n_draw_Cut : Nat) : AC :=
 (.seq
 (.seq
 (rG 24576 [mv 13 4,mv 14 3,oO 15 .len [.tmp 14],bT 16 .lss 13 15])
 (.cond (.tmp 16)
 .skip
 (.exit 0)))
 (.seq
 (.block 1
 (rG 32768 [mv 19 3,mv 20 4,mv 21 3,mv 22 4,oO 23 (.iaddr 4) [.tmp 21, .tmp 22],oO 24 (.faddr 3) [.tmp 23],oO 25 (.load 1 false) [.tmp 24],cL 26 n_draw_Cut true [.tmp 25, .cst (.t (.int .i64 100))],oO 27 (.iaddr 4) [.tmp 19, .tmp 20],oO 28 (.faddr 3) [.tmp 27],oS 1 28 26]))
 (rG 28672 [mv 17 4,bN 18 .add 17 1,mv 4 18])))
def ac_law29_few (n_draw_Cut : Nat) : AC :=
 (.seq
 (rG 4096 [mC 2 .nil])
 (.seq
 (.seq
 (rG 8192 [mv 5 0,oO 6 .len [.tmp 5],bN 7 .gtr 6 12])
 (.cond (.tmp 7)
 (rG 12288 [mv 8 0,oO 9 (.slice 4 false true false) [.tmp 8, .cst (.t (.int .i64 12))],mv 0 9])
 .skip))
 (.seq
 (rG 16384 [oO 10 (.bslice 4 0 (.agg [(.t (.int .i64 0)), (.t (strT [])), (.t (.int .i64 0)), .nil]) []) [],mv 11 0,oO 12 (.append 4 56) [.tmp 10, .tmp 11],mv 3 12])
 (.seq
 (.seq
 (rG 20480 [mC 4 (.t (.int .i64 0))])
 (.block 0
 (.loop (ac_law29_few_L0 n_draw_Cut))))
 (.seq
 (rG 36864 [mv 29 3,mv 2 29])
 .ret)))))
def hints_law29_few : List (Nat × List Nat) := [(7, [7])]
end Go.Eng
end
section
set_option maxRecDepth 20000
set_option maxHeartbeats 64000000
namespace Go.Eng
def imX (x : Im) : Prop := rI x.1 ∧ rI x.2.2.1 ∧ x.2.1.length ≤ 9223372036854775807 ∧ x.2.2.2.length ≤ 9223372036854775807
def imsX (l : List Im) : Prop := l.length ≤ 9223372036854775807 ∧ ∀ x ∈ l, imX x
def seenB (l : List Im) : List V := [.t (.bool false), .t (.bool (l.any fun y => decide (y.1 = 1))), .t (.bool (l.any fun y => decide (y.1 = 2))), .t (.bool (l.any fun y => decide (y.1 = 3))), .t (.bool (l.any fun y => decide (y.1 = 4)))]
theorem zI {l : List Im} : zOkT 4 (List.map imT l) = true := by
 simp only [zOkT, List.all_map, List.all_eq_true]
 intro x _
 rfl
theorem w_image_CheckChain (tab : Tab) (gl : Gl) (n1 : Nat) (h1 : tab.look n1 = some ct_imc.fs) (l : List Im) (hm : imsM l) :
   (ac_image_CheckChain n1).wp tab gl (zipF 0 [.t (.sl (l.map imT))]) (zipF 0 []) (resW [(2, none)] 0 (fun r o => r = .t (.int .i64 (chkC l)) ∧ o = [])) := by
 have hlm := hm.1
 by_cases c0 : l.length = 0
 · have hr : chkC l = 1 := if_pos (.inl c0)
   rw [hr]
   simp (disch := omega) only [go_sem, ↓reduceIte, Nat.reduceAdd, Nat.reduceEqDiff, reduceCtorEq, ac_image_CheckChain, c0]
 have c0b : ((l.length : Int) == 0) = false := by simpa using (by omega : ¬ (l.length : Int) = 0)
 by_cases c8 : 8 < l.length
 · have hr : chkC l = 1 := if_pos (.inr c8)
   rw [hr]
   simp (disch := omega) only [go_sem, ↓reduceIte, Nat.reduceAdd, Nat.reduceEqDiff, reduceCtorEq, ac_image_CheckChain, c0b, c8]
 have hr : chkC l = chF [] l := if_neg (by omega)
 rw [hr]
 simp (disch := omega) only [go_sem, ↓reduceIte, Nat.reduceAdd, Nat.reduceEqDiff, reduceCtorEq, ac_image_CheckChain, c0b, c8]
 refine loop_uptoP l.length (fun i => chF (l.take i) (l.drop i) = chF [] l) (fun i => [(0, .t (.sl (l.map imT))), (3, .ref 16384 0 0), (17, .t (.sl (l.map imT))), (18, .t (.int .i64 l.length)), (19, .t (.int .i64 (i : Nat)))]) (fun i => [(16384, .live 1 (seenB (l.take i)) true true)]) rfl ?_ (fun i hi hE => ?_)
 · refine Weak.rd id ?_ ?_ rfl
   all_goals simp (disch := omega) only [go_sem, ↓reduceIte, Nat.reduceEqDiff, reduceCtorEq, id, seenB, List.take_zero, List.any_nil]
 · by_cases hlt : i < l.length
   · obtain ⟨⟨xa, xs, xv, xp⟩, hx⟩ : ∃ x, l[i]? = some x := ⟨l[i], by simp [hlt]⟩
     have hd : l.drop i = (xa, xs, xv, xp) :: l.drop (i + 1) := by
       rw [List.drop_eq_getElem_cons hlt]
       have := (List.getElem?_eq_some_iff.1 hx).2
       rw [this]
     have hxm : imM (xa, xs, xv, xp) := hm.2 _ (List.mem_of_getElem? hx)
     have hC := imc_eq hxm
     rw [hd, chF] at hE
     by_cases hz : chkI (xa, xs, xv, xp) = 0
     · have hgood := (chkI_good hz).1
       simp only at hgood
       rw [if_neg (by omega)] at hE
       rw [hz] at hC
       have stp : seenB (l.take (i + 1)) = (seenB (l.take i)).set xa.toNat (.t (.bool true)) := by
         have f1 := any_take (p := fun y => decide (y.1 = 1)) hx
         have f2 := any_take (p := fun y => decide (y.1 = 2)) hx
         have f3 := any_take (p := fun y => decide (y.1 = 3)) hx
         have f4 := any_take (p := fun y => decide (y.1 = 4)) hx
         unfold seenB
         rw [f1, f2, f3, f4]
         rcases (show xa = 1 ∨ xa = 2 ∨ xa = 3 ∨ xa = 4 by omega) with rfl | rfl | rfl | rfl <;> simp
       have fin : ∀ (S : List V), S = seenB (l.take i) → chF (l.take (i + 1)) (l.drop (i + 1)) = chF [] l → True := fun _ _ _ => trivial
       by_cases hi0 : i = 0
       · subst hi0
         rw [if_neg (fun h => h.1 (by simp)), if_neg (by simp)] at hE
         have ht : l.take 0 ++ [(xa, xs, xv, xp)] = l.take (0 + 1) := by rw [List.take_add_one, hx]; rfl
         rw [ht] at hE
         have hs0 : seenB (l.take 0) = [.t (.bool false), .t (.bool false), .t (.bool false), .t (.bool false), .t (.bool false)] := rfl
         rw [hs0] at stp ⊢
         simp (disch := omega) only [go_sem, ↓reduceIte, Nat.reduceAdd, Nat.reduceEqDiff, Nat.reduceLeDiff, Int.reduceLE, reduceCtorEq, ac_image_CheckChain_L0, imT_def, hx, h1, hC, zI]
         repeat refine And.intro rfl ?_
         refine loop_fuel 1 ?_
         rcases (show xa = 1 ∨ xa = 2 ∨ xa = 3 ∨ xa = 4 by omega) with rfl | rfl | rfl | rfl
         all_goals simp (disch := omega) only [go_sem, ↓reduceIte, Nat.reduceAdd, Nat.reduceEqDiff, Nat.reduceLeDiff, Int.reduceLT, Int.reduceLE, Int.reduceAdd, reduceCtorEq, loopN_succ, ac_image_CheckChain_L1, imT_def, hx, h1]
         all_goals repeat refine And.intro rfl ?_
         all_goals refine ⟨hlt, hE, Weak.rd id ?_ ?_ rfl⟩
         all_goals simp (disch := omega) only [go_sem, ↓reduceIte, Nat.reduceEqDiff, reduceCtorEq, id, stp]
       · obtain ⟨⟨ya, ys, yv, yp⟩, hy⟩ : ∃ y, l[i - 1]? = some y := ⟨l[i - 1], by simp⟩
         have hi1 : ((i : Int) - 1) = ((i - 1 : Nat) : Int) := by omega
         have hla := lastD (d := (0, [], 0, [])) hy
         rw [show i - 1 + 1 = i by omega] at hla
         have hne : l.take i ≠ [] := by
           intro h
           have := congrArg List.length h
           simp only [List.length_take, List.length_nil] at this
           omega
         have hgt : 0 < (i : Int) := by omega
         rw [hla] at hE
         by_cases ho : xa < ya
         · rw [if_pos ⟨hne, ho⟩] at hE
           rw [← hE]
           generalize seenB (l.take i) = S at *
           simp (disch := omega) only [go_sem, ↓reduceIte, Nat.reduceAdd, Nat.reduceEqDiff, Nat.reduceLeDiff, reduceCtorEq, ac_image_CheckChain_L0, imT_def, hx, hy, h1, hC, hgt, hi1, ho]
           all_goals rfl
         · rw [if_neg (fun h => ho h.2)] at hE
           have hE' : (if isD (l.take i) (xa, xs, xv, xp) = true then 42 else chF (l.take i ++ [(xa, xs, xv, xp)]) (l.drop (i + 1))) = chF [] l := hE
           have ht : l.take i ++ [(xa, xs, xv, xp)] = l.take (i + 1) := by rw [List.take_add_one, hx]; rfl
           rw [ht] at hE'
           obtain ⟨s1, s2, s3, s4, hS⟩ : ∃ s1 s2 s3 s4 : Bool, seenB (l.take i) = [.t (.bool false), .t (.bool s1), .t (.bool s2), .t (.bool s3), .t (.bool s4)] := ⟨_, _, _, _, rfl⟩
           rw [hS] at stp ⊢
           have hmt : List.take i (List.map imT l) = List.map imT (l.take i) := (List.map_take ..).symm
           have hlt2 : (List.map imT (l.take i)).length = i := by simp; omega
           simp (disch := omega) only [go_sem, ↓reduceIte, Nat.reduceAdd, Nat.reduceEqDiff, Nat.reduceLeDiff, Int.reduceLE, reduceCtorEq, ac_image_CheckChain_L0, imT_def, hx, hy, h1, hC, hgt, hi1, ho, hmt, hlt2, zI]
           repeat refine And.intro rfl ?_
           refine loop_uptoP i (fun k => isD (l.take k) (xa, xs, xv, xp) = false) (fun k => [(0, .t (.sl (l.map imT))), (3, .ref 16384 0 0), (5, .ref 28720 0 0), (17, .t (.sl (l.map imT))), (18, .t (.int .i64 l.length)), (19, .t (.int .i64 (i : Nat))), (44, .t (.sl ((l.take i).map imT))), (45, .t (.int .i64 (i : Nat))), (46, .t (.int .i64 (k : Nat)))]) (fun _ => [(28720, .live 4 [.t (.agg [.int .i64 xa, strT xs, .int .i64 xv, .sl (xp.map byteT)])] true true), (16384, .live 1 [.t (.bool false), .t (.bool s1), .t (.bool s2), .t (.bool s3), .t (.bool s4)] true true)]) rfl ?_ (fun k hk hP => ?_)
           · refine Weak.rd id ?_ ?_ rfl
             all_goals simp (disch := omega) only [go_sem, ↓reduceIte, Nat.reduceEqDiff, Nat.reduceBEq, reduceCtorEq, id]
           · by_cases hkl : k < i
             · obtain ⟨⟨za, zs, zv, zp⟩, hzk⟩ : ∃ z, l[k]? = some z := ⟨l[k], by simp⟩
               have hzt : (l.take i)[k]? = some (za, zs, zv, zp) := by rw [List.getElem?_take, if_pos hkl, hzk]
               have hst2 := isD_take (x := (xa, xs, xv, xp)) hzk
               rw [hP, Bool.false_or] at hst2
               simp only at hst2
               by_cases q1 : za = xa
               · subst q1
                 by_cases q2 : zs = xs
                 · subst q2
                   have hd2 := isD_at (x := (za, zs, xv, xp)) hzk hkl rfl rfl
                   rw [hd2, if_pos rfl] at hE'
                   rw [← hE']
                   simp (disch := omega) only [go_sem, ↓reduceIte, Nat.reduceAdd, Nat.reduceEqDiff, Nat.reduceLeDiff, reduceCtorEq, ac_image_CheckChain_L1, imT_def, hzt, beq_self_eq_true]
                   all_goals rfl
                 · rw [decide_eq_true rfl, decide_eq_false q2] at hst2
                   have q2b : decide (zs = xs) = false := decide_eq_false q2
                   simp (disch := omega) only [go_sem, ↓reduceIte, Nat.reduceAdd, Nat.reduceEqDiff, Nat.reduceLeDiff, reduceCtorEq, ac_image_CheckChain_L1, imT_def, hzt, beq_self_eq_true, q2b]
                   repeat refine And.intro rfl ?_
                   refine ⟨hkl, hst2, Weak.rd id ?_ ?_ rfl⟩
                   all_goals simp (disch := omega) only [go_sem, ↓reduceIte, Nat.reduceEqDiff, Nat.reduceBEq, reduceCtorEq, id]
               · rw [decide_eq_false q1, Bool.false_and] at hst2
                 have q1b : (za == xa) = false := by simpa using q1
                 simp (disch := omega) only [go_sem, ↓reduceIte, Nat.reduceAdd, Nat.reduceEqDiff, Nat.reduceLeDiff, reduceCtorEq, ac_image_CheckChain_L1, imT_def, hzt, q1b]
                 repeat refine And.intro rfl ?_
                 refine ⟨hkl, hst2, Weak.rd id ?_ ?_ rfl⟩
                 all_goals simp (disch := omega) only [go_sem, ↓reduceIte, Nat.reduceEqDiff, Nat.reduceBEq, reduceCtorEq, id]
             · have e : k = i := by omega
               subst e
               rw [hP, if_neg (by decide)] at hE'
               rcases (show xa = 1 ∨ xa = 2 ∨ xa = 3 ∨ xa = 4 by omega) with rfl | rfl | rfl | rfl
               all_goals simp (disch := omega) only [go_sem, ↓reduceIte, Nat.reduceAdd, Nat.reduceEqDiff, Nat.reduceLeDiff, Int.reduceLT, Int.reduceLE, reduceCtorEq, ac_image_CheckChain_L1, imT_def]
               all_goals repeat refine And.intro rfl ?_
               all_goals refine ⟨hlt, hE', Weak.rd id ?_ ?_ rfl⟩
               all_goals simp (disch := omega) only [go_sem, ↓reduceIte, Nat.reduceEqDiff, reduceCtorEq, id, stp]
     · rw [if_pos hz] at hE
       rw [← hE]
       have hz' : (chkI (xa, xs, xv, xp) != 0) = true := by simpa using hz
       simp (disch := omega) only [go_sem, ↓reduceIte, Nat.reduceAdd, Nat.reduceEqDiff, Nat.reduceLeDiff, reduceCtorEq, ac_image_CheckChain_L0, imT_def, hx, h1, hC, hz']
   · have e : i = l.length := by omega
     subst e
     rw [List.take_length, List.drop_length, chF] at hE
     rw [← hE]
     rw [List.take_length]
     unfold seenB
     cases ha1 : l.any (fun y => decide (y.1 = 1)) <;> cases ha3 : l.any (fun y => decide (y.1 = 3))
     all_goals simp (disch := omega) only [go_sem, ↓reduceIte, Nat.reduceAdd, Nat.reduceEqDiff, Nat.reduceLeDiff, Int.reduceLT, Int.reduceLE, reduceCtorEq, ac_image_CheckChain_L0]
theorem evM.x {e : Ev} (h : evM e) : evX e := ⟨by have := h.1.1; omega, fun x hx => by have := h.1.2 x hx; omega, by have := h.2; omega⟩
def ct_chkX : Ct where
 α := Ev × Int
 as x := [.t (evT x.1), .t (.int .i64 x.2)]
 ins _ := []
 pre x := evX x.1
 r x := .t (.int .i64 (chkE x.1 x.2))
 outs _ := []
 inj := by
   rintro ⟨e, a⟩ ⟨f, b⟩ h _
   simp only [List.cons.injEq, V.t.injEq, T.int.injEq, true_and, and_true] at h
   obtain ⟨h1, rfl⟩ := h
   cases evT_inj h1
   exact ⟨rfl, rfl⟩
theorem w_event_CheckX (tab : Tab) (gl : Gl) (n1 : Nat) (h1 : tab.look n1 = some ct_size.fs) (e : Ev) (act : Int) (hm : evX e) :
   (ac_event_Check n1).wp tab gl (zipF 0 [.t (evT e), .t (.int .i64 act)]) (zipF 0 []) (resW [(4, none)] 0 (fun r o => r = .t (.int .i64 (chkE e act)) ∧ o = [])) := by
 obtain ⟨r, k, ds, d⟩ := e
 have hl := hm.2.2
 have hd := hm.1
 simp only at hl hd
 by_cases hb : badE r k act
 · have hr : chkE (r, k, ds, d) act = 1 := if_pos hb
   rw [hr]
   by_cases c1 : act < 1
   · simp (disch := omega) only [go_sem, ↓reduceIte, Nat.reduceAdd, Nat.reduceEqDiff, reduceCtorEq, ac_event_Check, evT_def, c1]
   by_cases c2 : 3 < act
   · simp (disch := omega) only [go_sem, ↓reduceIte, Nat.reduceAdd, Nat.reduceEqDiff, reduceCtorEq, ac_event_Check, evT_def, c1, c2]
   by_cases c3 : r < 0
   · simp (disch := omega) only [go_sem, ↓reduceIte, Nat.reduceAdd, Nat.reduceEqDiff, Nat.reduceLeDiff, reduceCtorEq, ac_event_Check, evT_def, c1, c2, c3]
   by_cases c4 : 11 < r
   · simp (disch := omega) only [go_sem, ↓reduceIte, Nat.reduceAdd, Nat.reduceEqDiff, Nat.reduceLeDiff, reduceCtorEq, ac_event_Check, evT_def, c1, c2, c3, c4]
   by_cases c5 : k < 1
   · simp (disch := omega) only [go_sem, ↓reduceIte, Nat.reduceAdd, Nat.reduceEqDiff, Nat.reduceLeDiff, reduceCtorEq, ac_event_Check, evT_def, c1, c2, c3, c4, c5]
   have c6 : 5 < k := by unfold badE at hb; omega
   simp (disch := omega) only [go_sem, ↓reduceIte, Nat.reduceAdd, Nat.reduceEqDiff, Nat.reduceLeDiff, reduceCtorEq, ac_event_Check, evT_def, c1, c2, c3, c4, c5, c6]
 · obtain ⟨⟨c1, c2⟩, ⟨c3, c4⟩, c5, c6⟩ := goodE hb
   by_cases c7 : 64 < d.length
   · have hr : chkE (r, k, ds, d) act = 4 := by unfold chkE; rw [if_neg hb, if_pos c7]
     rw [hr]
     simp (disch := omega) only [go_sem, ↓reduceIte, Nat.reduceAdd, Nat.reduceEqDiff, Nat.reduceLeDiff, reduceCtorEq, ac_event_Check, evT_def, c1, c2, c3, c4, c5, c6, c7]
   · have hr : chkE (r, k, ds, d) act = if fitE k act ds then 0 else 27 := by unfold chkE; rw [if_neg hb, if_neg c7]
     rw [hr]
     by_cases c8 : ds.length = 2
     · obtain ⟨d0, d1, rfl⟩ := len2 c8
       have m0 := hm.2.1 d0 (by simp)
       have m1 := hm.2.1 d1 (by simp)
       rw [fitE_two]
       rcases (show k = 5 ∨ k ≠ 5 by omega) with rfl | hk
       · simp only [wantL_note]
         by_cases l0 : d0.length = 0 <;> by_cases l1 : d1.length = 0
         all_goals simp (disch := omega) only [go_sem, ↓reduceIte, Nat.reduceAdd, Nat.reduceEqDiff, Nat.reduceLeDiff, reduceCtorEq, ac_event_Check, evT_def, c1, c2, c3, c4, c5, c6, c7, List.map_cons, List.map_nil]
         all_goals refine loop_fuel 3 ?_
         all_goals simp (disch := omega) only [go_sem, ↓reduceIte, Nat.reduceAdd, Nat.reduceEqDiff, Nat.reduceLeDiff, Int.reduceLT, Int.reduceLE, Int.reduceAdd, reduceCtorEq, loopN_succ, ac_event_Check_L0, h1, l0, l1, Int.reduceFDiv]
       · have k5 : (k == 5) = false := by simpa using hk
         rcases (show act = 1 ∨ act = 2 ∨ act = 3 by omega) with rfl | rfl | rfl
         · have w0 : wantL k 1 0 = 20 := if_pos ⟨hk, by decide⟩
           have w1 : wantL k 1 1 = 0 := if_neg (by simp)
           rw [w0, w1]
           by_cases l0 : d0.length = 20 <;> by_cases l1 : d1.length = 0
           all_goals simp (disch := omega) only [go_sem, ↓reduceIte, Nat.reduceAdd, Nat.reduceEqDiff, Nat.reduceLeDiff, Int.reduceLT, reduceCtorEq, ac_event_Check, evT_def, c3, c4, c5, c6, c7, List.map_cons, List.map_nil]
           all_goals refine loop_fuel 3 ?_
           all_goals simp (disch := omega) only [go_sem, ↓reduceIte, Nat.reduceAdd, Nat.reduceEqDiff, Nat.reduceLeDiff, Int.reduceLT, Int.reduceLE, Int.reduceAdd, Int.reduceMod, reduceCtorEq, Int.reducePow, loopN_succ, ac_event_Check_L0, h1, size_eq0, size_eq1, k5, l0, l1, Int.reduceFDiv]
         · have w0 : wantL k 2 0 = 0 := if_neg (by simp)
           have w1 : wantL k 2 1 = 32 := if_pos ⟨hk, by decide⟩
           rw [w0, w1]
           by_cases l0 : d0.length = 0 <;> by_cases l1 : d1.length = 32
           all_goals simp (disch := omega) only [go_sem, ↓reduceIte, Nat.reduceAdd, Nat.reduceEqDiff, Nat.reduceLeDiff, Int.reduceLT, reduceCtorEq, ac_event_Check, evT_def, c3, c4, c5, c6, c7, List.map_cons, List.map_nil]
           all_goals refine loop_fuel 3 ?_
           all_goals simp (disch := omega) only [go_sem, ↓reduceIte, Nat.reduceAdd, Nat.reduceEqDiff, Nat.reduceLeDiff, Int.reduceLT, Int.reduceLE, Int.reduceAdd, Int.reduceMod, reduceCtorEq, Int.reducePow, loopN_succ, ac_event_Check_L0, h1, size_eq0, size_eq1, k5, l0, l1, Int.reduceFDiv]
         · have w0 : wantL k 3 0 = 20 := if_pos ⟨hk, by decide⟩
           have w1 : wantL k 3 1 = 32 := if_pos ⟨hk, by decide⟩
           rw [w0, w1]
           by_cases l0 : d0.length = 20 <;> by_cases l1 : d1.length = 32
           all_goals simp (disch := omega) only [go_sem, ↓reduceIte, Nat.reduceAdd, Nat.reduceEqDiff, Nat.reduceLeDiff, Int.reduceLT, reduceCtorEq, ac_event_Check, evT_def, c3, c4, c5, c6, c7, List.map_cons, List.map_nil]
           all_goals refine loop_fuel 3 ?_
           all_goals simp (disch := omega) only [go_sem, ↓reduceIte, Nat.reduceAdd, Nat.reduceEqDiff, Nat.reduceLeDiff, Int.reduceLT, Int.reduceLE, Int.reduceAdd, Int.reduceMod, reduceCtorEq, Int.reducePow, loopN_succ, ac_event_Check_L0, h1, size_eq0, size_eq1, k5, l0, l1, Int.reduceFDiv]
     · have hf : fitE k act ds = false := by unfold fitE; rw [decide_eq_false c8]; rfl
       rw [hf]
       have c9 : ((ds.length : Int) == 2) = false := by simpa using (by omega : ¬ (ds.length : Int) = 2)
       simp (disch := omega) only [go_sem, ↓reduceIte, Nat.reduceAdd, Nat.reduceEqDiff, Nat.reduceLeDiff, reduceCtorEq, ac_event_Check, evT_def, c1, c2, c3, c4, c5, c6, c7, c8, c9]
theorem chkX_eq {a b : Int} {c : List (List UInt8)} {d : List UInt8} {act : Int} (h : evX (a, b, c, d)) : ct_chkX.fs [.t (.agg [.int .i64 a, .int .i64 b, .sl (c.map bsT), .sl (d.map byteT)]), .t (.int .i64 act)] [] = some (.t (.int .i64 (chkE (a, b, c, d) act)), []) := ct_chkX.eq ((a, b, c, d), act) h
def ct_fitX : Ct where
 α := Ev × Int
 as x := [.t (evT x.1), .t (.int .i64 x.2)]
 ins _ := []
 pre x := evX x.1 ∧ 0 ≤ x.2 ∧ x.2 < 4
 r x := .t (.bool (fitE x.1.2.1 x.2 x.1.2.2.1))
 outs _ := []
 inj := by
   rintro ⟨e, a⟩ ⟨f, b⟩ h _
   simp only [List.cons.injEq, V.t.injEq, T.int.injEq, true_and, and_true] at h
   obtain ⟨h1, rfl⟩ := h
   cases evT_inj h1
   exact ⟨rfl, rfl⟩
theorem fitX_eq {a b : Int} {c : List (List UInt8)} {d : List UInt8} {act : Int} (h : evX (a, b, c, d) ∧ 0 ≤ act ∧ act < 4) : ct_fitX.fs [.t (.agg [.int .i64 a, .int .i64 b, .sl (c.map bsT), .sl (d.map byteT)]), .t (.int .i64 act)] [] = some (.t (.bool (fitE b act c)), []) := ct_fitX.eq ((a, b, c, d), act) h
theorem w_ref25_digestsFitX (tab : Tab) (gl : Gl) (n1 n2 : Nat) (h1 : tab.look n1 = some ct_has.fs) (h2 : tab.look n2 = some ct_size.fs) (e : Ev) (act : Int) (hm : evX e) (ha : 0 ≤ act ∧ act < 4) :
   (ac_ref25_digestsFit n1 n2).wp tab gl (zipF 0 [.t (evT e), .t (.int .i64 act)]) (zipF 0 []) (resW [(4, none)] 0 (fun r o => r = .t (.bool (fitE e.2.1 act e.2.2.1)) ∧ o = [])) := by
 obtain ⟨r, k, ds, d⟩ := e
 have hd := hm.1
 simp only at hd
 have q0 := has_eq0 ha
 have q1 := has_eq1 ha
 by_cases c8 : ds.length = 2
 · obtain ⟨d0, d1, rfl⟩ := len2 c8
   have m0 := hm.2.1 d0 (by simp)
   have m1 := hm.2.1 d1 (by simp)
   simp only [fitE_two, wantL0, wantL1]
   rcases (show k = 5 ∨ k ≠ 5 by omega) with rfl | hk
   · by_cases l0 : d0.length = 0 <;> by_cases l1 : d1.length = 0
     all_goals simp (disch := omega) only [go_sem, ↓reduceIte, Nat.reduceAdd, Nat.reduceEqDiff, Nat.reduceLeDiff, reduceCtorEq, ac_ref25_digestsFit, evT_def, List.map_cons, List.map_nil]
     all_goals refine loop_fuel 3 ?_
     all_goals simp (disch := omega) only [go_sem, ↓reduceIte, Nat.reduceAdd, Nat.reduceEqDiff, Nat.reduceLeDiff, Int.reduceLT, Int.reduceLE, Int.reduceAdd, reduceCtorEq, loopN_succ, ac_ref25_digestsFit_L0, h1, h2, l0, l1, ne_eq]
   · have k5 : (k == 5) = false := by simpa using hk
     by_cases b0 : act % 2 = 1 <;> by_cases b1 : act / 2 % 2 = 1
     · by_cases l0 : d0.length = 20 <;> by_cases l1 : d1.length = 32
       all_goals simp (disch := omega) only [go_sem, ↓reduceIte, Nat.reduceAdd, Nat.reduceEqDiff, Nat.reduceLeDiff, reduceCtorEq, ac_ref25_digestsFit, evT_def, List.map_cons, List.map_nil]
       all_goals refine loop_fuel 3 ?_
       all_goals simp (disch := omega) only [go_sem, ↓reduceIte, Nat.reduceAdd, Nat.reduceEqDiff, Nat.reduceLeDiff, Int.reduceLT, Int.reduceLE, Int.reduceAdd, reduceCtorEq, loopN_succ, ac_ref25_digestsFit_L0, h1, h2, q0, q1, b0, b1, size_eq0, size_eq1, k5, hk, l0, l1, ne_eq]
     · by_cases l0 : d0.length = 20 <;> by_cases l1 : d1.length = 0
       all_goals simp (disch := omega) only [go_sem, ↓reduceIte, Nat.reduceAdd, Nat.reduceEqDiff, Nat.reduceLeDiff, reduceCtorEq, ac_ref25_digestsFit, evT_def, List.map_cons, List.map_nil]
       all_goals refine loop_fuel 3 ?_
       all_goals simp (disch := omega) only [go_sem, ↓reduceIte, Nat.reduceAdd, Nat.reduceEqDiff, Nat.reduceLeDiff, Int.reduceLT, Int.reduceLE, Int.reduceAdd, reduceCtorEq, loopN_succ, ac_ref25_digestsFit_L0, h1, h2, q0, q1, b0, b1, size_eq0, size_eq1, k5, hk, l0, l1, ne_eq]
     · by_cases l0 : d0.length = 0 <;> by_cases l1 : d1.length = 32
       all_goals simp (disch := omega) only [go_sem, ↓reduceIte, Nat.reduceAdd, Nat.reduceEqDiff, Nat.reduceLeDiff, reduceCtorEq, ac_ref25_digestsFit, evT_def, List.map_cons, List.map_nil]
       all_goals refine loop_fuel 3 ?_
       all_goals simp (disch := omega) only [go_sem, ↓reduceIte, Nat.reduceAdd, Nat.reduceEqDiff, Nat.reduceLeDiff, Int.reduceLT, Int.reduceLE, Int.reduceAdd, reduceCtorEq, loopN_succ, ac_ref25_digestsFit_L0, h1, h2, q0, q1, b0, b1, size_eq0, size_eq1, k5, hk, l0, l1, ne_eq]
     · by_cases l0 : d0.length = 0 <;> by_cases l1 : d1.length = 0
       all_goals simp (disch := omega) only [go_sem, ↓reduceIte, Nat.reduceAdd, Nat.reduceEqDiff, Nat.reduceLeDiff, reduceCtorEq, ac_ref25_digestsFit, evT_def, List.map_cons, List.map_nil]
       all_goals refine loop_fuel 3 ?_
       all_goals simp (disch := omega) only [go_sem, ↓reduceIte, Nat.reduceAdd, Nat.reduceEqDiff, Nat.reduceLeDiff, Int.reduceLT, Int.reduceLE, Int.reduceAdd, reduceCtorEq, loopN_succ, ac_ref25_digestsFit_L0, h1, h2, q0, q1, b0, b1, size_eq0, size_eq1, k5, hk, l0, l1, ne_eq]
 · have hf : fitE k act ds = false := by unfold fitE; rw [decide_eq_false c8]; rfl
   have c9 : ((ds.length : Int) == 2) = false := by simpa using (by omega : ¬ (ds.length : Int) = 2)
   simp only [hf]
   simp (disch := omega) only [go_sem, ↓reduceIte, Nat.reduceAdd, Nat.reduceEqDiff, Nat.reduceLeDiff, reduceCtorEq, ac_ref25_digestsFit, evT_def, c8, c9]
theorem w_ref25_EventX (tab : Tab) (gl : Gl) (n1 : Nat) (h1 : tab.look n1 = some ct_fitX.fs) (e : Ev) (act : Int) (hm : evX e) :
   (ac_ref25_Event n1).wp tab gl (zipF 0 [.t (evT e), .t (.int .i64 act)]) (zipF 0 []) (resW [(4, none)] 0 (fun r o => r = .t (.int .i64 (chkE e act)) ∧ o = [])) := by
 obtain ⟨r, k, ds, d⟩ := e
 have hl := hm.2.2
 simp only at hl
 by_cases hb : badE r k act
 · have hr : chkE (r, k, ds, d) act = 1 := if_pos hb
   rw [hr]
   by_cases c1 : act < 1
   · simp (disch := omega) only [go_sem, ↓reduceIte, Nat.reduceAdd, Nat.reduceEqDiff, reduceCtorEq, ac_ref25_Event, evT_def, c1]
   by_cases c2 : 3 < act
   · simp (disch := omega) only [go_sem, ↓reduceIte, Nat.reduceAdd, Nat.reduceEqDiff, reduceCtorEq, ac_ref25_Event, evT_def, c1, c2]
   by_cases c3 : r < 0
   · simp (disch := omega) only [go_sem, ↓reduceIte, Nat.reduceAdd, Nat.reduceEqDiff, Nat.reduceLeDiff, reduceCtorEq, ac_ref25_Event, evT_def, c1, c2, c3]
   by_cases c4 : 11 < r
   · simp (disch := omega) only [go_sem, ↓reduceIte, Nat.reduceAdd, Nat.reduceEqDiff, Nat.reduceLeDiff, reduceCtorEq, ac_ref25_Event, evT_def, c1, c2, c3, c4]
   by_cases c5 : k < 1
   · simp (disch := omega) only [go_sem, ↓reduceIte, Nat.reduceAdd, Nat.reduceEqDiff, Nat.reduceLeDiff, reduceCtorEq, ac_ref25_Event, evT_def, c1, c2, c3, c4, c5]
   have c6 : 5 < k := by unfold badE at hb; omega
   simp (disch := omega) only [go_sem, ↓reduceIte, Nat.reduceAdd, Nat.reduceEqDiff, Nat.reduceLeDiff, reduceCtorEq, ac_ref25_Event, evT_def, c1, c2, c3, c4, c5, c6]
 · obtain ⟨⟨c1, c2⟩, ⟨c3, c4⟩, c5, c6⟩ := goodE hb
   by_cases c7 : 64 < d.length
   · have hr : chkE (r, k, ds, d) act = 4 := by unfold chkE; rw [if_neg hb, if_pos c7]
     rw [hr]
     simp (disch := omega) only [go_sem, ↓reduceIte, Nat.reduceAdd, Nat.reduceEqDiff, Nat.reduceLeDiff, reduceCtorEq, ac_ref25_Event, evT_def, c1, c2, c3, c4, c5, c6, c7]
   · have hr : chkE (r, k, ds, d) act = if fitE k act ds then 0 else 27 := by unfold chkE; rw [if_neg hb, if_neg c7]
     have hf := fitX_eq (a := r) (b := k) (c := ds) (d := d) (act := act) ⟨hm, by omega, by omega⟩
     rw [hr]
     cases hq : fitE k act ds
     all_goals rw [hq] at hf
     all_goals simp (disch := omega) only [go_sem, ↓reduceIte, Nat.reduceAdd, Nat.reduceEqDiff, Nat.reduceLeDiff, reduceCtorEq, ac_ref25_Event, evT_def, c1, c2, c3, c4, c5, c6, c7, h1, hf]
abbrev Lg := Int × Int × List Ev
def lgT (l : Lg) : T := .agg [.int .i64 l.1, .int .i64 l.2.1, .sl (l.2.2.map evT)]
theorem lgT_def {a r : Int} {es : List Ev} : lgT (a, r, es) = .agg [.int .i64 a, .int .i64 r, .sl (es.map evT)] := Eq.trans (Eq.refl _) rfl
theorem mapE_inj {l m : List Ev} : (l.map evT = m.map evT) = (l = m) := propext ⟨map_inj' (fun _ _ => evT_inj), fun h => by rw [h]⟩
theorem lgT_inj {l m : Lg} (h : lgT l = lgT m) : l = m := by
 obtain ⟨a, b, c⟩ := l
 obtain ⟨a', b', c'⟩ := m
 simp only [lgT_def, T.agg.injEq, List.cons.injEq, T.int.injEq, T.sl.injEq, true_and, and_true, mapE_inj] at h
 obtain ⟨rfl, rfl, rfl⟩ := h
 rfl
def esM (es : List Ev) : Prop := es.length < 1000000 ∧ ∀ e ∈ es, evX e
def firstE (act : Int) : List Ev → Int
 | [] => 0
 | e :: r => if chkE e act ≠ 0 then chkE e act else firstE act r
def rpE (act : Int) (es : List Ev) : Int := if act < 1 ∨ 3 < act then 1 else firstE act es
abbrev Rg := List Bank × Int
def rpS (x : Rg) (e : Ev) : Rg := if e.2.1 = 5 then x else extP x 0 e.1 e.2.2.1
def rp0 (act : Int) : Rg := (newBk act, 0)
def rpF (act : Int) (es : List Ev) : Rg := es.foldl rpS (rp0 act)
def rpG (act : Int) (es : List Ev) : Rg := if rpE act es = 0 then rpF act es else ([], 0)
def rpV (act : Int) (es : List Ev) : V := .tup [.t (regT (rpG act es).1 (rpG act es).2), .t (.int .i64 (rpE act es))]
def ct_rpl : Ct where
 α := Lg
 as x := [.t (lgT x)]
 ins _ := []
 pre x := esM x.2.2
 r x := rpV x.1 x.2.2
 outs _ := []
 inj := by
   intro a b h _
   simp only [List.cons.injEq, V.t.injEq, and_true] at h
   cases lgT_inj h
   exact ⟨rfl, rfl⟩
def ShA (act : Int) (bk : List Bank) : Prop := ∃ b0 b1 : Bank, bk = [b0, b1] ∧ List.length b0 = (if act % 2 = 1 then 16 else 0) ∧ List.length b1 = (if act / 2 % 2 = 1 then 16 else 0) ∧ (∀ x ∈ b0, x.length = 20) ∧ ∀ x ∈ b1, x.length = 32
theorem ShA.new {act : Int} (ha : 1 ≤ act ∧ act ≤ 3) : ShA act (newBk act) := by
 have h : newBk act = [if act % 2 = 1 then newB 0 else [], if act / 2 % 2 = 1 then newB 1 else []] := newBk_of (by omega)
 refine ⟨_, _, h, ?_, ?_, fun x hx => ?_, fun x hx => ?_⟩
 · split
   · exact newB_length
   · rfl
 · split
   · exact newB_length
   · rfl
 · split at hx
   · exact newB_z (a := 0) x hx
   · simp at hx
 · split at hx
   · exact newB_z (a := 1) x hx
   · simp at hx
theorem ShA.rv {act : Int} {bk : List Bank} (h : ShA act bk) : RV bk := by
 obtain ⟨b0, b1, rfl, h0, h1, z0, z1⟩ := h
 refine ⟨.two _ _ ?_ ?_, fun b hb x hx => ?_⟩
 · split at h0
   · exact .inr h0
   · exact .inl h0
 · split at h1
   · exact .inr h1
   · exact .inl h1
 · simp only [List.mem_cons, List.not_mem_nil, or_false] at hb
   rcases hb with rfl | rfl
   · have := z0 x hx; omega
   · have := z1 x hx; omega
theorem ShA.ext {act : Int} {bk : List Bank} (h : ShA act bk) (i : Nat) (ds : List (List UInt8)) : ShA act (extBk bk i ds) := by
 obtain ⟨b0, b1, rfl, h0, h1, z0, z1⟩ := h
 rw [extBk_two]
 refine ⟨_, _, rfl, ext1_length.trans h0, ext1_length.trans h1, ?_, ?_⟩
 · unfold ext1; split
   · exact set_z z0 (sumA_length (a := 0))
   · exact z0
 · unfold ext1; split
   · exact set_z z1 (sumA_length (a := 1))
   · exact z1
theorem leastI_lo {i : Int} (h : i ≤ 11) : leastI i false = 0 := by
 unfold leastI
 rw [if_neg (by simp), if_neg (by omega), if_neg (by omega)]
theorem ext_ok {act : Int} {bk : List Bank} {e : Ev} (h : ShA act bk) (hc : chkE e act = 0) (h5 : e.2.1 ≠ 5) : extEr bk 0 e.1 e.2.2.1 = 0 := by
 obtain ⟨r, k, ds, d⟩ := e
 obtain ⟨b0, b1, rfl, h0, h1, z0, z1⟩ := h
 unfold chkE at hc
 simp only at hc h5 ⊢
 split at hc
 · simp at hc
 · rename_i hb
   obtain ⟨⟨c1, c2⟩, ⟨c3, c4⟩, c5, c6⟩ := goodE hb
   split at hc
   · simp at hc
   · split at hc
     · rename_i hf
       unfold fitE at hf
       simp only [Bool.and_eq_true, decide_eq_true_eq] at hf
       obtain ⟨⟨f0, f1⟩, f2⟩ := hf
       rw [wantL0] at f1
       rw [wantL1] at f2
       unfold extEr
       rw [show ([b0, b1] : List Bank).getD 0 [] = b0 from rfl, show ([b0, b1] : List Bank).getD 1 [] = b1 from rfl, h0, h1, f0, f1, f2]
       have h5' : k ≠ 5 := h5
       unfold extE
       rw [if_neg (by omega), leastI_lo (by omega), if_neg (by omega), if_neg, if_neg]
       · by_cases q0 : act % 2 = 1 <;> by_cases q1 : act / 2 % 2 = 1 <;> simp [q0, q1, h5']
       · by_cases q0 : act % 2 = 1 <;> by_cases q1 : act / 2 % 2 = 1 <;> simp [q0, q1, h5']
     · simp at hc
theorem rpS_ext {act : Int} {x : Rg} {e : Ev} (h : ShA act x.1) (hc : chkE e act = 0) (h5 : e.2.1 ≠ 5) : rpS x e = (extBk x.1 e.1.toNat e.2.2.1, x.2 + 1) := by
 unfold rpS
 rw [if_neg h5]
 unfold extP
 rw [if_pos (ext_ok h hc h5)]
def RQ (act : Int) (n : Nat) (x : Rg) : Prop := ShA act x.1 ∧ 0 ≤ x.2 ∧ x.2 ≤ n
theorem RQ.zero {act : Int} (ha : 1 ≤ act ∧ act ≤ 3) : RQ act 0 (rp0 act) := ⟨ShA.new ha, by simp [rp0], by simp [rp0]⟩
theorem RQ.up {act : Int} {n m : Nat} {x : Rg} (h : RQ act n x) (hm : n ≤ m) : RQ act m x := ⟨h.1, h.2.1, by have := h.2.2; omega⟩
theorem RQ.ext {act : Int} {n : Nat} {x : Rg} (h : RQ act n x) (l i : Int) (ds : List (List UInt8)) : RQ act (n + 1) (extP x l i ds) := by
 unfold extP
 split
 · exact ⟨h.1.ext _ _, by have := h.2.1; simp only; omega, by have := h.2.2; simp only; omega⟩
 · exact h.up (by omega)
theorem RQ.step {act : Int} {n : Nat} {x : Rg} {e : Ev} (h : RQ act n x) : RQ act (n + 1) (rpS x e) := by
 unfold rpS
 split
 · exact h.up (by omega)
 · exact h.ext _ _ _
theorem RQ.fold {act : Int} (ha : 1 ≤ act ∧ act ≤ 3) : ∀ {es : List Ev} {n : Nat} {x : Rg}, RQ act n x → RQ act (n + es.length) (es.foldl rpS x)
 | [], n, x, h => h
 | e :: es, n, x, h => by
   have := RQ.fold ha (es := es) (h.step (e := e))
   rw [List.length_cons, show n + (es.length + 1) = n + 1 + es.length by omega]
   exact this
theorem rpF_rq {act : Int} (ha : 1 ≤ act ∧ act ≤ 3) {es : List Ev} : RQ act es.length (rpF act es) := by
 have := RQ.fold ha (es := es) (RQ.zero ha)
 rwa [Nat.zero_add] at this
theorem firstE_all {act : Int} : ∀ {es : List Ev}, (∀ e ∈ es, chkE e act = 0) → firstE act es = 0
 | [], _ => rfl
 | x :: es, h => by
   unfold firstE
   rw [if_neg (by have := h x (by simp); omega)]
   exact firstE_all (fun e he => h e (by simp [he]))
theorem firstE_at {act : Int} : ∀ {es : List Ev} {i : Nat}, i < es.length → (∀ e ∈ es.take i, chkE e act = 0) → chkE (es.getD i ev0) act ≠ 0 → firstE act es = chkE (es.getD i ev0) act
 | [], i, h, _, _ => by simp at h
 | x :: es, 0, _, _, h2 => by
   unfold firstE
   exact if_pos h2
 | x :: es, i + 1, h, h1, h2 => by
   unfold firstE
   rw [if_neg (by have := h1 x (by simp); omega)]
   exact firstE_at (es := es) (i := i) (by simpa using h) (fun e he => h1 e (by simp [he])) h2
theorem evT_c {e : Ev} : (V.t (evT e)).cells.length = 4 := rfl
theorem evT_p {e : Ev} : (V.t (evT e)).plain = true := rfl
theorem makeO {r k act : Int} {d : List UInt8} (h : (0 ≤ act ∧ act < 4) ∧ d.length < 1000000000) : ct_make.fs [.t (.int .i64 r), .t (.int .i64 k), .t (.int .i64 act), .t (.sl (d.map byteT))] [] = some (.t (evT (mkE r k act d)), []) := ct_make.eq (r, k, act, d) h
def ct_evI : Ct where
 α := List Im × Int
 as x := [.t (.sl (x.1.map imT)), .t (.int .i64 x.2)]
 ins _ := []
 pre x := imsM x.1
 r x := .t (.sl ((evsI x.1 x.2).map evT))
 outs _ := []
 inj := by
   rintro ⟨a, b⟩ ⟨c, d⟩ h _
   simp only [List.cons.injEq, V.t.injEq, T.sl.injEq, T.int.injEq, true_and, and_true, mapI_inj] at h
   obtain ⟨rfl, rfl⟩ := h
   exact ⟨rfl, rfl⟩
theorem evI_eq {l : List Im} {act : Int} (h : imsM l) : ct_evI.fs [.t (.sl (l.map imT)), .t (.int .i64 act)] [] = some (.t (.sl ((evsI l act).map evT)), []) := ct_evI.eq (l, act) h
def outE (act : Int) (l : List Im) : Nat → List Ev
 | 0 => []
 | 1 => evsR act 1 l
 | 2 => evsR act 1 l ++ evsR act 2 l
 | 3 => (evsR act 1 l ++ evsR act 2 l) ++ seps act ++ evsR act 3 l
 | _ => evsC act l
theorem evsR_take {act r : Int} {l : List Im} {x : Im} {i : Nat} (h : l[i]? = some x) : evsR act r (l.take (i + 1)) = evsR act r (l.take i) ++ (if x.1 = r then (if r = 4 then (lnL x.2.2.2).map (mkE 9 3 act) else [ofI x act]) else []) := by
 unfold evsR
 rw [List.take_add_one, h, List.filter_append, List.flatMap_append]
 congr 1
 by_cases hx : x.1 = r <;> simp [List.filter_cons, hx]
theorem evsR_le {act r : Int} {l : List Im} : (evsR act r l).length ≤ l.length * 4 := Nat.le_trans evsR_len (Nat.mul_le_mul_right _ (List.length_filter_le _ _))
theorem map_take_s {α γ : Type} {f : α → γ} {l : List α} {k : Nat} {x : α} (h : l[k]? = some x) : (l.take (k + 1)).map f = (l.take k).map f ++ [f x] := by
 rw [List.take_add_one, h]; simp
def sepN (act : Int) (p : List UInt8) (k : Nat) : List Ev := (List.range k).map fun (i : Nat) => mkE (i : Int) 2 act p
theorem sepN_s {act : Int} {p : List UInt8} {k : Nat} : sepN act p (k + 1) = sepN act p k ++ [mkE (k : Int) 2 act p] := by unfold sepN; rw [List.range_succ, List.map_append]; rfl
theorem sepN_len {act : Int} {p : List UInt8} {k : Nat} : (sepN act p k).length = k := by simp [sepN]
theorem w_ref25_Events (tab : Tab) (gl : Gl) (n1 n2 n3 n4 n5 : Nat) (h1 : tab.look n1 = some ct_chc.fs) (h2 : tab.look n2 = some ct_sep.fs) (h3 : tab.look n3 = some ct_make.fs) (h4 : tab.look n4 = some ct_ofI.fs) (h5 : tab.look n5 = some ct_lns.fs) (l : List Im) (act : Int) (hm : imsM l) :
   (ac_ref25_Events n1 n2 n3 n4 n5).wp tab gl (zipF 0 [.t (.sl (l.map imT)), .t (.int .i64 act)]) (zipF 0 []) (resW [(4, none)] 0 (fun r o => r = .t (.sl ((evsI l act).map evT)) ∧ o = [])) := by
 have hC := chc_eq hm
 by_cases hz : chkC l = 0
 · rw [hz] at hC
   obtain ⟨hok, hl1, hl8⟩ := chkC_ok hz
   by_cases a1 : act < 1
   · have hr : evsI l act = [] := if_pos (.inr (.inl a1))
     rw [hr]
     simp (disch := omega) only [go_sem, ↓reduceIte, Nat.reduceAdd, Nat.reduceEqDiff, Nat.reduceLeDiff, reduceCtorEq, ac_ref25_Events, h1, hC, a1, List.map_nil]
   by_cases a3 : 3 < act
   · have hr : evsI l act = [] := if_pos (.inr (.inr a3))
     rw [hr]
     simp (disch := omega) only [go_sem, ↓reduceIte, Nat.reduceAdd, Nat.reduceEqDiff, Nat.reduceLeDiff, reduceCtorEq, ac_ref25_Events, h1, hC, a1, a3, List.map_nil]
   have hr : evsI l act = evsC act l := by unfold evsI; rw [if_neg (by omega)]
   rw [hr]
   have ha : 0 ≤ act ∧ act < 4 := by omega
   have b1 := evsR_le (act := act) (r := 1) (l := l)
   have b2 := evsR_le (act := act) (r := 2) (l := l)
   have b3 := evsR_le (act := act) (r := 3) (l := l)
   have b4 := evsR_le (act := act) (r := 4) (l := l)
   have bs := seps_len (act := act)
   have main : ∀ (i r : Nat), i < 4 → r = i + 1 → ∀ (base : List Ev), outE act l (i + 1) = base ++ evsR act r l → base.length ≤ 200 → ∀ (fs : Fs) (hs : Hs), Weak fs hs [(0, .t (.sl (l.map imT))), (1, .t (.int .i64 act)), (5, .sl 9000 0 base.length), (6, .t (.int .i64 r)), (8, .t (.int .i64 0))] [(9000, .live 4 ((base.map evT).map V.t) true false)] →
       loopW tab gl (ac_ref25_Events_L2 n4 n5 n3) fs hs (blockK 4 (blockK 1 (seqK tab gl (rG 28672 [mv 24 6, bN 25 .add 24 1, mv 6 25]) (upK 4 (fun i => [(0, .t (.sl (l.map imT))), (1, .t (.int .i64 act)), (5, .sl 9000 0 (outE act l i).length), (6, .t (.int .i64 ((i + 1 : Nat) : Int)))]) (fun i => [(9000, .live 4 (((outE act l i).map evT).map V.t) true false)]) i (blockK 0 (seqK tab gl ((rG 98304 [mv 83 5, mv 4 83]).seq AC.ret) (resW [(4, none)] 0 (fun r' o => r' = .t (.sl ((evsC act l).map evT)) ∧ o = [])))))))) := by
     intro i r hi hri base hb hbl fs hs hw
     refine loopW_weak hw ?_
     refine loop_upto l.length (fun j => [(0, .t (.sl (l.map imT))), (1, .t (.int .i64 act)), (5, .sl 9000 0 (base ++ evsR act r (l.take j)).length), (6, .t (.int .i64 r)), (8, .t (.int .i64 (j : Nat)))]) (fun j => [(9000, .live 4 (((base ++ evsR act r (l.take j)).map evT).map V.t) true false)]) ?_ (fun j hj => ?_)
     · have e0 : base ++ evsR act r (l.take 0) = base := by simp [evsR]
       simp only [e0]
       exact Weak.refl
     · have bj := evsR_le (act := act) (r := r) (l := l.take j)
       have bl : (base ++ evsR act r (l.take j)).length ≤ 300 := by
         rw [List.length_append]
         simp only [List.length_take] at bj
         omega
       by_cases hlt : j < l.length
       · obtain ⟨⟨xa, xs, xv, xp⟩, hx⟩ : ∃ x, l[j]? = some x := ⟨l[j], by simp [hlt]⟩
         have hxm : imM (xa, xs, xv, xp) := hm.2 _ (List.mem_of_getElem? hx)
         have hst := evsR_take (act := act) (r := r) hx
         simp only at hst
         have hO : base ++ evsR act r (l.take (j + 1)) = (base ++ evsR act r (l.take j)) ++ (if xa = (r : Int) then (if (r : Int) = 4 then (lnL xp).map (mkE 9 3 act) else [ofI (xa, xs, xv, xp) act]) else []) := by rw [hst, List.append_assoc]
         generalize base ++ evsR act r (l.take j) = L at *
         by_cases q : xa = (r : Int)
         · subst q
           by_cases r4 : r = 4
           · subst r4
             rw [if_pos rfl, if_pos (by rfl)] at hO
             have hO : base ++ evsR act 4 (l.take (j + 1)) = L ++ (lnL xp).map (mkE 9 3 act) := hO
             have hN : ct_lns.fs [.t (.agg [.int .i64 4, strT xs, .int .i64 xv, .sl (xp.map byteT)])] [] = some (.t (.sl ((lnL xp).map bsT)), []) := lns_eq hxm
             have ll := lnL_len (p := xp)
             have le := lnL_el (p := xp)
             have lp := hxm.2.1
             simp only at lp
             generalize lnL xp = N at *
             simp (disch := omega) only [go_sem, ↓reduceIte, Nat.reduceAdd, Nat.reduceEqDiff, Nat.reduceLeDiff, reduceCtorEq, ac_ref25_Events_L2, imT_def, hx, h5, hN, bne_self_eq_false]
             repeat refine And.intro rfl ?_
             refine loop_upto N.length (fun k => [(0, .t (.sl (l.map imT))), (1, .t (.int .i64 act)), (5, .sl 9000 0 (L ++ (N.take k).map (mkE 9 3 act)).length), (6, .t (.int .i64 4)), (8, .t (.int .i64 (j : Nat))), (9, .t (.sl (N.map bsT))), (10, .t (.int .i64 (k : Nat)))]) (fun k => [(9000, .live 4 (((L ++ (N.take k).map (mkE 9 3 act)).map evT).map V.t) true false)]) ?_ (fun k hk => ?_)
             · have e0 : L ++ (N.take 0).map (mkE 9 3 act) = L := by simp
               simp only [e0]
               refine Weak.rd id ?_ ?_ rfl
               all_goals simp (disch := omega) only [go_sem, ↓reduceIte, Nat.reduceAdd, Nat.reduceEqDiff, reduceCtorEq, id]
             · have bk : (L ++ (N.take k).map (mkE 9 3 act)).length ≤ 400 := by simp; omega
               by_cases hkl : k < N.length
               · obtain ⟨s, hs⟩ : ∃ s, N[k]? = some s := ⟨N[k], by simp [hkl]⟩
                 have hsl := le s (List.mem_of_getElem? hs)
                 have hM := makeO (r := 9) (k := 3) (act := act) (d := s) ⟨ha, by omega⟩
                 have hT : L ++ (N.take (k + 1)).map (mkE 9 3 act) = (L ++ (N.take k).map (mkE 9 3 act)) ++ [mkE 9 3 act s] := by rw [map_take_s hs, List.append_assoc]
                 generalize L ++ (N.take k).map (mkE 9 3 act) = M at *
                 generalize mkE 9 3 act s = e at *
                 simp (disch := omega) only [go_sem, ↓reduceIte, Nat.reduceAdd, Nat.reduceEqDiff, Nat.reduceLT, Nat.reduceLeDiff, reduceCtorEq, ac_ref25_Events_L3, bsT_def, hs, h3, hM, evT_c, evT_p]
                 refine ⟨hkl, Weak.rd (fun j => if j = 9000 then 94336 else j) ?_ ?_ rfl⟩
                 all_goals simp (disch := omega) only [go_sem, ↓reduceIte, Nat.reduceAdd, Nat.reduceEqDiff, reduceCtorEq, id, hT]
                 all_goals (have hq := congrArg List.length hT; simp only [List.length_append, List.length_cons, List.length_nil, List.length_map, List.length_take, sepN_len] at hq ⊢; omega)
               · have e : k = N.length := by omega
                 subst e
                 rw [List.take_length]
                 simp (disch := omega) only [go_sem, ↓reduceIte, Nat.reduceAdd, Nat.reduceEqDiff, reduceCtorEq, ac_ref25_Events_L3]
                 refine ⟨hlt, Weak.rd id ?_ ?_ rfl⟩
                 all_goals simp (disch := omega) only [go_sem, ↓reduceIte, Nat.reduceAdd, Nat.reduceEqDiff, reduceCtorEq, id, hO]
                 all_goals (have hq := congrArg List.length hO; simp only [List.length_append, List.length_cons, List.length_nil, List.length_map, List.length_take, sepN_len] at hq ⊢; omega)
           · have hE : ct_ofI.fs [.t (.agg [.int .i64 (r : Int), strT xs, .int .i64 xv, .sl (xp.map byteT)]), .t (.int .i64 act)] [] = some (.t (evT (ofI ((r : Int), xs, xv, xp) act)), []) := ofI_eq (x := ((r : Int), xs, xv, xp)) ⟨hxm, ha⟩
             have r4i : ¬ (r : Int) = 4 := by omega
             have r4b : ((r : Int) != 4) = true := by simpa using r4i
             rw [if_pos rfl, if_neg r4i] at hO
             generalize ofI ((r : Int), xs, xv, xp) act = e at *
             simp (disch := omega) only [go_sem, ↓reduceIte, Nat.reduceAdd, Nat.reduceEqDiff, Nat.reduceLT, Nat.reduceLeDiff, reduceCtorEq, ac_ref25_Events_L2, imT_def, hx, bne_self_eq_false, r4b, h4, hE, evT_c, evT_p]
             repeat refine And.intro rfl ?_
             refine ⟨hlt, Weak.rd (fun j => if j = 9000 then 73856 else j) ?_ ?_ rfl⟩
             all_goals simp (disch := omega) only [go_sem, ↓reduceIte, Nat.reduceAdd, Nat.reduceEqDiff, reduceCtorEq, id, hO]
             all_goals (have hq := congrArg List.length hO; simp only [List.length_append, List.length_cons, List.length_nil, List.length_map, List.length_take, sepN_len] at hq ⊢; omega)
         · rw [if_neg q, List.append_nil] at hO
           have qb : (xa != (r : Int)) = true := by simpa using q
           simp (disch := omega) only [go_sem, ↓reduceIte, Nat.reduceAdd, Nat.reduceEqDiff, Nat.reduceLeDiff, reduceCtorEq, ac_ref25_Events_L2, imT_def, hx, qb]
           refine ⟨hlt, Weak.rd id ?_ ?_ rfl⟩
           all_goals simp (disch := omega) only [go_sem, ↓reduceIte, Nat.reduceAdd, Nat.reduceEqDiff, reduceCtorEq, id, hO]
           all_goals (have hq := congrArg List.length hO; simp only [List.length_append, List.length_cons, List.length_nil, List.length_map, List.length_take, sepN_len] at hq ⊢; omega)
       · have e : j = l.length := by omega
         subst e
         rw [List.take_length] at bl ⊢
         subst hri
         rw [← hb] at bl ⊢
         simp (disch := omega) only [go_sem, ↓reduceIte, Nat.reduceAdd, Nat.reduceEqDiff, reduceCtorEq, ac_ref25_Events_L2]
         refine ⟨hi, Weak.rd id ?_ ?_ rfl⟩
         all_goals simp (disch := omega) only [go_sem, ↓reduceIte, Nat.reduceAdd, Nat.reduceEqDiff, reduceCtorEq, id]
   simp (disch := omega) only [go_sem, ↓reduceIte, Nat.reduceAdd, Nat.reduceEqDiff, Nat.reduceLeDiff, reduceCtorEq, ac_ref25_Events, h1, hC, a1, a3]
   refine loop_upto 4 (fun i => [(0, .t (.sl (l.map imT))), (1, .t (.int .i64 act)), (5, .sl 9000 0 (outE act l i).length), (6, .t (.int .i64 ((i + 1 : Nat) : Int)))]) (fun i => [(9000, .live 4 (((outE act l i).map evT).map V.t) true false)]) ?_ (fun i hi => ?_)
   · refine Weak.cv0 (hv := [(9000, .live 4 [] true false)]) (ho := []) id ?_ ?_ rfl rfl
     all_goals simp (disch := omega) only [go_sem, ↓reduceIte, Nat.reduceEqDiff, reduceCtorEq, id, outE]
   · rcases (show i = 0 ∨ i = 1 ∨ i = 2 ∨ i = 3 ∨ i = 4 by omega) with rfl | rfl | rfl | rfl | rfl
     · have hb : outE act l 0 = [] := rfl
       rw [hb]
       simp (disch := omega) only [go_sem, ↓reduceIte, Nat.reduceAdd, Nat.reduceEqDiff, Int.reduceLE, reduceCtorEq, ac_ref25_Events_L0]
       refine main 0 1 (by omega) rfl [] (by simp [outE]) (by simp) _ _ (Weak.rd id ?_ ?_ rfl)
       all_goals simp (disch := omega) only [go_sem, ↓reduceIte, Nat.reduceAdd, Nat.reduceEqDiff, reduceCtorEq, id]
     · have hb : outE act l 1 = evsR act 1 l := rfl
       rw [hb]
       simp (disch := omega) only [go_sem, ↓reduceIte, Nat.reduceEqDiff, Int.reduceLE, reduceCtorEq, ac_ref25_Events_L0]
       refine main 1 2 (by omega) rfl (evsR act 1 l) (by simp [outE]) (by omega) _ _ (Weak.rd id ?_ ?_ rfl)
       all_goals simp (disch := omega) only [go_sem, ↓reduceIte, Nat.reduceAdd, Nat.reduceEqDiff, reduceCtorEq, id]
     · have hb : outE act l 2 = evsR act 1 l ++ evsR act 2 l := rfl
       have h3' : outE act l 3 = ((evsR act 1 l ++ evsR act 2 l) ++ seps act) ++ evsR act 3 l := rfl
       have lb : (evsR act 1 l ++ evsR act 2 l).length ≤ 100 := by rw [List.length_append]; omega
       have hsp := sep_eq
       have l4 : sep4.length = 4 := rfl
       have t4 : List.take 4 sep4 = sep4 := rfl
       have hss : seps act = sepN act sep4 8 := rfl
       rw [hb]
       rw [hss] at h3'
       generalize evsR act 1 l ++ evsR act 2 l = S2 at *
       have hMk : ∀ k : Nat, _ := fun k => makeO (r := (k : Int)) (k := 2) (act := act) (d := sep4) ⟨ha, by rw [l4]; decide⟩
       generalize sep4 = P4 at *
       simp (disch := omega) only [go_sem, ↓reduceIte, Nat.reduceEqDiff, Int.reduceLE, reduceCtorEq, ac_ref25_Events_L0]
       refine loop_upto 8 (fun k => [(0, .t (.sl (l.map imT))), (1, .t (.int .i64 act)), (5, .sl 9000 0 (S2 ++ sepN act P4 k).length), (6, .t (.int .i64 3)), (7, .t (.int .i64 (k : Nat)))]) (fun k => [(9000, .live 4 (((S2 ++ sepN act P4 k).map evT).map V.t) true false)]) ?_ (fun k hk => ?_)
       · have e0 : S2 ++ sepN act P4 0 = S2 := by simp [sepN]
         simp only [e0]
         refine Weak.rd id ?_ ?_ rfl
         all_goals simp (disch := omega) only [go_sem, ↓reduceIte, Nat.reduceAdd, Nat.reduceEqDiff, reduceCtorEq, id]
       · have bk : (S2 ++ sepN act P4 k).length ≤ 200 := by rw [List.length_append, sepN_len]; omega
         by_cases hkl : k < 8
         · have hM := hMk k
           have hT : S2 ++ sepN act P4 (k + 1) = (S2 ++ sepN act P4 k) ++ [mkE (k : Int) 2 act P4] := by rw [sepN_s, List.append_assoc]
           generalize S2 ++ sepN act P4 k = M at *
           generalize mkE (k : Int) 2 act P4 = e at *
           simp (disch := omega) only [go_sem, ↓reduceIte, Nat.reduceAdd, Nat.reduceEqDiff, Nat.reduceLT, Nat.reduceLeDiff, reduceCtorEq, ac_ref25_Events_L1, h2, hsp, l4, t4, h3, hM, evT_c, evT_p]
           refine ⟨hkl, Weak.rd (fun j => if j = 9000 then 49248 else j) ?_ ?_ rfl⟩
           all_goals simp (disch := omega) only [go_sem, ↓reduceIte, Nat.reduceAdd, Nat.reduceEqDiff, reduceCtorEq, id, hT]
           all_goals (have hq := congrArg List.length hT; simp only [List.length_append, List.length_cons, List.length_nil, List.length_map, List.length_take, sepN_len] at hq ⊢; omega)
         · have e : k = 8 := by omega
           subst e
           simp (disch := omega) only [go_sem, ↓reduceIte, Nat.reduceAdd, Nat.reduceEqDiff, Int.reduceLT, reduceCtorEq, ac_ref25_Events_L1]
           refine main 2 3 (by omega) rfl _ h3' bk _ _ (Weak.rd id ?_ ?_ rfl)
           all_goals simp (disch := omega) only [go_sem, ↓reduceIte, Nat.reduceAdd, Nat.reduceEqDiff, reduceCtorEq, id]
     · have hb : outE act l 3 = (evsR act 1 l ++ evsR act 2 l) ++ seps act ++ evsR act 3 l := rfl
       have h4' : outE act l 4 = ((evsR act 1 l ++ evsR act 2 l) ++ seps act ++ evsR act 3 l) ++ evsR act 4 l := by simp [outE, evsC]
       have lb : ((evsR act 1 l ++ evsR act 2 l) ++ seps act ++ evsR act 3 l).length ≤ 200 := by simp only [List.length_append]; omega
       rw [hb]
       generalize (evsR act 1 l ++ evsR act 2 l) ++ seps act ++ evsR act 3 l = S3 at *
       simp (disch := omega) only [go_sem, ↓reduceIte, Nat.reduceEqDiff, Int.reduceLE, reduceCtorEq, ac_ref25_Events_L0]
       refine main 3 4 (by omega) rfl S3 h4' lb _ _ (Weak.rd id ?_ ?_ rfl)
       all_goals simp (disch := omega) only [go_sem, ↓reduceIte, Nat.reduceAdd, Nat.reduceEqDiff, reduceCtorEq, id]
     · have hb : outE act l 4 = evsC act l := rfl
       rw [hb]
       simp (disch := omega) only [go_sem, ↓reduceIte, Nat.reduceEqDiff, Nat.reduceLeDiff, Int.reduceLE, reduceCtorEq, ac_ref25_Events_L0, List.take_length]
 · have hr : evsI l act = [] := if_pos (.inl hz)
   rw [hr]
   have hz' : (chkC l != 0) = true := by simpa using hz
   simp (disch := omega) only [go_sem, ↓reduceIte, Nat.reduceAdd, Nat.reduceEqDiff, Nat.reduceLeDiff, reduceCtorEq, ac_ref25_Events, h1, hC, hz', List.map_nil]
theorem zEv {l : List Ev} : zOkT 4 (List.map evT l) = true := by
 unfold zOkT
 refine List.all_eq_true.2 fun x hx => ?_
 obtain ⟨e, -, rfl⟩ := List.mem_map.1 hx
 rfl
def stgS (A B C D : List Ev) : Hs := [(9001, .live 4 ((A.map evT).map V.t) true false), (9002, .live 4 ((B.map evT).map V.t) true false), (9003, .live 4 ((C.map evT).map V.t) true false), (9004, .live 4 ((D.map evT).map V.t) true false), (16384, .live 1 [.nil, .sl 9001 0 A.length, .sl 9002 0 B.length, .sl 9003 0 C.length, .sl 9004 0 D.length] true true)]
theorem w_predict_Events (tab : Tab) (gl : Gl) (n1 n2 n3 n4 n5 : Nat) (h1 : tab.look n1 = some ct_chc.fs) (h2 : tab.look n2 = some ct_ofI.fs) (h3 : tab.look n3 = some ct_lns.fs) (h4 : tab.look n4 = some ct_reg.fs) (h5 : tab.look n5 = some ct_make.fs) (l : List Im) (act : Int) (hm : imsM l) :
   (ac_predict_Events n1 n2 n3 n4 n5).wp tab gl (zipF 0 [.t (.sl (l.map imT)), .t (.int .i64 act)]) (zipF 0 []) (resW [(4, none)] 0 (fun r o => r = .t (.sl ((evsI l act).map evT)) ∧ o = [])) := by
 have hC := chc_eq hm
 by_cases a1 : act < 1
 · have hr : evsI l act = [] := if_pos (.inr (.inl a1))
   rw [hr]
   simp (disch := omega) only [go_sem, ↓reduceIte, Nat.reduceAdd, Nat.reduceEqDiff, reduceCtorEq, ac_predict_Events, h1, hC, a1, List.map_nil]
 by_cases a3 : 3 < act
 · have hr : evsI l act = [] := if_pos (.inr (.inr a3))
   rw [hr]
   simp (disch := omega) only [go_sem, ↓reduceIte, Nat.reduceAdd, Nat.reduceEqDiff, reduceCtorEq, ac_predict_Events, h1, hC, a1, a3, List.map_nil]
 by_cases hz : chkC l = 0
 · rw [hz] at hC
   obtain ⟨hok, hl1, hl8⟩ := chkC_ok hz
   have hr : evsI l act = evsC act l := by unfold evsI; rw [if_neg (by omega)]
   rw [hr]
   have ha : 0 ≤ act ∧ act < 4 := by omega
   have b1 := evsR_le (act := act) (r := 1) (l := l)
   have b2 := evsR_le (act := act) (r := 2) (l := l)
   have b3 := evsR_le (act := act) (r := 3) (l := l)
   have b4 := evsR_le (act := act) (r := 4) (l := l)
   simp (disch := omega) only [go_sem, ↓reduceIte, Nat.reduceAdd, Nat.reduceEqDiff, Nat.reduceLeDiff, reduceCtorEq, ac_predict_Events, h1, hC, a1, a3]
   refine loop_upto l.length (fun i => [(1, .t (.int .i64 act)), (5, .ref 16384 0 0), (23, .t (.sl (l.map imT))), (24, .t (.int .i64 l.length)), (25, .t (.int .i64 (i : Nat)))]) (fun i => stgS (evsR act 1 (l.take i)) (evsR act 2 (l.take i)) (evsR act 3 (l.take i)) (evsR act 4 (l.take i))) ?_ (fun i hi => ?_)
   · have e : ∀ r, evsR act r (l.take 0) = [] := fun r => rfl
     simp only [e]
     refine Weak.cv0 (hv := [(9001, .live 4 [] true false), (9002, .live 4 [] true false), (9003, .live 4 [] true false), (9004, .live 4 [] true false)]) (ho := [(16384, .live 1 [.nil, .sl 9001 0 0, .sl 9002 0 0, .sl 9003 0 0, .sl 9004 0 0] true true)]) id ?_ ?_ rfl rfl
     all_goals simp (disch := omega) only [go_sem, ↓reduceIte, Nat.reduceEqDiff, Nat.reduceBEq, reduceCtorEq, id]
   · by_cases hlt : i < l.length
     · obtain ⟨⟨xa, xs, xv, xp⟩, hx⟩ : ∃ x, l[i]? = some x := ⟨l[i], by simp [hlt]⟩
       have hxm : imM (xa, xs, xv, xp) := hm.2 _ (List.mem_of_getElem? hx)
       have hgood := (chkI_good (hok _ (List.mem_of_getElem? hx))).1
       have g1 := evsR_take (act := act) (r := 1) hx
       have g2 := evsR_take (act := act) (r := 2) hx
       have g3 := evsR_take (act := act) (r := 3) hx
       have g4 := evsR_take (act := act) (r := 4) hx
       have c1 := evsR_le (act := act) (r := 1) (l := l.take i)
       have c2 := evsR_le (act := act) (r := 2) (l := l.take i)
       have c3 := evsR_le (act := act) (r := 3) (l := l.take i)
       have c4 := evsR_le (act := act) (r := 4) (l := l.take i)
       rw [List.length_take] at c1 c2 c3 c4
       simp only at hgood g1 g2 g3 g4
       generalize evsR act 1 (l.take i) = A at *
       generalize evsR act 2 (l.take i) = B at *
       generalize evsR act 3 (l.take i) = C at *
       generalize evsR act 4 (l.take i) = D at *
       rcases (show xa = 1 ∨ xa = 2 ∨ xa = 3 ∨ xa = 4 by omega) with rfl | rfl | rfl | rfl
       · rw [if_pos rfl, if_neg (by decide)] at g1
         rw [if_neg (by decide), List.append_nil] at g2 g3 g4
         have hE : ct_ofI.fs [.t (.agg [.int .i64 1, strT xs, .int .i64 xv, .sl (xp.map byteT)]), .t (.int .i64 act)] [] = some (.t (evT (ofI (1, xs, xv, xp) act)), []) := ofI_eq (x := (1, xs, xv, xp)) ⟨hxm, ha⟩
         generalize ofI (1, xs, xv, xp) act = e at *
         simp (disch := omega) only [go_sem, ↓reduceIte, Nat.reduceAdd, Nat.reduceEqDiff, Nat.reduceLT, Nat.reduceLeDiff, Int.reduceLT, Int.reduceLE, ac_predict_Events_L0, stgS, imT_def, hx, h2, hE, evT_c, evT_p]
         repeat refine And.intro rfl ?_
         refine ⟨hlt, Weak.rd (fun j => if j = 9001 then 37024 else j) ?_ ?_ rfl⟩
         all_goals simp (disch := omega) only [go_sem, ↓reduceIte, Nat.reduceAdd, Nat.reduceEqDiff, Nat.reduceBEq, id, stgS, g1, g2, g3, g4]
         all_goals (have hq := congrArg List.length g1; simp only [List.length_append, List.length_cons, List.length_nil] at hq ⊢; omega)
       · rw [if_pos rfl, if_neg (by decide)] at g2
         rw [if_neg (by decide), List.append_nil] at g1 g3 g4
         have hE : ct_ofI.fs [.t (.agg [.int .i64 2, strT xs, .int .i64 xv, .sl (xp.map byteT)]), .t (.int .i64 act)] [] = some (.t (evT (ofI (2, xs, xv, xp) act)), []) := ofI_eq (x := (2, xs, xv, xp)) ⟨hxm, ha⟩
         generalize ofI (2, xs, xv, xp) act = e at *
         simp (disch := omega) only [go_sem, ↓reduceIte, Nat.reduceAdd, Nat.reduceEqDiff, Nat.reduceLT, Nat.reduceLeDiff, Int.reduceLT, Int.reduceLE, ac_predict_Events_L0, stgS, imT_def, hx, h2, hE, evT_c, evT_p]
         repeat refine And.intro rfl ?_
         refine ⟨hlt, Weak.rd (fun j => if j = 9002 then 37024 else j) ?_ ?_ rfl⟩
         all_goals simp (disch := omega) only [go_sem, ↓reduceIte, Nat.reduceAdd, Nat.reduceEqDiff, Nat.reduceBEq, id, stgS, g1, g2, g3, g4]
         all_goals (have hq := congrArg List.length g2; simp only [List.length_append, List.length_cons, List.length_nil] at hq ⊢; omega)
       · rw [if_pos rfl, if_neg (by decide)] at g3
         rw [if_neg (by decide), List.append_nil] at g1 g2 g4
         have hE : ct_ofI.fs [.t (.agg [.int .i64 3, strT xs, .int .i64 xv, .sl (xp.map byteT)]), .t (.int .i64 act)] [] = some (.t (evT (ofI (3, xs, xv, xp) act)), []) := ofI_eq (x := (3, xs, xv, xp)) ⟨hxm, ha⟩
         generalize ofI (3, xs, xv, xp) act = e at *
         simp (disch := omega) only [go_sem, ↓reduceIte, Nat.reduceAdd, Nat.reduceEqDiff, Nat.reduceLT, Nat.reduceLeDiff, Int.reduceLT, Int.reduceLE, ac_predict_Events_L0, stgS, imT_def, hx, h2, hE, evT_c, evT_p]
         repeat refine And.intro rfl ?_
         refine ⟨hlt, Weak.rd (fun j => if j = 9003 then 37024 else j) ?_ ?_ rfl⟩
         all_goals simp (disch := omega) only [go_sem, ↓reduceIte, Nat.reduceAdd, Nat.reduceEqDiff, Nat.reduceBEq, id, stgS, g1, g2, g3, g4]
         all_goals (have hq := congrArg List.length g3; simp only [List.length_append, List.length_cons, List.length_nil] at hq ⊢; omega)
       · rw [if_pos rfl, if_pos trivial] at g4
         rw [if_neg (by decide), List.append_nil] at g1 g2 g3
         have hN : ct_lns.fs [.t (.agg [.int .i64 4, strT xs, .int .i64 xv, .sl (xp.map byteT)])] [] = some (.t (.sl ((lnL xp).map bsT)), []) := lns_eq hxm
         have ll := lnL_len (p := xp)
         have le := lnL_el (p := xp)
         have lp := hxm.2.1
         simp only at lp g4
         generalize lnL xp = N at *
         have hRg : ct_reg.fs [.t (.int .i64 4)] [] = some (.t (.int .i64 9), []) := reg_eq (a := 4)
         simp (disch := omega) only [go_sem, ↓reduceIte, Nat.reduceAdd, Nat.reduceEqDiff, Nat.reduceLeDiff, ac_predict_Events_L0, stgS, imT_def, hx, h3, hN]
         repeat refine And.intro rfl ?_
         refine loop_upto N.length (fun k => [(1, .t (.int .i64 act)), (5, .ref 16384 0 0), (7, .ref 28704 0 0), (23, .t (.sl (l.map imT))), (24, .t (.int .i64 l.length)), (25, .t (.int .i64 (i : Nat))), (45, .t (.sl (N.map bsT))), (46, .t (.int .i64 N.length)), (47, .t (.int .i64 (k : Nat)))]) (fun k => (28704, .live 4 [.t (.agg [.int .i64 4, strT xs, .int .i64 xv, .sl (xp.map byteT)])] true true) :: stgS A B C (D ++ (N.take k).map (mkE 9 3 act))) ?_ (fun k hk => ?_)
         · have e0 : D ++ (N.take 0).map (mkE 9 3 act) = D := by simp
           simp only [e0, stgS]
           refine Weak.rd id ?_ ?_ rfl
           all_goals simp (disch := omega) only [go_sem, ↓reduceIte, Nat.reduceAdd, Nat.reduceEqDiff, Nat.reduceBEq, id]
         · have bk : (D ++ (N.take k).map (mkE 9 3 act)).length ≤ 400 := by simp; omega
           by_cases hkl : k < N.length
           · obtain ⟨s, hs⟩ : ∃ s, N[k]? = some s := ⟨N[k], by simp [hkl]⟩
             have hsl := le s (List.mem_of_getElem? hs)
             have hM := makeO (r := 9) (k := 3) (act := act) (d := s) ⟨ha, by omega⟩
             have hT : D ++ (N.take (k + 1)).map (mkE 9 3 act) = (D ++ (N.take k).map (mkE 9 3 act)) ++ [mkE 9 3 act s] := by rw [map_take_s hs, List.append_assoc]
             generalize D ++ (N.take k).map (mkE 9 3 act) = M at *
             generalize mkE 9 3 act s = e at *
             simp (disch := omega) only [go_sem, ↓reduceIte, Nat.reduceAdd, Nat.reduceEqDiff, Nat.reduceLT, Nat.reduceLeDiff, Int.reduceLT, Int.reduceLE, ac_predict_Events_L1, stgS, bsT_def, hs, h4, hRg, h5, hM, evT_c, evT_p]
             repeat refine And.intro rfl ?_
             refine ⟨hkl, Weak.rd (fun j => if j = 9004 then 53456 else j) ?_ ?_ rfl⟩
             all_goals simp (disch := omega) only [go_sem, ↓reduceIte, Nat.reduceAdd, Nat.reduceEqDiff, Nat.reduceBEq, id, stgS, hT]
             all_goals (have hq := congrArg List.length hT; simp only [List.length_append, List.length_cons, List.length_nil, List.length_map, List.length_take] at hq ⊢; omega)
           · have e : k = N.length := by omega
             subst e
             rw [List.take_length]
             simp (disch := omega) only [go_sem, ↓reduceIte, Nat.reduceAdd, Nat.reduceEqDiff, ac_predict_Events_L1, stgS]
             refine ⟨hlt, Weak.rd id ?_ ?_ rfl⟩
             all_goals simp (disch := omega) only [go_sem, ↓reduceIte, Nat.reduceAdd, Nat.reduceEqDiff, Nat.reduceBEq, id, stgS, g1, g2, g3, g4]
             all_goals (have hq := congrArg List.length g4; simp only [List.length_append, List.length_cons, List.length_nil, List.length_map, List.length_take] at hq ⊢; omega)
     · have e : i = l.length := by omega
       subst e
       have hEv : evsC act l = ((evsR act 1 l ++ evsR act 2 l) ++ sepN act sep4 8) ++ (evsR act 3 l ++ evsR act 4 l) := rfl
       rw [List.take_length, hEv]
       generalize evsR act 1 l = A at *
       generalize evsR act 2 l = B at *
       generalize evsR act 3 l = C at *
       generalize evsR act 4 l = D at *
       have l4 : sep4.length = 4 := rfl
       have hMk : ∀ k : Nat, ct_make.fs [.t (.int .i64 (k : Int)), .t (.int .i64 2), .t (.int .i64 act), .t (.sl [byteT 0, byteT 0, byteT 0, byteT 0])] [] = some (.t (evT (mkE (k : Int) 2 act sep4)), []) := fun k => makeO (r := (k : Int)) (k := 2) (act := act) (d := sep4) ⟨ha, by rw [l4]; decide⟩
       have hAB : (A ++ B).length ≤ 70 := by rw [List.length_append]; omega
       simp (disch := omega) only [go_sem, ↓reduceIte, Nat.reduceAdd, Nat.reduceEqDiff, Nat.reduceLeDiff, Int.reduceLT, Int.reduceLE, ac_predict_Events_L0, stgS, zEv]
       repeat refine And.intro rfl ?_
       refine loop_upto 8 (fun k => [(1, .t (.int .i64 act)), (5, .ref 16384 0 0), (10, .sl 9005 0 ((A ++ B) ++ sepN act sep4 k).length), (73, .t (.int .i64 (k : Nat)))]) (fun k => [(9005, .live 4 ((((A ++ B) ++ sepN act sep4 k).map evT).map V.t) true false), (9001, .dead), (9002, .live 4 ((B.map evT).map V.t) true false), (9003, .live 4 ((C.map evT).map V.t) true false), (9004, .live 4 ((D.map evT).map V.t) true false), (16384, .live 1 [.nil, .sl 9001 0 A.length, .sl 9002 0 B.length, .sl 9003 0 C.length, .sl 9004 0 D.length] true true)]) ?_ (fun k hk => ?_)
       · have e0 : (A ++ B) ++ sepN act sep4 0 = A ++ B := by simp [sepN]
         simp only [e0]
         refine Weak.rd (fun j => if j = 9005 then 65600 else j) ?_ ?_ rfl
         all_goals simp (disch := omega) only [go_sem, ↓reduceIte, Nat.reduceAdd, Nat.reduceEqDiff, Nat.reduceBEq, id]
       · have bk : ((A ++ B) ++ sepN act sep4 k).length ≤ 200 := by rw [List.length_append, sepN_len]; omega
         by_cases hkl : k < 8
         · have hM := hMk k
           have hT : (A ++ B) ++ sepN act sep4 (k + 1) = ((A ++ B) ++ sepN act sep4 k) ++ [mkE (k : Int) 2 act sep4] := by rw [sepN_s, ← List.append_assoc]
           generalize (A ++ B) ++ sepN act sep4 k = M at *
           generalize mkE (k : Int) 2 act sep4 = e at *
           simp (disch := omega) only [go_sem, ↓reduceIte, Nat.reduceAdd, Nat.reduceEqDiff, Nat.reduceLT, Nat.reduceLeDiff, Int.reduceLE, ac_predict_Events_L2, h5, hM, evT_c, evT_p]
           repeat refine And.intro rfl ?_
           refine ⟨hkl, Weak.rd (fun j => if j = 9005 then 82016 else j) ?_ ?_ rfl⟩
           all_goals simp (disch := omega) only [go_sem, ↓reduceIte, Nat.reduceAdd, Nat.reduceEqDiff, Nat.reduceBEq, id, hT]
           all_goals (have hq := congrArg List.length hT; simp only [List.length_append, List.length_cons, List.length_nil, sepN_len] at hq ⊢; omega)
         · have e : k = 8 := by omega
           subst e
           have hfin : ((A ++ B) ++ sepN act sep4 8) ++ (C ++ D) = (((A ++ B) ++ sepN act sep4 8) ++ C) ++ D := by rw [List.append_assoc _ C D]
           rw [hfin]
           generalize (A ++ B) ++ sepN act sep4 8 = M at *
           have tk : List.take (M.length + C.length + D.length) (M ++ C ++ D) = M ++ C ++ D := List.take_of_length_le (by simp only [List.length_append]; omega)
           simp (disch := omega) only [go_sem, ↓reduceIte, Nat.reduceAdd, Nat.reduceEqDiff, Nat.reduceLeDiff, Int.reduceLT, Int.reduceLE, ac_predict_Events_L2, zEv, tk]
 · have hr : evsI l act = [] := if_pos (.inl hz)
   rw [hr]
   have hz' : (chkC l != 0) = true := by simpa using hz
   simp (disch := omega) only [go_sem, ↓reduceIte, Nat.reduceAdd, Nat.reduceEqDiff, Nat.reduceLeDiff, reduceCtorEq, ac_predict_Events, h1, hC, a1, a3, hz', List.map_nil]
def eqv (x y : Rg) (g : Nat) : Prop := valL x.1 0 g = valL y.1 0 g ∧ valL x.1 1 g = valL y.1 1 g
instance {x y : Rg} {g : Nat} : Decidable (eqv x y g) := by unfold eqv; infer_instance
theorem eqv.symm {x y : Rg} {g : Nat} (h : eqv x y g) : eqv y x g := ⟨h.1.symm, h.2.symm⟩
theorem eqv.trans {x y z : Rg} {g : Nat} (h : eqv x y g) (k : eqv y z g) : eqv x z g := ⟨h.1.trans k.1, h.2.trans k.2⟩
def isG (g : Nat) (e : Ev) : Prop := e.2.1 ≠ 5 ∧ e.1 = g
instance {g : Nat} {e : Ev} : Decidable (isG g e) := by unfold isG; infer_instance
theorem rpE_ok {act : Int} (ha : 1 ≤ act ∧ act ≤ 3) {es : List Ev} (hv : ∀ e ∈ es, evV act e) : rpE act es = 0 := by
 unfold rpE
 rw [if_neg (by omega)]
 exact firstE_all (fun e he => (hv e he).1)
def prE (l : List Im) (act : Int) : Int := if chkC l ≠ 0 then chkC l else if act < 1 ∨ 3 < act then 1 else 0
def prG (l : List Im) (act : Int) : Rg := if prE l act = 0 then rpF act (evsC act l) else ([], 0)
theorem prE_ok {l : List Im} {act : Int} (h : prE l act = 0) : chkC l = 0 ∧ 1 ≤ act ∧ act ≤ 3 := by
 unfold prE at h
 split at h
 · contradiction
 · split at h
   · contradiction
   · omega
def imgs (l : List Im) : List Im := l.filter fun x => decide (x.1 ≠ 4)
def fewIm (x : Im) : Im := (x.1, x.2.1, x.2.2.1, x.2.2.2.take 100)
def fewC (l : List Im) : List Im := (l.take 12).map fewIm
theorem fewC_m {l : List Im} (h : imsX l) : imsM (fewC l) := by
 refine ⟨?_, fun x hx => ?_⟩
 · unfold fewC; rw [List.length_map, List.length_take]; omega
 · unfold fewC at hx
   obtain ⟨y, hy, rfl⟩ := List.mem_map.1 hx
   have := h.2 y (List.mem_of_mem_take hy)
   refine ⟨this.2.2.1, ?_, this.1, this.2.1⟩
   show (y.2.2.2.take 100).length < 1000000000
   rw [List.length_take]; omega
def ct_few29 : Ct where
 α := List Im
 as x := [.t (.sl (x.map imT))]
 ins _ := []
 pre x := imsX x
 r x := .t (.sl ((fewC x).map imT))
 outs _ := []
 inj := by
   intro a b h _
   simp only [List.cons.injEq, V.t.injEq, T.sl.injEq, and_true, mapI_inj] at h
   subst h; exact ⟨rfl, rfl⟩
theorem few29_eq {l : List Im} (h : imsX l) : ct_few29.fs [.t (.sl (l.map imT))] [] = some (.t (.sl ((fewC l).map imT)), []) := ct_few29.eq l h
def fewJ (l : List Im) (i : Nat) : List Im := (l.take i).map fewIm ++ l.drop i
theorem fewJ_len {l : List Im} {i : Nat} (h : i ≤ l.length) : (fewJ l i).length = l.length := by unfold fewJ; simp; omega
theorem dropI_at {es : List Im} {i : Nat} {e : Im} (h : es[i]? = some e) : es.drop i = e :: es.drop (i + 1) := by
 obtain ⟨hl, he⟩ := List.getElem?_eq_some_iff.1 h
 rw [List.drop_eq_getElem_cons hl, he]
theorem fewJ_get {l : List Im} {i : Nat} {e : Im} (h : l[i]? = some e) : (fewJ l i)[i]? = some e := by
 have hl := (List.getElem?_eq_some_iff.1 h).1
 unfold fewJ
 rw [List.getElem?_append_right (by simp; omega), List.length_map, List.length_take, Nat.min_eq_left (by omega), Nat.sub_self, List.getElem?_drop, Nat.add_zero, h]
theorem fewJ_set {l : List Im} {i : Nat} {e : Im} (h : l[i]? = some e) : (fewJ l i).set i (fewIm e) = fewJ l (i + 1) := by
 have hl := (List.getElem?_eq_some_iff.1 h).1
 unfold fewJ
 have h1 : ((l.take i).map fewIm).length = i := by simp; omega
 rw [List.set_append_right _ _ (by omega), h1, Nat.sub_self, dropI_at h, List.set_cons_zero, List.take_add_one, h]
 simp
theorem w_law29_few (tab : Tab) (gl : Gl) (n1 : Nat) (h1 : tab.look n1 = some ct_cut.fs) (es : List Im) (hx : imsX es) :
   (ac_law29_few n1).wp tab gl (zipF 0 [.t (.sl (es.map imT))]) (zipF 0 []) (resW [(2, none)] 0 (fun r o => r = .t (.sl ((fewC es).map imT)) ∧ o = [])) := by
 have hlx := hx.1
 have fin : ∀ (l : List Im), l.length ≤ 12 → (∀ e ∈ l, imX e) → fewC es = l.map fewIm → ∀ (fs : Fs) (hs : Hs), Weak fs hs [(3, .sl 16416 0 l.length), (4, .t (.int .i64 0))] [(16416, .live 4 ((l.map imT).map V.t) true false)] →
     loopW tab gl (ac_law29_few_L0 n1) fs hs (blockK 0 (seqK tab gl ((rG 36864 [mv 29 3, mv 2 29]).seq .ret) (resW [(2, none)] 0 (fun r o => r = .t (.sl ((fewC es).map imT)) ∧ o = [])))) := by
   intro l hl hlv hf fs hs hw
   refine loopW_weak hw ?_
   rw [hf]
   refine loop_upto l.length (fun i => [(3, .sl 16416 0 l.length), (4, .t (.int .i64 (i : Nat)))]) (fun i => [(16416, .live 4 (((fewJ l i).map imT).map V.t) true false)]) ?_ (fun i hi => ?_)
   · have e0 : fewJ l 0 = l := by simp [fewJ]
     simp only [e0]
     exact Weak.refl
   · have hlen := fewJ_len hi
     by_cases hlt : i < l.length
     · obtain ⟨⟨xa, xs, xv, xp⟩, he⟩ : ∃ e, l[i]? = some e := ⟨l[i], by simp [hlt]⟩
       have hev := hlv _ (List.mem_of_getElem? he)
       have hg := fewJ_get he
       have hst := fewJ_set he
       have hc : ct_cut.fs [.t (.sl (xp.map byteT)), .t (.int .i64 100)] [] = _ := cut_eq (b := xp) (n := 100) ⟨hev.2.2.2, by omega⟩
       have hfe : fewIm (xa, xs, xv, xp) = (xa, xs, xv, xp.take 100) := rfl
       rw [hfe] at hst
       have hset : List.set ((fewJ l i).map imT) i (.agg [.int .i64 xa, strT xs, .int .i64 xv, .sl ((xp.take 100).map byteT)]) = (fewJ l (i + 1)).map imT := by
         rw [← hst, List.map_set]; rfl
       generalize hL : fewJ l i = L at *
       simp (disch := omega) only [go_sem, ↓reduceIte, Nat.reduceAdd, Nat.reduceEqDiff, Nat.reduceLeDiff, reduceCtorEq, ac_law29_few_L0, hg, imT_def, h1, hc]
       refine ⟨hlt, Weak.rd id ?_ ?_ rfl⟩
       all_goals simp (disch := omega) only [go_sem, ↓reduceIte, Nat.reduceAdd, Nat.reduceEqDiff, id, hset]
     · have e : i = l.length := by omega
       subst e
       have e1 : fewJ l l.length = l.map fewIm := by simp [fewJ]
       rw [e1] at hlen ⊢
       generalize l.map fewIm = L at *
       have tL : List.take l.length L = L := List.take_of_length_le (by omega)
       simp (disch := omega) only [go_sem, ↓reduceIte, Nat.reduceAdd, Nat.reduceEqDiff, Nat.reduceLeDiff, ac_law29_few_L0, tL]
 by_cases h50 : 12 < es.length
 · have hl : (es.take 12).length = 12 := by rw [List.length_take]; omega
   have hv : ∀ e ∈ es.take 12, imX e := fun e he => hx.2 e (List.mem_of_mem_take he)
   generalize hQ : es.take 12 = Q at *
   have hf : fewC es = Q.map fewIm := by unfold fewC; rw [hQ]
   simp (disch := omega) only [go_sem, ↓reduceIte, Nat.reduceAdd, Nat.reduceEqDiff, Nat.reduceMul, Nat.reduceLeDiff, Int.reduceLE, reduceCtorEq, ac_law29_few, h50, hQ, hl, zI]
   refine fin Q (by omega) hv hf _ _ (Weak.rd id ?_ ?_ rfl)
   all_goals simp (disch := omega) only [go_sem, ↓reduceIte, Nat.reduceAdd, Nat.reduceEqDiff, id, hl]
 · have hf : fewC es = es.map fewIm := by unfold fewC; rw [List.take_of_length_le (by omega)]
   simp (disch := omega) only [go_sem, ↓reduceIte, Nat.reduceAdd, Nat.reduceEqDiff, Nat.reduceLeDiff, reduceCtorEq, ac_law29_few, h50, zI]
   refine fin es (by omega) hx.2 hf _ _ (Weak.rd id ?_ ?_ rfl)
   all_goals simp (disch := omega) only [go_sem, ↓reduceIte, Nat.reduceAdd, Nat.reduceEqDiff, id]
end Go.Eng
end
section
namespace Go.Eng
def ac_replay_Registers_L0 (n_event_Check n_registers_Extend : Nat) : AC :=
 (.seq
 (rG 24576 [bT 24 .lss 23 22])
 (.seq
 (.cond (.tmp 24)
 .skip
 (.exit 0))
 (.seq
 (.block 1
 (.seq
 (rG 28672 [oO 25 (.iaddr 4) [.tmp 21, .tmp 23],oO 26 (.load 4 true) [.tmp 25],oO 6 (.new 4 [(.agg [(.t (.int .i64 0)), (.t (.int .i64 0)), .nil, .nil])]) [],oS 4 6 26])
 (.seq
 (rG 32768 [oO 27 (.load 4 true) [.tmp 6],oO 28 (.faddr 0) [.tmp 1],oO 29 (.load 1 false) [.tmp 28],cL 30 n_event_Check false [.tmp 27, .tmp 29],mv 7 30])
 (.seq
 (.seq
 (rG 36864 [mv 31 7,bN 32 .eql 31 0,mv 33 32,oG 34 33 (.faddr 1) [.tmp 6],oG 35 33 (.load 1 false) [.tmp 34],oG 36 33 (.bin .neq) [.tmp 35, .cst (.t (.int .i64 5))],oO 37 .pick [.tmp 33, .tmp 36, .cst (.t (.bool false))]])
 (.cond (.tmp 37)
 (rG 40960 [oO 39 (.load 2 true) [.tmp 4],oO 40 (.faddr 0) [.tmp 6],oO 41 (.load 1 false) [.tmp 40],oO 42 (.faddr 2) [.tmp 6],oO 43 (.load 1 false) [.tmp 42],cL 44 n_registers_Extend true [.tmp 39, .cst (.t (.int .i64 0)), .tmp 41, .tmp 43],mv 38 44,oO 45 (.extract 0) [.tmp 38],oO 46 (.extract 1) [.tmp 38],oS 2 4 45,mv 7 46])
 .skip))
 (.seq
 (rG 45056 [mv 47 7,bN 48 .neq 47 0])
 (.cond (.tmp 48)
 (.seq
 (rG 49152 [oO 49 (.build [.nil, (.t (.int .i64 0))] []) [],mv 50 7,oS 2 2 49,mv 3 50])
 .ret)
 .skip))))))
 (rG 53248 [bN 51 .add 23 1,mv 23 51]))))
def ac_replay_Registers (n_registers_New n_event_Check n_registers_Extend : Nat) : AC :=
 (.seq
 (rG 4096 [oO 1 .box [.tmp 0],oO 2 (.new 2 [(.agg [.nil, (.t (.int .i64 0))])]) [],mC 3 (.t (.int .i64 0))])
 (.seq
 (.seq
 (rG 8192 [oO 8 (.faddr 0) [.tmp 1],oO 9 (.load 1 false) [.tmp 8],bN 10 .lss 9 1,mv 11 10,oF 12 11 (.faddr 0) [.tmp 1],oF 13 11 (.load 1 false) [.tmp 12],oF 14 11 (.bin .gtr) [.tmp 13, .cst (.t (.int .i64 3))],oO 15 .pick [.tmp 11, .cst (.t (.bool true)), .tmp 14]])
 (.cond (.tmp 15)
 (.seq
 (rG 12288 [oO 16 (.build [.nil, (.t (.int .i64 0))] []) [],oS 2 2 16,mC 3 (.t (.int .i64 1))])
 .ret)
 .skip))
 (.seq
 (rG 16384 [oO 17 (.faddr 0) [.tmp 1],oO 18 (.load 1 false) [.tmp 17],cL 19 n_registers_New true [.tmp 18],oO 4 (.new 2 [(.agg [.nil, (.t (.int .i64 0))])]) [],oS 2 4 19])
 (.seq
 (.seq
 (rG 20480 [oO 20 (.faddr 2) [.tmp 1],oO 21 (.load 1 false) [.tmp 20],oO 22 .len [.tmp 21],mC 23 (.t (.int .i64 0))])
 (.block 0
 (.loop (ac_replay_Registers_L0 n_event_Check n_registers_Extend))))
 (.seq
 (rG 57344 [oO 52 (.load 2 true) [.tmp 4],oS 2 2 52,mC 3 (.t (.int .i64 0))])
 .ret)))))
def hints_replay_Registers : List (Nat × List Nat) := [(3, [2]), (9, [5])]
def ac_ref25_Replay_L0 (n_ref25_Event : Nat) : AC :=
 (.seq
 (.seq
 (rG 20480 [mv 17 4,oO 18 (.faddr 2) [.tmp 1],oO 19 (.load 1 false) [.tmp 18],oO 20 .len [.tmp 19],bT 21 .lss 17 20])
 (.cond (.tmp 21)
 .skip
 (.exit 0)))
 (.seq
 (.block 1
 (.seq
 (.reg 28672 (some [0, 1, 0, 7, 15, 0, 32, 127, 255]) [oO 24 (.faddr 2) [.tmp 1],oO 25 (.load 1 false) [.tmp 24],mv 26 4,oO 27 (.iaddr 4) [.tmp 25, .tmp 26],oO 28 (.load 4 true) [.tmp 27],oO 29 (.faddr 0) [.tmp 1],oO 30 (.load 1 false) [.tmp 29],cL 31 n_ref25_Event false [.tmp 28, .tmp 30],mv 5 31])
 (.seq
 (rG 32768 [mv 32 5,bN 33 .neq 32 0])
 (.cond (.tmp 33)
 (.seq
 (rG 36864 [oO 34 (.build [.nil, (.t (.int .i64 0))] []) [],mv 35 5,oS 2 2 34,mv 3 35])
 .ret)
 .skip))))
 (rG 24576 [mv 22 4,bN 23 .add 22 1,mv 4 23])))
def ac_ref25_Replay_L1 (n_ref8_Extend : Nat) : AC :=
 (.seq
 (.seq
 (rG 49152 [mv 39 7,oO 40 (.faddr 2) [.tmp 1],oO 41 (.load 1 false) [.tmp 40],oO 42 .len [.tmp 41],bT 43 .lss 39 42])
 (.cond (.tmp 43)
 .skip
 (.exit 2)))
 (.seq
 (.block 3
 (.seq
 (rG 57344 [oO 46 (.faddr 2) [.tmp 1],oO 47 (.load 1 false) [.tmp 46],mv 48 7,oO 49 (.iaddr 4) [.tmp 47, .tmp 48],oO 50 (.faddr 1) [.tmp 49],oO 51 (.load 1 false) [.tmp 50],bN 52 .neq 51 5])
 (.cond (.tmp 52)
 (.reg 61440 (some [0, 0, 2, 0, 14, 30, 62, 0, 128, 0, 896, 1920, 3968, 8191, 16383, 32767, 32767, 65535]) [oO 54 (.load 2 true) [.tmp 6],oO 55 (.faddr 2) [.tmp 1],oO 56 (.load 1 false) [.tmp 55],mv 57 7,oO 58 (.iaddr 4) [.tmp 56, .tmp 57],oO 59 (.faddr 0) [.tmp 58],oO 60 (.load 1 false) [.tmp 59],oO 61 (.faddr 2) [.tmp 1],oO 62 (.load 1 false) [.tmp 61],mv 63 7,oO 64 (.iaddr 4) [.tmp 62, .tmp 63],oO 65 (.faddr 2) [.tmp 64],oO 66 (.load 1 false) [.tmp 65],cL 67 n_ref8_Extend true [.tmp 54, .cst (.t (.int .i64 0)), .tmp 60, .tmp 66],mv 53 67,oO 68 (.extract 0) [.tmp 53],oO 69 (.extract 1) [.tmp 53],oS 2 6 68])
 .skip)))
 (rG 53248 [mv 44 7,bN 45 .add 44 1,mv 7 45])))
def ac_ref25_Replay (n_ref25_Event n_ref8_New n_ref8_Extend : Nat) : AC :=
 (.seq
 (rG 4096 [oO 1 .box [.tmp 0],oO 2 (.new 2 [(.agg [.nil, (.t (.int .i64 0))])]) [],mC 3 (.t (.int .i64 0))])
 (.seq
 (.seq
 (rG 8192 [oO 8 (.faddr 0) [.tmp 1],oO 9 (.load 1 false) [.tmp 8],bN 10 .lss 9 1,mv 11 10,oF 12 11 (.faddr 0) [.tmp 1],oF 13 11 (.load 1 false) [.tmp 12],oF 14 11 (.bin .gtr) [.tmp 13, .cst (.t (.int .i64 3))],oO 15 .pick [.tmp 11, .cst (.t (.bool true)), .tmp 14]])
 (.cond (.tmp 15)
 (.seq
 (rG 12288 [oO 16 (.build [.nil, (.t (.int .i64 0))] []) [],oS 2 2 16,mC 3 (.t (.int .i64 1))])
 .ret)
 .skip))
 (.seq
 (.seq
 (rG 16384 [mC 4 (.t (.int .i64 0))])
 (.block 0
 (.loop (ac_ref25_Replay_L0 n_ref25_Event))))
 (.seq
 (rG 40960 [oO 36 (.faddr 0) [.tmp 1],oO 37 (.load 1 false) [.tmp 36],cL 38 n_ref8_New true [.tmp 37],oO 6 (.new 2 [(.agg [.nil, (.t (.int .i64 0))])]) [],oS 2 6 38])
 (.seq
 (.seq
 (rG 45056 [mC 7 (.t (.int .i64 0))])
 (.block 2
 (.loop (ac_ref25_Replay_L1 n_ref8_Extend))))
 (.seq
 (rG 65536 [oO 70 (.load 2 true) [.tmp 6],oS 2 2 70,mC 3 (.t (.int .i64 0))])
 .ret))))))
def hints_ref25_Replay : List (Nat × List Nat) := [(9, [2]), (14, [13])]
end Go.Eng
end
section
set_option maxRecDepth 20000
set_option maxHeartbeats 64000000
namespace Go.Eng
theorem w_ref8_Digest (tab : Tab) (gl : Gl) (n1 n2 n3 : Nat) (h1 : tab.look n1 = some ct_actv.fs) (h2 : tab.look n2 = some ct_uint.fs) (h3 : tab.look n3 = some ct_hash.fs) (bk : List Bank) (u s0 s1 : Int) (hv : RV bk) :
   (ac_ref8_Digest n1 n2 n3).wp tab gl (zipF 0 [.t (regT bk u), .t (.agg [.int .i64 s0, .int .i64 s1])]) (zipF 0 []) (resF [] [(4, none), (5, none)] 0 (fun r o => r = digR bk s0 s1 ∧ o = digO bk s0 s1)) := by
 have hm := hv.rm
 simp (disch := omega) only [go_sem, ↓reduceIte, Nat.reduceAdd, Nat.reduceEqDiff, Nat.reduceLeDiff, reduceCtorEq, ac_ref8_Digest]
 by_cases b0 : badS s0
 · have hE : digE bk s0 s1 = 1 := by unfold digE; rw [if_pos (.inl b0)]
   rw [digR, digO, hE]
   unfold badS at b0
   refine loop_fuel 1 ?_
   by_cases c0 : s0 < 0
   · simp (disch := omega) only [go_sem, ↓reduceIte, Nat.reduceAdd, Nat.reduceEqDiff, Nat.reduceLeDiff, Int.reduceEq, Int.reduceLT, Int.reduceLE, loopN_succ, ac_ref8_Digest_L0, c0]
   · simp (disch := omega) only [go_sem, ↓reduceIte, Nat.reduceAdd, Nat.reduceEqDiff, Nat.reduceLeDiff, Int.reduceEq, Int.reduceLT, Int.reduceLE, loopN_succ, ac_ref8_Digest_L0, c0]
 have hb0 : ¬ s0 < 0 ∧ ¬ 65535 < s0 := by unfold badS at b0; omega
 obtain ⟨c0, d0⟩ := hb0
 by_cases b1 : badS s1
 · have hE : digE bk s0 s1 = 1 := by unfold digE; rw [if_pos (.inr b1)]
   rw [digR, digO, hE]
   unfold badS at b1
   refine loop_fuel 2 ?_
   by_cases c1 : s1 < 0
   · simp (disch := omega) only [go_sem, ↓reduceIte, Nat.reduceAdd, Nat.reduceEqDiff, Nat.reduceLeDiff, Int.reduceEq, Int.reduceLT, Int.reduceLE, Int.reduceAdd, loopN_succ, ac_ref8_Digest_L0, c0, d0, c1]
   · simp (disch := omega) only [go_sem, ↓reduceIte, Nat.reduceAdd, Nat.reduceEqDiff, Nat.reduceLeDiff, Int.reduceEq, Int.reduceLT, Int.reduceLE, Int.reduceAdd, loopN_succ, ac_ref8_Digest_L0, c0, d0, c1]
 have hb1 : ¬ s1 < 0 ∧ ¬ 65535 < s1 := by unfold badS at b1; omega
 obtain ⟨c1, d1⟩ := hb1
 refine loop_fuel 3 ?_
 simp (disch := omega) only [go_sem, ↓reduceIte, Nat.reduceAdd, Nat.reduceEqDiff, Nat.reduceLeDiff, Int.reduceLT, Int.reduceLE, Int.reduceAdd, loopN_succ, ac_ref8_Digest_L0, c0, d0, c1, d1]
 refine loop_uptoP 2 (PD (s0 = 0 ∨ onB bk 0 = true) (s1 = 0 ∨ onB bk 1 = true)) (fun k => match k with | 0 => [(2, .ref 4096 0 0), (3, .ref 4112 0 0), (7, .sl 9100 0 (List.length ([] : List UInt8))), (8, .t (.int .i64 0))] | 1 => [(2, .ref 4096 0 0), (3, .ref 4112 0 0), (7, .sl 9100 0 (List.length (selL bk 0 s0 16))), (8, .t (.int .i64 1))] | _ => [(2, .ref 4096 0 0), (3, .ref 4112 0 0), (7, .sl 9100 0 (List.length (selL bk 0 s0 16 ++ selL bk 1 s1 16))), (8, .t (.int .i64 2))]) (fun k => match k with | 0 => [(9100, .live 1 ((([] : List UInt8).map byteT).map V.t) true false), (4112, .live 1 [.t (.int .i64 s0), .t (.int .i64 s1)] true true), (4096, .live 2 [.t (regT bk u)] true true)] | 1 => [(9100, .live 1 (((selL bk 0 s0 16).map byteT).map V.t) true false), (4112, .live 1 [.t (.int .i64 s0), .t (.int .i64 s1)] true true), (4096, .live 2 [.t (regT bk u)] true true)] | _ => [(9100, .live 1 (((selL bk 0 s0 16 ++ selL bk 1 s1 16).map byteT).map V.t) true false), (4112, .live 1 [.t (.int .i64 s0), .t (.int .i64 s1)] true true), (4096, .live 2 [.t (regT bk u)] true true)]) ⟨fun h => absurd h (by omega), fun h => absurd h (by omega)⟩ ?_ (fun k hk hP => ?_)
 · refine Weak.cv0 (hv := [(9100, .live 1 [] true false)]) (ho := [(4112, .live 1 [.t (.int .i64 s0), .t (.int .i64 s1)] true true), (4096, .live 2 [.t (regT bk u)] true true)]) id ?_ ?_ rfl rfl
   all_goals simp (disch := omega) only [go_sem, ↓reduceIte, Nat.reduceEqDiff, Nat.reduceBEq, id, List.map_cons, List.map_nil, List.length_nil]
 · rcases (show k = 0 ∨ k = 1 ∨ k = 2 by omega) with rfl | rfl | rfl
   · by_cases z : s0 = 0
     · have zz : (s0 == 0) = true := by simpa using z
       simp (disch := omega) only [go_sem, ↓reduceIte, Nat.reduceAdd, Nat.reduceEqDiff, Nat.reduceLeDiff, Int.reduceLT, Int.reduceLE, ac_ref8_Digest_L1, zz]
       refine loop_upto 16 (fun i => [(2, .ref 4096 0 0), (3, .ref 4112 0 0), (7, .sl 9100 0 (List.length (selL bk 0 s0 i))), (8, .t (.int .i64 0)), (9, .t (.int .i64 (i : Nat)))]) (fun i => [(9100, .live 1 (((selL bk 0 s0 i).map byteT).map V.t) true false), (4112, .live 1 [.t (.int .i64 s0), .t (.int .i64 s1)] true true), (4096, .live 2 [.t (regT bk u)] true true)]) ?_ (fun i hi => ?_)
       · refine Weak.rd id ?_ ?_ rfl
         all_goals simp (disch := omega) only [go_sem, ↓reduceIte, Nat.reduceAdd, Nat.reduceEqDiff, Nat.reduceBEq, id, selL_z, List.append_nil]
       · have l0 := selL_le hv 0 s0 16
         have l1 := selL_le hv 0 s0 i
         by_cases hlt : i < 16
         · have hsh : s0.fdiv (2 ^ i) = s0 / 2 ^ i := Int.fdiv_eq_ediv_of_nonneg _ (Int.le_of_lt (Int.pow_pos (by decide)))
           have hb : ¬ s0 / 2 ^ i % 2 = 1 := by rw [z]; simp
           simp (disch := omega) only [go_sem, ↓reduceIte, Nat.reduceAdd, Nat.reduceEqDiff, Nat.reduceLeDiff, Int.reduceLT, Int.reduceLE, ac_ref8_Digest_L2, hsh, hb]
           refine ⟨hlt, Weak.rd id ?_ ?_ rfl⟩
           all_goals simp (disch := omega) only [go_sem, ↓reduceIte, Nat.reduceAdd, Nat.reduceEqDiff, Nat.reduceBEq, id, selL_neg (bk := bk) (a := 0) hb]
         · have e : i = 16 := by omega
           subst e
           simp (disch := omega) only [go_sem, ↓reduceIte, Nat.reduceAdd, Nat.reduceEqDiff, Nat.reduceLT, Int.reduceLT, Int.reduceAdd, ac_ref8_Digest_L2]
           refine ⟨⟨fun _ => .inl z, fun h => absurd h (by omega)⟩, Weak.rd id ?_ ?_ rfl⟩
           all_goals simp (disch := omega) only [go_sem, ↓reduceIte, Nat.reduceAdd, Nat.reduceEqDiff, Nat.reduceBEq, id]
     · have zz : (s0 == 0) = false := by simpa using z
       have c0 := actv_eq (u := u) (a := 0) hv.1 (by omega)
       rw [show ((0 : Nat) : Int) = 0 from rfl] at c0
       cases ho : onB bk 0
       · rw [ho] at c0
         have hE : digE bk s0 s1 = 27 := by
           unfold digE
           rw [if_neg (by rintro (h | h); exact b0 h; exact b1 h), if_pos (.inl ⟨z, ho⟩)]
         rw [digR, digO, hE]
         simp (disch := omega) only [go_sem, ↓reduceIte, Nat.reduceAdd, Nat.reduceEqDiff, Nat.reduceLeDiff, Int.reduceEq, Int.reduceLT, Int.reduceLE, ac_ref8_Digest_L1, zz, h1, c0]
       · rw [ho] at c0
         have hbl := hv.1.len ho
         have hbn : List.length (bk.getD 0 []) = 16 := by simpa [onB] using ho
         simp (disch := omega) only [go_sem, ↓reduceIte, Nat.reduceAdd, Nat.reduceEqDiff, Nat.reduceLeDiff, Int.reduceLT, Int.reduceLE, ac_ref8_Digest_L1, zz, h1, c0]
         refine loop_upto 16 (fun i => [(2, .ref 4096 0 0), (3, .ref 4112 0 0), (7, .sl 9100 0 (List.length (selL bk 0 s0 i))), (8, .t (.int .i64 0)), (9, .t (.int .i64 (i : Nat)))]) (fun i => [(9100, .live 1 (((selL bk 0 s0 i).map byteT).map V.t) true false), (4112, .live 1 [.t (.int .i64 s0), .t (.int .i64 s1)] true true), (4096, .live 2 [.t (regT bk u)] true true)]) ?_ (fun i hi => ?_)
         · refine Weak.rd id ?_ ?_ rfl
           all_goals simp (disch := omega) only [go_sem, ↓reduceIte, Nat.reduceAdd, Nat.reduceEqDiff, Nat.reduceBEq, id, selL_z, List.append_nil]
         · have l0 := selL_le hv 0 s0 16
           have l1 := selL_le hv 0 s0 i
           by_cases hlt : i < 16
           · have hsh : s0.fdiv (2 ^ i) = s0 / 2 ^ i := Int.fdiv_eq_ediv_of_nonneg _ (Int.le_of_lt (Int.pow_pos (by decide)))
             by_cases hb : s0 / 2 ^ i % 2 = 1
             · have hvl := hm.val 0 i
               have hx : (bk.getD 0 []).getD i [] = valL bk 0 i := rfl
               simp (disch := omega) only [go_sem, ↓reduceIte, Nat.reduceAdd, Nat.reduceEqDiff, Nat.reduceLeDiff, Int.reduceLT, Int.reduceLE, ac_ref8_Digest_L2, hsh, hb, hx]
               refine ⟨hlt, Weak.rd (fun j => if j = 9100 then 69776 else j) ?_ ?_ rfl⟩
               all_goals simp (disch := omega) only [go_sem, ↓reduceIte, Nat.reduceAdd, Nat.reduceEqDiff, Nat.reduceBEq, selL_pos (bk := bk) (a := 0) hb, List.append_assoc]
               all_goals try omega
             · simp (disch := omega) only [go_sem, ↓reduceIte, Nat.reduceAdd, Nat.reduceEqDiff, Nat.reduceLeDiff, Int.reduceLT, Int.reduceLE, ac_ref8_Digest_L2, hsh, hb]
               refine ⟨hlt, Weak.rd id ?_ ?_ rfl⟩
               all_goals simp (disch := omega) only [go_sem, ↓reduceIte, Nat.reduceAdd, Nat.reduceEqDiff, Nat.reduceBEq, id, selL_neg (bk := bk) (a := 0) hb]
           · have e : i = 16 := by omega
             subst e
             simp (disch := omega) only [go_sem, ↓reduceIte, Nat.reduceAdd, Nat.reduceEqDiff, Nat.reduceLT, Int.reduceLT, Int.reduceAdd, ac_ref8_Digest_L2]
             refine ⟨⟨fun _ => (by first | exact .inr ho | trivial), fun h => absurd h (by omega)⟩, Weak.rd id ?_ ?_ rfl⟩
             all_goals simp (disch := omega) only [go_sem, ↓reduceIte, Nat.reduceAdd, Nat.reduceEqDiff, Nat.reduceBEq, id]
   · by_cases z : s1 = 0
     · have zz : (s1 == 0) = true := by simpa using z
       simp (disch := omega) only [go_sem, ↓reduceIte, Nat.reduceAdd, Nat.reduceEqDiff, Nat.reduceLeDiff, Int.reduceLT, Int.reduceLE, ac_ref8_Digest_L1, zz]
       refine loop_upto 16 (fun i => [(2, .ref 4096 0 0), (3, .ref 4112 0 0), (7, .sl 9100 0 (List.length (selL bk 0 s0 16 ++ selL bk 1 s1 i))), (8, .t (.int .i64 1)), (9, .t (.int .i64 (i : Nat)))]) (fun i => [(9100, .live 1 (((selL bk 0 s0 16 ++ selL bk 1 s1 i).map byteT).map V.t) true false), (4112, .live 1 [.t (.int .i64 s0), .t (.int .i64 s1)] true true), (4096, .live 2 [.t (regT bk u)] true true)]) ?_ (fun i hi => ?_)
       · refine Weak.rd id ?_ ?_ rfl
         all_goals simp (disch := omega) only [go_sem, ↓reduceIte, Nat.reduceAdd, Nat.reduceEqDiff, Nat.reduceBEq, id, selL_z, List.append_nil]
       · have l0 := selL_le hv 0 s0 16
         have l1 := selL_le hv 1 s1 i
         by_cases hlt : i < 16
         · have hsh : s1.fdiv (2 ^ i) = s1 / 2 ^ i := Int.fdiv_eq_ediv_of_nonneg _ (Int.le_of_lt (Int.pow_pos (by decide)))
           have hb : ¬ s1 / 2 ^ i % 2 = 1 := by rw [z]; simp
           simp (disch := omega) only [go_sem, ↓reduceIte, Nat.reduceAdd, Nat.reduceEqDiff, Nat.reduceLeDiff, Int.reduceLT, Int.reduceLE, ac_ref8_Digest_L2, hsh, hb]
           refine ⟨hlt, Weak.rd id ?_ ?_ rfl⟩
           all_goals simp (disch := omega) only [go_sem, ↓reduceIte, Nat.reduceAdd, Nat.reduceEqDiff, Nat.reduceBEq, id, selL_neg (bk := bk) (a := 1) hb]
         · have e : i = 16 := by omega
           subst e
           simp (disch := omega) only [go_sem, ↓reduceIte, Nat.reduceAdd, Nat.reduceEqDiff, Nat.reduceLT, Int.reduceLT, Int.reduceAdd, ac_ref8_Digest_L2]
           refine ⟨⟨fun _ => hP.1 (by omega), fun _ => .inl z⟩, Weak.rd id ?_ ?_ rfl⟩
           all_goals simp (disch := omega) only [go_sem, ↓reduceIte, Nat.reduceAdd, Nat.reduceEqDiff, Nat.reduceBEq, id]
     · have zz : (s1 == 0) = false := by simpa using z
       have c1 := actv_eq (u := u) (a := 1) hv.1 (by omega)
       rw [show ((1 : Nat) : Int) = 1 from rfl] at c1
       cases ho : onB bk 1
       · rw [ho] at c1
         have hE : digE bk s0 s1 = 27 := by
           unfold digE
           rw [if_neg (by rintro (h | h); exact b0 h; exact b1 h), if_pos (.inr ⟨z, ho⟩)]
         rw [digR, digO, hE]
         simp (disch := omega) only [go_sem, ↓reduceIte, Nat.reduceAdd, Nat.reduceEqDiff, Nat.reduceLeDiff, Int.reduceEq, Int.reduceLT, Int.reduceLE, ac_ref8_Digest_L1, zz, h1, c1]
       · rw [ho] at c1
         have hbl := hv.1.len ho
         have hbn : List.length (bk.getD 1 []) = 16 := by simpa [onB] using ho
         simp (disch := omega) only [go_sem, ↓reduceIte, Nat.reduceAdd, Nat.reduceEqDiff, Nat.reduceLeDiff, Int.reduceLT, Int.reduceLE, ac_ref8_Digest_L1, zz, h1, c1]
         refine loop_upto 16 (fun i => [(2, .ref 4096 0 0), (3, .ref 4112 0 0), (7, .sl 9100 0 (List.length (selL bk 0 s0 16 ++ selL bk 1 s1 i))), (8, .t (.int .i64 1)), (9, .t (.int .i64 (i : Nat)))]) (fun i => [(9100, .live 1 (((selL bk 0 s0 16 ++ selL bk 1 s1 i).map byteT).map V.t) true false), (4112, .live 1 [.t (.int .i64 s0), .t (.int .i64 s1)] true true), (4096, .live 2 [.t (regT bk u)] true true)]) ?_ (fun i hi => ?_)
         · refine Weak.rd id ?_ ?_ rfl
           all_goals simp (disch := omega) only [go_sem, ↓reduceIte, Nat.reduceAdd, Nat.reduceEqDiff, Nat.reduceBEq, id, selL_z, List.append_nil]
         · have l0 := selL_le hv 0 s0 16
           have l1 := selL_le hv 1 s1 i
           by_cases hlt : i < 16
           · have hsh : s1.fdiv (2 ^ i) = s1 / 2 ^ i := Int.fdiv_eq_ediv_of_nonneg _ (Int.le_of_lt (Int.pow_pos (by decide)))
             by_cases hb : s1 / 2 ^ i % 2 = 1
             · have hvl := hm.val 1 i
               have hx : (bk.getD 1 []).getD i [] = valL bk 1 i := rfl
               simp (disch := omega) only [go_sem, ↓reduceIte, Nat.reduceAdd, Nat.reduceEqDiff, Nat.reduceLeDiff, Int.reduceLT, Int.reduceLE, ac_ref8_Digest_L2, hsh, hb, hx]
               refine ⟨hlt, Weak.rd (fun j => if j = 9100 then 69776 else j) ?_ ?_ rfl⟩
               all_goals simp (disch := omega) only [go_sem, ↓reduceIte, Nat.reduceAdd, Nat.reduceEqDiff, Nat.reduceBEq, selL_pos (bk := bk) (a := 1) hb, List.append_assoc]
               all_goals try omega
             · simp (disch := omega) only [go_sem, ↓reduceIte, Nat.reduceAdd, Nat.reduceEqDiff, Nat.reduceLeDiff, Int.reduceLT, Int.reduceLE, ac_ref8_Digest_L2, hsh, hb]
               refine ⟨hlt, Weak.rd id ?_ ?_ rfl⟩
               all_goals simp (disch := omega) only [go_sem, ↓reduceIte, Nat.reduceAdd, Nat.reduceEqDiff, Nat.reduceBEq, id, selL_neg (bk := bk) (a := 1) hb]
           · have e : i = 16 := by omega
             subst e
             simp (disch := omega) only [go_sem, ↓reduceIte, Nat.reduceAdd, Nat.reduceEqDiff, Nat.reduceLT, Int.reduceLT, Int.reduceAdd, ac_ref8_Digest_L2]
             refine ⟨⟨fun _ => hP.1 (by omega), fun _ => (by first | exact .inr ho | trivial)⟩, Weak.rd id ?_ ?_ rfl⟩
             all_goals simp (disch := omega) only [go_sem, ↓reduceIte, Nat.reduceAdd, Nat.reduceEqDiff, Nat.reduceBEq, id]
   · have l0 := selL_le hv 0 s0 16
     have l1 := selL_le hv 1 s1 16
     have p0 := hP.1 (by omega)
     have p1 := hP.2 (by omega)
     have hE : digE bk s0 s1 = 0 := by
       unfold digE
       rw [if_neg (by rintro (h | h); exact b0 h; exact b1 h), if_neg]
       rintro (⟨h1, h2⟩ | ⟨h1, h2⟩)
       · rcases p0 with h | h
         · exact h1 h
         · rw [h] at h2; cases h2
       · rcases p1 with h | h
         · exact h1 h
         · rw [h] at h2; cases h2
     have hv2 : (valS bk s0 s1).length ≤ 2048 := by unfold valS; rw [List.length_append]; omega
     have hh2 : (headS s0 s1).length = 4 := by unfold headS; rw [List.length_append, beI_len, beI_len]
     have hvs : selL bk 0 s0 16 ++ selL bk 1 s1 16 = valS bk s0 s1 := rfl
     rw [digR, digO, if_pos hE, if_pos hE]
     have hf : (frameL 5 [headS s0 s1, valS bk s0 s1]).length < 1000000000 := by
       simp only [frameL, List.flatMap_cons, List.flatMap_nil, List.length_cons, List.length_append, List.length_nil, be32_len]
       omega
     have hq := hash_eq2 hf
     have hhs : beI 2 s0 2 ++ beI 2 s1 2 = headS s0 s1 := rfl
     have t2 : List.take 2 (beI 2 s0 2) = beI 2 s0 2 := List.take_of_length_le (by rw [beI_len]; exact Nat.le_refl _)
     have t4 : List.take 4 (headS s0 s1) = headS s0 s1 := List.take_of_length_le (by rw [hh2]; exact Nat.le_refl _)
     have hu := uint2 (b := []) (n := s0) (by decide)
     simp only [List.map_nil, List.length_nil, List.nil_append] at hu
     have hu2 := uint2 (b := beI 2 s0 2) (n := s1) (by rw [beI_len]; omega)
     rw [beI_len, hhs] at hu2
     have tv : List.take (valS bk s0 s1).length (valS bk s0 s1) = valS bk s0 s1 := List.take_of_length_le (Nat.le_refl _)
     simp (disch := omega) only [go_sem, ↓reduceIte, Nat.reduceAdd, Nat.reduceEqDiff, Nat.reduceLT, Nat.reduceLeDiff, Int.reduceLT, Int.reduceLE, ac_ref8_Digest_L1, hvs, h2, h3, hu, hu2, hq, tv, t2, t4, hh2, beI_len]
     all_goals try rfl
theorem nat_and2 (n : Nat) : n &&& 2 = n / 2 % 2 * 2 := by
 have h1 : (n &&& 2) / 2 = n / 2 % 2 := by
   rw [Nat.and_div_two]; exact Nat.and_one_is_mod _
 have h2 : (n &&& 2) % 2 = 0 := by
   have := Nat.and_mod_two_pow (a := n) (b := 2) (n := 1)
   simpa using this
 omega
theorem and2 {x : Int} : binI .and .i64 x .i64 2 = some (.int .i64 (x / 2 % 2 * 2)) := by
 have h2 : ((BitVec.ofInt 64 x &&& BitVec.ofInt 64 2).toNat : Int) = x / 2 % 2 * 2 := by
   rw [BitVec.toNat_and, BitVec.toNat_ofInt]
   have e2 : (BitVec.ofInt 64 2).toNat = 2 := by decide
   rw [e2, nat_and2]
   have e3 : ((2 ^ 64 : Nat) : Int) = 18446744073709551616 := by decide
   rw [e3]
   omega
 change some (T.int IntKind.i64 (IntKind.i64.wrap ((BitVec.ofInt 64 x &&& BitVec.ofInt 64 2).toNat : Int))) = _
 rw [h2, wrap_i64_id (by omega)]
attribute [go_sem ↓] and2
def ct_digs : Ct where
 α := List Bank × Int × Int × Int
 as x := [.t (regT x.1 x.2.1), .t (.agg [.int .i64 x.2.2.1, .int .i64 x.2.2.2])]
 ins _ := []
 pre x := RV x.1
 r x := digR x.1 x.2.2.1 x.2.2.2
 outs x := digO x.1 x.2.2.1 x.2.2.2
 inj := by
   rintro ⟨a, u, l, i⟩ ⟨b, v, l', i'⟩ h _
   simp only [List.cons.injEq, V.t.injEq, T.int.injEq, T.agg.injEq, true_and, and_true] at h
   obtain ⟨h1, rfl, rfl⟩ := h
   obtain ⟨rfl, rfl⟩ := regT_inj h1
   exact ⟨rfl, rfl⟩
theorem rpl_eq {act rs : Int} {es : List Ev} (h : esM es) : ct_rpl.fs [.t (.agg [.int .i64 act, .int .i64 rs, .sl (es.map evT)])] [] = some (.tup [.t (.agg [.sl ((rpG act es).1.map bankT), .int .i64 (rpG act es).2]), .t (.int .i64 (rpE act es))], []) := ct_rpl.eq (act, rs, es) h
def rpP (act : Int) (es : List Ev) (i : Nat) : Rg := (es.take i).foldl rpS (rp0 act)
theorem rpP_s {act : Int} {es : List Ev} {i : Nat} {e : Ev} (h : es[i]? = some e) : rpP act es (i + 1) = rpS (rpP act es i) e := by
 unfold rpP
 rw [List.take_add_one, h, List.foldl_append]; rfl
theorem rpP_rq {act : Int} (ha : 1 ≤ act ∧ act ≤ 3) {es : List Ev} {i : Nat} : RQ act i (rpP act es i) := by
 have := RQ.fold ha (es := es.take i) (RQ.zero ha)
 rw [Nat.zero_add] at this
 exact this.up (by rw [List.length_take]; omega)
theorem new2 {act : Int} (ha : 1 ≤ act ∧ act ≤ 3) : ∃ b0 b1 : Bank, newBk act = [b0, b1] ∧ List.length b0 ≤ 16 ∧ List.length b1 ≤ 16 ∧ ct_new.fs [.t (.int .i64 act)] [] = some (.agg [.sl 0 0 2, .t (.int .i64 0)], [.live 1 [.sl 1 0 b0.length, .sl 2 0 b1.length] true false, .live 1 ((b0.map bsT).map V.t) true false, .live 1 ((b1.map bsT).map V.t) true false]) := by
 rcases new_casesX act with ⟨e, _⟩ | ⟨b0, b1, e, g0, g1, hn⟩
 · obtain ⟨b0, b1, e2, _⟩ := ShA.new ha
   rw [e] at e2; cases e2
 · exact ⟨b0, b1, e, by rcases g0 with h | h <;> omega, by rcases g1 with h | h <;> omega, hn⟩
theorem ext_val0 {act : Int} {x : Rg} {n : Nat} {r k : Int} {ds : List (List UInt8)} {d : List UInt8} (hx : RQ act n x) (hn : n < 1000000) (hm : evX (r, k, ds, d)) (hl : ds.length < 1000000000) (hc : chkE (r, k, ds, d) act = 0) (h5 : k ≠ 5) :
   ct_ext.fs [.t (.agg [.sl (x.1.map bankT), .int .i64 x.2]), .t (.int .i64 0), .t (.int .i64 r), .t (.sl (ds.map bsT))] [] = some (.tup [.t (.agg [.sl ((rpS x (r, k, ds, d)).1.map bankT), .int .i64 (rpS x (r, k, ds, d)).2]), .t (.int .i64 0)], []) := by
 have hE := ct_ext.eq (x.1, x.2, 0, r, ds) ⟨hx.1.rv, ⟨hx.2.1, by show x.2 < 1000000000; have := hx.2.2; omega⟩, hl, fun y hy => by have := hm.2.1 y hy; omega⟩
 have h0 := ext_ok hx.1 hc h5
 have hr : extR x.1 x.2 0 r ds = .tup [.t (regT (extBk x.1 r.toNat ds) (x.2 + 1)), .t (.int .i64 0)] := if_pos h0
 rw [rpS_ext hx.1 hc h5]
 exact hE.trans (by show some (extR x.1 x.2 0 r ds, ([] : List Ob)) = _; rw [hr]; rfl)
theorem chk_len {r k act : Int} {ds : List (List UInt8)} {d : List UInt8} (hc : chkE (r, k, ds, d) act = 0) : ds.length = 2 := by
 unfold chkE at hc
 simp only at hc
 split at hc
 · simp at hc
 · split at hc
   · simp at hc
   · split at hc
     · rename_i hf
       unfold fitE at hf
       simp only [Bool.and_eq_true, decide_eq_true_eq] at hf
       exact hf.1.1
     · simp at hc
theorem rpV_bad {act : Int} {es : List Ev} {c : Int} (h : rpE act es = c) (hc : c ≠ 0) : rpV act es = .tup [.t (.agg [.sl [], .int .i64 0]), .t (.int .i64 c)] := by
 unfold rpV rpG
 rw [h, if_neg hc]; rfl
theorem rpV_good {act : Int} {es : List Ev} (h : rpE act es = 0) : rpV act es = .tup [.t (.agg [.sl ((rpP act es es.length).1.map bankT), .int .i64 (rpP act es es.length).2]), .t (.int .i64 0)] := by
 unfold rpV rpG
 rw [h, if_pos rfl]
 unfold rpP rpF
 rw [List.take_length]; rfl
theorem take_all {act : Int} {es : List Ev} {i : Nat} {e : Ev} (h : es[i]? = some e) (hP : ∀ x ∈ es.take i, chkE x act = 0) (he : chkE e act = 0) : ∀ x ∈ es.take (i + 1), chkE x act = 0 := by
 intro x hx
 rw [List.take_add_one, h] at hx
 simp only [Option.toList_some, List.mem_append, List.mem_cons, List.not_mem_nil, or_false] at hx
 rcases hx with hx | rfl
 · exact hP x hx
 · exact he
theorem first_bad {act : Int} {es : List Ev} {i : Nat} {e : Ev} (ha : 1 ≤ act ∧ act ≤ 3) (h : es[i]? = some e) (hP : ∀ x ∈ es.take i, chkE x act = 0) (he : chkE e act ≠ 0) : rpE act es = chkE e act := by
 have hlt : i < es.length := (List.getElem?_eq_some_iff.1 h).1
 have hg : es.getD i ev0 = e := by simp [List.getD, h]
 unfold rpE
 rw [if_neg (by omega), firstE_at (i := i) hlt hP (by rw [hg]; exact he), hg]
theorem first_good {act : Int} {es : List Ev} (ha : 1 ≤ act ∧ act ≤ 3) (hP : ∀ x ∈ es, chkE x act = 0) : rpE act es = 0 := by
 unfold rpE
 rw [if_neg (by omega)]
 exact firstE_all hP
theorem w_replay_Registers (tab : Tab) (gl : Gl) (n1 n2 n3 : Nat) (h1 : tab.look n1 = some ct_new.fs) (h2 : tab.look n2 = some ct_chkX.fs) (h3 : tab.look n3 = some ct_ext.fs) (act rs : Int) (es : List Ev) (hm : esM es) :
   (ac_replay_Registers n1 n2 n3).wp tab gl (zipF 0 [.t (lgT (act, rs, es))]) (zipF 0 []) (resW [(2, some (2, true)), (3, none)] 0 (fun r o => r = rpV act es ∧ o = [])) := by
 by_cases a1 : act < 1
 · rw [rpV_bad (c := 1) (if_pos (.inl a1)) (by decide)]
   simp (disch := omega) only [go_sem, ↓reduceIte, Nat.reduceAdd, Nat.reduceEqDiff, Nat.reduceLeDiff, ac_replay_Registers, lgT_def, a1]
 by_cases a3 : 3 < act
 · rw [rpV_bad (c := 1) (if_pos (.inr a3)) (by decide)]
   simp (disch := omega) only [go_sem, ↓reduceIte, Nat.reduceAdd, Nat.reduceEqDiff, Nat.reduceLeDiff, ac_replay_Registers, lgT_def, a1, a3]
 have ha : 1 ≤ act ∧ act ≤ 3 := by omega
 obtain ⟨b0, b1, hb, hl0, hl1, hN⟩ := new2 ha
 have hlen := hm.1
 have hx0 : rpP act es 0 = ([b0, b1], 0) := by rw [← hb]; rfl
 simp (disch := omega) only [go_sem, ↓reduceIte, Nat.reduceAdd, Nat.reduceEqDiff, Nat.reduceLeDiff, reduceCtorEq, ac_replay_Registers, lgT_def, a1, a3, h1, hN]
 refine loop_uptoP es.length (fun i => ∀ e ∈ es.take i, chkE e act = 0) (fun i => [(1, .ref 4096 0 0), (2, .ref 4112 0 0), (4, .ref 16432 0 0), (21, .t (.sl (es.map evT))), (22, .t (.int .i64 es.length)), (23, .t (.int .i64 (i : Nat)))])
   (fun i => [(16432, .live 2 [.t (.agg [.sl ((rpP act es i).1.map bankT), .int .i64 (rpP act es i).2])] true true), (4112, .live 2 [.agg [.nil, .t (.int .i64 0)]] true true), (4096, .live 3 [.t (.agg [.int .i64 act, .int .i64 rs, .sl (es.map evT)])] true true)]) (by simp) ?_ (fun i hi hP => ?_)
 · refine Weak.cv (hv := []) [16417, 16418, 16416] id ?_ rfl
   simp (disch := omega) only [go_sem, ↓reduceIte, Nat.reduceAdd, Nat.reduceEqDiff, Nat.reduceLeDiff, Nat.reduceBEq, id, hx0, List.map_nil, List.map_cons]
   all_goals rfl
 · by_cases hlt : i < es.length
   · obtain ⟨⟨r, k, ds, d⟩, he⟩ : ∃ e, es[i]? = some e := ⟨es[i], by simp [hlt]⟩
     have hx := hm.2 _ (List.mem_of_getElem? he)
     have hC := chkX_eq (act := act) hx
     have hs := rpP_s (act := act) he
     have hq := rpP_rq ha (es := es) (i := i)
     by_cases hz : chkE (r, k, ds, d) act = 0
     · have hP' := take_all he hP hz
       have hE := fun h5 => ext_val0 hq (by omega) hx (by rw [chk_len hz]; omega) hz h5
       rw [hz] at hC
       rw [← hs] at hE
       by_cases h5 : k = 5
       · subst h5
         have hs' : rpP act es (i + 1) = rpP act es i := hs.trans (if_pos rfl)
         generalize rpP act es i = X at *
         simp (disch := omega) only [go_sem, ↓reduceIte, Nat.reduceAdd, Nat.reduceEqDiff, Nat.reduceLeDiff, reduceCtorEq, ac_replay_Registers_L0, evT_def, he, h2, hC]
         refine ⟨hlt, hP', Weak.rd id ?_ ?_ rfl⟩
         all_goals simp (disch := omega) only [go_sem, ↓reduceIte, Nat.reduceEqDiff, Nat.reduceBEq, id, hs']
       · have h5b : (k != 5) = true := by simpa using h5
         have hE := hE h5
         generalize hY : rpP act es (i + 1) = Y at *
         generalize rpP act es i = X at *
         simp (disch := omega) only [go_sem, ↓reduceIte, Nat.reduceAdd, Nat.reduceEqDiff, Nat.reduceLeDiff, reduceCtorEq, ac_replay_Registers_L0, evT_def, he, h2, hC, h5b, h3, hE]
         refine ⟨hlt, hP', Weak.rd id ?_ ?_ rfl⟩
         all_goals simp (disch := omega) only [go_sem, ↓reduceIte, Nat.reduceEqDiff, Nat.reduceBEq, id, hY]
     · have hz' : (chkE (r, k, ds, d) act == 0) = false := by simpa using hz
       have hz2 : (chkE (r, k, ds, d) act != 0) = true := by simpa using hz
       rw [rpV_bad (first_bad ha he hP hz) hz]
       generalize chkE (r, k, ds, d) act = c at *
       generalize rpP act es i = X at *
       simp (disch := omega) only [go_sem, ↓reduceIte, Nat.reduceAdd, Nat.reduceEqDiff, Nat.reduceLeDiff, ac_replay_Registers_L0, evT_def, he, h2, hC, hz', hz2]
   · have e : i = es.length := by omega
     subst e
     rw [List.take_length] at hP
     rw [rpV_good (first_good ha hP)]
     generalize rpP act es es.length = X at *
     simp (disch := omega) only [go_sem, ↓reduceIte, Nat.reduceAdd, Nat.reduceEqDiff, Nat.reduceLeDiff, ac_replay_Registers_L0]
theorem w_ref25_Replay (tab : Tab) (gl : Gl) (n1 n2 n3 : Nat) (h1 : tab.look n1 = some ct_chkX.fs) (h2 : tab.look n2 = some ct_new.fs) (h3 : tab.look n3 = some ct_ext.fs) (act rs : Int) (es : List Ev) (hm : esM es) :
   (ac_ref25_Replay n1 n2 n3).wp tab gl (zipF 0 [.t (lgT (act, rs, es))]) (zipF 0 []) (resW [(2, some (2, true)), (3, none)] 0 (fun r o => r = rpV act es ∧ o = [])) := by
 by_cases a1 : act < 1
 · rw [rpV_bad (c := 1) (if_pos (.inl a1)) (by decide)]
   simp (disch := omega) only [go_sem, ↓reduceIte, Nat.reduceAdd, Nat.reduceEqDiff, Nat.reduceLeDiff, ac_ref25_Replay, lgT_def, a1]
 by_cases a3 : 3 < act
 · rw [rpV_bad (c := 1) (if_pos (.inr a3)) (by decide)]
   simp (disch := omega) only [go_sem, ↓reduceIte, Nat.reduceAdd, Nat.reduceEqDiff, Nat.reduceLeDiff, ac_ref25_Replay, lgT_def, a1, a3]
 have ha : 1 ≤ act ∧ act ≤ 3 := by omega
 obtain ⟨b0, b1, hb, hl0, hl1, hN⟩ := new2 ha
 have hlen := hm.1
 have hx0 : rpP act es 0 = ([b0, b1], 0) := by rw [← hb]; rfl
 simp (disch := omega) only [go_sem, ↓reduceIte, Nat.reduceAdd, Nat.reduceEqDiff, Nat.reduceLeDiff, ac_ref25_Replay, lgT_def, a1, a3]
 refine loop_uptoP es.length (fun i => ∀ e ∈ es.take i, chkE e act = 0) (fun i => [(1, .ref 4096 0 0), (2, .ref 4112 0 0), (4, .t (.int .i64 (i : Nat)))])
   (fun i => [(4112, .live 2 [.agg [.nil, .t (.int .i64 0)]] true true), (4096, .live 3 [.t (.agg [.int .i64 act, .int .i64 rs, .sl (es.map evT)])] true true)]) (by simp) ?_ (fun i hi hP => ?_)
 · refine Weak.rd id ?_ ?_ rfl
   all_goals simp (disch := omega) only [go_sem, ↓reduceIte, Nat.reduceEqDiff, Nat.reduceBEq, id]
 · by_cases hlt : i < es.length
   · obtain ⟨⟨r, k, ds, d⟩, he⟩ : ∃ e, es[i]? = some e := ⟨es[i], by simp [hlt]⟩
     have hx := hm.2 _ (List.mem_of_getElem? he)
     have hC := chkX_eq (act := act) hx
     by_cases hz : chkE (r, k, ds, d) act = 0
     · have hP' := take_all he hP hz
       rw [hz] at hC
       simp (disch := omega) only [go_sem, ↓reduceIte, Nat.reduceAdd, Nat.reduceEqDiff, Nat.reduceLeDiff, reduceCtorEq, ac_ref25_Replay_L0, evT_def, he, h1, hC]
       repeat refine And.intro rfl ?_
       refine ⟨hlt, hP', Weak.rd id ?_ ?_ rfl⟩
       all_goals simp (disch := omega) only [go_sem, ↓reduceIte, Nat.reduceEqDiff, Nat.reduceBEq, id]
     · have hz2 : (chkE (r, k, ds, d) act != 0) = true := by simpa using hz
       rw [rpV_bad (first_bad ha he hP hz) hz]
       generalize chkE (r, k, ds, d) act = c at *
       simp (disch := omega) only [go_sem, ↓reduceIte, Nat.reduceAdd, Nat.reduceEqDiff, Nat.reduceLeDiff, reduceCtorEq, ac_ref25_Replay_L0, evT_def, he, h1, hC, hz2]
       all_goals rfl
   · have e : i = es.length := by omega
     subst e
     rw [List.take_length] at hP
     rw [rpV_good (first_good ha hP)]
     simp (disch := omega) only [go_sem, ↓reduceIte, Nat.reduceAdd, Nat.reduceEqDiff, Nat.reduceLeDiff, reduceCtorEq, ac_ref25_Replay_L0, h2, hN]
     refine loop_upto es.length (fun j => [(1, .ref 4096 0 0), (2, .ref 4112 0 0), (6, .ref 41008 0 0), (7, .t (.int .i64 (j : Nat)))])
       (fun j => [(41008, .live 2 [.t (.agg [.sl ((rpP act es j).1.map bankT), .int .i64 (rpP act es j).2])] true true), (4112, .live 2 [.agg [.nil, .t (.int .i64 0)]] true true), (4096, .live 3 [.t (.agg [.int .i64 act, .int .i64 rs, .sl (es.map evT)])] true true)]) ?_ (fun j hj => ?_)
     · refine Weak.cv (hv := []) [40993, 40994, 40992] id ?_ rfl
       simp (disch := omega) only [go_sem, ↓reduceIte, Nat.reduceAdd, Nat.reduceEqDiff, Nat.reduceLeDiff, Nat.reduceBEq, id, hx0, List.map_nil, List.map_cons]
       all_goals rfl
     · by_cases hlt : j < es.length
       · obtain ⟨⟨r, k, ds, d⟩, he⟩ : ∃ e, es[j]? = some e := ⟨es[j], by simp [hlt]⟩
         have hx := hm.2 _ (List.mem_of_getElem? he)
         have hs := rpP_s (act := act) he
         have hq := rpP_rq ha (es := es) (i := j)
         have hz := hP _ (List.mem_of_getElem? he)
         have hE := fun h5 => ext_val0 hq (by omega) hx (by rw [chk_len hz]; omega) hz h5
         rw [← hs] at hE
         by_cases h5 : k = 5
         · subst h5
           have hs' : rpP act es (j + 1) = rpP act es j := hs.trans (if_pos rfl)
           generalize rpP act es j = X at *
           simp (disch := omega) only [go_sem, ↓reduceIte, Nat.reduceAdd, Nat.reduceEqDiff, Nat.reduceLeDiff, reduceCtorEq, ac_ref25_Replay_L1, evT_def, he]
           refine ⟨hlt, Weak.rd id ?_ ?_ rfl⟩
           all_goals simp (disch := omega) only [go_sem, ↓reduceIte, Nat.reduceEqDiff, Nat.reduceBEq, id, hs']
         · have h5b : (k != 5) = true := by simpa using h5
           have hE := hE h5
           generalize hY : rpP act es (j + 1) = Y at *
           generalize rpP act es j = X at *
           simp (disch := omega) only [go_sem, ↓reduceIte, Nat.reduceAdd, Nat.reduceEqDiff, Nat.reduceLeDiff, reduceCtorEq, ac_ref25_Replay_L1, evT_def, he, h5b, h3, hE]
           repeat refine And.intro rfl ?_
           refine ⟨hlt, Weak.rd id ?_ ?_ rfl⟩
           all_goals simp (disch := omega) only [go_sem, ↓reduceIte, Nat.reduceEqDiff, Nat.reduceBEq, id, hY]
       · have e : j = es.length := by omega
         subst e
         generalize rpP act es es.length = X at *
         simp (disch := omega) only [go_sem, ↓reduceIte, Nat.reduceAdd, Nat.reduceEqDiff, Nat.reduceLeDiff, reduceCtorEq, ac_ref25_Replay_L1]
theorem valL_le {bk : List Bank} (h : RV bk) {a g : Nat} : (valL bk a g).length ≤ 64 := by
 unfold valL
 by_cases ha : a < bk.length
 · have e : bk.getD a [] = bk[a] := by simp [List.getD, ha]
   rw [e]
   exact getD_le (h.2 _ (List.getElem_mem ha))
 · have e : bk.getD a [] = [] := by simp [List.getD, List.getElem?_eq_none (Nat.le_of_not_lt ha)]
   rw [e]; simp
theorem ShA.on {act : Int} {bk : List Bank} (h : ShA act bk) {a : Nat} (ha : a < 2) (hb : act / 2 ^ a % 2 = 1) : onB bk a = true := by
 obtain ⟨b0, b1, rfl, h0, h1, -, -⟩ := h
 rcases (show a = 0 ∨ a = 1 by omega) with rfl | rfl
 · rw [if_pos (by simpa using hb)] at h0
   unfold onB; exact decide_eq_true h0
 · rw [if_pos (by simpa using hb)] at h1
   unfold onB; exact decide_eq_true h1
end Go.Eng
end
section
namespace Go.Eng
def ac_predict_Digest (n_predict_Registers n_registers_Digest : Nat) : AC :=
 (.seq
 (rG 4096 [oO 5 .boxArr [.tmp 2],mC 6 .nil,mC 7 (.t (.int .i64 0))])
 (.seq
 (rG 8192 [mv 11 0,mv 12 1,cL 13 n_predict_Registers true [.tmp 11, .tmp 12],mv 10 13,oO 14 (.extract 0) [.tmp 10],oO 15 (.extract 1) [.tmp 10],oO 8 (.new 2 [(.agg [.nil, (.t (.int .i64 0))])]) [],oS 2 8 14,mv 9 15])
 (.seq
 (.seq
 (rG 12288 [mv 16 9,bN 17 .neq 16 0])
 (.cond (.tmp 17)
 (.seq
 (rG 16384 [mv 18 9,mC 6 .nil,mv 7 18])
 .ret)
 .skip))
 (.seq
 (rG 20480 [oO 19 (.load 2 true) [.tmp 8],oO 20 (.load 2 true) [.tmp 5],cL 21 n_registers_Digest false [.tmp 19, .tmp 20],oO 22 (.extract 0) [.tmp 21],oO 23 (.extract 1) [.tmp 21],mv 6 22,mv 7 23])
 .ret))))
def hints_predict_Digest : List (Nat × List Nat) := [(1, [2])]
def ac_ref25_Predict (n_ref25_Chain n_ref25_Events n_ref25_Replay : Nat) : AC :=
 (.seq
 (rG 4096 [oO 4 (.new 2 [(.agg [.nil, (.t (.int .i64 0))])]) [],mC 5 (.t (.int .i64 0))])
 (.seq
 (.seq
 (rG 8192 [mv 7 0,cL 8 n_ref25_Chain false [.tmp 7],mv 6 8])
 (.seq
 (rG 12288 [mv 9 6,bN 10 .neq 9 0])
 (.cond (.tmp 10)
 (.seq
 (rG 16384 [oO 11 (.build [.nil, (.t (.int .i64 0))] []) [],mv 12 6,oS 2 4 11,mv 5 12])
 .ret)
 .skip)))
 (.seq
 (.seq
 (rG 20480 [mv 13 1,bN 14 .lss 13 1,mv 15 14,mF 16 1 15,oF 17 15 (.bin .gtr) [.tmp 16, .cst (.t (.int .i64 3))],oO 18 .pick [.tmp 15, .cst (.t (.bool true)), .tmp 17]])
 (.cond (.tmp 18)
 (.seq
 (rG 24576 [oO 19 (.build [.nil, (.t (.int .i64 0))] []) [],oS 2 4 19,mC 5 (.t (.int .i64 1))])
 .ret)
 .skip))
 (.seq
 (rG 28672 [mv 20 1,mv 21 0,mv 22 1,cL 23 n_ref25_Events true [.tmp 21, .tmp 22],oO 24 (.build [(.t (.int .i64 0)), (.t (.int .i64 0)), .nil] [(0, 1), (2, 1)]) [.tmp 20, .tmp 23],cL 25 n_ref25_Replay true [.tmp 24],oO 26 (.extract 0) [.tmp 25],oO 27 (.extract 1) [.tmp 25],oS 2 4 26,mv 5 27])
 .ret))))
def hints_ref25_Predict : List (Nat × List Nat) := [(6, [3, 5])]
def ac_ref25_PredictDigest (n_ref25_Predict n_ref8_Digest : Nat) : AC :=
 (.seq
 (rG 4096 [oO 5 .boxArr [.tmp 2],mC 6 .nil,mC 7 (.t (.int .i64 0))])
 (.seq
 (rG 8192 [mv 11 0,mv 12 1,cL 13 n_ref25_Predict true [.tmp 11, .tmp 12],mv 10 13,oO 14 (.extract 0) [.tmp 10],oO 15 (.extract 1) [.tmp 10],oO 8 (.new 2 [(.agg [.nil, (.t (.int .i64 0))])]) [],oS 2 8 14,mv 9 15])
 (.seq
 (.seq
 (rG 12288 [mv 16 9,bN 17 .neq 16 0])
 (.cond (.tmp 17)
 (.seq
 (rG 16384 [mv 18 9,mC 6 .nil,mv 7 18])
 .ret)
 .skip))
 (.seq
 (rG 20480 [oO 19 (.load 2 true) [.tmp 8],oO 20 (.load 2 true) [.tmp 5],cL 21 n_ref8_Digest false [.tmp 19, .tmp 20],oO 22 (.extract 0) [.tmp 21],oO 23 (.extract 1) [.tmp 21],mv 6 22,mv 7 23])
 .ret))))
def hints_ref25_PredictDigest : List (Nat × List Nat) := [(1, [2])]
def ac_law29_PredictRegisters_L1 (n_predict_Registers n_ref25_Predict n_ref8_Same : Nat) : AC :=
 (.seq
 (.seq
 (rG 32768 [mv 30 9,bN 31 .lss 30 5])
 (.cond (.tmp 31)
 .skip
 (.exit 2)))
 (.seq
 (.block 3
 (.seq
 (rG 40960 [mv 35 8,mv 36 9,cL 37 n_predict_Registers true [.tmp 35, .tmp 36],mv 34 37,oO 38 (.extract 0) [.tmp 34],oO 39 (.extract 1) [.tmp 34],oO 10 (.new 2 [(.agg [.nil, (.t (.int .i64 0))])]) [],oS 2 10 38,mv 11 39])
 (.seq
 (rG 45056 [mv 41 8,mv 42 9,cL 43 n_ref25_Predict true [.tmp 41, .tmp 42],mv 40 43,oO 44 (.extract 0) [.tmp 40],oO 45 (.extract 1) [.tmp 40],oO 12 (.new 2 [(.agg [.nil, (.t (.int .i64 0))])]) [],oS 2 12 44,mv 13 45])
 (.seq
 (rG 49152 [mv 46 11,mv 47 13,bT 48 .neq 46 47,mv 49 48,oF 50 49 (.load 2 true) [.tmp 10],oF 51 49 (.load 2 true) [.tmp 12],cF 52 49 n_ref8_Same false [.tmp 50, .tmp 51],oF 53 49 (.un .not) [.tmp 52],oO 54 .pick [.tmp 49, .cst (.t (.bool true)), .tmp 53]])
 (.cond (.tmp 54)
 (.seq
 (rG 53248 [mC 6 (.t (.bool false))])
 .ret)
 .skip)))))
 (rG 36864 [mv 32 9,bN 33 .add 32 1,mv 9 33])))
def ac_law29_PredictRegisters_L0 (n_predict_Registers n_ref25_Predict n_ref8_Same : Nat) : AC :=
 (.seq
 (rG 20480 [bT 27 .lss 26 25])
 (.seq
 (.cond (.tmp 27)
 .skip
 (.exit 0))
 (.seq
 (.block 1
 (.seq
 (rG 24576 [oO 28 (.iaddr 1) [.tmp 24, .tmp 26],oO 29 (.load 1 false) [.tmp 28],mv 8 29])
 (.seq
 (.seq
 (rG 28672 [mC 9 (.t (.int .i64 0))])
 (.block 2
 (.loop (ac_law29_PredictRegisters_L1 n_predict_Registers n_ref25_Predict n_ref8_Same))))
 (.seq
 (rG 57344 [mv 56 8,mv 57 2,cL 58 n_predict_Registers true [.tmp 56, .tmp 57],mv 55 58,oO 59 (.extract 0) [.tmp 55],oO 60 (.extract 1) [.tmp 55],oO 14 (.new 2 [(.agg [.nil, (.t (.int .i64 0))])]) [],oS 2 14 59,mv 15 60])
 (.seq
 (rG 61440 [mv 62 8,mv 63 2,cL 64 n_ref25_Predict true [.tmp 62, .tmp 63],mv 61 64,oO 65 (.extract 0) [.tmp 61],oO 66 (.extract 1) [.tmp 61],oO 16 (.new 2 [(.agg [.nil, (.t (.int .i64 0))])]) [],oS 2 16 65,mv 17 66])
 (.seq
 (rG 65536 [mv 67 15,mv 68 17,bT 69 .neq 67 68])
 (.cond (.tmp 69)
 (.seq
 (rG 69632 [mC 6 (.t (.bool false))])
 .ret)
 .skip)))))))
 (rG 73728 [bN 70 .add 26 1,mv 26 70]))))
def ac_law29_PredictRegisters (n_law29_awake n_law29_few n_draw_Chain n_predict_Registers n_ref25_Predict n_ref8_Same : Nat) : AC :=
 (.seq
 (rG 4096 [mC 6 (.t (.bool false))])
 (.seq
 (.seq
 (rG 8192 [cL 18 n_law29_awake false [],oO 19 (.un .not) [.tmp 18]])
 (.cond (.tmp 19)
 (.seq
 (rG 12288 [mC 6 (.t (.bool false))])
 .ret)
 .skip))
 (.seq
 (.seq
 (rG 16384 [mv 20 0,cL 21 n_law29_few true [.tmp 20],mv 22 1,cL 23 n_draw_Chain true [.tmp 22],oO 24 (.bslice 1 2 .nil [0, 1]) [.tmp 21, .tmp 23],oO 25 .len [.tmp 24],mC 26 (.t (.int .i64 0))])
 (.block 0
 (.loop (ac_law29_PredictRegisters_L0 n_predict_Registers n_ref25_Predict n_ref8_Same))))
 (.seq
 (rG 77824 [mC 6 (.t (.bool true))])
 .ret))))
def hints_law29_PredictRegisters : List (Nat × List Nat) := [(3, [1, 3]), (9, [2]), (10, [2]), (13, [2]), (14, [2])]
def ac_law29_PredictDigest_L0 (n_predict_Digest n_ref25_PredictDigest n_ref1_Same : Nat) : AC :=
 (.seq
 (rG 32768 [bT 38 .lss 37 36])
 (.seq
 (.cond (.tmp 38)
 .skip
 (.exit 0))
 (.seq
 (.block 1
 (.seq
 (rG 36864 [oO 39 (.iaddr 1) [.tmp 35, .tmp 37],oO 40 (.load 1 false) [.tmp 39],mv 12 40])
 (.seq
 (rG 40960 [mv 42 12,mv 43 2,oO 44 (.load 2 true) [.tmp 8],cL 45 n_predict_Digest true [.tmp 42, .tmp 43, .tmp 44],mv 41 45,oO 46 (.extract 0) [.tmp 41],oO 47 (.extract 1) [.tmp 41],mv 13 46,mv 14 47])
 (.seq
 (rG 45056 [mv 49 12,mv 50 2,oO 51 (.load 2 true) [.tmp 8],cL 52 n_ref25_PredictDigest true [.tmp 49, .tmp 50, .tmp 51],mv 48 52,oO 53 (.extract 0) [.tmp 48],oO 54 (.extract 1) [.tmp 48],mv 15 53,mv 16 54])
 (.seq
 (rG 49152 [mv 55 14,mv 56 16,bT 57 .neq 55 56,mv 58 57,mF 59 13 58,mF 60 15 58,cF 61 58 n_ref1_Same false [.tmp 59, .tmp 60],oF 62 58 (.un .not) [.tmp 61],oO 63 .pick [.tmp 58, .cst (.t (.bool true)), .tmp 62]])
 (.cond (.tmp 63)
 (.seq
 (rG 53248 [mC 10 (.t (.bool false))])
 .ret)
 .skip))))))
 (rG 57344 [bN 64 .add 37 1,mv 37 64]))))
def ac_law29_PredictDigest (n_law29_awake n_draw_Mod n_law29_few n_draw_Chain n_predict_Digest n_ref25_PredictDigest n_ref1_Same : Nat) : AC :=
 (.seq
 (rG 4096 [oO 8 .boxArr [.tmp 3],mC 10 (.t (.bool false))])
 (.seq
 (.seq
 (rG 8192 [cL 17 n_law29_awake false [],oO 18 (.un .not) [.tmp 17]])
 (.cond (.tmp 18)
 (.seq
 (rG 12288 [mC 10 (.t (.bool false))])
 .ret)
 .skip))
 (.seq
 (.seq
 (rG 16384 [mv 19 4,oO 20 (.un .not) [.tmp 19]])
 (.cond (.tmp 20)
 (.seq
 (.reg 20480 (some [0, 1, 3, 0, 8, 31, 31, 127, 255, 511]) [oO 21 (.aaddr 2 1) [.tmp 8, .cst (.t (.int .i64 0))],oO 22 (.load 1 false) [.tmp 21],cL 23 n_draw_Mod false [.tmp 22, .cst (.t (.int .i64 65536))],oO 24 (.aaddr 2 1) [.tmp 8, .cst (.t (.int .i64 1))],oO 25 (.load 1 false) [.tmp 24],cL 26 n_draw_Mod false [.tmp 25, .cst (.t (.int .i64 65536))],oO 27 (.aaddr 2 1) [.tmp 8, .cst (.t (.int .i64 0))],oS 1 27 23,oO 28 (.aaddr 2 1) [.tmp 8, .cst (.t (.int .i64 1))],oS 1 28 26])
 (rG 24576 [mv 29 2,cL 30 n_draw_Mod false [.tmp 29, .cst (.t (.int .i64 5))],mv 2 30]))
 .skip))
 (.seq
 (.seq
 (rG 28672 [mv 31 0,cL 32 n_law29_few true [.tmp 31],mv 33 1,cL 34 n_draw_Chain true [.tmp 33],oO 35 (.bslice 1 2 .nil [0, 1]) [.tmp 32, .tmp 34],oO 36 .len [.tmp 35],mC 37 (.t (.int .i64 0))])
 (.block 0
 (.loop (ac_law29_PredictDigest_L0 n_predict_Digest n_ref25_PredictDigest n_ref1_Same))))
 (.seq
 (rG 61440 [mC 10 (.t (.bool true))])
 .ret)))))
def hints_law29_PredictDigest : List (Nat × List Nat) := [(6, [1, 3]), (9, [3]), (10, [3])]
end Go.Eng
end
section
set_option maxRecDepth 20000
set_option maxHeartbeats 64000000
namespace Go.Eng
theorem evsI_m {l : List Im} {act : Int} : (∀ e ∈ evsI l act, evM e) ∧ (evsI l act).length ≤ 136 ∧ esM (evsI l act) := by
 unfold evsI
 split
 · exact ⟨by simp, by simp, by simp, by simp⟩
 · rename_i h
   have hz : chkC l = 0 := by omega
   obtain ⟨hok, _, h8⟩ := chkC_ok hz
   have hv := evsC_ok (act := act) (by omega) hok
   have hl := evsC_len (act := act) (l := l)
   exact ⟨fun e he => (hv e he).2, by omega, by omega, fun e he => (hv e he).2.x⟩
theorem evsI_ok {l : List Im} {act : Int} (h : prE l act = 0) : evsI l act = evsC act l ∧ (∀ e ∈ evsC act l, evV act e) ∧ rpE act (evsC act l) = 0 ∧ rpG act (evsC act l) = prG l act := by
 obtain ⟨hz, ha⟩ := prE_ok h
 have hv := evsC_ok (act := act) (by omega) (chkC_ok hz).1
 have hE := rpE_ok ha hv
 refine ⟨by unfold evsI; rw [if_neg (by omega)], hv, hE, ?_⟩
 unfold rpG prG
 rw [if_pos hE, if_pos h]
def ct_prd : Ct where
 α := List Im × Int
 as x := [.t (.sl (x.1.map imT)), .t (.int .i64 x.2)]
 ins _ := []
 pre x := imsM x.1
 r x := .tup [.t (.agg [.sl ((prG x.1 x.2).1.map bankT), .int .i64 (prG x.1 x.2).2]), .t (.int .i64 (prE x.1 x.2))]
 outs _ := []
 inj := by
   rintro ⟨a, b⟩ ⟨c, d⟩ h _
   simp only [List.cons.injEq, V.t.injEq, T.sl.injEq, T.int.injEq, true_and, and_true, mapI_inj] at h
   obtain ⟨rfl, rfl⟩ := h
   exact ⟨rfl, rfl⟩
theorem prd_eq {l : List Im} {act : Int} (h : imsM l) : ct_prd.fs [.t (.sl (l.map imT)), .t (.int .i64 act)] [] = some (.tup [.t (.agg [.sl ((prG l act).1.map bankT), .int .i64 (prG l act).2]), .t (.int .i64 (prE l act))], []) := ct_prd.eq (l, act) h
theorem prG_bad {l : List Im} {act c : Int} (h : prE l act = c) (hc : c ≠ 0) : V.tup [.t (.agg [.sl ((prG l act).1.map bankT), .int .i64 (prG l act).2]), .t (.int .i64 (prE l act))] = .tup [.t (.agg [.sl [], .int .i64 0]), .t (.int .i64 c)] := by
 unfold prG
 rw [h, if_neg hc]; rfl
theorem w_predict_Registers (tab : Tab) (gl : Gl) (n1 n2 n3 : Nat) (h1 : tab.look n1 = some ct_chc.fs) (h2 : tab.look n2 = some ct_evI.fs) (h3 : tab.look n3 = some ct_rpl.fs) (l : List Im) (act : Int) (hm : imsM l) :
   (ac_predict_Registers n1 n2 n3).wp tab gl (zipF 0 [.t (.sl (l.map imT)), .t (.int .i64 act)]) (zipF 0 []) (resW [(4, some (2, true)), (5, none)] 0 (fun r o => r = .tup [.t (.agg [.sl ((prG l act).1.map bankT), .int .i64 (prG l act).2]), .t (.int .i64 (prE l act))] ∧ o = [])) := by
 have hC := chc_eq hm
 by_cases hz : chkC l = 0
 · rw [hz] at hC
   by_cases a1 : act < 1
   · rw [prG_bad (c := 1) (by unfold prE; rw [if_neg (by omega), if_pos (.inl a1)]) (by decide)]
     simp (disch := omega) only [go_sem, ↓reduceIte, Nat.reduceAdd, Nat.reduceEqDiff, Nat.reduceLeDiff, reduceCtorEq, ac_predict_Registers, h1, hC, a1]
   by_cases a3 : 3 < act
   · rw [prG_bad (c := 1) (by unfold prE; rw [if_neg (by omega), if_pos (.inr a3)]) (by decide)]
     simp (disch := omega) only [go_sem, ↓reduceIte, Nat.reduceAdd, Nat.reduceEqDiff, Nat.reduceLeDiff, reduceCtorEq, ac_predict_Registers, h1, hC, a1, a3]
   have e0 : prE l act = 0 := by unfold prE; rw [if_neg (by omega), if_neg (by omega)]
   obtain ⟨q1, q2, q3, q4⟩ := evsI_ok e0
   have hE := evI_eq (act := act) hm
   have hR := rpl_eq (act := act) (rs := 0) (evsI_m (l := l) (act := act)).2.2
   rw [q1] at hE hR
   rw [q3, q4] at hR
   rw [e0]
   generalize evsC act l = es at *
   generalize prG l act = X at *
   simp (disch := omega) only [go_sem, ↓reduceIte, Nat.reduceAdd, Nat.reduceEqDiff, Nat.reduceLeDiff, reduceCtorEq, ac_predict_Registers, h1, hC, a1, a3, h2, hE, h3, hR]
 · have hz' : (chkC l != 0) = true := by simpa using hz
   rw [prG_bad (c := chkC l) (if_pos hz) hz]
   generalize chkC l = c at *
   simp (disch := omega) only [go_sem, ↓reduceIte, Nat.reduceAdd, Nat.reduceEqDiff, Nat.reduceLeDiff, reduceCtorEq, ac_predict_Registers, h1, hC, hz']
theorem w_ref25_Predict (tab : Tab) (gl : Gl) (n1 n2 n3 : Nat) (h1 : tab.look n1 = some ct_chc.fs) (h2 : tab.look n2 = some ct_evI.fs) (h3 : tab.look n3 = some ct_rpl.fs) (l : List Im) (act : Int) (hm : imsM l) :
   (ac_ref25_Predict n1 n2 n3).wp tab gl (zipF 0 [.t (.sl (l.map imT)), .t (.int .i64 act)]) (zipF 0 []) (resW [(4, some (2, true)), (5, none)] 0 (fun r o => r = .tup [.t (.agg [.sl ((prG l act).1.map bankT), .int .i64 (prG l act).2]), .t (.int .i64 (prE l act))] ∧ o = [])) := by
 have hC := chc_eq hm
 by_cases hz : chkC l = 0
 · rw [hz] at hC
   by_cases a1 : act < 1
   · rw [prG_bad (c := 1) (by unfold prE; rw [if_neg (by omega), if_pos (.inl a1)]) (by decide)]
     simp (disch := omega) only [go_sem, ↓reduceIte, Nat.reduceAdd, Nat.reduceEqDiff, Nat.reduceLeDiff, reduceCtorEq, ac_ref25_Predict, h1, hC, a1]
   by_cases a3 : 3 < act
   · rw [prG_bad (c := 1) (by unfold prE; rw [if_neg (by omega), if_pos (.inr a3)]) (by decide)]
     simp (disch := omega) only [go_sem, ↓reduceIte, Nat.reduceAdd, Nat.reduceEqDiff, Nat.reduceLeDiff, reduceCtorEq, ac_ref25_Predict, h1, hC, a1, a3]
   have e0 : prE l act = 0 := by unfold prE; rw [if_neg (by omega), if_neg (by omega)]
   obtain ⟨q1, q2, q3, q4⟩ := evsI_ok e0
   have hE := evI_eq (act := act) hm
   have hR := rpl_eq (act := act) (rs := 0) (evsI_m (l := l) (act := act)).2.2
   rw [q1] at hE hR
   rw [q3, q4] at hR
   rw [e0]
   generalize evsC act l = es at *
   generalize prG l act = X at *
   simp (disch := omega) only [go_sem, ↓reduceIte, Nat.reduceAdd, Nat.reduceEqDiff, Nat.reduceLeDiff, reduceCtorEq, ac_ref25_Predict, h1, hC, a1, a3, h2, hE, h3, hR]
 · have hz' : (chkC l != 0) = true := by simpa using hz
   rw [prG_bad (c := chkC l) (if_pos hz) hz]
   generalize chkC l = c at *
   simp (disch := omega) only [go_sem, ↓reduceIte, Nat.reduceAdd, Nat.reduceEqDiff, Nat.reduceLeDiff, reduceCtorEq, ac_ref25_Predict, h1, hC, hz']
end Go.Eng
end
section
set_option maxRecDepth 20000
namespace Go.Eng
open Go.MuLone
theorem tieW {P : Program} {G : Gl} {tab : Tab} {f : FuncId} {fn : Func} {c : Code} {ac : AC} {hints : List (Nat × List Nat)} {rs : List (Nat × Option (Nat × Bool))} (hf : P.funcs[f]? = some fn) (hname : (fn.name == "runtime.NumGoroutine") = false) (hb : fn.body = some c) (hann : ann P fn.ntmps hints c = some ac) (hmx : P.follows .mixedOrders = true)
   (ht : TabOk P G tab) (hrs : resOf P fn.results.toList = some rs) (ct : Ct) (hn : ∀ x, (ct.as x).length ≤ fn.ntmps) (hi : ∀ x, (ct.ins x).length ≤ 100)
   (h : ∀ x, ct.pre x → ac.wp tab G (zipF 0 (ct.as x)) (zipF 0 (ct.ins x)) (resW rs (ct.ins x).length (fun r' o' => r' = ct.r x ∧ o' = ct.outs x))) : FOk P G f ct.fs :=
 ct.ok (fun args w => run_callFunc_enter hf hname hb args w) (fun x hx => spec_of hf hb hann hmx ht hrs (hn x) (hi x) (h x hx))
theorem tieF {P : Program} {G : Gl} {tab : Tab} {f : FuncId} {fn : Func} {c : Code} {ac : AC} {hints : List (Nat × List Nat)} {rs : List (Nat × Option (Nat × Bool))} (fz : List Nat) (hf : P.funcs[f]? = some fn) (hname : (fn.name == "runtime.NumGoroutine") = false) (hb : fn.body = some c) (hann : ann P fn.ntmps hints c = some ac) (hmx : P.follows .mixedOrders = true)
   (ht : TabOk P G tab) (hrs : resOf P fn.results.toList = some rs) (ct : Ct) (hn : ∀ x, (ct.as x).length ≤ fn.ntmps) (hi : ∀ x, (ct.ins x).length ≤ 100)
   (h : ∀ x, ct.pre x → ac.wp tab G (zipF 0 (ct.as x)) (zipF 0 (ct.ins x)) (resF fz rs (ct.ins x).length (fun r' o' => r' = ct.r x ∧ o' = ct.outs x))) : FOk P G f ct.fs :=
 ct.ok (fun args w => run_callFunc_enter hf hname hb args w) (fun x hx => spec_live fz hf hb hann hmx ht hrs (hn x) (hi x) (h x hx))
theorem tieL {P : Program} {G : Gl} {tab : Tab} {f : FuncId} {fn : Func} {c : Code} {ac : AC} {hints : List (Nat × List Nat)} {rs : List (Nat × Option (Nat × Bool))} (hf : P.funcs[f]? = some fn) (hb : fn.body = some c) (hann : ann P fn.ntmps hints c = some ac) (hmx : P.follows .mixedOrders = true)
   (ht : TabOk P G tab) (hrs : resOf P fn.results.toList = some rs) {as : List V} (hn : as.length ≤ fn.ntmps)
   (h : ac.wp tab G (zipF 0 as) (zipF 0 []) (resW rs 0 (fun r o => r = .t (.bool true) ∧ o = []))) : Spec P G f as [] (.t (.bool true)) [] :=
 spec_of hf hb hann hmx ht hrs hn (Nat.zero_le _) h
theorem tieW' {P : Program} {G : Gl} {tab : Tab} {f : FuncId} (fn : Func) (hints : List (Nat × List Nat)) (ac : AC) (rs : List (Nat × Option (Nat × Bool))) (ht : TabOk P G tab) (ct : Ct)
   (h : ∀ x, ct.pre x → ac.wp tab G (zipF 0 (ct.as x)) (zipF 0 (ct.ins x)) (resW rs (ct.ins x).length (fun r' o' => r' = ct.r x ∧ o' = ct.outs x)))
   (hf : P.funcs[f]? = some fn := by kernel_rfl) (hname : (fn.name == "runtime.NumGoroutine") = false := by kernel_rfl) (hb : fn.body = some (fn.body.getD .skip) := by kernel_rfl) (hann : ann P fn.ntmps hints (fn.body.getD .skip) = some ac := by kernel_rfl) (hmx : P.follows .mixedOrders = true := by kernel_rfl)
   (hrs : resOf P fn.results.toList = some rs := by kernel_rfl) (hn : ∀ x, (ct.as x).length ≤ fn.ntmps := by exact fun _ => Nat.le_of_ble_eq_true (by kernel_rfl)) (hi : ∀ x, (ct.ins x).length ≤ 100 := by exact fun _ => Nat.le_of_ble_eq_true (by kernel_rfl)) : FOk P G f ct.fs := tieW hf hname hb hann hmx ht hrs ct hn hi h
theorem tieF' {P : Program} {G : Gl} {tab : Tab} {f : FuncId} (fz : List Nat) (fn : Func) (hints : List (Nat × List Nat)) (ac : AC) (rs : List (Nat × Option (Nat × Bool))) (ht : TabOk P G tab) (ct : Ct)
   (h : ∀ x, ct.pre x → ac.wp tab G (zipF 0 (ct.as x)) (zipF 0 (ct.ins x)) (resF fz rs (ct.ins x).length (fun r' o' => r' = ct.r x ∧ o' = ct.outs x)))
   (hf : P.funcs[f]? = some fn := by kernel_rfl) (hname : (fn.name == "runtime.NumGoroutine") = false := by kernel_rfl) (hb : fn.body = some (fn.body.getD .skip) := by kernel_rfl) (hann : ann P fn.ntmps hints (fn.body.getD .skip) = some ac := by kernel_rfl) (hmx : P.follows .mixedOrders = true := by kernel_rfl)
   (hrs : resOf P fn.results.toList = some rs := by kernel_rfl) (hn : ∀ x, (ct.as x).length ≤ fn.ntmps := by exact fun _ => Nat.le_of_ble_eq_true (by kernel_rfl)) (hi : ∀ x, (ct.ins x).length ≤ 100 := by exact fun _ => Nat.le_of_ble_eq_true (by kernel_rfl)) : FOk P G f ct.fs := tieF fz hf hname hb hann hmx ht hrs ct hn hi h
theorem tieL' {P : Program} {G : Gl} {tab : Tab} {f : FuncId} (fn : Func) (hints : List (Nat × List Nat)) (ac : AC) (rs : List (Nat × Option (Nat × Bool))) (ht : TabOk P G tab) {as : List V}
   (h : ac.wp tab G (zipF 0 as) (zipF 0 []) (resW rs 0 (fun r o => r = .t (.bool true) ∧ o = [])))
   (hf : P.funcs[f]? = some fn := by kernel_rfl) (hb : fn.body = some (fn.body.getD .skip) := by kernel_rfl) (hann : ann P fn.ntmps hints (fn.body.getD .skip) = some ac := by kernel_rfl) (hmx : P.follows .mixedOrders = true := by kernel_rfl)
   (hrs : resOf P fn.results.toList = some rs := by kernel_rfl) (hn : as.length ≤ fn.ntmps := by exact Nat.le_of_ble_eq_true (by kernel_rfl)) : Spec P G f as [] (.t (.bool true)) [] := tieL hf hb hann hmx ht hrs hn h
end Go.Eng
end
section
set_option maxRecDepth 20000
namespace Go.Eng
open Go.MuLone
def SW (tab : Tab) (gl : Gl) (ac : AC) (fs : Fs) (hs : Hs) (Qa : Post) : Prop :=
 ∀ (cx : Cx) (hints : List (Nat × List Nat)) (c : Code), cx.gl = gl → TabOk cx.P cx.gl tab → cx.P.follows .mixedOrders = true → ann cx.P cx.nt hints c = some ac →
   ∀ {Qx : Exit → Act → World → Prop} {β : Nat → Option BI} {F : Nat → Prop} {a : Act} {w : World}, Rel cx β F (look fs) (look hs) a w →
     (∀ e fs' hs' β' F' a' w', Qa e fs' hs' → Rel cx β' F' (look fs') (look hs') a' w' → Qx e.ex a' w') → c.wp cx.P Qx a w
def seqS (tab : Tab) (gl : Gl) (b : AC) (Q : Post) : Post := fun e fs hs => match e with | .normal => SW tab gl b fs hs Q | e => Q e fs hs
theorem seqS_normal {tab : Tab} {gl : Gl} {b : AC} {Q : Post} {fs : Fs} {hs : Hs} : seqS tab gl b Q .normal fs hs = SW tab gl b fs hs Q := Eq.trans (Eq.refl _) rfl
theorem seqS_ret {tab : Tab} {gl : Gl} {b : AC} {Q : Post} {fs : Fs} {hs : Hs} : seqS tab gl b Q .ret fs hs = Q .ret fs hs := Eq.trans (Eq.refl _) rfl
attribute [go_sem] seqS_normal seqS_ret
theorem SW.of {tab : Tab} {gl : Gl} {ac : AC} {fs : Fs} {hs : Hs} {Q : Post} (h : ac.wp tab gl fs hs Q) : SW tab gl ac fs hs Q := by
 intro cx hints c hg ht hm ha Qx β F a w R hQ
 subst hg
 exact AC.sound ht hm ha h R hQ
theorem SW.weak {tab : Tab} {gl : Gl} {ac : AC} {fs fs' : Fs} {hs hs' : Hs} {Q : Post} (hw : Weak fs hs fs' hs') (h : SW tab gl ac fs' hs' Q) : SW tab gl ac fs hs Q := by
 intro cx hints c hg ht hm ha Qx β F a w R hQ
 obtain ⟨β', F', R'⟩ := hw cx β F a w R
 exact h cx hints c hg ht hm ha R' hQ
theorem SW.seq {tab : Tab} {gl : Gl} {a b : AC} {fs : Fs} {hs : Hs} {Q : Post} (h : SW tab gl a fs hs (seqS tab gl b Q)) : SW tab gl (.seq a b) fs hs Q := by
 intro cx hints c hg ht hm ha Qx β F act w R hQ
 cases c with
 | seq x y =>
   simp only [ann, Option.bind_eq_some_iff, Option.map_eq_some_iff] at ha
   obtain ⟨cx', hx, cy, hy, e⟩ := ha
   cases e
   refine wp_seq (h cx hints x hg ht hm hx R (fun e fs' hs' β' F' a' w' hq R' => ?_))
   cases e with
   | normal => exact hq cx hints y hg ht hm hy R' hQ
   | exit id => exact hQ (.exit id) _ _ _ _ _ _ hq R'
   | ret => exact hQ .ret _ _ _ _ _ _ hq R'
 | cond o x y =>
   simp only [ann, Option.bind_eq_some_iff, Option.map_eq_some_iff] at ha
   obtain ⟨_, _, _, _, _, _, e⟩ := ha
   cases e
 | region id ops draw =>
   simp only [ann, Option.bind_eq_some_iff] at ha
   obtain ⟨_, _, e⟩ := ha
   split at e
   · split at e
     · cases e
     · cases e
   · cases e
 | _ => simp [ann] at ha
theorem spec_ofS {P : Program} {G : Gl} {tab : Tab} {f : FuncId} {fn : Func} {c : Code} {ac : AC} {hints : List (Nat × List Nat)} {rs : List (Nat × Option (Nat × Bool))} (hf : P.funcs[f]? = some fn) (hb : fn.body = some c) (hann : ann P fn.ntmps hints c = some ac) (hmx : P.follows .mixedOrders = true)
   (ht : TabOk P G tab) (hrs : resOf P fn.results.toList = some rs) {as : List V} {ins : List Ob} {r : V} {outs : List Ob} (hn : as.length ≤ fn.ntmps) (hi : ins.length ≤ 100)
   (h : SW tab G ac (zipF 0 as) (zipF 0 ins) (resW rs ins.length (fun r' outs' => r' = r ∧ outs' = outs))) : Spec P G f as ins r outs := by
 intro w β F vals env fits hargs
 have hd0 : ∀ k bi, β k = some bi → k < 100 := by
   intro k bi h
   rcases Nat.lt_or_ge k ins.length with h1 | h1
   · omega
   · rw [fits.dom k h1] at h; cases h
 let cx : Cx := { P, w0 := w, F0 := F, inb := fun b => ∃ k bi, β k = some bi ∧ bi.blk = some b, nt := fn.ntmps, gl := G, β0 := β, d0 := hd0 }
 have hlen : as.length = vals.size := by simpa using hargs.length
 have lookAs : ∀ t v, look (zipF 0 as) t = some v → as[t]? = some v := by
   intro t v h; simpa [look_zipF] using h
 have lookIns : ∀ t v, look (zipF 0 ins) t = some v → ins[t]? = some v := by
   intro t v h; simpa [look_zipF] using h
 have R0 : Rel cx β F (look (zipF 0 as)) (look (zipF 0 ins)) { tmps := vals ++ Array.replicate (fn.ntmps - vals.size) undef, defers := [] } w := by
   refine ⟨by simp [cx]; omega, rfl, fun t v hv => ?_, fun id o ho => ?_, fun id hn => ?_, fun i j bi bj b oi oj h1 h2 h3 h4 _ _ _ _ => fits.inj i j bi bj b h1 h2 h3 h4, rfl, rfl, rfl, Nat.le_refl _, fun _ _ _ => rfl, fun id z es full bi b h1 h2 h3 => .inr ⟨?_, id, bi, h2, h3⟩, fun b hb => ?_, fun b hb => ?_, env.Fw, fun _ _ => Iff.rfl, fun id bi b h1 h2 => (fits.blt id bi b h1 h2).1, fun g cs hg => ?_, fun _ _ h => h, env.gs⟩
   · obtain ⟨x, h1, h2⟩ := hargs.get' t v (lookAs t v hv)
     refine ⟨x, ?_, h2⟩
     have hlt : t < vals.size := by
       have := (List.getElem?_eq_some_iff.1 (lookAs t v hv)).1
       omega
     rw [Array.getElem?_append_left hlt]
     simpa using h1
   · obtain ⟨bi, h1, h2, _⟩ := fits.ok id o (lookIns id o ho)
     exact ⟨bi, h1, h2⟩
   · refine fits.dom id ?_
     rcases Nat.lt_or_ge id ins.length with h1 | h1
     · rw [look_zipF] at hn
       simp [h1] at hn
     · exact h1
   · have := (List.getElem?_eq_some_iff.1 (lookIns id _ h1)).1
     omega
   · obtain ⟨k, bi, h1, h2⟩ := hb
     exact (fits.blt k bi b h1 h2).2
   · obtain ⟨k, bi, h1, h2⟩ := hb
     exact (fits.blt k bi b h1 h2).1
   · exact (env.gl g cs hg).mono (fun _ _ h => by cases h) (fun _ h => h) (fun _ _ => rfl)
 refine calls_of_wp hf hb (h cx hints c rfl ht hmx hann R0 (fun e fs hs βR FR a w' hq R => ?_))
 have fin : ((rsQ fs rs).bind fun vs => retQ ins.length vs).wp hs (fun p _ => p.1 = r ∧ p.2 = outs) → a.defers = [] ∧ ∃ v, (results fn a.tmps).run P w' = .ok v w' ∧ ∃ x β' F', Ending.returned v = .returned x ∧ SpecPost w β F ins r outs x β' F' w' := by
   intro hq
   rw [Q.wp_bind] at hq
   obtain ⟨vs, l0, hvs, ⟨r', outs'⟩, l, hrun, e1, e2⟩ := hq
   obtain ⟨xs, hxs, hall⟩ := rs_sound (cx := cx) R hrs hvs
   refine ⟨R.dfr, _, run_results hxs, ?_⟩
   · simp only at e1 e2
     subst e1 e2
     unfold retQ at hrun
     obtain ⟨p, l1, l2, hp, hrun, _⟩ := bind_inv hrun
     obtain ⟨q, l3, l4, hqq, hrun, _⟩ := bind_inv hrun
     obtain ⟨hdis, hrun⟩ := assert_inv hrun
     obtain ⟨fw, l5, l6, hfw, hrun, _⟩ := bind_inv hrun
     obtain ⟨e, _⟩ := ret_inv hrun
     simp only [Prod.mk.injEq] at e
     obtain ⟨rfl, rfl⟩ := e
     obtain ⟨ids, obs, fzq⟩ := q
     obtain ⟨t, htt⟩ := gather_range (s := 0) (m := ins.length) (n := 12 + ins.length) (rest := refsL p.1) (by simpa [List.range_eq_range'] using hqq)
     have hidk : ∀ k, k < ins.length → ids[k]? = some k := by
       intro k hk
       rw [htt, List.getElem?_append_left (by simpa using hk)]
       simp [hk]
     obtain ⟨F1, R1, hFF, hnd, hlo, hfwl, hlive, fits', hres⟩ := pre_core R hp hqq (fun r h => by simp [h]) hdis hfw hall
     have hβk : ∀ k bi, β k = some bi → βR k = some bi := R1.ext0
     have hklt : ∀ k bi, β k = some bi → k < ins.length := by
       intro k bi h
       rcases Nat.lt_or_ge k ins.length with h1 | h1
       · exact h1
       · rw [fits.dom k h1] at h; cases h
     refine ⟨_, nums ids βR, F1, rfl, fits', res_sound hres, fun k hk => ?_, fun k bi b hk h1 h2 => ?_, fun b hb => R1.F0 b hb, R1.Fw, R1.os, R1.tape, R1.output, R1.size, fun b hb hk => R1.ext b hb (fun ⟨k, bi, h1, h2⟩ => hk k bi h1 h2)⟩
     · obtain ⟨bi, h1, _⟩ := fits.ok k ins[k] (by simp [hk])
       simp [nums, hidk k hk, hβk k bi h1, h1]
     · unfold nums at h1
       rw [Option.bind_eq_some_iff] at h1
       obtain ⟨id, hid, h1⟩ := h1
       obtain ⟨z, es, full, _, hl⟩ := hlive k id hid
       rcases R1.old id z es full bi b hl h1 h2 with h | ⟨_, k0, bi0, g1, g2⟩
       · exact h
       · exfalso
         have hk0 := hklt k0 bi0 g1
         obtain ⟨z0, es0, full0, _, hl0⟩ := hlive k0 k0 (hidk k0 hk0)
         have e := R1.inj id k0 bi bi0 b _ _ h1 (hβk k0 bi0 g1) h2 g2 hl hl0 (by simp) (by simp)
         subst e
         have hi1 : k < ids.length := (List.getElem?_eq_some_iff.1 hid).1
         have hi2 : id < ids.length := (List.getElem?_eq_some_iff.1 (hidk id hk0)).1
         have := nodup_inj hnd hi1 hi2 (by
           have a1 := hid
           have a2 := hidk id hk0
           rw [List.getElem?_eq_getElem hi1] at a1
           rw [List.getElem?_eq_getElem hi2] at a2
           rw [Option.some.inj a1, Option.some.inj a2])
         omega
 cases e with
 | normal => exact fin hq
 | ret => exact fin hq
 | exit id => exact hq.elim
theorem tieS' {P : Program} {G : Gl} {tab : Tab} {f : FuncId} (fn : Func) (hints : List (Nat × List Nat)) (ac : AC) (rs : List (Nat × Option (Nat × Bool))) (ht : TabOk P G tab) (ct : Ct)
   (h : ∀ x, ct.pre x → SW tab G ac (zipF 0 (ct.as x)) (zipF 0 (ct.ins x)) (resW rs (ct.ins x).length (fun r' o' => r' = ct.r x ∧ o' = ct.outs x)))
   (hf : P.funcs[f]? = some fn := by kernel_rfl) (hname : (fn.name == "runtime.NumGoroutine") = false := by kernel_rfl) (hb : fn.body = some (fn.body.getD .skip) := by kernel_rfl) (hann : ann P fn.ntmps hints (fn.body.getD .skip) = some ac := by kernel_rfl) (hmx : P.follows .mixedOrders = true := by kernel_rfl)
   (hrs : resOf P fn.results.toList = some rs := by kernel_rfl) (hn : ∀ x, (ct.as x).length ≤ fn.ntmps := by exact fun _ => Nat.le_of_ble_eq_true (by kernel_rfl)) (hi : ∀ x, (ct.ins x).length ≤ 100 := by exact fun _ => Nat.le_of_ble_eq_true (by kernel_rfl)) : FOk P G f ct.fs :=
 ct.ok (fun args w => run_callFunc_enter hf hname hb args w) (fun x hx => spec_ofS hf hb hann hmx ht hrs (hn x) (hi x) (h x hx))
end Go.Eng
end
section
set_option maxRecDepth 20000
set_option maxHeartbeats 64000000
namespace Go.Eng
def awL : List Im := [(1, [102], 0, []), (3, [107], 0, []), (4, [99], 0, [97, 61, 49, 10, 98, 10])]
theorem aw29_a : chkC awL = 0 ∧ (evsC 2 awL).length = 12 ∧ ((evsC 2 awL)[9]?).map (fun e => e.1) = some 8 ∧ ((evsC 2 awL)[11]?).map (fun e => e.2.2.2) = some [98] := by decide +kernel
theorem aw29_b : (rpF 2 (evsC 2 awL)).2 = 12 ∧ valL (rpF 2 (evsC 2 awL)).1 1 4 = valL (rpF 2 (evsC 2 awL)).1 1 5 := by decide +kernel
theorem awL_m : imsM awL := by
 refine ⟨by simp [awL], fun x hx => ?_⟩
 simp only [awL, List.mem_cons, List.not_mem_nil, or_false] at hx
 rcases hx with rfl | rfl | rfl
 all_goals exact ⟨by simp, by simp, by unfold rI; simp, by unfold rI; simp⟩
theorem w_awake29 (tab : Tab) (gl : Gl) (n1 n2 n3 n4 : Nat) (h1 : tab.look n1 = some ct_evI.fs) (h2 : tab.look n2 = some ct_prd.fs) (h3 : tab.look n3 = some ct_val.fs) (h4 : tab.look n4 = some ct_same.fs) :
   SW tab gl (ac_law29_awake n1 n2 n3 n4) (zipF 0 []) (zipF 0 []) (resW [(0, none)] 0 (fun r o => r = .t (.bool true) ∧ o = [])) := by
 obtain ⟨a1, a2, a3, a4⟩ := aw29_a
 obtain ⟨b1, b2⟩ := aw29_b
 have e0 : prE awL 2 = 0 := by unfold prE; rw [if_neg (by omega), if_neg (by omega)]
 have eI : evsI awL 2 = evsC 2 awL := (evsI_ok e0).1
 have eG : prG awL 2 = rpF 2 (evsC 2 awL) := if_pos e0
 have hE : ct_evI.fs [.t (.sl [.agg [.int .i64 1, strT [102], .int .i64 0, .sl []], .agg [.int .i64 3, strT [107], .int .i64 0, .sl []], .agg [.int .i64 4, strT [99], .int .i64 0, .sl [byteT 97, byteT 61, byteT 49, byteT 10, byteT 98, byteT 10]]]), .t (.int .i64 2)] [] = _ := evI_eq (l := awL) (act := 2) awL_m
 have hR : ct_prd.fs [.t (.sl [.agg [.int .i64 1, strT [102], .int .i64 0, .sl []], .agg [.int .i64 3, strT [107], .int .i64 0, .sl []], .agg [.int .i64 4, strT [99], .int .i64 0, .sl [byteT 97, byteT 61, byteT 49, byteT 10, byteT 98, byteT 10]]]), .t (.int .i64 2)] [] = _ := prd_eq (l := awL) (act := 2) awL_m
 have hS := (rpF_rq (act := 2) (by omega) (es := evsC 2 awL)).1
 have on : onB (rpF 2 (evsC 2 awL)).1 1 = true := hS.on (by omega) (by decide)
 have v4 := val_on (u := (rpF 2 (evsC 2 awL)).2) hS.rv.rm (a := 1) (n := 4) (by omega) (by omega) on
 have v5 := val_on (u := (rpF 2 (evsC 2 awL)).2) hS.rv.rm (a := 1) (n := 5) (by omega) (by omega) on
 have lv := valL_le hS.rv (a := 1) (g := 5)
 rw [show ((1 : Nat) : Int) = 1 from rfl, show ((4 : Nat) : Int) = 4 from rfl] at v4
 rw [show ((1 : Nat) : Int) = 1 from rfl, show ((5 : Nat) : Int) = 5 from rfl] at v5
 rw [eI] at hE
 rw [eG, e0] at hR
 rw [b2] at v4
 rw [b1] at hR v4 v5
 clear a1 b1 b2 e0 eI eG hS on
 generalize valL (rpF 2 (evsC 2 awL)).1 1 5 = v at *
 generalize (rpF 2 (evsC 2 awL)).1 = X at *
 generalize evsC 2 awL = es at *
 obtain ⟨⟨q1, q2, q3, q4⟩, h9, g9⟩ := Option.map_eq_some_iff.1 a3
 obtain ⟨⟨p1, p2, p3, p4⟩, h11, g11⟩ := Option.map_eq_some_iff.1 a4
 simp only at g9 g11
 subst g9
 have hd : decide (p4 = [98]) = true := decide_eq_true g11
 have hq := same_eq (a := v) (b := v) ⟨by omega, by omega⟩
 rw [decide_eq_true rfl] at hq
 have tv : List.take v.length v = v := List.take_length
 obtain ⟨A, B, C, hA⟩ : ∃ A B C, ac_law29_awake n1 n2 n3 n4 = .seq A (.seq B C) := ⟨_, _, _, rfl⟩
 have hA' := hA
 simp only [ac_law29_awake, AC.seq.injEq] at hA'
 obtain ⟨eA, eB, eC⟩ := hA'
 rw [hA]
 refine SW.seq (SW.of ?_)
 subst eA
 simp (disch := omega) only [go_sem, Nat.reduceAdd]
 refine SW.seq (SW.of ?_)
 subst eB
 simp (disch := omega) only [go_sem, ↓reduceIte, Nat.reduceAdd, Nat.reduceEqDiff, Nat.reduceLT, Nat.reduceLeDiff]
 refine SW.weak (fs' := [(0, .t (.bool false)), (1, .sl 8272 0 3)]) (hs' := [(8272, .live 4 [.t (.agg [.int .i64 1, strT [102], .int .i64 0, .sl []]), .t (.agg [.int .i64 3, strT [107], .int .i64 0, .sl []]), .t (.agg [.int .i64 4, strT [99], .int .i64 0, .sl [byteT 97, byteT 61, byteT 49, byteT 10, byteT 98, byteT 10]])] true true)]) (Weak.cv (hv := []) (ho := [(8272, .live 4 [.t (.agg [.int .i64 1, strT [102], .int .i64 0, .sl []]), .t (.agg [.int .i64 3, strT [107], .int .i64 0, .sl []]), .t (.agg [.int .i64 4, strT [99], .int .i64 0, .sl [byteT 97, byteT 61, byteT 49, byteT 10, byteT 98, byteT 10]])] true true)]) [8224] id ?_ rfl) (SW.of ?_)
 · simp (disch := omega) only [go_sem, ↓reduceIte, Nat.reduceAdd, Nat.reduceEqDiff, Nat.reduceLeDiff, reduceCtorEq, id]
   all_goals rfl
 · subst eC
   simp (disch := omega) only [go_sem, ↓reduceIte, Nat.reduceAdd, Nat.reduceEqDiff, Nat.reduceLeDiff, Int.reduceLE, reduceCtorEq, h1, hE, h2, hR, h3, v4, v5, h4, hq, tv, a2, h9, h11, evT_def, hd]
   all_goals rfl
theorem chG_m {b : List UInt8} : imsM (chG b) := by
 obtain ⟨_, h1, h2⟩ := chG_ok (b := b)
 exact ⟨by omega, fun x hx => chkI_m (h1 x hx)⟩
def zero32 : List UInt8 := List.replicate 32 0
def dgE (e : Ev) : List UInt8 := e.2.2.1.getD 1 []
def msE (v : List (List UInt8)) (e : Ev) : List (List UInt8) := (if e.2.1 ≠ 1 then [e.2.2.2] else []) ++ [v.getD e.1.toNat [] ++ dgE e]
def stV (v : List (List UInt8)) (e : Ev) : List (List UInt8) := v.set e.1.toNat (sum256 (v.getD e.1.toNat [] ++ dgE e))
def hsE : List (List UInt8) → List Ev → List (List UInt8)
 | _, [] => []
 | v, e :: r => msE v e ++ hsE (stV v e) r
def v0 : List (List UInt8) := List.replicate 12 zero32
def hsd (l : List Im) : List (List UInt8) := (imgs l).map encI' ++ hsE v0 (evsI l 2)
theorem prG_rv {l : List Im} {act : Int} : RV (prG l act).1 ∧ 0 ≤ (prG l act).2 ∧ (prG l act).2 ≤ 1000 := by
 unfold prG
 split
 · rename_i h
   obtain ⟨hz, ha⟩ := prE_ok h
   have := rpF_rq ha (es := evsC act l)
   have hl := evsC_len (act := act) (l := l)
   have h8 := (chkC_ok hz).2.2
   exact ⟨this.1.rv, this.2.1, by have := this.2.2; omega⟩
 · exact ⟨⟨.nil, by simp⟩, by simp, by simp⟩
theorem w_PredictRegisters (tab : Tab) (gl : Gl) (n1 n2 n3 n4 n5 n6 : Nat) (h1 : tab.look n1 = some ct_awake.fs) (h2 : tab.look n2 = some ct_few29.fs) (h3 : tab.look n3 = some ct_dch.fs) (h4 : tab.look n4 = some ct_prd.fs) (h5 : tab.look n5 = some ct_prd.fs) (h6 : tab.look n6 = some ct_eqR.fs)
   (raw : List Im) (hx : imsX raw) (cs : List UInt8) (hcs : cs.length ≤ 9223372036854775807) (a : Int) :
   (ac_law29_PredictRegisters n1 n2 n3 n4 n5 n6).wp tab gl (zipF 0 [.t (.sl (raw.map imT)), .t (.sl (cs.map byteT)), .t (.int .i64 a)]) (zipF 0 []) (resW [(6, none)] 0 (fun r' o => r' = .t (.bool true) ∧ o = [])) := by
 have hF := few29_eq hx
 have mF := fewC_m hx
 have hC := dch_eq hcs
 have hmC := chG_m (b := cs)
 generalize fewC raw = F at *
 generalize chG cs = C at *
 have one : ∀ (k : Nat) (E : List Im), k < 2 → imsM E → [T.sl (F.map imT), T.sl (C.map imT)][k]? = some (.sl (E.map imT)) → (ac_law29_PredictRegisters_L0 n4 n5 n6).wp tab gl [(2, .t (.int .i64 a)), (24, .t (.sl [T.sl (F.map imT), T.sl (C.map imT)])), (25, .t (.int .i64 2)), (26, .t (.int .i64 (k : Nat)))] [] (upK 2 (fun i => [(2, .t (.int .i64 a)), (24, .t (.sl [T.sl (F.map imT), T.sl (C.map imT)])), (25, .t (.int .i64 2)), (26, .t (.int .i64 (i : Nat)))]) (fun _ => []) k (blockK 0 (seqK tab gl ((rG 77824 [mC 6 (.t (.bool true))]).seq AC.ret) (resW [(6, none)] 0 (fun r' o => r' = .t (.bool true) ∧ o = []))))) := by
   intro k E hk hm hg
   have hRa := prd_eq (act := a) hm
   generalize prG E a = Xa at *
   generalize prE E a = ea at *
   simp (disch := omega) only [go_sem, ↓reduceIte, Nat.reduceAdd, Nat.reduceEqDiff, Nat.reduceLeDiff, ac_law29_PredictRegisters_L0, hg]
   refine loop_upto 5 (fun i => [(2, .t (.int .i64 a)), (8, .t (.sl (E.map imT))), (9, .t (.int .i64 (i : Nat))), (24, .t (.sl [T.sl (F.map imT), T.sl (C.map imT)])), (25, .t (.int .i64 2)), (26, .t (.int .i64 (k : Nat)))]) (fun _ => []) ?_ (fun i hi => ?_)
   · refine Weak.rd id ?_ ?_ rfl
     all_goals simp (disch := omega) only [go_sem, ↓reduceIte, Nat.reduceEqDiff, id]
   · by_cases hlt : i < 5
     · have hR := prd_eq (act := (i : Int)) hm
       have hq := eqR_eq (u := (prG E i).2) (prG_rv (l := E) (act := (i : Int))).1.rm
       generalize prG E (i : Int) = X at *
       generalize prE E (i : Int) = e at *
       simp (disch := omega) only [go_sem, ↓reduceIte, Nat.reduceAdd, Nat.reduceEqDiff, Nat.reduceLeDiff, ac_law29_PredictRegisters_L1, h4, hR, h5, bne_self_eq_false, h6, hq]
       refine ⟨hlt, Weak.rd id ?_ ?_ rfl⟩
       all_goals simp (disch := omega) only [go_sem, ↓reduceIte, Nat.reduceEqDiff, id]
     · have e : i = 5 := by omega
       subst e
       simp (disch := omega) only [go_sem, ↓reduceIte, Nat.reduceAdd, Nat.reduceEqDiff, Nat.reduceLeDiff, Int.reduceLT, ac_law29_PredictRegisters_L1, h4, hRa, h5, bne_self_eq_false]
       refine ⟨hk, Weak.rd id ?_ ?_ rfl⟩
       all_goals simp (disch := omega) only [go_sem, ↓reduceIte, Nat.reduceEqDiff, id]
 simp (disch := omega) only [go_sem, ↓reduceIte, Nat.reduceAdd, Nat.reduceEqDiff, Nat.reduceLT, Nat.reduceLeDiff, reduceCtorEq, ac_law29_PredictRegisters, h1, awake_eq, h2, hF, h3, hC]
 refine loop_upto 2 (fun i => [(2, .t (.int .i64 a)), (24, .t (.sl [T.sl (F.map imT), T.sl (C.map imT)])), (25, .t (.int .i64 2)), (26, .t (.int .i64 (i : Nat)))]) (fun _ => []) ?_ (fun k hk => ?_)
 · refine Weak.cv (hv := []) (ho := []) [16448] id ?_ rfl
   simp (disch := omega) only [go_sem, ↓reduceIte, Nat.reduceAdd, Nat.reduceEqDiff, Nat.reduceLeDiff, reduceCtorEq, id]
   all_goals rfl
 · rcases (show k = 0 ∨ k = 1 ∨ k = 2 by omega) with rfl | rfl | rfl
   · exact one 0 F (by omega) mF rfl
   · exact one 1 C (by omega) hmC rfl
   · simp (disch := omega) only [go_sem, ↓reduceIte, Nat.reduceAdd, Nat.reduceEqDiff, Int.reduceLT, ac_law29_PredictRegisters_L0]
def pdE (l : List Im) (act s0 s1 : Int) : Int := if prE l act = 0 then digE (prG l act).1 s0 s1 else prE l act
def pdB (l : List Im) (act s0 s1 : Int) : List UInt8 := if pdE l act s0 s1 = 0 then hashL 5 [headS s0 s1, valS (prG l act).1 s0 s1] else []
def ct_pdg : Ct where
 α := List Im × Int × Int × Int
 as x := [.t (.sl (x.1.map imT)), .t (.int .i64 x.2.1), .t (.agg [.int .i64 x.2.2.1, .int .i64 x.2.2.2])]
 ins _ := []
 pre x := imsM x.1
 r x := .tup [.t (.sl ((pdB x.1 x.2.1 x.2.2.1 x.2.2.2).map byteT)), .t (.int .i64 (pdE x.1 x.2.1 x.2.2.1 x.2.2.2))]
 outs _ := []
 inj := by
   rintro ⟨l, c, a, b⟩ ⟨m, f, d, e⟩ h _
   simp only [List.cons.injEq, V.t.injEq, T.int.injEq, T.agg.injEq, T.sl.injEq, true_and, and_true, mapI_inj] at h
   obtain ⟨rfl, rfl, rfl, rfl⟩ := h
   exact ⟨rfl, rfl⟩
theorem pdg_eq {l : List Im} {act s0 s1 : Int} (h : imsM l) : ct_pdg.fs [.t (.sl (l.map imT)), .t (.int .i64 act), .t (.agg [.int .i64 s0, .int .i64 s1])] [] = some (.tup [.t (.sl ((pdB l act s0 s1).map byteT)), .t (.int .i64 (pdE l act s0 s1))], []) := ct_pdg.eq (l, act, s0, s1) h
theorem pdg_cases {act : Int} {l : List Im} (s0 s1 : Int) : (prE l act ≠ 0 ∧ pdE l act s0 s1 = prE l act ∧ pdB l act s0 s1 = []) ∨ (prE l act = 0 ∧ pdE l act s0 s1 ≠ 0 ∧ pdB l act s0 s1 = [] ∧ ct_digs.fs [.t (.agg [.sl ((prG l act).1.map bankT), .int .i64 (prG l act).2]), .t (.agg [.int .i64 s0, .int .i64 s1])] [] = some (.tup [.nil, .t (.int .i64 (pdE l act s0 s1))], [])) ∨
   (prE l act = 0 ∧ pdE l act s0 s1 = 0 ∧ (pdB l act s0 s1).length = 32 ∧ ct_digs.fs [.t (.agg [.sl ((prG l act).1.map bankT), .int .i64 (prG l act).2]), .t (.agg [.int .i64 s0, .int .i64 s1])] [] = some (.tup [.sl 0 0 32, .t (.int .i64 0)], [.live 1 (((pdB l act s0 s1).map byteT).map V.t) true false])) := by
 have he : ct_digs.fs [.t (.agg [.sl ((prG l act).1.map bankT), .int .i64 (prG l act).2]), .t (.agg [.int .i64 s0, .int .i64 s1])] [] = some (digR (prG l act).1 s0 s1, digO (prG l act).1 s0 s1) := ct_digs.eq ((prG l act).1, (prG l act).2, s0, s1) prG_rv.1
 by_cases hz : prE l act = 0
 · have hE : pdE l act s0 s1 = digE (prG l act).1 s0 s1 := if_pos hz
   by_cases hd : digE (prG l act).1 s0 s1 = 0
   · refine .inr (.inr ⟨hz, hE.trans hd, ?_, ?_⟩)
     · unfold pdB; rw [if_pos (hE.trans hd)]; exact sum256_length
     · rw [he]
       unfold digR digO pdB
       rw [if_pos hd, if_pos hd, if_pos (hE.trans hd)]
   · refine .inr (.inl ⟨hz, by rw [hE]; exact hd, ?_, ?_⟩)
     · unfold pdB; rw [if_neg (by rw [hE]; exact hd)]
     · rw [he, hE]
       unfold digR digO
       rw [if_neg hd, if_neg hd]
 · have hE : pdE l act s0 s1 = prE l act := if_neg hz
   refine .inl ⟨hz, hE, ?_⟩
   unfold pdB; rw [if_neg (by rw [hE]; exact hz)]
theorem pdB_len {l : List Im} {act s0 s1 : Int} : (pdB l act s0 s1).length ≤ 32 := by
 unfold pdB
 split
 · exact Nat.le_of_eq sum256_length
 · simp
theorem w_predict_Digest (tab : Tab) (gl : Gl) (n1 n2 : Nat) (h1 : tab.look n1 = some ct_prd.fs) (h2 : tab.look n2 = some ct_digs.fs) (l : List Im) (act s0 s1 : Int) (hm : imsM l) :
   (ac_predict_Digest n1 n2).wp tab gl (zipF 0 [.t (.sl (l.map imT)), .t (.int .i64 act), .t (.agg [.int .i64 s0, .int .i64 s1])]) (zipF 0 []) (resW [(6, none), (7, none)] 0 (fun r o => r = .tup [.t (.sl ((pdB l act s0 s1).map byteT)), .t (.int .i64 (pdE l act s0 s1))] ∧ o = [])) := by
 have hR := prd_eq (act := act) hm
 rcases pdg_cases (act := act) (l := l) s0 s1 with ⟨z, e, b⟩ | ⟨z, e, b, hD⟩ | ⟨z, e, b, hD⟩
 · rw [e, b]
   have z' : (prE l act != 0) = true := by simpa using z
   generalize prE l act = c at *
   generalize prG l act = X at *
   simp (disch := omega) only [go_sem, ↓reduceIte, Nat.reduceAdd, Nat.reduceEqDiff, Nat.reduceLeDiff, reduceCtorEq, ac_predict_Digest, h1, hR, z', List.map_nil]
 · rw [b]
   rw [z] at hR
   generalize pdE l act s0 s1 = c at *
   generalize prG l act = X at *
   simp (disch := omega) only [go_sem, ↓reduceIte, Nat.reduceAdd, Nat.reduceEqDiff, Nat.reduceLeDiff, reduceCtorEq, ac_predict_Digest, h1, hR, h2, hD, List.map_nil]
 · rw [e]
   rw [z] at hR
   generalize pdB l act s0 s1 = B at *
   generalize prG l act = X at *
   have t32 : List.take 32 B = B := List.take_of_length_le (by omega)
   simp (disch := omega) only [go_sem, ↓reduceIte, Nat.reduceAdd, Nat.reduceEqDiff, Nat.reduceLeDiff, reduceCtorEq, ac_predict_Digest, h1, hR, h2, hD, b, t32]
theorem w_ref25_PredictDigest (tab : Tab) (gl : Gl) (n1 n2 : Nat) (h1 : tab.look n1 = some ct_prd.fs) (h2 : tab.look n2 = some ct_digs.fs) (l : List Im) (act s0 s1 : Int) (hm : imsM l) :
   (ac_ref25_PredictDigest n1 n2).wp tab gl (zipF 0 [.t (.sl (l.map imT)), .t (.int .i64 act), .t (.agg [.int .i64 s0, .int .i64 s1])]) (zipF 0 []) (resW [(6, none), (7, none)] 0 (fun r o => r = .tup [.t (.sl ((pdB l act s0 s1).map byteT)), .t (.int .i64 (pdE l act s0 s1))] ∧ o = [])) := by
 have hR := prd_eq (act := act) hm
 rcases pdg_cases (act := act) (l := l) s0 s1 with ⟨z, e, b⟩ | ⟨z, e, b, hD⟩ | ⟨z, e, b, hD⟩
 · rw [e, b]
   have z' : (prE l act != 0) = true := by simpa using z
   generalize prE l act = c at *
   generalize prG l act = X at *
   simp (disch := omega) only [go_sem, ↓reduceIte, Nat.reduceAdd, Nat.reduceEqDiff, Nat.reduceLeDiff, reduceCtorEq, ac_ref25_PredictDigest, h1, hR, z', List.map_nil]
 · rw [b]
   rw [z] at hR
   generalize pdE l act s0 s1 = c at *
   generalize prG l act = X at *
   simp (disch := omega) only [go_sem, ↓reduceIte, Nat.reduceAdd, Nat.reduceEqDiff, Nat.reduceLeDiff, reduceCtorEq, ac_ref25_PredictDigest, h1, hR, h2, hD, List.map_nil]
 · rw [e]
   rw [z] at hR
   generalize pdB l act s0 s1 = B at *
   generalize prG l act = X at *
   have t32 : List.take 32 B = B := List.take_of_length_le (by omega)
   simp (disch := omega) only [go_sem, ↓reduceIte, Nat.reduceAdd, Nat.reduceEqDiff, Nat.reduceLeDiff, reduceCtorEq, ac_ref25_PredictDigest, h1, hR, h2, hD, b, t32]
theorem w_PredictDigest (tab : Tab) (gl : Gl) (n1 n2 n3 n4 n5 n6 n7 : Nat) (h1 : tab.look n1 = some ct_awake.fs) (h2 : tab.look n2 = some ct_mod.fs) (h3 : tab.look n3 = some ct_few29.fs) (h4 : tab.look n4 = some ct_dch.fs) (h5 : tab.look n5 = some ct_pdg.fs) (h6 : tab.look n6 = some ct_pdg.fs) (h7 : tab.look n7 = some ct_same.fs)
   (raw : List Im) (hx : imsX raw) (cs : List UInt8) (hcs : cs.length ≤ 9223372036854775807) (a : Int) (ha : rI a) (s0 s1 : Int) (hs0 : rI s0) (hs1 : rI s1) (any : Bool) :
   (ac_law29_PredictDigest n1 n2 n3 n4 n5 n6 n7).wp tab gl (zipF 0 [.t (.sl (raw.map imT)), .t (.sl (cs.map byteT)), .t (.int .i64 a), .t (.agg [.int .i64 s0, .int .i64 s1]), .t (.bool any)]) (zipF 0 []) (resW [(10, none)] 0 (fun r' o => r' = .t (.bool true) ∧ o = [])) := by
 have hF := few29_eq hx
 have mF := fewC_m hx
 have hC := dch_eq hcs
 have hmC := chG_m (b := cs)
 have m0 := mod_eq (a := s0) (b := 65536) ⟨hs0, by omega⟩
 have m1 := mod_eq (a := s1) (b := 65536) ⟨hs1, by omega⟩
 have m2 := mod_eq (a := a) (b := 5) ⟨ha, by omega⟩
 generalize fewC raw = F at *
 generalize chG cs = C at *
 generalize modI s0 65536 = t0 at *
 generalize modI s1 65536 = t1 at *
 generalize modI a 5 = t2 at *
 have main : ∀ (w p q : Int) (fs : Fs) (hs : Hs), Weak fs hs [(2, .t (.int .i64 w)), (8, .ref 4096 0 0), (35, .t (.sl [T.sl (F.map imT), T.sl (C.map imT)])), (36, .t (.int .i64 2)), (37, .t (.int .i64 0))] [(4096, .live 1 [.t (.int .i64 p), .t (.int .i64 q)] true true)] →
     loopW tab gl (ac_law29_PredictDigest_L0 n5 n6 n7) fs hs (blockK 0 (seqK tab gl ((rG 61440 [mC 10 (.t (.bool true))]).seq AC.ret) (resW [(10, none)] 0 (fun r' o => r' = .t (.bool true) ∧ o = [])))) := by
   intro w p q fs hs hw
   refine loopW_weak hw ?_
   have one : ∀ (k : Nat) (E : List Im), k < 2 → imsM E → [T.sl (F.map imT), T.sl (C.map imT)][k]? = some (.sl (E.map imT)) → (ac_law29_PredictDigest_L0 n5 n6 n7).wp tab gl [(2, .t (.int .i64 w)), (8, .ref 4096 0 0), (35, .t (.sl [T.sl (F.map imT), T.sl (C.map imT)])), (36, .t (.int .i64 2)), (37, .t (.int .i64 (k : Nat)))] [(4096, .live 1 [.t (.int .i64 p), .t (.int .i64 q)] true true)] (upK 2 (fun i => [(2, .t (.int .i64 w)), (8, .ref 4096 0 0), (35, .t (.sl [T.sl (F.map imT), T.sl (C.map imT)])), (36, .t (.int .i64 2)), (37, .t (.int .i64 (i : Nat)))]) (fun _ => [(4096, .live 1 [.t (.int .i64 p), .t (.int .i64 q)] true true)]) k (blockK 0 (seqK tab gl ((rG 61440 [mC 10 (.t (.bool true))]).seq AC.ret) (resW [(10, none)] 0 (fun r' o => r' = .t (.bool true) ∧ o = []))))) := by
     intro k E hk hm hg
     have hR := pdg_eq (act := w) (s0 := p) (s1 := q) hm
     have hbl := pdB_len (l := E) (act := w) (s0 := p) (s1 := q)
     have hq := same_refl (show (pdB E w p q).length < 1000000000 by omega)
     generalize pdB E w p q = B at *
     generalize pdE E w p q = e at *
     simp (disch := omega) only [go_sem, ↓reduceIte, Nat.reduceAdd, Nat.reduceEqDiff, Nat.reduceLeDiff, ac_law29_PredictDigest_L0, hg, h5, hR, h6, bne_self_eq_false, h7, hq]
     repeat refine And.intro rfl ?_
     refine ⟨hk, Weak.rd id ?_ ?_ rfl⟩
     all_goals simp (disch := omega) only [go_sem, ↓reduceIte, Nat.reduceEqDiff, id]
   refine loop_upto 2 (fun i => [(2, .t (.int .i64 w)), (8, .ref 4096 0 0), (35, .t (.sl [T.sl (F.map imT), T.sl (C.map imT)])), (36, .t (.int .i64 2)), (37, .t (.int .i64 (i : Nat)))]) (fun _ => [(4096, .live 1 [.t (.int .i64 p), .t (.int .i64 q)] true true)]) ?_ (fun k hk => ?_)
   · refine Weak.rd id ?_ ?_ rfl
     all_goals simp (disch := omega) only [go_sem, ↓reduceIte, Nat.reduceEqDiff, id]
   · rcases (show k = 0 ∨ k = 1 ∨ k = 2 by omega) with rfl | rfl | rfl
     · exact one 0 F (by omega) mF rfl
     · exact one 1 C (by omega) hmC rfl
     · simp (disch := omega) only [go_sem, ↓reduceIte, Nat.reduceAdd, Nat.reduceEqDiff, Int.reduceLT, ac_law29_PredictDigest_L0]
 cases any
 · simp (disch := omega) only [go_sem, ↓reduceIte, Nat.reduceAdd, Nat.reduceEqDiff, Nat.reduceLT, Nat.reduceLeDiff, Int.reduceLT, Int.reduceLE, reduceCtorEq, ac_law29_PredictDigest, h1, awake_eq, h2, m0, m1, m2, h3, hF, h4, hC]
   repeat refine And.intro rfl ?_
   refine main t2 t0 t1 _ _ (Weak.cv (hv := []) [28736] id ?_ rfl)
   simp (disch := omega) only [go_sem, ↓reduceIte, Nat.reduceAdd, Nat.reduceEqDiff, Nat.reduceLeDiff, id]
   all_goals rfl
 · simp (disch := omega) only [go_sem, ↓reduceIte, Nat.reduceAdd, Nat.reduceEqDiff, Nat.reduceLT, Nat.reduceLeDiff, reduceCtorEq, ac_law29_PredictDigest, h1, awake_eq, h2, m0, m1, m2, h3, hF, h4, hC]
   repeat refine And.intro rfl ?_
   refine main a s0 s1 _ _ (Weak.cv (hv := []) [28736] id ?_ rfl)
   simp (disch := omega) only [go_sem, ↓reduceIte, Nat.reduceAdd, Nat.reduceEqDiff, Nat.reduceLeDiff, reduceCtorEq, id]
   all_goals rfl
end Go.Eng
end
section
set_option maxRecDepth 20000
namespace Go.Eng
open Go.MuLone
theorem ok_name {P : Program} {G : Gl} {f : FuncId} {fn : Func} {c : Code} (hf : P.funcs[f]? = some fn) (hname : (fn.name == "runtime.NumGoroutine") = false) (hb : fn.body = some c)
   (h : ∀ (s : ByteArray) (w : World), Calls P f #[.string s] w fun e w' => e = .returned (.bool (nameB s.data.toList)) ∧ (w' = w ∨ ∃ pos, w' = w.iter s pos)) : FOk P G f ct_name.fs := by
 refine ct_name.ok (fun args w => run_callFunc_enter hf hname hb args w) (fun x _ => ?_)
 intro w β F vals env fits hargs
 have hvals : vals = #[.string ⟨List.toArray x⟩] := by
   obtain ⟨l⟩ := vals
   cases hargs with
   | cons h1 h2 =>
     cases h2
     cases h1 with
     | t h => cases h; rfl
 subst hvals
 refine (h _ w).mono fun e w' he => ?_
 obtain ⟨rfl, hw⟩ := he
 refine ⟨_, β, F, rfl, ?_⟩
 have hβ : ∀ k, β k = none := fun k => fits.dom k (Nat.zero_le _)
 have hx : nameB (ByteArray.mk (List.toArray x)).data.toList = nameB x := rfl
 rw [hx]
 have res : ∀ w', RepV β F w' (ct_name.r x) (.bool (nameB x)) := fun w' => .t (.bool _)
 have fit : ∀ w', Fits β F w' (ct_name.outs x) := fun w' => ⟨fun k o hk => (by simp [ct_name] at hk), fun k _ => hβ k, fun i j bi bj b h1 => (by rw [hβ] at h1; cases h1), fun k bi b h1 => (by rw [hβ] at h1; cases h1)⟩
 rcases hw with rfl | ⟨pos, rfl⟩
 · exact ⟨fit _, res _, fun _ _ => rfl, fun k bi b _ h1 => by (rw [hβ] at h1; cases h1), fun _ _ => Iff.rfl, env.Fw, rfl, rfl, rfl, Nat.le_refl _, fun _ _ _ => rfl⟩
 · have hsz : (w.iter ⟨List.toArray x⟩ pos).heap.size = w.heap.size + 1 := by
     show (w.heap.push _).size = _
     exact Array.size_push _
   have hold : ∀ b, b < w.heap.size → (w.iter ⟨List.toArray x⟩ pos).heap[b]? = w.heap[b]? := by
     intro b hb
     show (w.heap.push _)[b]? = _
     rw [Array.getElem?_push, if_neg (by omega)]
   exact ⟨fit _, res _, fun _ _ => rfl, fun k bi b _ h1 => by (rw [hβ] at h1; cases h1), fun _ _ => Iff.rfl, fun b hb => by (have := env.Fw b hb; rw [hsz]; omega), rfl, rfl, rfl, by (rw [hsz]; omega), fun b hb _ => hold b hb⟩
end Go.Eng
end
section
namespace Go.Eng
def ac_image_printable_L0 : AC :=
 (.seq
 (rG 12288 [bT 8 .lss 7 6])
 (.seq
 (.cond (.tmp 8)
 .skip
 (.exit 0))
 (.seq
 (.block 1
 (.seq
 (rG 16384 [oO 9 (.iaddr 1) [.tmp 5, .tmp 7],oO 10 (.load 1 false) [.tmp 9],mv 4 10])
 (.seq
 (rG 20480 [mv 11 4,oO 12 (.bin .lss) [.tmp 11, .cst (.t (byteT 32))],mv 13 12,mF 14 4 13,oF 15 13 (.bin .gtr) [.tmp 14, .cst (.t (byteT 126))],oO 16 .pick [.tmp 13, .cst (.t (.bool true)), .tmp 15]])
 (.cond (.tmp 16)
 (.seq
 (rG 24576 [mC 2 (.t (.bool false))])
 .ret)
 .skip))))
 (rG 28672 [bN 17 .add 7 1,mv 7 17]))))
def ac_image_printable : AC :=
 (.seq
 (rG 4096 [mC 2 (.t (.bool false))])
 (.seq
 (.seq
 (rG 8192 [mv 5 0,oO 6 .len [.tmp 5],mC 7 (.t (.int .i64 0))])
 (.block 0
 (.loop ac_image_printable_L0)))
 (.seq
 (rG 32768 [mC 2 (.t (.bool true))])
 .ret)))
def hints_image_printable : List (Nat × List Nat) := []
def ac_image_Lines_L0 (n_bytes_IndexByte n_image_printable : Nat) : AC :=
 (.seq
 (.seq
 (rG 16384 [mv 8 4,oO 9 .len [.tmp 8],bN 10 .gtr 9 0])
 (.cond (.tmp 10)
 .skip
 (.exit 0)))
 (.block 1
 (.seq
 (rG 20480 [mv 11 4,cL 12 n_bytes_IndexByte false [.tmp 11, .cst (.t (byteT 10))],mv 5 12])
 (.seq
 (.seq
 (rG 24576 [mv 13 5,bN 14 .lss 13 1,mv 15 14,mF 16 3 15,oF 17 15 .len [.tmp 16],oF 18 15 (.bin .eql) [.tmp 17, .cst (.t (.int .i64 4))],oO 19 .pick [.tmp 15, .cst (.t (.bool true)), .tmp 18],mv 20 19,mF 21 4 20,mF 22 5 20,oF 23 20 (.slice 1 false true false) [.tmp 21, .tmp 22],cF 24 20 n_image_printable false [.tmp 23],oF 25 20 (.un .not) [.tmp 24],oO 26 .pick [.tmp 20, .cst (.t (.bool true)), .tmp 25]])
 (.cond (.tmp 26)
 (.seq
 (rG 28672 [mC 2 .nil])
 .ret)
 .skip))
 (.seq
 (rG 32768 [mv 27 3,mv 28 4,mv 29 5,mv 30 5,oO 31 (.slice 1 false true true) [.tmp 28, .tmp 29, .tmp 30],oO 32 (.bslice 1 1 .nil [0]) [.tmp 31],oO 33 (.append 1 24) [.tmp 27, .tmp 32],mv 3 33])
 (rG 36864 [mv 34 4,mv 35 5,bN 36 .add 35 1,oO 37 (.slice 1 true false false) [.tmp 34, .tmp 36],mv 4 37]))))))
def ac_image_Lines (n_bytes_IndexByte n_image_printable : Nat) : AC :=
 (.seq
 (rG 4096 [oO 1 .box [.tmp 0],mC 2 .nil])
 (.seq
 (rG 8192 [mC 3 .nil])
 (.seq
 (.seq
 (rG 12288 [oO 6 (.faddr 3) [.tmp 1],oO 7 (.load 1 false) [.tmp 6],mv 4 7])
 (.block 0
 (.loop (ac_image_Lines_L0 n_bytes_IndexByte n_image_printable))))
 (.seq
 (rG 40960 [mv 38 3,mv 2 38])
 .ret))))
def hints_image_Lines : List (Nat × List Nat) := []
def ac_image_Check (n_image_named n_image_Lines : Nat) : AC :=
 (.seq
 (rG 4096 [oO 1 .box [.tmp 0],mC 2 (.t (.int .i64 0))])
 (.seq
 (.block 0
 (.seq
 (rG 8192 [oO 4 (.faddr 0) [.tmp 1],oO 5 (.load 1 false) [.tmp 4],bN 6 .lss 5 1,mv 7 6,oF 8 7 (.faddr 0) [.tmp 1],oF 9 7 (.load 1 false) [.tmp 8],oF 10 7 (.bin .gtr) [.tmp 9, .cst (.t (.int .i64 4))],oO 11 .pick [.tmp 7, .cst (.t (.bool true)), .tmp 10],mv 12 11,oF 13 12 (.faddr 2) [.tmp 1],oF 14 12 (.load 1 false) [.tmp 13],oF 15 12 (.bin .lss) [.tmp 14, .cst (.t (.int .i64 0))],oO 16 .pick [.tmp 12, .cst (.t (.bool true)), .tmp 15],mv 17 16,oF 18 17 (.faddr 2) [.tmp 1],oF 19 17 (.load 1 false) [.tmp 18],oF 20 17 (.bin .gtr) [.tmp 19, .cst (.t (.int .i64 1000000))],oO 21 .pick [.tmp 17, .cst (.t (.bool true)), .tmp 20],mv 3 21])
 (.cond (.tmp 3)
 (.seq
 (rG 12288 [mC 2 (.t (.int .i64 1))])
 .ret)
 (.seq
 (rG 16384 [oO 23 (.faddr 1) [.tmp 1],oO 24 (.load 1 false) [.tmp 23],cL 25 n_image_named false [.tmp 24],oO 26 (.un .not) [.tmp 25],mv 22 26])
 (.cond (.tmp 22)
 (.seq
 (rG 20480 [mC 2 (.t (.int .i64 43))])
 .ret)
 (.seq
 (rG 24576 [oO 28 (.faddr 3) [.tmp 1],oO 29 (.load 1 false) [.tmp 28],oO 30 .len [.tmp 29],bN 31 .gtr 30 64,mv 27 31])
 (.cond (.tmp 27)
 (.seq
 (rG 28672 [mC 2 (.t (.int .i64 4))])
 .ret)
 (.seq
 (rG 32768 [oO 33 (.faddr 0) [.tmp 1],oO 34 (.load 1 false) [.tmp 33],bN 35 .eql 34 4,mv 36 35,oG 37 36 (.load 4 true) [.tmp 1],cG 38 36 n_image_Lines true [.tmp 37],oG 39 36 .len [.tmp 38],oG 40 36 (.bin .eql) [.tmp 39, .cst (.t (.int .i64 0))],oO 41 .pick [.tmp 36, .tmp 40, .cst (.t (.bool false))],mv 32 41])
 (.cond (.tmp 32)
 (.seq
 (rG 36864 [mC 2 (.t (.int .i64 40))])
 .ret)
 .skip)))))))))
 (.seq
 (rG 40960 [mC 2 (.t (.int .i64 0))])
 .ret)))
def hints_image_Check : List (Nat × List Nat) := [(7, [5])]
def ac_image_Encode (n_image_Check n_wire_Uint n_wire_Blob : Nat) : AC :=
 (.seq
 (rG 4096 [oO 1 .box [.tmp 0],mC 2 .nil])
 (.seq
 (.seq
 (rG 8192 [oO 4 (.load 4 true) [.tmp 1],cL 5 n_image_Check false [.tmp 4],bN 6 .neq 5 0])
 (.cond (.tmp 6)
 (.seq
 (rG 12288 [mC 2 .nil])
 .ret)
 .skip))
 (.seq
 (rG 16384 [oO 7 (.faddr 0) [.tmp 1],oO 8 (.load 1 false) [.tmp 7],cL 9 n_wire_Uint false [.cst .nil, .cst (.t (.int .i64 1)), .tmp 8],mv 3 9])
 (.seq
 (rG 20480 [mv 10 3,oO 11 (.faddr 2) [.tmp 1],oO 12 (.load 1 false) [.tmp 11],cL 13 n_wire_Uint false [.tmp 10, .cst (.t (.int .i64 4)), .tmp 12],mv 3 13])
 (.seq
 (rG 24576 [mv 14 3,oO 15 (.faddr 1) [.tmp 1],oO 16 (.load 1 false) [.tmp 15],oO 17 .s2b [.tmp 16],cL 18 n_wire_Blob false [.tmp 14, .tmp 17],mv 3 18])
 (.seq
 (rG 28672 [mv 19 3,oO 20 (.faddr 3) [.tmp 1],oO 21 (.load 1 false) [.tmp 20],cL 22 n_wire_Blob false [.tmp 19, .tmp 21],mv 2 22])
 .ret))))))
def hints_image_Encode : List (Nat × List Nat) := []
def ac_image_Digests_L0 (n_digest_Sum : Nat) : AC :=
 (.seq
 (rG 20480 [bT 14 .lss 13 12])
 (.seq
 (.cond (.tmp 14)
 .skip
 (.exit 0))
 (.seq
 (.block 1
 (.seq
 (rG 24576 [mv 15 13,mv 7 15])
 (.seq
 (rG 28672 [mv 16 6,oO 17 .len [.tmp 16],bN 18 .gtr 17 0,mv 19 18,mG 20 1 19,mG 21 7 19,oG 22 19 (.bin .shr) [.tmp 20, .tmp 21],oG 23 19 (.bin .and) [.tmp 22, .cst (.t (.int .i64 1))],oG 24 19 (.bin .eql) [.tmp 23, .cst (.t (.int .i64 1))],oO 25 .pick [.tmp 19, .tmp 24, .cst (.t (.bool false))]])
 (.cond (.tmp 25)
 (rG 32768 [mv 26 5,mv 27 7,mv 28 7,mv 29 6,cL 30 n_digest_Sum false [.tmp 28, .tmp 29],oO 31 (.iaddr 1) [.tmp 26, .tmp 27],oS 1 31 30])
 .skip))))
 (rG 36864 [bN 32 .add 13 1,mv 13 32]))))
def ac_image_Digests (n_image_Encode n_digest_Sum : Nat) : AC :=
 (.seq
 (rG 4096 [oO 2 .box [.tmp 0],mC 4 .nil])
 (.seq
 (rG 8192 [oO 8 (.mkslice 1 24 .nil) [.cst (.t (.int .i64 2)), .cst (.t (.int .i64 2))],mv 5 8])
 (.seq
 (rG 12288 [oO 9 (.load 4 true) [.tmp 2],cL 10 n_image_Encode true [.tmp 9],mv 6 10])
 (.seq
 (.seq
 (rG 16384 [mv 11 5,oO 12 .len [.tmp 11],mC 13 (.t (.int .i64 0))])
 (.block 0
 (.loop (ac_image_Digests_L0 n_digest_Sum))))
 (.seq
 (rG 40960 [mv 33 5,mv 4 33])
 .ret)))))
def hints_image_Digests : List (Nat × List Nat) := [(2, [1])]
def ac_image_Register (g_image_measured : Nat) : AC :=
 (.seq
 (rG 4096 [mC 2 (.t (.int .i64 0))])
 (.seq
 (.seq
 (rG 8192 [mv 3 0,bN 4 .lss 3 0,mv 5 4,mF 6 0 5,oF 7 5 (.bin .geq) [.tmp 6, .cst (.t (.int .i64 5))],oO 8 .pick [.tmp 5, .cst (.t (.bool true)), .tmp 7]])
 (.cond (.tmp 8)
 (.seq
 (rG 12288 [mC 2 (.t (.int .i64 (-1)))])
 .ret)
 .skip))
 (.seq
 (rG 16384 [mv 9 0,oO 10 (.aaddr 5 1) [.glob g_image_measured, .tmp 9],oO 11 (.load 1 false) [.tmp 10],mv 2 11])
 .ret)))
def hints_image_Register : List (Nat × List Nat) := []
def ac_bytes_IndexByte (n_bytealg_IndexByte : Nat) : AC :=
 (.seq
 (rG 4096 [mC 4 (.t (.int .i64 0))])
 (.seq
 (rG 8192 [mv 5 0,mv 6 1,cL 7 n_bytealg_IndexByte false [.tmp 5, .tmp 6],mv 4 7])
 .ret))
def hints_bytes_IndexByte : List (Nat × List Nat) := []
def ac_event_OfImage (n_image_Check n_image_Register n_image_Digests n_strconv_Itoa : Nat) : AC :=
 (.seq
 (rG 4096 [oO 2 .box [.tmp 0],oO 4 (.new 4 [(.agg [(.t (.int .i64 0)), (.t (.int .i64 0)), .nil, .nil])]) []])
 (.seq
 (.seq
 (rG 8192 [oO 5 (.load 4 true) [.tmp 2],cL 6 n_image_Check false [.tmp 5],bN 7 .neq 6 0,mv 8 7,oF 9 8 (.faddr 0) [.tmp 2],oF 10 8 (.load 1 false) [.tmp 9],oF 11 8 (.bin .eql) [.tmp 10, .cst (.t (.int .i64 4))],oO 12 .pick [.tmp 8, .cst (.t (.bool true)), .tmp 11]])
 (.cond (.tmp 12)
 (.seq
 (rG 12288 [oO 13 (.build [(.t (.int .i64 0)), (.t (.int .i64 0)), .nil, .nil] []) [],oS 4 4 13])
 .ret)
 .skip))
 (.seq
 (.reg 16384 (some [0, 1, 3, 0, 0, 31, 0, 64, 192, 0, 512, 1599, 4095, 8191, 16383, 32767]) [oO 14 (.faddr 0) [.tmp 2],oO 15 (.load 1 false) [.tmp 14],cL 16 n_image_Register false [.tmp 15],oO 17 (.load 4 true) [.tmp 2],mv 18 1,cL 19 n_image_Digests true [.tmp 17, .tmp 18],oO 20 (.faddr 1) [.tmp 2],oO 21 (.load 1 false) [.tmp 20],oO 22 (.bin .add) [.tmp 21, .cst (.t (strT [32]))],oO 23 (.faddr 2) [.tmp 2],oO 24 (.load 1 false) [.tmp 23],cL 25 n_strconv_Itoa false [.tmp 24],bT 26 .add 22 25,oO 27 .s2b [.tmp 26],oO 28 (.build [(.t (.int .i64 0)), (.t (.int .i64 0)), .nil, .nil] [(0, 1), (1, 1), (2, 1), (3, 1)]) [.tmp 16, .cst (.t (.int .i64 1)), .tmp 19, .tmp 27],oS 4 4 28])
 .ret)))
def hints_event_OfImage : List (Nat × List Nat) := [(3, [5])]
end Go.Eng
end
section
set_option maxRecDepth 20000
set_option maxHeartbeats 64000000
namespace Go.Eng
def ixN (c : UInt8) : List UInt8 → Nat → Int
 | [], _ => -1
 | x :: r, n => if x = c then (n : Int) else ixN c r (n + 1)
theorem ixN_no {c : UInt8} : ∀ {b : List UInt8} {n : Nat}, c ∉ b → ixN c b n = -1
 | [], _, _ => rfl
 | x :: r, n, h => by
   rw [ixN, if_neg (fun e => h (by simp [e])), ixN_no (fun e => h (by simp [e]))]
theorem ixN_at {c : UInt8} : ∀ {p q : List UInt8} {n : Nat}, c ∉ p → ixN c (p ++ c :: q) n = ((n + p.length : Nat) : Int)
 | [], q, n, _ => by rw [List.nil_append, ixN, if_pos rfl]; rfl
 | x :: r, q, n, h => by
   rw [List.cons_append, ixN, if_neg (fun e => h (by simp [e])), ixN_at (fun e => h (by simp [e]))]
   simp only [List.length_cons]; congr 1; omega
theorem split_at {c : UInt8} : ∀ {b : List UInt8}, c ∈ b → ∃ p q, b = p ++ c :: q ∧ c ∉ p
 | [], h => by cases h
 | x :: r, h => by
   by_cases e : x = c
   · exact ⟨[], r, by rw [e]; rfl, by simp⟩
   · have : c ∈ r := by
       simp only [List.mem_cons] at h
       rcases h with h | h
       · exact absurd h.symm e
       · exact h
     obtain ⟨p, q, h1, h2⟩ := split_at this
     exact ⟨x :: p, q, by rw [h1]; rfl, by simp only [List.mem_cons, not_or]; exact ⟨fun h => e h.symm, h2⟩⟩
def ct_bix : Ct where
 α := List UInt8 × UInt8
 as x := [.t (.sl (x.1.map byteT)), .t (byteT x.2)]
 ins _ := []
 pre x := 0 < x.1.length ∧ x.1.length < 1000000000
 r x := .t (.int .i64 (ixN x.2 x.1 0))
 outs _ := []
 inj := by
   rintro ⟨a, c⟩ ⟨b, d⟩ h _
   simp only [List.cons.injEq, V.t.injEq, T.sl.injEq, mapB_inj, and_true] at h
   obtain ⟨rfl, h⟩ := h
   cases byteT_inj h
   exact ⟨rfl, rfl⟩
theorem bix_eq {b : List UInt8} {c : UInt8} (h : 0 < b.length ∧ b.length < 1000000000) : ct_bix.fs [.t (.sl (b.map byteT)), .t (byteT c)] [] = some (.t (.int .i64 (ixN c b 0)), []) := ct_bix.eq (b, c) h
theorem w_bytes_IndexByte (tab : Tab) (gl : Gl) (n1 : Nat) (h1 : tab.look n1 = some ct_bix.fs) (b : List UInt8) (c : UInt8) (h : 0 < b.length ∧ b.length < 1000000000) :
   (ac_bytes_IndexByte n1).wp tab gl (zipF 0 [.t (.sl (b.map byteT)), .t (byteT c)]) (zipF 0 []) (resW [(4, none)] 0 (fun r o => r = .t (.int .i64 (ixN c b 0)) ∧ o = [])) := by
 have hB := bix_eq (c := c) h
 simp (disch := omega) only [go_sem, ↓reduceIte, Nat.reduceAdd, Nat.reduceEqDiff, Nat.reduceLeDiff, reduceCtorEq, ac_bytes_IndexByte, h1, hB]
def ct_ipr : Ct where
 α := List UInt8
 as x := [.t (.sl (x.map byteT))]
 ins _ := []
 pre x := x.length < 1000000000
 r x := .t (.bool (x.all okC))
 outs _ := []
 inj := by
   intro a b h _
   simp only [List.cons.injEq, V.t.injEq, T.sl.injEq, mapB_inj, and_true] at h
   subst h; exact ⟨rfl, rfl⟩
theorem ipr_eq {b : List UInt8} (h : b.length < 1000000000) : ct_ipr.fs [.t (.sl (b.map byteT))] [] = some (.t (.bool (b.all okC)), []) := ct_ipr.eq b h
theorem w_image_printable (tab : Tab) (gl : Gl) (b : List UInt8) (h : b.length < 1000000000) :
   ac_image_printable.wp tab gl (zipF 0 [.t (.sl (b.map byteT))]) (zipF 0 []) (resW [(2, none)] 0 (fun r o => r = .t (.bool (b.all okC)) ∧ o = [])) := by
 simp (disch := omega) only [go_sem, ↓reduceIte, Nat.reduceAdd, reduceCtorEq, ac_image_printable]
 refine loop_uptoP b.length (fun i => (b.take i).all okC = true) (fun i => [(5, .t (.sl (b.map byteT))), (6, .t (.int .i64 b.length)), (7, .t (.int .i64 (i : Nat)))]) (fun _ => []) rfl ?_ (fun i hi hP => ?_)
 · refine Weak.rd id ?_ ?_ rfl
   all_goals simp (disch := omega) only [go_sem, ↓reduceIte, Nat.reduceEqDiff, id]
 · by_cases hlt : i < b.length
   · obtain ⟨c, hc⟩ : ∃ c, b.getD i 0 = c := ⟨_, rfl⟩
     have hc' : b[i]? = some c := by
       rw [← hc]; simp [List.getD, hlt]
     have hst : (b.take (i + 1)).all okC = okC c := by
       rw [List.take_add_one, hc', List.all_append, hP]; simp
     have hall : okC c = false → b.all okC = false := fun h => List.all_eq_false.2 ⟨c, List.mem_of_getElem? hc', by simp [h]⟩
     by_cases a1 : c.toNat < 32
     · have hk : okC c = false := by unfold okC; rw [decide_eq_true a1]; rfl
       rw [hall hk]
       simp (disch := omega) only [go_sem, ↓reduceIte, Nat.reduceAdd, Nat.reduceEqDiff, Nat.reduceLeDiff, ac_image_printable_L0, hc, a1]
     · by_cases a2 : 126 < c.toNat
       · have hk : okC c = false := by unfold okC; rw [decide_eq_true (show c.toNat > 126 from a2)]; simp
         rw [hall hk]
         simp (disch := omega) only [go_sem, ↓reduceIte, Nat.reduceAdd, Nat.reduceEqDiff, Nat.reduceLeDiff, ac_image_printable_L0, hc, a1, a2]
       · have hk : okC c = true := by unfold okC; rw [decide_eq_false a1, decide_eq_false (show ¬ c.toNat > 126 from a2)]; rfl
         rw [hk] at hst
         simp (disch := omega) only [go_sem, ↓reduceIte, Nat.reduceAdd, Nat.reduceEqDiff, Nat.reduceLeDiff, ac_image_printable_L0, hc, a1, a2]
         refine ⟨hlt, hst, Weak.rd id ?_ ?_ rfl⟩
         all_goals simp (disch := omega) only [go_sem, ↓reduceIte, Nat.reduceEqDiff, id]
   · have e : i = b.length := by omega
     subst e
     rw [List.take_length] at hP
     simp (disch := omega) only [go_sem, ↓reduceIte, Nat.reduceAdd, Nat.reduceEqDiff, ac_image_printable_L0, hP]
theorem lnS_line {pre post : List UInt8} (hn : (10 : UInt8) ∉ pre) : ∀ {out : List (List UInt8)} {line : List UInt8}, lnS out line (pre ++ 10 :: post) = if pre.all okC = true then (if (line ++ pre).length = 0 ∨ 4 ≤ out.length then [] else lnS (out ++ [line ++ pre]) [] post) else [] := by
 induction pre with
 | nil =>
   intro out line
   rw [List.nil_append, lnS, if_pos rfl, List.append_nil]
   simp
 | cons c r ih =>
   intro out line
   have hc : ¬ c = 10 := fun e => hn (by simp [e])
   have hr : (10 : UInt8) ∉ r := fun e => hn (by simp [e])
   rw [List.cons_append, lnS, if_neg hc]
   cases hk : okC c
   · rw [if_neg (by decide)]; simp [hk]
   · rw [if_pos rfl, ih hr]; simp [hk]
theorem lnS_none {pre : List UInt8} (hn : (10 : UInt8) ∉ pre) : ∀ {out : List (List UInt8)} {line : List UInt8}, 0 < (line ++ pre).length → lnS out line pre = [] := by
 induction pre with
 | nil => intro out line h; rw [lnS, if_pos (by simpa using h)]
 | cons c r ih =>
   intro out line h
   have hc : ¬ c = 10 := fun e => hn (by simp [e])
   have hr : (10 : UInt8) ∉ r := fun e => hn (by simp [e])
   rw [lnS, if_neg hc]
   split
   · exact ih hr (by simp; omega)
   · rfl
theorem w_image_Lines (tab : Tab) (gl : Gl) (n1 n2 : Nat) (h1 : tab.look n1 = some ct_bix.fs) (h2 : tab.look n2 = some ct_ipr.fs) (x : Im) (hm : imM x) :
   (ac_image_Lines n1 n2).wp tab gl (zipF 0 [.t (imT x)]) (zipF 0 []) (resW [(2, none)] 0 (fun r o => r = .t (.sl ((lnL x.2.2.2).map bsT)) ∧ o = [])) := by
 obtain ⟨a, s, v, p⟩ := x
 have hp := hm.2.1
 simp only at hp ⊢
 simp (disch := omega) only [go_sem, ↓reduceIte, Nat.reduceAdd, Nat.reduceEqDiff, Nat.reduceLeDiff, reduceCtorEq, ac_image_Lines, imT_def]
 refine loop_inv (σ := List UInt8 × List (List UInt8)) (fun t => t.1.length ≤ p.length ∧ lnS t.2 [] t.1 = lnL p ∧ t.2.length ≤ 4) (fun t => t.1.length)
   (fun t => [(3, .sl 9000 0 t.2.length), (4, .t (.sl (t.1.map byteT)))])
   (fun t => [(9000, .live 1 ((t.2.map bsT).map V.t) true false)]) (p, []) ⟨Nat.le_refl _, rfl, by simp⟩ ?_ ?_
 · refine Weak.cv0 (hv := [(9000, .live 1 [] true false)]) (ho := []) id ?_ ?_ rfl rfl
   all_goals simp (disch := omega) only [go_sem, ↓reduceIte, Nat.reduceEqDiff, id]
 · rintro ⟨rest, out⟩ ⟨hi, hE, ho⟩
   simp only at hi hE ho ⊢
   by_cases hlt : 0 < rest.length
   · have hB := bix_eq (b := rest) (c := 10) ⟨hlt, by omega⟩
     by_cases hn : (10 : UInt8) ∈ rest
     · obtain ⟨pre, post, rfl, hpre⟩ := split_at hn
       rw [ixN_at hpre, Nat.zero_add] at hB
       rw [lnS_line hpre, List.nil_append] at hE
       simp only [List.length_append, List.length_cons] at hi hlt
       have tk : List.take pre.length (pre ++ 10 :: post) = pre := List.take_left' rfl
       have dk : List.drop (pre.length + 1) (pre ++ 10 :: post) = post := by rw [List.drop_append]; simp
       have tl : (pre ++ (10 : UInt8) :: post).length = pre.length + 1 + post.length := by simp; omega
       by_cases z1 : pre.length < 1
       · have hr : lnL p = [] := by rw [← hE]; split; rw [if_pos (.inl (by omega))]; rfl
         rw [hr]
         simp (disch := omega) only [go_sem, ↓reduceIte, Nat.reduceAdd, Nat.reduceEqDiff, Nat.reduceLeDiff, ac_image_Lines_L0, tl, h1, hB, z1, List.map_nil]
       · by_cases z2 : out.length = 4
         · have hr : lnL p = [] := by rw [← hE]; split; rw [if_pos (.inr (by omega))]; rfl
           rw [hr]
           simp (disch := omega) only [go_sem, ↓reduceIte, Nat.reduceAdd, Nat.reduceEqDiff, Nat.reduceLeDiff, ac_image_Lines_L0, tl, h1, hB, z1, z2, List.map_nil]
         · have z2b : ((out.length : Int) == 4) = false := by simpa using (by omega : ¬ (out.length : Int) = 4)
           have hP := ipr_eq (b := pre) (by omega)
           cases hk : pre.all okC
           · rw [hk] at hP hE
             rw [if_neg (by decide)] at hE
             rw [← hE]
             simp (disch := omega) only [go_sem, ↓reduceIte, Nat.reduceAdd, Nat.reduceEqDiff, Nat.reduceLeDiff, Int.reduceLE, reduceCtorEq, ac_image_Lines_L0, tl, h1, hB, z1, z2, z2b, tk, h2, hP, List.map_nil]
           · rw [hk] at hP hE
             rw [if_pos rfl, if_neg (by omega)] at hE
             simp (disch := omega) only [go_sem, ↓reduceIte, Nat.reduceAdd, Nat.reduceEqDiff, Nat.reduceLT, Nat.reduceLeDiff, Int.reduceLE, reduceCtorEq, ac_image_Lines_L0, tl, h1, hB, z1, z2, z2b, tk, h2, hP, dk]
             refine invG.of (post, out ++ [pre]) ⟨by simp only; omega, hE, by simp; omega⟩ (by simp only; omega) ?_
             refine Weak.cv (hv := []) (ho := [(9000, .live 1 (((out ++ [pre]).map bsT).map V.t) true false)]) [] (fun j => if j = 9000 then 32864 else j) ?_ rfl
             simp (disch := omega) only [go_sem, ↓reduceIte, Nat.reduceAdd, Nat.reduceEqDiff, id, List.map_cons, List.map_nil, List.take_length]
             rfl
     · rw [ixN_no hn] at hB
       rw [lnS_none hn (by simpa using hlt)] at hE
       rw [← hE]
       simp (disch := omega) only [go_sem, ↓reduceIte, Nat.reduceAdd, Nat.reduceEqDiff, Nat.reduceLeDiff, Int.reduceLT, Int.reduceNeg, ac_image_Lines_L0, h1, hB, List.map_nil]
   · have e : rest = [] := List.length_eq_zero_iff.1 (by omega)
     subst e
     rw [lnS, if_neg (by simp)] at hE
     rw [← hE]
     simp (disch := omega) only [go_sem, ↓reduceIte, Nat.reduceAdd, Nat.reduceEqDiff, Nat.reduceLeDiff, ac_image_Lines_L0, List.take_length]
theorem w_image_Check (tab : Tab) (gl : Gl) (n1 n2 : Nat) (h1 : tab.look n1 = some ct_name.fs) (h2 : tab.look n2 = some ct_lns.fs) (x : Im) (hm : imM x) :
   (ac_image_Check n1 n2).wp tab gl (zipF 0 [.t (imT x)]) (zipF 0 []) (resW [(2, none)] 0 (fun r o => r = .t (.int .i64 (chkI x)) ∧ o = [])) := by
 obtain ⟨a, s, v, p⟩ := x
 have hp := hm.2.1
 have hN := name_eq hm.1
 have hL := lns_eq hm
 have lL := lnL_len (p := p)
 simp only at hp hN
 have hl2 : ((lnL p).map bsT).length = (lnL p).length := List.length_map _
 by_cases hb : badI a v
 · have hr : chkI (a, s, v, p) = 1 := if_pos hb
   rw [hr]
   by_cases c1 : a < 1
   · simp (disch := omega) only [go_sem, ↓reduceIte, Nat.reduceAdd, Nat.reduceEqDiff, Nat.reduceLeDiff, ac_image_Check, imT_def, c1]
   by_cases c2 : 4 < a
   · simp (disch := omega) only [go_sem, ↓reduceIte, Nat.reduceAdd, Nat.reduceEqDiff, Nat.reduceLeDiff, ac_image_Check, imT_def, c1, c2]
   by_cases c3 : v < 0
   · simp (disch := omega) only [go_sem, ↓reduceIte, Nat.reduceAdd, Nat.reduceEqDiff, Nat.reduceLeDiff, reduceCtorEq, ac_image_Check, imT_def, c1, c2, c3]
   have c4 : 1000000 < v := by unfold badI at hb; omega
   simp (disch := omega) only [go_sem, ↓reduceIte, Nat.reduceAdd, Nat.reduceEqDiff, Nat.reduceLeDiff, reduceCtorEq, ac_image_Check, imT_def, c1, c2, c3, c4]
 · have hb' := hb
   unfold badI at hb'
   have c1 : ¬ a < 1 := by omega
   have c2 : ¬ 4 < a := by omega
   have c3 : ¬ v < 0 := by omega
   have c4 : ¬ 1000000 < v := by omega
   cases hn : nameB s
   · have hr : chkI (a, s, v, p) = 43 := by unfold chkI; rw [if_neg hb, if_pos hn]
     rw [hr]
     rw [hn] at hN
     simp (disch := omega) only [go_sem, ↓reduceIte, Nat.reduceAdd, Nat.reduceEqDiff, Nat.reduceLeDiff, reduceCtorEq, ac_image_Check, imT_def, c1, c2, c3, c4, h1, hN]
   · rw [hn] at hN
     have hn2 : ¬ nameB s = false := by rw [hn]; decide
     by_cases c5 : 64 < p.length
     · have hr : chkI (a, s, v, p) = 4 := by unfold chkI; rw [if_neg hb, if_neg hn2, if_pos c5]
       rw [hr]
       simp (disch := omega) only [go_sem, ↓reduceIte, Nat.reduceAdd, Nat.reduceEqDiff, Nat.reduceLeDiff, reduceCtorEq, ac_image_Check, imT_def, c1, c2, c3, c4, h1, hN, c5]
     · have hr : chkI (a, s, v, p) = if a = 4 ∧ (lnL p).length = 0 then 40 else 0 := by unfold chkI; rw [if_neg hb, if_neg hn2, if_neg c5]
       rw [hr]
       generalize lnL p = L at *
       by_cases c6 : a = 4
       · subst c6
         by_cases c7 : L.length = 0
         · simp (disch := omega) only [go_sem, ↓reduceIte, Nat.reduceAdd, Nat.reduceEqDiff, Nat.reduceLeDiff, Int.reduceLT, reduceCtorEq, ac_image_Check, imT_def, c3, c4, h1, hN, c5, h2, hL, c7]
         · have c8 : ((L.length : Int) == 0) = false := by simpa using (by omega : ¬ (L.length : Int) = 0)
           simp (disch := omega) only [go_sem, ↓reduceIte, Nat.reduceAdd, Nat.reduceEqDiff, Nat.reduceLeDiff, Int.reduceLT, reduceCtorEq, ac_image_Check, imT_def, c3, c4, h1, hN, c5, h2, hL, c7, c8]
       · have c8 : (a == 4) = false := by simpa using c6
         simp (disch := omega) only [go_sem, ↓reduceIte, Nat.reduceAdd, Nat.reduceEqDiff, Nat.reduceLeDiff, reduceCtorEq, ac_image_Check, imT_def, c1, c2, c3, c4, h1, hN, c5, c6, c8]
theorem w_image_Encode (tab : Tab) (gl : Gl) (n1 n2 n3 : Nat) (h1 : tab.look n1 = some ct_imc.fs) (h2 : tab.look n2 = some ct_uint.fs) (h3 : tab.look n3 = some ct_blob.fs) (x : Im) (hm : imM x) :
   (ac_image_Encode n1 n2 n3).wp tab gl (zipF 0 [.t (imT x)]) (zipF 0 []) (resW [(2, none)] 0 (fun r o => r = .t (.sl ((encI' x).map byteT)) ∧ o = [])) := by
 obtain ⟨a, s, v, p⟩ := x
 have hC := imc_eq hm
 by_cases hz : chkI (a, s, v, p) = 0
 · obtain ⟨g1, g2, g3, g4, g5⟩ := chkI_good hz
   have g6 := nameB_len g3
   simp only at g1 g2 g3 g4 g6
   have hr : encI' (a, s, v, p) = blL (blL (beI 1 a 1 ++ beI 4 v 4) s) p := if_pos hz
   rw [hr]
   rw [hz] at hC
   have u1 : ct_uint.fs [.t (.sl []), .t (.int .i64 1), .t (.int .i64 a)] [] = _ := uintN (b := []) (k := 1) (n := a) ⟨by decide, by decide, by decide⟩
   rw [List.nil_append] at u1
   have l1 : (beI 1 a 1).length = 1 := beI_len
   have u2 : ct_uint.fs [.t (.sl ((beI 1 a 1).map byteT)), .t (.int .i64 4), .t (.int .i64 v)] [] = _ := uintN (b := beI 1 a 1) (k := 4) (n := v) ⟨by rw [l1]; decide, by decide, by decide⟩
   have l2 : (beI 1 a 1 ++ beI 4 v 4).length = 5 := by rw [List.length_append, beI_len, beI_len]
   have b1 := blob_eq (b := beI 1 a 1 ++ beI 4 v 4) (x := s) ⟨by omega, by omega⟩
   have l3 : (blL (beI 1 a 1 ++ beI 4 v 4) s).length = 5 + 2 + s.length := by rw [blL_len, l2]
   have b2 := blob_eq (b := blL (beI 1 a 1 ++ beI 4 v 4) s) (x := p) ⟨by omega, by omega⟩
   have l4 : (blL (blL (beI 1 a 1 ++ beI 4 v 4) s) p).length = 5 + 2 + s.length + 2 + p.length := by rw [blL_len, l3]
   rw [l1] at u2
   rw [l2] at b1
   rw [l3] at b2
   generalize blL (blL (beI 1 a 1 ++ beI 4 v 4) s) p = B4 at *
   generalize blL (beI 1 a 1 ++ beI 4 v 4) s = B3 at *
   generalize beI 1 a 1 ++ beI 4 v 4 = B2 at *
   generalize beI 1 a 1 = B1 at *
   have t1 : List.take 1 B1 = B1 := List.take_of_length_le (by omega)
   have t2 : List.take 5 B2 = B2 := List.take_of_length_le (by omega)
   have t3 : List.take (5 + 2 + s.length) B3 = B3 := List.take_of_length_le (by omega)
   have t4 : List.take (5 + 2 + s.length + 2 + p.length) B4 = B4 := List.take_of_length_le (by omega)
   simp (disch := omega) only [go_sem, ↓reduceIte, Nat.reduceAdd, Nat.reduceEqDiff, Nat.reduceLeDiff, reduceCtorEq, ac_image_Encode, imT_def, h1, hC, h2, u1, l1, t1, u2, l2, t2, h3, b1, l3, t3, b2, l4, t4, List.length_nil, List.map_nil, List.take_length]
 · have hr : encI' (a, s, v, p) = [] := if_neg hz
   rw [hr]
   have hz' : (chkI (a, s, v, p) != 0) = true := by simpa using hz
   simp (disch := omega) only [go_sem, ↓reduceIte, Nat.reduceAdd, Nat.reduceEqDiff, Nat.reduceLeDiff, ac_image_Encode, imT_def, h1, hC, hz', List.map_nil]
theorem w_image_Digests (tab : Tab) (gl : Gl) (n1 n2 : Nat) (h1 : tab.look n1 = some ct_enI.fs) (h3 : tab.look n2 = some ct_sumA.fs) (x : Im) (act : Int) (hm : imM x) (ha : 0 ≤ act ∧ act < 4) :
   (ac_image_Digests n1 n2).wp tab gl (zipF 0 [.t (imT x), .t (.int .i64 act)]) (zipF 0 []) (resW [(4, none)] 0 (fun r o => r = .t (.sl [bsT (digI x act 0), bsT (digI x act 1)]) ∧ o = [])) := by
 have hl := encI_len hm
 have e0 : digI x act 0 = if 0 < (encI' x).length ∧ act % 2 = 1 then sum1 (encI' x) else [] := by unfold digI; simp [sumA]
 have e1 : digI x act 1 = if 0 < (encI' x).length ∧ act / 2 % 2 = 1 then sum256 (encI' x) else [] := by unfold digI; simp [sumA]
 obtain ⟨a, s, v, p⟩ := x
 have hE := enI_eq hm
 generalize encI' (a, s, v, p) = B at *
 have s0 := sumA_eq0 (bs := B) (by omega)
 have s1 := sumA_eq1 (bs := B) (by omega)
 have l0 : (sum1 B).length = 20 := sum1_length
 have l1 : (sum256 B).length = 32 := sum256_length
 have t0 : List.take 20 (sum1 B) = sum1 B := take_sum1
 have t1 : List.take 32 (sum256 B) = sum256 B := take_sum256
 generalize sum1 B = S0 at *
 generalize sum256 B = S1 at *
 simp only [bsT_def]
 simp (disch := omega) only [go_sem, ↓reduceIte, Nat.reduceAdd, Nat.reduceEqDiff, Nat.reduceMul, Nat.reduceLeDiff, Int.reduceLE, ac_image_Digests, imT_def, h1, hE]
 repeat refine And.intro rfl ?_
 refine loop_upto 2 (fun i => [(1, .t (.int .i64 act)), (5, .sl 8192 0 2), (6, .t (.sl (B.map byteT))), (12, .t (.int .i64 2)), (13, .t (.int .i64 (i : Nat)))])
   (fun i => [(8192, .live 1 [.t (.sl ((if 0 < i then digI (a, s, v, p) act 0 else []).map byteT)), .t (.sl ((if 1 < i then digI (a, s, v, p) act 1 else []).map byteT))] true false)]) ?_ (fun i hi => ?_)
 · refine Weak.rd id ?_ ?_ rfl
   all_goals simp (disch := omega) only [go_sem, ↓reduceIte, Nat.reduceAdd, Nat.reduceEqDiff, reduceCtorEq, id, List.map_nil, Nat.lt_irrefl, Nat.not_lt_zero]
 · have f0 : Int.fdiv act 1 = act := by rw [Int.fdiv_eq_ediv_of_nonneg _ (by decide), Int.ediv_one]
   have f1 : Int.fdiv act 2 = act / 2 := Int.fdiv_eq_ediv_of_nonneg _ (by decide)
   rcases (show i = 0 ∨ i = 1 ∨ i = 2 by omega) with rfl | rfl | rfl
   · by_cases z : 0 < B.length
     · by_cases b0 : act % 2 = 1
       · rw [if_pos ⟨z, b0⟩] at e0
         have q : (act % 2 == 1) = true := by simpa using b0
         simp (disch := omega) only [go_sem, ↓reduceIte, Nat.reduceAdd, Nat.reduceEqDiff, Nat.reduceLT, Nat.reduceLeDiff, Int.reduceLT, Int.reduceLE, Int.reduceAdd, Int.reducePow, ac_image_Digests_L0, f0, q, z, h3, s0, List.map_nil, Nat.lt_irrefl, Nat.not_lt_zero]
         refine Weak.cv (hv := []) [32832] id ?_ rfl
         simp (disch := omega) only [go_sem, ↓reduceIte, Nat.reduceAdd, Nat.reduceEqDiff, Nat.reduceLeDiff, id, e0, l0, t0, List.map_nil]
         rfl
       · rw [if_neg (fun h => b0 h.2)] at e0
         have q : (act % 2 == 1) = false := by simpa using b0
         simp (disch := omega) only [go_sem, ↓reduceIte, Nat.reduceAdd, Nat.reduceEqDiff, Nat.reduceLT, Int.reduceLT, Int.reduceAdd, Int.reducePow, ac_image_Digests_L0, f0, q, z, List.map_nil, Nat.lt_irrefl, Nat.not_lt_zero]
         refine Weak.rd id ?_ ?_ rfl
         all_goals simp (disch := omega) only [go_sem, ↓reduceIte, Nat.reduceAdd, Nat.reduceEqDiff, id, e0, List.map_nil, Nat.lt_irrefl]
     · rw [if_neg (fun h => z h.1)] at e0
       simp (disch := omega) only [go_sem, ↓reduceIte, Nat.reduceAdd, Nat.reduceEqDiff, Nat.reduceLT, Int.reduceLT, Int.reduceAdd, ac_image_Digests_L0, z, List.map_nil, Nat.lt_irrefl, Nat.not_lt_zero]
       refine Weak.rd id ?_ ?_ rfl
       all_goals simp (disch := omega) only [go_sem, ↓reduceIte, Nat.reduceAdd, Nat.reduceEqDiff, id, e0, List.map_nil, Nat.lt_irrefl]
   · by_cases z : 0 < B.length
     · by_cases b0 : act / 2 % 2 = 1
       · rw [if_pos ⟨z, b0⟩] at e1
         have q : (act / 2 % 2 == 1) = true := by simpa using b0
         simp (disch := omega) only [go_sem, ↓reduceIte, Nat.reduceAdd, Nat.reduceEqDiff, Nat.reduceLT, Nat.reduceLeDiff, Int.reduceLT, Int.reduceLE, Int.reduceAdd, Int.reducePow, ac_image_Digests_L0, f1, q, z, h3, s1, List.map_nil, Nat.lt_irrefl, Nat.not_lt_zero]
         refine Weak.cv (hv := []) [32832] id ?_ rfl
         simp (disch := omega) only [go_sem, ↓reduceIte, Nat.reduceAdd, Nat.reduceEqDiff, Nat.reduceLeDiff, id, e1, l1, t1, List.map_nil]
         rfl
       · rw [if_neg (fun h => b0 h.2)] at e1
         have q : (act / 2 % 2 == 1) = false := by simpa using b0
         simp (disch := omega) only [go_sem, ↓reduceIte, Nat.reduceAdd, Nat.reduceEqDiff, Nat.reduceLT, Int.reduceLT, Int.reduceAdd, Int.reducePow, ac_image_Digests_L0, f1, q, z, List.map_nil, Nat.lt_irrefl, Nat.not_lt_zero]
         refine Weak.rd id ?_ ?_ rfl
         all_goals simp (disch := omega) only [go_sem, ↓reduceIte, Nat.reduceAdd, Nat.reduceEqDiff, id, e1, List.map_nil, Nat.lt_irrefl]
     · rw [if_neg (fun h => z h.1)] at e1
       simp (disch := omega) only [go_sem, ↓reduceIte, Nat.reduceAdd, Nat.reduceEqDiff, Nat.reduceLT, Int.reduceLT, Int.reduceAdd, ac_image_Digests_L0, z, List.map_nil, Nat.lt_irrefl, Nat.not_lt_zero]
       refine Weak.rd id ?_ ?_ rfl
       all_goals simp (disch := omega) only [go_sem, ↓reduceIte, Nat.reduceAdd, Nat.reduceEqDiff, id, e1, List.map_nil, Nat.lt_irrefl]
   · simp (disch := omega) only [go_sem, ↓reduceIte, Nat.reduceAdd, Nat.reduceEqDiff, Nat.reduceLT, Nat.reduceLeDiff, Int.reduceLT, ac_image_Digests_L0]
def measT : List T := [.int .i64 (-1), .int .i64 0, .int .i64 4, .int .i64 8, .int .i64 9]
theorem w_image_Register (tab : Tab) (gl : Gl) (g : Nat) (hg : gl g = some measT) (a : Int) : (ac_image_Register g).wp tab gl (zipF 0 [.t (.int .i64 a)]) (zipF 0 []) (resW [(2, none)] 0 (fun r o => r = .t (.int .i64 (regI a)) ∧ o = [])) := by
 by_cases c0 : a < 0
 · have hr : regI a = -1 := by unfold regI; rw [if_neg (by omega), if_neg (by omega), if_neg (by omega), if_neg (by omega)]
   simp (disch := omega) only [go_sem, ↓reduceIte, Nat.reduceAdd, Nat.reduceEqDiff, Int.reduceNeg, reduceCtorEq, ac_image_Register, c0, hr]
 by_cases c5 : 5 ≤ a
 · have hr : regI a = -1 := by unfold regI; rw [if_neg (by omega), if_neg (by omega), if_neg (by omega), if_neg (by omega)]
   simp (disch := omega) only [go_sem, ↓reduceIte, Nat.reduceAdd, Nat.reduceEqDiff, Int.reduceNeg, reduceCtorEq, ac_image_Register, c0, c5, hr]
 rcases (show a = 0 ∨ a = 1 ∨ a = 2 ∨ a = 3 ∨ a = 4 by omega) with rfl | rfl | rfl | rfl | rfl
 all_goals simp (disch := omega) only [go_sem, ↓reduceIte, Nat.reduceAdd, Nat.reduceEqDiff, Nat.reduceLeDiff, Int.reduceEq, Int.reduceLT, Int.reduceLE, Int.reduceNeg, reduceCtorEq, ac_image_Register, hg, measT, regI]
 all_goals trace_state
def ct_itoa : Ct where
 α := Int
 as x := [.t (.int .i64 x)]
 ins _ := []
 pre x := 0 ≤ x ∧ x ≤ 1000000
 r x := .t (strT (numL x.toNat))
 outs _ := []
 inj := by
   intro a b h _
   simp only [List.cons.injEq, V.t.injEq, T.int.injEq, true_and, and_true] at h
   subst h; exact ⟨rfl, rfl⟩
theorem itoa_eq {n : Nat} (h : n ≤ 1000000) : ct_itoa.fs [.t (.int .i64 (n : Int))] [] = some (.t (strT (numL n)), []) := ct_itoa.eq (n : Int) ⟨by omega, by omega⟩
theorem w_event_OfImage (tab : Tab) (gl : Gl) (n1 n2 n3 n4 : Nat) (h1 : tab.look n1 = some ct_imc.fs) (h2 : tab.look n2 = some ct_reg.fs) (h3 : tab.look n3 = some ct_imd.fs) (h4 : tab.look n4 = some ct_itoa.fs) (x : Im) (act : Int) (hm : imM x) (ha : 0 ≤ act ∧ act < 4) :
   (ac_event_OfImage n1 n2 n3 n4).wp tab gl (zipF 0 [.t (imT x), .t (.int .i64 act)]) (zipF 0 []) (resW [(4, some (4, true))] 0 (fun r o => r = .t (evT (ofI x act)) ∧ o = [])) := by
 obtain ⟨a, s, v, p⟩ := x
 have hC := imc_eq hm
 have hD := imd_eq (act := act) ⟨hm, ha⟩
 have hR := reg_eq (a := a)
 by_cases hz : chkI (a, s, v, p) = 0
 · obtain ⟨g1, g2, g3, g4, g5⟩ := chkI_good hz
   have g6 := nameB_len g3
   simp only at g1 g2 g3 g4 g6
   rw [hz] at hC
   by_cases c4 : a = 4
   · subst c4
     have hr : ofI (4, s, v, p) act = (0, 0, [], []) := if_pos (.inr rfl)
     rw [hr]
     simp (disch := omega) only [go_sem, ↓reduceIte, Nat.reduceAdd, Nat.reduceEqDiff, Nat.reduceLeDiff, ac_event_OfImage, imT_def, evT_def, h1, hC, List.map_nil]
   · have d4 : (a == 4) = false := by simpa using c4
     obtain ⟨m, rfl⟩ := Int.eq_ofNat_of_zero_le g2.1
     have hL := itoa_eq (n := m) (by omega)
     have hr : ofI (a, s, (m : Int), p) act = (regI a, 1, [digI (a, s, (m : Int), p) act 0, digI (a, s, (m : Int), p) act 1], labL s m) := by
       unfold ofI; rw [if_neg (by simp only; omega)]; rfl
     have hlN : (numL m).length ≤ 8 := decL_len.2
     have hlab : labL s m = s ++ [32] ++ numL m := rfl
     rw [hr, hlab]
     generalize digI (a, s, (m : Int), p) act 0 = D0 at *
     generalize digI (a, s, (m : Int), p) act 1 = D1 at *
     generalize numL m = N at *
     generalize regI a = R at *
     have tL : List.take (s.length + 1 + N.length) (s ++ [32] ++ N) = s ++ [32] ++ N := List.take_of_length_le (by simp; omega)
     have tl : (s ++ [32] ++ N).length = s.length + 1 + N.length := by simp; omega
     have t2 : (s ++ [32]).length = s.length + 1 := by simp
     have b1 : binT .add (strT s) (strT [32]) = some (strT (s ++ [32])) := bin_s_add (by simp; omega)
     have b2 : binT .add (strT (s ++ [32])) (strT N) = some (strT (s ++ [32] ++ N)) := bin_s_add (by simp; omega)
     simp (disch := omega) only [go_sem, ↓reduceIte, Nat.reduceAdd, Nat.reduceEqDiff, Nat.reduceLeDiff, reduceCtorEq, ac_event_OfImage, imT_def, evT_def, h1, hC, d4, h2, hR, h3, hD, b1, h4, hL, b2, tl, tL, List.take_length]
     all_goals rfl
 · have hr : ofI (a, s, v, p) act = (0, 0, [], []) := if_pos (.inl hz)
   rw [hr]
   have hz' : (chkI (a, s, v, p) != 0) = true := by simpa using hz
   simp (disch := omega) only [go_sem, ↓reduceIte, Nat.reduceAdd, Nat.reduceEqDiff, Nat.reduceLeDiff, ac_event_OfImage, imT_def, evT_def, h1, hC, hz', List.map_nil]
end Go.Eng
end
section
set_option maxRecDepth 20000
namespace Go.Eng
open Go.MuLone
theorem decL_dec : ∀ {k n : Nat}, n < 10 ^ (k + 1) → Lib.decDigits n = decL k n
 | 0, n, h => by rw [decL, Lib.decDigits, dif_pos (by omega)]
 | k + 1, n, h => by
   rw [decL, Lib.decDigits]
   by_cases h10 : n < 10
   · rw [if_pos h10, dif_pos h10]
   · rw [if_neg h10, dif_neg h10, decL_dec (k := k) (n := n / 10) (by rw [Nat.pow_succ] at h; omega)]
theorem itoa_numL {n : Nat} (h : n ≤ 1000000) : Lib.itoa (n : Int) = numL n := by
 unfold Lib.itoa numL
 rw [if_neg (by omega), Int.toNat_natCast]
 exact decL_dec (by have : (10 : Nat) ^ (7 + 1) = 100000000 := by decide
                    omega)
def pow10T : List T := Lib.pow10Tab.map (T.int .u64)
theorem tab_is {P : Program} {nm : String} {g : Nat} {k : IntKind} {zs : List Int} {F : Nat → Prop} {w : World} (hg : P.globalNamed nm = some g)
   (h : RepV (fun _ => none) F w (.ro (zs.map (T.int k))) (.pointer (some ⟨g, 0, none⟩))) (hs : GSz w g (zs.map (T.int k)).length) : Lib.TabIs P w nm k zs := by
 obtain ⟨c, e, z, hc, hz⟩ := hs
 rw [List.length_map] at hz
 have hv : w.var? P nm = some c := by
   unfold World.var?
   rw [hg, Option.bind_some, hc]
 unfold Lib.TabIs
 rw [hv]
 congr 1
 cases h with
 | ro _ a news ha hn h1 hF hw h =>
   rw [List.length_map] at hn
   apply Array.ext
   · simp [hz]
   · intro i hi1 hi2
     have hi : i < zs.length := by omega
     have hn2 : i < news.length := by omega
     have hu : news[i]? = some news[i] := List.getElem?_eq_getElem hn2
     have hr := h i (.int k zs[i]) news[i] (by rw [List.getElem?_map, List.getElem?_eq_getElem hi]; rfl) hu
     have hcell := hw i _ hu
     have e : (⟨g, 0, none⟩ : Addr).add i = ⟨g, i, none⟩ := by
       unfold Addr.add; split
       · rename_i h0; rw [h0]
       · simp
     rw [e] at hcell
     unfold World.cell? at hcell
     simp only [hc] at hcell
     generalize news[i] = u at *
     cases hr
     have h2 : c[i]? = some (.int k zs[i]) := by simpa using hcell
     rw [Array.getElem?_eq_getElem hi1] at h2
     rw [Option.some.inj h2]
     simp
theorem ok_itoa {P : Program} {G : Gl} {f : FuncId} {fn : Func} {c : Code} {g : Nat} (hf : P.funcs[f]? = some fn) (hname : (fn.name == "runtime.NumGoroutine") = false) (hb : fn.body = some c) (hG : G g = some pow10T)
   (hg : P.globalNamed "internal/strconv.uint64pow10" = some g)
   (h : ∀ (n : Int) (_ : -9223372036854775808 ≤ n) (_ : n ≤ 9223372036854775807) (w : World), Lib.TabIs P w "internal/strconv.uint64pow10" .u64 Lib.pow10Tab → Calls P f #[.int .i64 n] w fun e w' => e = .returned (.string ⟨(Lib.itoa n).toArray⟩) ∧ ∃ k os, w' = Go.Sort.grow (w.drewN k) os) : FOk P G f ct_itoa.fs := by
 refine ct_itoa.ok (fun args w => run_callFunc_enter hf hname hb args w) (fun (x : Int) hx => ?_)
 intro w β F vals env fits hargs
 have hx1 : (0 : Int) ≤ (x : Int) := hx.1
 have hx2 : (x : Int) ≤ (1000000 : Int) := hx.2
 have hvals : vals = #[.int .i64 x] := by
   obtain ⟨l⟩ := vals
   cases hargs with
   | cons h1 h2 =>
     cases h2
     cases h1 with
     | t h => cases h; rfl
 subst hvals
 refine (h x (by omega) (by omega) w (tab_is hg (env.gl g _ hG) (env.gs g _ hG))).mono fun e w' he => ?_
 obtain ⟨rfl, k, os, rfl⟩ := he
 refine ⟨_, β, F, rfl, ?_⟩
 have hβ : ∀ k, β k = none := fun k => fits.dom k (Nat.zero_le _)
 obtain ⟨n, rfl⟩ := Int.eq_ofNat_of_zero_le hx1
 have hr : ct_itoa.r (n : Int) = .t (strT (numL n)) := by
   show V.t (strT (numL (n : Int).toNat)) = _
   rw [Int.toNat_natCast]
 have hL : Lib.itoa (n : Int) = numL n := itoa_numL (by omega)
 have hsz : w.heap.size ≤ (Go.Sort.grow (w.drewN k) os).heap.size := by
   show _ ≤ (w.heap ++ os).size
   rw [Array.size_append]; omega
 have hold : ∀ b, b < w.heap.size → (Go.Sort.grow (w.drewN k) os).heap[b]? = w.heap[b]? := by
   intro b hb
   show (w.heap ++ os)[b]? = _
   rw [Array.getElem?_append_left hb]
 refine ⟨⟨fun k o hk => (by simp [ct_itoa] at hk), fun k _ => hβ k, fun i j bi bj b h1 => (by rw [hβ] at h1; cases h1), fun k bi b h1 => (by rw [hβ] at h1; cases h1)⟩, ?_, fun _ _ => rfl, fun k bi b _ h1 => by (rw [hβ] at h1; cases h1), fun _ _ => Iff.rfl, fun b hb => Nat.lt_of_lt_of_le (env.Fw b hb) hsz, rfl, rfl, rfl, hsz, fun b hb _ => hold b hb⟩
 rw [hr, hL]
 exact .t (.str _)
end Go.Eng
end
section
set_option maxRecDepth 20000
namespace Go.Eng
theorem ok_mnz {P : Program} {G : Nat → Option (List T)} {f : FuncId} {fn : Func} {ps : Array TypeId} {t e : TypeId} (hf : P.funcs[f]? = some fn) (hname : (fn.name == "runtime.NumGoroutine") = false) (hb : fn.body.isNone = true) (hn : Extern.findNext fn = none)
   (he : Extern.find fn = some (Extern.BytealgMakeNoZero.makeNoZero ps #[t])) (ht : P.underlying t = some (.slice e)) : FOk P G f ct_mnz.fs := by
 intro as ins r outs hs
 have key : ∃ n : Nat, (n = 20 ∨ n = 32) ∧ as = [.t (.int .i64 n)] ∧ ins = [] ∧ r = .sl 0 0 n ∧ outs = [.live 1 [] true false] := by
   unfold Ct.fs at hs
   split at hs
   · rename_i hx
     cases hs
     have h1 := hx.choose_spec
     generalize hx.choose = y at h1 ⊢
     obtain ⟨⟨rfl, rfl⟩, h3⟩ := h1
     have h4 : (show Int from y) = 20 ∨ (show Int from y) = 32 := h3
     rcases h4 with h4 | h4
     · refine ⟨20, .inl rfl, ?_⟩
       have h5 : y = (20 : Int) := h4
       subst h5
       exact ⟨rfl, rfl, rfl, rfl⟩
     · refine ⟨32, .inr rfl, ?_⟩
       have h5 : y = (32 : Int) := h4
       subst h5
       exact ⟨rfl, rfl, rfl, rfl⟩
   · cases hs
 obtain ⟨n, hn2, rfl, rfl, rfl, rfl⟩ := key
 intro w β F vals env fits hargs
 have hvals : vals = #[.int .i64 n] := by
   obtain ⟨l⟩ := vals
   cases hargs with
   | cons h1 h2 =>
     cases h2
     cases h1 with
     | t h => cases h; rfl
 subst hvals
 obtain ⟨cs, hrun, hle, hmx⟩ := Lib.run_makeNoZero (P := P) w ps t e ht n (by omega)
 refine .inr ⟨.slice (some ⟨w.heap.size, 0, none⟩) n cs.size, w.drew.drew.alloc (.cells cs e), ?_, .slice (some ⟨w.heap.size, 0, none⟩) n cs.size, fun k => if k = 0 then some ⟨some w.heap.size, 1, cs.size⟩ else none, F, rfl, ?_⟩
 · rw [run_callFunc_extern hf hname hb hn he, hrun]; rfl
 · have hsz : (w.drew.drew.alloc (.cells cs e)).heap.size = w.heap.size + 1 := by
     show (w.heap.push _).size = _
     exact Array.size_push _
   have hnew : (w.drew.drew.alloc (.cells cs e)).heap[w.heap.size]? = some (.cells cs e) := by
     show (w.heap.push _)[w.heap.size]? = _
     simp
   have hold : ∀ b, b < w.heap.size → (w.drew.drew.alloc (.cells cs e)).heap[b]? = w.heap[b]? := by
     intro b hb
     show (w.heap.push _)[b]? = _
     rw [Array.getElem?_push, if_neg (by omega)]
   have hFb : ¬ F w.heap.size := fun h => absurd (env.Fw _ h) (by omega)
   have mx : n ≤ maxLen := by have : (32 : Nat) ≤ maxLen := by decide
                              omega
   refine ⟨⟨fun k o hk => ?_, fun k hk => ?_, fun i j bi bj b h1 h2 h3 h4 => ?_, fun k bi b h1 h2 => ?_⟩, ?_, fun k hk => ?_, fun k bi b _ h1 h2 => ?_, fun b _ => Iff.rfl, fun b hb => ?_, rfl, rfl, rfl, ?_, fun b hb _ => hold b hb⟩
   · cases k with
     | succ k => simp at hk
     | zero =>
       simp only [List.getElem?_cons_zero, Option.some.injEq] at hk
       subst hk
       refine ⟨_, if_pos rfl, ⟨rfl, by simp, cs, e, (0, 0), hnew, by omega, by simp, by simp, hmx mx, fun i x h => by simp at h, ?_⟩, 1, [], false, rfl⟩
       simpa using hFb
   · have : k ≠ 0 := by simp at hk; omega
     exact if_neg this
   · split at h1 <;> split at h2 <;> simp_all
   · split at h1
     · cases h1
       cases h2
       exact ⟨by rw [hsz]; omega, hFb⟩
     · cases h1
   · exact .sl 0 0 n cs.size w.heap.size 1 cs.size _ (if_pos rfl) hle (by omega) (fun _ => by simp) rfl
   · simp at hk
   · split at h1
     · cases h1
       cases h2
       exact Nat.le_refl _
     · cases h1
   · have := env.Fw b hb
     rw [hsz]; omega
   · rw [hsz]; omega
end Go.Eng
end
section
set_option maxRecDepth 20000
namespace Go.Eng
open Go.ChangeShapes Go.WideShapes Go.RowKit
inductive Ty where
 | int (k : IntKind)
 | bool
 | str
 | sl (e : Ty)
 | st (fs : List Ty)
mutual
def Ty.size : Ty → Nat
 | .st fs => Ty.sizeL fs
 | _ => 1
def Ty.sizeL : List Ty → Nat
 | [] => 0
 | f :: r => f.size + Ty.sizeL r
end
def isK (P : Program) (t : TypeId) (k : IntKind) : Bool := match P.underlying t with
 | some (.int k') => decide (k' = k)
 | _ => false
theorem isK_of {P : Program} {t : TypeId} {k : IntKind} (h : isK P t k = true) : P.underlying t = some (.int k) := by
 unfold isK at h
 split at h
 · rename_i h1; rw [h1, of_decide_eq_true h]
 · cases h
mutual
def Ty.ok (P : Program) : Ty → TypeId → Bool
 | .int k, t => isK P t k
 | .bool, t => match P.underlying t with | some .bool => true | _ => false
 | .str, t => match P.underlying t with | some .string => true | _ => false
 | .sl e, t => match P.underlying t with | some (.slice te) => e.ok P te && Nat.beq (P.cellsOf te) e.size && Nat.ble 1 e.size | _ => false
 | .st fs, t => Nat.beq (P.cellsOf t) (Ty.sizeL fs) && match P.underlying t with
   | some (.struct gs) => Ty.okF P fs gs.toList 0
   | some (.array n te) => Nat.beq fs.length n && Ty.okA P fs te
   | _ => false
def Ty.okF (P : Program) : List Ty → List Field → Nat → Bool
 | [], [], _ => true
 | f :: r, g :: gs, off => Nat.beq g.offset off && Nat.beq (P.cellsOf g.type) f.size && f.ok P g.type && Ty.okF P r gs (off + f.size)
 | _, _, _ => false
def Ty.okA (P : Program) : List Ty → TypeId → Bool
 | [], _ => true
 | f :: r, te => f.ok P te && Nat.beq (P.cellsOf te) f.size && Ty.okA P r te
end
mutual
def Ty.is : Ty → T → Prop
 | .int k, x => ∃ n, (Lit.int k n).wf = true ∧ x = .int k n
 | .bool, x => ∃ b, x = .bool b
 | .str, x => ∃ s : ByteArray, s.size ≤ maxLen ∧ x = .str s
 | .sl e, x => ∃ es : List T, es.length ≤ maxLen ∧ (∀ y ∈ es, e.is y) ∧ x = .sl es
 | .st fs, x => ∃ cs, Ty.isL fs cs ∧ x = .agg cs
def Ty.isL : List Ty → List T → Prop
 | [], cs => cs = []
 | f :: r, cs => ∃ x rest, f.is x ∧ Ty.isL r rest ∧ cs = x.cells ++ rest
end
mutual
theorem Ty.is_size : ∀ (ty : Ty) (x : T), ty.is x → x.cells.length = ty.size
 | .int k, x, h => by obtain ⟨n, _, rfl⟩ := h; rfl
 | .bool, x, h => by obtain ⟨n, rfl⟩ := h; rfl
 | .str, x, h => by obtain ⟨n, _, rfl⟩ := h; rfl
 | .sl e, x, h => by obtain ⟨es, _, _, rfl⟩ := h; rfl
 | .st fs, x, h => by
   obtain ⟨cs, h1, rfl⟩ := h
   show cs.length = Ty.sizeL fs
   exact Ty.isL_size fs cs h1
theorem Ty.isL_size : ∀ (fs : List Ty) (cs : List T), Ty.isL fs cs → cs.length = Ty.sizeL fs
 | [], cs, h => by cases h; rfl
 | f :: r, cs, h => by
   obtain ⟨x, rest, h1, h2, rfl⟩ := h
   rw [List.length_append, Ty.is_size f x h1, Ty.isL_size r rest h2, Ty.sizeL]
end
theorem pick_list {α : Type} {Q : Nat → α → Prop} : ∀ (n : Nat), (∀ i, i < n → ∃ y, Q i y) → ∃ l : List α, l.length = n ∧ ∀ i y, l[i]? = some y → Q i y
 | 0, _ => ⟨[], rfl, by simp⟩
 | n + 1, h => by
   obtain ⟨l, hl, hq⟩ := pick_list n (fun i hi => h i (by omega))
   obtain ⟨y, hy⟩ := h n (by omega)
   refine ⟨l ++ [y], by simp [hl], fun i z hz => ?_⟩
   rw [List.getElem?_append] at hz
   split at hz
   · exact hq i z hz
   · have h1 : i - l.length = 0 := by
       rcases Nat.eq_zero_or_pos (i - l.length) with h | h
       · exact h
       · rw [List.getElem?_eq_none (by simp; omega)] at hz; cases hz
     rw [h1] at hz
     simp only [List.getElem?_cons_zero, Option.some.injEq] at hz
     subst hz
     have : i = n := by omega
     subst this; exact hy
theorem cell_some {w : World} {a : Addr} {u : Value} (h : w.cell? a = some u) : a.block < w.heap.size ∧ a.spot = none := by
 unfold World.cell? at h
 split at h
 · rename_i hb
   refine ⟨(Array.getElem?_eq_some_iff.1 hb).1, ?_⟩
   split at h
   · cases h
   · rename_i hs
     simpa using hs
 · cases h
section
variable {H : Type} {enc : TypeId × Value → H} {P : Program} {w : World} {base : Nat} {sp : Nat → Bool} {held : Bool}
structure Reads (w : World) (ds : List T) (cs : List Value) : Prop where
 len : ds.length = cs.length
 one : ∀ u ∈ cs, u.oneCell' = true
 rep : ∀ (i : Nat) (c : T) (u : Value), ds[i]? = some c → cs[i]? = some u → Rep (fun b => b < w.heap.size) w c u
theorem Reads.one1 {x : T} {c : Value} (hc : c.oneCell' = true) (h : Rep (fun b => b < w.heap.size) w x c) : Reads w [x] [c] :=
 ⟨rfl, by simpa using hc, fun i d u hd hu => by
   cases i with
   | zero => simp only [List.getElem?_cons_zero, Option.some.injEq] at hd hu; subst hd; subst hu; exact h
   | succ i => simp at hd⟩
theorem Reads.app {ds es : List T} {cs vs : List Value} (h : Reads w ds cs) (h2 : Reads w es vs) : Reads w (ds ++ es) (cs ++ vs) := by
 refine ⟨by rw [List.length_append, List.length_append, h.len, h2.len], fun u hu => ?_, fun i c u hc hu => ?_⟩
 · rcases List.mem_append.1 hu with h3 | h3
   · exact h.one u h3
   · exact h2.one u h3
 · rw [List.getElem?_append] at hc hu
   rw [h.len] at hc
   split at hc
   · rename_i hl; rw [if_pos hl] at hu; exact h.rep i c u hc hu
   · rename_i hl; rw [if_neg hl] at hu; exact h2.rep _ c u hc hu
theorem Reads.nil : Reads w [] [] := ⟨rfl, by simp, fun i c u hc => by simp at hc⟩
theorem open_fields (n : Nat) (IH : ∀ (ty : Ty) (t : TypeId) (cs : List Value) (x : DataW H × List MemPlace), ty.ok P t = true → cs.length = ty.size → DataW.trod enc P w base sp held n t cs = some x → ∃ y : T, ty.is y ∧ Reads w y.cells cs) {cs : List Value} :
   ∀ (fs : List Ty) (gs : List Field) (off : Nat), Ty.okF P fs gs off = true → off + Ty.sizeL fs = cs.length → (∀ g ∈ gs, ∃ x, DataW.trod enc P w base sp held n g.type ((cs.drop g.offset).take (P.cellsOf g.type)) = some x) →
     ∃ ds, Ty.isL fs ds ∧ Reads w ds (cs.drop off)
 | [], [], off, _, hl, _ => ⟨[], rfl, by
     have : cs.drop off = [] := List.drop_eq_nil_of_le (by simp only [Ty.sizeL] at hl; omega)
     rw [this]; exact Reads.nil⟩
 | [], _ :: _, _, h, _, _ => by simp [Ty.okF] at h
 | _ :: _, [], _, h, _, _ => by simp [Ty.okF] at h
 | f :: r, g :: gs, off, h, hl, hg => by
   simp only [Ty.okF, Bool.and_eq_true] at h
   obtain ⟨⟨⟨h1, h2⟩, h3⟩, h4⟩ := h
   have e1 := Nat.eq_of_beq_eq_true h1
   have e2 := Nat.eq_of_beq_eq_true h2
   simp only [Ty.sizeL] at hl
   obtain ⟨ds, hd1, hd2⟩ := open_fields n IH r gs (off + f.size) h4 (by omega) (fun g' hg' => hg g' (.tail _ hg'))
   obtain ⟨x, hx⟩ := hg g (.head _)
   rw [e1, e2] at hx
   obtain ⟨y, hy1, hy2⟩ := IH f g.type _ x h3 (by simp; omega) hx
   refine ⟨y.cells ++ ds, ⟨y, ds, hy1, hd1, rfl⟩, ?_⟩
   have e3 : cs.drop off = (cs.drop off).take f.size ++ cs.drop (off + f.size) := by
     rw [← List.drop_drop, List.take_append_drop]
   rw [e3]
   exact hy2.app hd2
theorem open_array (n : Nat) (IH : ∀ (ty : Ty) (t : TypeId) (cs : List Value) (x : DataW H × List MemPlace), ty.ok P t = true → cs.length = ty.size → DataW.trod enc P w base sp held n t cs = some x → ∃ y : T, ty.is y ∧ Reads w y.cells cs) {cs : List Value} {te : TypeId} :
   ∀ (fs : List Ty) (i : Nat), Ty.okA P fs te = true → i * P.cellsOf te + Ty.sizeL fs = cs.length → (∀ j, j < fs.length → ∃ x, DataW.trod enc P w base sp held n te ((cs.drop ((i + j) * P.cellsOf te)).take (P.cellsOf te)) = some x) →
     ∃ ds, Ty.isL fs ds ∧ Reads w ds (cs.drop (i * P.cellsOf te))
 | [], i, _, hl, _ => ⟨[], rfl, by
     have : cs.drop (i * P.cellsOf te) = [] := List.drop_eq_nil_of_le (by simp only [Ty.sizeL] at hl; omega)
     rw [this]; exact Reads.nil⟩
 | f :: r, i, h, hl, hg => by
   simp only [Ty.okA, Bool.and_eq_true] at h
   obtain ⟨⟨h3, h2⟩, h4⟩ := h
   have e2 := Nat.eq_of_beq_eq_true h2
   simp only [Ty.sizeL] at hl
   have e4 : (i + 1) * P.cellsOf te = i * P.cellsOf te + f.size := by rw [Nat.add_mul, Nat.one_mul, e2]
   obtain ⟨ds, hd1, hd2⟩ := open_array n IH (cs := cs) r (i + 1) h4 (by rw [e4]; omega) (fun j hj => by
     have := hg (j + 1) (by simp; omega)
     rw [show i + 1 + j = i + (j + 1) by omega]; exact this)
   obtain ⟨x, hx⟩ := hg 0 (by simp)
   rw [Nat.add_zero, e2, ← e2] at hx
   obtain ⟨y, hy1, hy2⟩ := IH f te _ x h3 (by rw [e2] at hl ⊢; rw [List.length_take, List.length_drop]; omega) hx
   refine ⟨y.cells ++ ds, ⟨y, ds, hy1, hd1, rfl⟩, ?_⟩
   have e3 : cs.drop (i * P.cellsOf te) = (cs.drop (i * P.cellsOf te)).take (P.cellsOf te) ++ cs.drop ((i + 1) * P.cellsOf te) := by
     rw [e4, ← e2, ← List.drop_drop, List.take_append_drop]
   rw [e3]
   exact hy2.app hd2
theorem open_cells : ∀ (n : Nat) (ty : Ty) (t : TypeId) (cs : List Value) (x : DataW H × List MemPlace), ty.ok P t = true → cs.length = ty.size → DataW.trod enc P w base sp held n t cs = some x → ∃ y : T, ty.is y ∧ Reads w y.cells cs := by
 intro n
 induction n with
 | zero => intro ty t cs x _ _ h; simp [DataW.trod] at h
 | succ n IH =>
   intro ty t cs x hty hlen h
   cases ty with
   | int k =>
     obtain ⟨m, rfl, _, hw⟩ := DataW.trod_int (isK_of hty) h
     exact ⟨.int k m, ⟨m, hw, rfl⟩, .one1 rfl (.int k m)⟩
   | bool =>
     simp only [Ty.ok] at hty
     split at hty
     · rename_i hu
       obtain ⟨b, rfl, _⟩ := DataW.trod_bool hu h
       exact ⟨.bool b, ⟨b, rfl⟩, .one1 rfl (.bool b)⟩
     · cases hty
   | str =>
     simp only [Ty.ok] at hty
     split at hty
     · rename_i hu
       obtain ⟨s, rfl, _, hs⟩ := DataW.trod_string hu h
       exact ⟨.str s, ⟨s, hs, rfl⟩, .one1 rfl (.str s)⟩
     · cases hty
   | sl e =>
     simp only [Ty.ok] at hty
     split at hty
     · rename_i te hu
       simp only [Bool.and_eq_true] at hty
       obtain ⟨⟨h1, h2⟩, h3⟩ := hty
       have e2 := Nat.eq_of_beq_eq_true h2
       have e3 := Nat.le_of_ble_eq_true h3
       rcases DataW.trod_slice hu h with ⟨rfl, _⟩ | ⟨a, len, cap, elems, rest, m, hm, rfl, _, _, hlc, hcm, hel, hget, _, _⟩
       · exact ⟨.sl [], ⟨[], by simp, by simp, rfl⟩, .one1 rfl .nil⟩
       · cases hm
         have hcells : ∀ i, i < len → ∃ y : T, e.is y ∧ ∃ cs', Reads w y.cells cs' ∧ cs'.length = e.size ∧ ∀ j, j < e.size → w.cell? ((a.add (i * e.size)).add j) = cs'[j]? := by
           intro i hi
           have hg := hget i hi
           have : elems[i]? = some elems[i] := List.getElem?_eq_getElem (by omega)
           rw [this, Option.bind_eq_some_iff] at hg
           obtain ⟨cs', hc, ht⟩ := hg
           obtain ⟨_, hl, hcell⟩ := World.cells?_some hc
           rw [e2] at hl hcell
           obtain ⟨y, hy1, hy2⟩ := IH e te cs' _ h1 hl ht
           exact ⟨y, hy1, cs', hy2, hl, hcell⟩
         obtain ⟨es, hes, hq⟩ := pick_list len hcells
         have hz : ∀ y ∈ es, y.cells.length = e.size := fun y hy => by
           obtain ⟨i, hi⟩ := List.getElem?_of_mem hy
           exact e.is_size y (hq i y hi).1
         have hcellk : ∀ k, k < len * e.size → ∃ (i j : Nat) (y : T) (cs' : List Value) (u : Value), k = i * e.size + j ∧ j < e.size ∧ es[i]? = some y ∧ Reads w y.cells cs' ∧ cs'[j]? = some u ∧ w.cell? (a.add k) = some u := by
           intro k hk
           have hi : k / e.size < len := (Nat.div_lt_iff_lt_mul (by omega)).2 hk
           have hj : k % e.size < e.size := Nat.mod_lt _ (by omega)
           have hy : es[k / e.size]? = some es[k / e.size] := List.getElem?_eq_getElem (by omega)
           obtain ⟨_, cs', hr, hl, hc⟩ := hq _ _ hy
           have hu : cs'[k % e.size]? = some cs'[k % e.size] := List.getElem?_eq_getElem (by omega)
           have ek : k = k / e.size * e.size + k % e.size := by rw [Nat.mul_comm]; exact (Nat.div_add_mod k e.size).symm
           refine ⟨_, _, _, cs', _, ek, hj, hy, hr, hu, ?_⟩
           rw [← hu, ← hc _ hj, Addr.add_add, ← ek]
         refine ⟨.sl es, ⟨es, by omega, fun y hy => ?_, rfl⟩, .one1 rfl ?_⟩
         · obtain ⟨i, hi⟩ := List.getElem?_of_mem hy
           exact (hq i y hi).1
         · have hnl : ((List.range (len * e.size)).map fun k => (w.cell? (a.add k)).getD default).length = len * e.size := by simp
           have hnews : ∀ k u, ((List.range (len * e.size)).map fun k => (w.cell? (a.add k)).getD default)[k]? = some u → k < len * e.size ∧ w.cell? (a.add k) = some u := by
             intro k u hu
             have hk : k < len * e.size := by
               rcases Nat.lt_or_ge k (len * e.size) with h | h
               · exact h
               · rw [List.getElem?_eq_none (by omega)] at hu; cases hu
             obtain ⟨_, _, _, _, u', _, _, _, _, _, hc⟩ := hcellk k hk
             rw [List.getElem?_map, List.getElem?_range hk, Option.map_some, hc, Option.getD_some, Option.some.injEq] at hu
             subst hu
             exact ⟨hk, hc⟩
           have h0 : es ≠ [] → a.block < w.heap.size ∧ a.spot = none := by
             intro hne
             have hlp : 0 < len := by
               rw [← hes]; exact List.length_pos_iff.2 hne
             obtain ⟨_, _, _, _, u', _, _, _, _, _, hc⟩ := hcellk 0 (Nat.mul_pos hlp (by omega))
             have e9 : a.add 0 = a := by simp [Addr.add]
             rw [e9] at hc
             exact cell_some hc
           have key := Rep.sl (F := fun b => b < w.heap.size) (w := w) es a cap e.size _ (fun hne => (h0 hne).2) (by omega) (by rw [hes]; exact hnl) (fun u hu => by
             obtain ⟨k, hk⟩ := List.getElem?_of_mem hu
             obtain ⟨hk1, hk2⟩ := hnews k u hk
             obtain ⟨_, _, _, cs', u', _, _, _, hr, hcu, hc⟩ := hcellk k hk1
             rw [hk2] at hc; cases hc
             exact hr.one u (List.mem_of_getElem? hcu)) (fun hne => (h0 hne).1) (fun k u hk => (hnews k u hk).2) hz
             (fun i y j c u hy hc hu => by
               obtain ⟨hk1, hk2⟩ := hnews _ u hu
               obtain ⟨i', j', y', cs', u', e1, hj', hy', hr, hcu, hc'⟩ := hcellk _ hk1
               rw [hk2] at hc'; cases hc'
               have hj : j < e.size := by rw [← hz y (List.mem_of_getElem? hy)]; exact (List.getElem?_eq_some_iff.1 hc).1
               have ei : i = i' ∧ j = j' := by
                 have h5 := congrArg (· / e.size) e1
                 have h6 := congrArg (· % e.size) e1
                 simp only [Nat.mul_comm _ e.size, Nat.mul_add_div (show 0 < e.size by omega), Nat.mul_add_mod, Nat.div_eq_of_lt hj, Nat.div_eq_of_lt hj', Nat.mod_eq_of_lt hj, Nat.mod_eq_of_lt hj'] at h5 h6
                 exact ⟨by omega, h6⟩
               obtain ⟨rfl, rfl⟩ := ei
               rw [hy] at hy'; cases hy'
               exact hr.rep j c u hc hcu)
           rw [hes] at key
           exact key
     · cases hty
   | st fs =>
     simp only [Ty.ok, Bool.and_eq_true] at hty
     obtain ⟨h0, hty⟩ := hty
     have e0 := Nat.eq_of_beq_eq_true h0
     split at hty
     · rename_i gs hu
       obtain ⟨xs, m, hm, _, hl, hxl, hget⟩ := DataW.trod_struct hu h
       cases hm
       obtain ⟨ds, hd1, hd2⟩ := open_fields n IH (cs := cs) fs gs.toList 0 hty (by omega) (fun g hg => by
         obtain ⟨i, hi⟩ := List.getElem?_of_mem hg
         have hi' : gs[i]? = some g := by simpa using hi
         have hlt : i < xs.length := by rw [hxl]; exact (Array.getElem?_eq_some_iff.1 hi').1
         exact ⟨xs[i], by rw [hget i g hi']; exact List.getElem?_eq_getElem hlt⟩)
       rw [List.drop_zero] at hd2
       exact ⟨.agg ds, ⟨ds, hd1, rfl⟩, hd2⟩
     · rename_i m te hu
       simp only [Bool.and_eq_true] at hty
       have e5 := Nat.eq_of_beq_eq_true hty.1
       obtain ⟨xs, m', hm, _, hl, hxl, hget⟩ := DataW.trod_array hu h
       cases hm
       obtain ⟨ds, hd1, hd2⟩ := open_array n IH (cs := cs) fs 0 hty.2 (by omega) (fun j hj => by
         have hlt : j < xs.length := by omega
         rw [Nat.zero_add]
         exact ⟨xs[j], by rw [hget j (by omega)]; exact List.getElem?_eq_getElem hlt⟩)
       rw [Nat.zero_mul, List.drop_zero] at hd2
       exact ⟨.agg ds, ⟨ds, hd1, rfl⟩, hd2⟩
     · cases hty
theorem open_value {ty : Ty} {t : TypeId} {v : Value} {d : DataW H} {ps : List MemPlace} {b0 : Nat} (hty : ty.ok P t = true) (hval : Value.okWide P w .any b0 t v) (h : DataW.Trod enc P w base sp held t v d ps) :
   ∃ y : T, ty.is y ∧ Rep (fun b => b < w.heap.size) w y v := by
 obtain ⟨n, hn⟩ := h
 have scalar : ∀ c, v = c → c.cells = #[c] → ty.size = 1 → (∀ y : T, ty.is y → y.cells = [y]) → ∃ y : T, ty.is y ∧ Rep (fun b => b < w.heap.size) w y v := by
   intro c hv hc hs hy
   subst hv
   rw [hc] at hn
   obtain ⟨y, h1, h2⟩ := open_cells n ty t _ _ hty (by rw [hs]; rfl) hn
   rw [hy y h1] at h2
   exact ⟨y, h1, h2.rep 0 y v rfl rfl⟩
 cases ty with
 | int k =>
   obtain ⟨m, hv⟩ := okWide_int (isK_of hty) hval
   exact scalar _ hv rfl rfl (fun y hy => by obtain ⟨_, _, rfl⟩ := hy; rfl)
 | bool =>
   simp only [Ty.ok] at hty
   split at hty
   · rename_i hu
     obtain ⟨m, hv⟩ := okWide_bool hu hval
     exact scalar _ hv rfl rfl (fun y hy => by obtain ⟨_, rfl⟩ := hy; rfl)
   · cases hty
 | str =>
   simp only [Ty.ok] at hty
   split at hty
   · rename_i hu
     obtain ⟨m, hv⟩ := okWide_string hu hval
     exact scalar _ hv rfl rfl (fun y hy => by obtain ⟨_, _, rfl⟩ := hy; rfl)
   · cases hty
 | sl e =>
   have hty' := hty
   simp only [Ty.ok] at hty'
   split at hty'
   · rename_i te hu
     obtain ⟨a, l, c, hv⟩ := okWide_slice hu hval
     exact scalar _ hv rfl rfl (fun y hy => by obtain ⟨_, _, _, rfl⟩ := hy; rfl)
   · cases hty'
 | st fs =>
   have hagg : ∃ cs, v = .agg cs ∧ cs.size = P.cellsOf t := by
     have hty' := hty
     simp only [Ty.ok, Bool.and_eq_true] at hty'
     obtain ⟨_, h2⟩ := hty'
     unfold Value.okWide at hval
     split at h2
     · rename_i hu; rw [hu] at hval; obtain ⟨cs, h3, h4, _⟩ := hval; exact ⟨cs, h3, h4⟩
     · rename_i hu; rw [hu] at hval; obtain ⟨cs, h3, h4, _⟩ := hval; exact ⟨cs, h3, h4⟩
     · cases h2
   obtain ⟨cs, rfl, hsz⟩ := hagg
   have hsz2 : cs.size = Ty.sizeL fs := by
     simp only [Ty.ok, Bool.and_eq_true] at hty
     rw [hsz]; exact Nat.eq_of_beq_eq_true hty.1
   obtain ⟨y, h1, h2⟩ := open_cells n (.st fs) t _ _ hty (by show cs.toList.length = Ty.sizeL fs; simpa using hsz2) hn
   obtain ⟨ds, h3, rfl⟩ := h1
   refine ⟨.agg ds, ⟨ds, h3, rfl⟩, .agg ds cs ?_ ?_ ?_⟩
   · have := h2.len; simpa [Value.cells, T.cells] using this.symm
   · intro u hu; exact h2.one u (by simpa [Value.cells] using hu)
   · intro i c u hc hu; exact h2.rep i c u hc (by simpa [Value.cells] using hu)
theorem open_args : ∀ {tys : List Ty} {ts : List TypeId} {vs : List Value} {ds : List (DataW H)} {ps : List MemPlace} {b0 : Nat}, All2 (fun (ty : Ty) (t : TypeId) => ty.ok P t = true) tys ts →
   (∀ (j : Nat) t v, ts[j]? = some t → vs[j]? = some v → Value.okWide P w .any b0 t v) → DataW.TrodAll enc P w base sp held ts vs ds ps →
   ∃ ys : List T, All2 (fun (ty : Ty) (y : T) => ty.is y) tys ys ∧ All2 (RepV (fun _ => none) (fun b => b < w.heap.size) w) (ys.map V.t) vs
 | [], ts, vs, ds, ps, b0, h, hv, hd => by
   cases h
   obtain ⟨rfl, _, _⟩ := trodAll_nil hd
   exact ⟨[], .nil, .nil⟩
 | ty :: tys, ts, vs, ds, ps, b0, h, hv, hd => by
   cases h with
   | cons h1 h2 =>
     obtain ⟨v, vs', d, ds', p, q, rfl, rfl, rfl, hd1, hd2⟩ := trodAll_cons hd
     obtain ⟨y, hy1, hy2⟩ := open_value h1 (hv 0 _ v rfl rfl) hd1
     obtain ⟨ys, h3, h4⟩ := open_args h2 (fun j t v' ht hv' => hv (j + 1) t v' ht hv') hd2
     exact ⟨y :: ys, .cons hy1 h3, .cons (.t hy2) h4⟩
end
end Go.Eng
end
section
set_option maxRecDepth 20000
namespace Go.Eng
open Go.ChangeShapes Go.WideShapes Go.RowKit Go.WideElems
section
variable {H : Type} {enc : TypeId × Value → H} {P : Program}
theorem same_of_old {W W' : World} (hfr : ∀ b, b < W.heap.size → W'.heap[b]? = W.heap[b]?) {p : MemPlace} (hp : p.block < W.heap.size) : W.sameAt W' p := by
 cases p with
 | cell b off => exact World.cell?_of_block (hfr b hp)
 | map b => exact hfr b hp
theorem args_stay (hl : laidOutB P = true) {W W' : World} (hfr : ∀ b, b < W.heap.size → W'.heap[b]? = W.heap[b]?) {sp : Nat → Bool} :
   ∀ {ts : List TypeId} {vs : List Value} {ds : List (DataW H)} {ps : List MemPlace}, (∀ t ∈ ts, P.readableRec t = true ∧ t < P.types.size) → (∀ p ∈ ps, p.block < W.heap.size ∧ sp p.block = true) →
     DataW.TrodAll enc P W 0 (fun _ => true) true ts vs ds ps → DataW.TrodAll enc P W' 0 sp true ts vs ds ps
 | [], vs, ds, ps, _, _, h => by
   obtain ⟨rfl, rfl, rfl⟩ := trodAll_nil h
   exact trodAll_mk0
 | t :: ts, vs, ds, ps, ht, hp, h => by
   obtain ⟨v, vs', d, ds', p, q, rfl, rfl, rfl, h1, h2⟩ := trodAll_cons h
   obtain ⟨hr, hrow⟩ := ht t (.head _)
   exact ⟨p, q, Trod_stays hl hr hrow h1 (fun x hx => same_of_old hfr (hp x (List.mem_append_left _ hx)).1) (fun x hx => (hp x (List.mem_append_left _ hx)).2),
     args_stay hl hfr (fun t' ht' => ht t' (.tail _ ht')) (fun x hx => hp x (List.mem_append_right _ hx)) h2, rfl⟩
theorem law_post {fn : Func} {s : ChangeSpec} {tb : TypeId} {apart fresh handsOn again : Bool} {W W' : World} {args : Array Value} {ds gs : List (DataW H)} {before : List MemPlace}
   (hl : laidOutB P = true) (hts : ∀ t ∈ fn.params.toList, P.readableRec t = true ∧ t < P.types.size) (hrt : fn.resultTypes = #[tb]) (hb : P.underlying tb = some .bool) (hsv : s.vars = [])
   (hfn : (s.fn H (ds ++ gs)).results = [.lit (.bool true)] ∧ (s.fn H (ds ++ gs)).args = ds ∧ (s.fn H (ds ++ gs)).vars = [])
   (hW : DataW.Whole enc P fn.params.toList s.vars apart W args.toList ds gs before)
   (hos : W'.os = W.os) (hout : W'.output = W.output) (hfr : ∀ b, b < W.heap.size → W'.heap[b]? = W.heap[b]?) :
   s.post enc P fn apart fresh handsOn again W args (.bool true) W' := by
 have hlt : ∀ p ∈ before, p.block < W.heap.size := fun p hp => hW.lt p hp
 have hW' := hW
 obtain ⟨p, q, hA, hV, rfl, hz, hn⟩ := hW'
 rw [hsv] at hV
 obtain ⟨rfl, rfl⟩ := trodVars_none hV
 have hres : ∀ (b : Nat) (sp : Nat → Bool) (hd : Bool), DataW.TrodAll enc P W' b sp hd fn.resultTypes.toList ((Value.bool true).resultList fn.resultTypes.size) (s.fn H (ds ++ [])).results [] := by
   intro b sp hd
   rw [hrt, hfn.1]
   exact trodAll_mk1 (shut_bool hb true)
 have hargs : ∀ sp : Nat → Bool, (∀ x ∈ p ++ [], sp x.block = true) → DataW.TrodAll enc P W' 0 sp true fn.params.toList args.toList (s.fn H (ds ++ [])).args p := by
   intro sp hsp
   rw [hfn.2.1]
   exact args_stay hl hfr hts (fun x hx => ⟨hlt x (by simpa using hx), hsp x (by simpa using hx)⟩) hA
 have hvars : ∀ sp : Nat → Bool, DataW.TrodVars enc P W' sp s.vars (s.fn H (ds ++ [])).vars [] := by
   intro sp
   rw [hsv, hfn.2.2]
   rfl
 refine ⟨ds, [], _, [], p, [], hW, hres _ _ _, hargs _ (fun x hx => by simpa using hlt x hx), hvars _, ⟨hos, hout, fun i hi => ?_⟩, fun _ => ?_⟩
 · have e := hfr i hi
   revert e
   generalize W'.heap[i]? = o'
   intro e
   subst e
   split
   · rename_i h1 h2
     rw [h1] at h2
     cases h2
     exact ⟨rfl, rfl, rfl, fun _ _ => rfl⟩
   · rename_i h1 h2
     rw [h1] at h2
     cases h2
     exact .inr ⟨rfl, rfl⟩
   · rfl
 · refine ⟨ok_one hrt rfl (okWide_bool_mk hb _), _, _, ([] ++ p) ++ [], ⟨[] ++ p, [], trodAll_append (hargs _ (fun _ _ => rfl)) (hres _ _ _), hvars _, rfl, ?_, ?_⟩, ?_⟩
   · intro b off hx
     have hx' : MemPlace.cell b off ∈ p ++ [] := by simpa using hx
     have e : W'.frozen? ⟨b, off, none⟩ = W.frozen? ⟨b, off, none⟩ := by
       unfold World.frozen?
       rw [hfr b (hlt _ hx')]
     rw [e]
     exact hz b off hx'
   · intro ha
     have := hn ha
     simpa using this
   · intro x hx _
     simpa using hx
theorem laid_each {w : World} : ∀ {laid : List (String × DataW Unit)} {ps : List MemPlace}, DataW.LaidVars P w laid ps → ∀ x ∈ laid, ∃ g t cs fuel p, P.globalNamed x.1 = some g ∧ (P.globals[g]?).map (·.type) = some t ∧ w.var? P x.1 = some cs ∧
     DataW.trod (fun _ => ()) P w 0 (fun _ => true) false fuel t cs.toList = some (x.2, p)
 | [], _, _, x, hx => by cases hx
 | y :: r, ps, h, x, hx => by
   obtain ⟨g, t, cs, fuel, p, q, h1, h2, h3, h4, h5, _⟩ := h
   rcases List.mem_cons.1 hx with rfl | hx
   · exact ⟨g, t, cs, fuel, p, h1, h2, h3, h4⟩
   · exact laid_each h5 x hx
theorem ro_ints {w : World} {nm : String} {g t e n : Nat} {k : IntKind} {ns : List Int} {cs : Array Value} {fuel : Nat} {p : List MemPlace} {F : Nat → Prop} (hg : P.globalNamed nm = some g) (hv : w.var? P nm = some cs)
   (ht : P.underlying t = some (.array n e)) (he : P.underlying e = some (.int k)) (hc : P.cellsOf e = 1) (hct : P.cellsOf t = n) (hn : 0 < ns.length)
   (h : DataW.trod (fun _ => ()) P w 0 (fun _ => true) false fuel t cs.toList = some (.agg (ns.map fun m => .lit (.int k m)), p)) (hF : g < w.heap.size → F g) :
   RepV (fun _ => none) F w (.ro (ns.map (T.int k))) (.pointer (some ⟨g, 0, none⟩)) := by
 obtain ⟨xs, m, _, hx, hl, hxl, hget⟩ := DataW.trod_array ht h
 simp only [Prod.mk.injEq, DataW.agg.injEq] at hx
 have hlen : ns.length = n := by
   have := congrArg List.length hx.1
   simp only [List.length_map] at this
   omega
 have hcl : cs.toList.length = n := by rw [hl, hct]
 have hcell : ∀ i, i < n → cs.toList[i]? = some (.int k (ns.getD i 0)) := by
   intro i hi
   have h1 := hget i hi
   have h2 : xs[i]? = some xs[i] := List.getElem?_eq_getElem (by omega)
   rw [h2, hc, Nat.mul_one] at h1
   obtain ⟨z, hz1, hz2, _⟩ := DataW.trod_int he h1
   have h3 : cs.toList[i]? = some (.int k z) := by
     have h4 := congrArg (fun l => l[0]?) hz1
     simp only [List.getElem?_take, List.getElem?_drop, Nat.add_zero, List.getElem?_cons_zero] at h4
     simpa using h4
   have h5 := congrArg (fun l => l[i]?) hx.1
   simp only [List.getElem?_map, h2, Option.map_some, hz2] at h5
   have h6 : ns[i]? = some ns[i] := List.getElem?_eq_getElem (by omega)
   rw [h6] at h5
   simp only [Option.map_some, Option.some.injEq, DataW.lit.injEq, Lit.int.injEq, true_and] at h5
   rw [h3, List.getD_eq_getElem?_getD, h6, h5]; rfl
 have hw : ∀ j, w.cell? ((⟨g, 0, none⟩ : Addr).add j) = cs.toList[j]? := by
   intro j
   have e : (⟨g, 0, none⟩ : Addr).add j = ⟨g, j, none⟩ := by
     unfold Addr.add; split
     · rename_i h0; rw [h0]
     · simp
   rw [e, World.var?_cell hg hv j, Array.getElem?_toList]
 refine .ro (ns.map (T.int k)) ⟨g, 0, none⟩ cs.toList rfl (by rw [hcl, List.length_map, hlen]) ?_ (hF ?_) (fun j u hu => (hw j).trans hu) ?_
 · intro u hu
   obtain ⟨i, hi⟩ := List.getElem?_of_mem hu
   rw [hcell i (by rw [← hcl]; exact (List.getElem?_eq_some_iff.1 hi).1)] at hi
   cases hi; rfl
 · have h0 := hw 0
   rw [hcell 0 (by omega)] at h0
   have := (cell_some h0).1
   rw [add_block] at this
   exact this
 · intro j c u hcj hu
   rw [List.getElem?_map, Option.map_eq_some_iff] at hcj
   obtain ⟨z, hz, rfl⟩ := hcj
   rw [hcell j (by rw [← hlen]; exact (List.getElem?_eq_some_iff.1 hz).1)] at hu
   cases hu
   rw [List.getD_eq_getElem?_getD, hz]
   exact .int k z
theorem gs_ints {w : World} {nm : String} {g t e n : Nat} {k : IntKind} {ns : List Int} {cs : Array Value} {fuel : Nat} {p : List MemPlace} (hg : P.globalNamed nm = some g) (hv : w.var? P nm = some cs)
   (ht : P.underlying t = some (.array n e)) (hct : P.cellsOf t = n)
   (h : DataW.trod (fun _ => ()) P w 0 (fun _ => true) false fuel t cs.toList = some (.agg (ns.map fun m => .lit (.int k m)), p)) : GSz w g (ns.map (T.int k)).length := by
 obtain ⟨xs, m, _, hx, hl, hxl, hget⟩ := DataW.trod_array ht h
 simp only [Prod.mk.injEq, DataW.agg.injEq] at hx
 have hlen : ns.length = n := by
   have := congrArg List.length hx.1
   simp only [List.length_map] at this
   omega
 have hcl : cs.toList.length = n := by rw [hl, hct]
 unfold World.var? at hv
 rw [hg, Option.bind_some] at hv
 split at hv
 · rename_i c e z hc
   cases hv
   exact ⟨_, e, z, hc, by rw [List.length_map, hlen, ← hcl]; simp⟩
 · cases hv
theorem trodAll_length {w : World} {base : Nat} {sp : Nat → Bool} {held : Bool} : ∀ {ts : List TypeId} {vs : List Value} {ds : List (DataW H)} {ps : List MemPlace}, DataW.TrodAll enc P w base sp held ts vs ds ps → ds.length = ts.length
 | [], _, _, _, h => by obtain ⟨rfl, rfl, rfl⟩ := trodAll_nil h; rfl
 | _ :: _, _, _, _, h => by
   obtain ⟨_, _, _, _, _, _, rfl, rfl, rfl, _, h2⟩ := trodAll_cons h
   simp [trodAll_length h2]
end
theorem law_lifted {H : Type} {enc : TypeId × Value → H} {C : Checked} {os : Os} {f : FuncId} {fn : Func} {s : ChangeSpec} {laid : List (String × DataW Unit)} {tys : List Ty} {G : Nat → Option (List T)} {tb : TypeId} {apart fresh handsOn again : Bool}
   (own : ownKnob C.prog.godebug = none) (started : os.Started) (noInit : C.prog.inits.idxOf? f = none) (hfn : C.prog.funcs[f]? = some fn)
   (witness : ∃ (w : World) (tape : Tape) (i : Input), w.os = os ∧ (w.forCall tape i).Shaped C.prog ∧ i.vars = [] ∧ Input.okWide C.prog (w.forCall tape i) .any w.heap.size f i ∧
     ((s.pre enc C.prog fn [] apart (w.forCall tape i).memory i.args ∧ laidMetH C.prog laid (w.forCall tape i).memory) ∧ sizedMet enc C.prog fn (OpenSpec.ofChange s) apart (w.forCall tape i).memory i.args) ∧ ({} : Assume).holds C.prog (lone (Frame.enter C.prog f i.args .normal) [] (w.forCall tape i)))
   (hl : laidOutB C.prog = true) (hts : fn.params.toList.all (fun t => C.prog.readableRec t && Nat.blt t C.prog.types.size) = true) (hrt : fn.resultTypes = #[tb]) (hb : C.prog.underlying tb = some .bool) (hsv : s.vars = [])
   (hspec : ∀ ds : List (DataW H), ds.length = tys.length → (s.fn H ds).results = [.lit (.bool true)] ∧ (s.fn H ds).args = ds ∧ (s.fn H ds).vars = [])
   (htys : All2 (fun (ty : Ty) (t : TypeId) => ty.ok C.prog t = true) tys fn.params.toList)
   (henv : ∀ W, laidMetH C.prog laid W → EnvOk G (fun b => b < W.heap.size) W)
   (hlaw : ∀ ys, All2 (fun (ty : Ty) (y : T) => ty.is y) tys ys → Spec C.prog G f (ys.map V.t) [] (.t (.bool true)) []) :
   ReturnsInHanded {} C os f .any (fun w args => (s.pre enc C.prog fn [] apart w args ∧ laidMetH C.prog laid w) ∧ sizedMet enc C.prog fn (OpenSpec.ofChange s) apart w args) (s.post enc C.prog fn apart fresh handsOn again) := by
 have hts' : ∀ t ∈ fn.params.toList, C.prog.readableRec t = true ∧ t < C.prog.types.size := by
   intro t ht
   have := List.all_eq_true.1 hts t ht
   rw [Bool.and_eq_true] at this
   exact ⟨this.1, by simpa [Nat.blt_eq] using this.2⟩
 refine returnsInHanded_of_change_and (C := C) (X := fun w _ => laidMetH C.prog laid w) (fun _ _ _ hh h => laidMetH.of_heap hh h) own started noInit hfn witness ?_
 intro W base args ds gs before hval hW _ _ hL _
 have hW' := hW
 obtain ⟨p, q, hA, hV, rfl, _, _⟩ := hW'
 rw [hsv] at hV
 obtain ⟨rfl, rfl⟩ := trodVars_none hV
 obtain ⟨ys, hys, hreps⟩ := open_args htys (fun j t v ht hv => hval j t v (by simpa using ht) (by simpa using hv)) hA
 have hlen : ds.length = tys.length := by rw [trodAll_length hA, htys.length]
 have hcall := hlaw ys hys W (fun _ => none) (fun b => b < W.heap.size) args (henv W hL)
   ⟨fun k o h => by simp at h, fun _ _ => rfl, fun _ _ _ _ _ h => by simp at h, fun _ _ _ h => by simp at h⟩ hreps
 refine hcall.mono fun e W' ⟨x, β', F', he, hp⟩ => ?_
 subst he
 have hx : x = .bool true := by
   have := hp.res
   cases this with
   | t h => cases h; rfl
 subst hx
 exact ⟨_, rfl, law_post hl hts' hrt hb hsv (by rw [List.append_nil]; exact hspec ds hlen) hW hp.os hp.output (fun b hb => hp.frame b hb (fun _ _ h => by simp at h))⟩
end Go.Eng
end
section
set_option maxRecDepth 20000
namespace Go.Eng
theorem is_int {y : T} (h : (Ty.int .i64).is y) : ∃ n : Int, (-9223372036854775808 ≤ n ∧ n < 9223372036854775808) ∧ y = .int .i64 n := by
 obtain ⟨n, hw, rfl⟩ := h
 refine ⟨n, ?_, rfl⟩
 simp only [Lit.wf, Bool.and_eq_true, decide_eq_true_eq] at hw
 obtain ⟨h1, h2⟩ := hw
 have e1 : IntKind.i64.min = -9223372036854775808 := by decide
 have e2 : IntKind.i64.max = 9223372036854775807 := by decide
 rw [e1] at h1
 rw [e2] at h2
 omega
theorem is_u8 {y : T} (h : (Ty.int .u8).is y) : ∃ b : UInt8, y = byteT b := by
 obtain ⟨n, hw, rfl⟩ := h
 simp only [Lit.wf, Bool.and_eq_true, decide_eq_true_eq] at hw
 obtain ⟨h1, h2⟩ := hw
 have e1 : IntKind.u8.min = 0 := by decide
 have e2 : IntKind.u8.max = 255 := by decide
 rw [e1] at h1
 rw [e2] at h2
 refine ⟨UInt8.ofNat n.toNat, ?_⟩
 unfold byteT
 congr 1
 rw [UInt8.toNat_ofNat']
 omega
theorem is_bool {y : T} (h : Ty.bool.is y) : ∃ b : Bool, y = .bool b := h
theorem list_of {α : Type} {f : α → T} {es : List T} (h : ∀ y ∈ es, ∃ a, y = f a) : ∃ l : List α, es = l.map f := by
 induction es with
 | nil => exact ⟨[], rfl⟩
 | cons y r ih =>
   obtain ⟨a, rfl⟩ := h y (.head _)
   obtain ⟨l, rfl⟩ := ih (fun z hz => h z (.tail _ hz))
   exact ⟨a :: l, rfl⟩
theorem mx : maxLen = 9223372036854775807 := by decide
theorem is_bytes {y : T} (h : (Ty.sl (.int .u8)).is y) : ∃ bs : List UInt8, bs.length ≤ 9223372036854775807 ∧ y = .sl (bs.map byteT) := by
 obtain ⟨es, hl, he, rfl⟩ := h
 obtain ⟨bs, rfl⟩ := list_of (f := byteT) (fun y hy => is_u8 (he y hy))
 rw [List.length_map, mx] at hl
 exact ⟨bs, hl, rfl⟩
theorem is_rows {y : T} (h : (Ty.sl (.sl (.int .u8))).is y) : ∃ l : List (List UInt8), l.length ≤ 9223372036854775807 ∧ (∀ d ∈ l, d.length < 9223372036854775808) ∧ y = .sl (l.map bsT) := by
 obtain ⟨es, hl, he, rfl⟩ := h
 obtain ⟨l, hl2⟩ := list_of (f := bsT) (es := es) (fun y hy => by
   obtain ⟨bs, _, h2⟩ := is_bytes (he y hy)
   exact ⟨bs, h2⟩)
 subst hl2
 rw [List.length_map, mx] at hl
 refine ⟨l, hl, fun d hd => ?_, rfl⟩
 obtain ⟨bs, hb, h2⟩ := is_bytes (he (bsT d) (List.mem_map_of_mem hd))
 have h3 : d.map byteT = bs.map byteT := by
   have : T.sl (d.map byteT) = T.sl (bs.map byteT) := h2
   exact T.sl.inj this
 have h4 := congrArg List.length h3
 simp only [List.length_map] at h4
 omega
theorem is_pair {y : T} (h : (Ty.st [.int .i64, .int .i64]).is y) : ∃ a b : Int, (-9223372036854775808 ≤ a ∧ a < 9223372036854775808) ∧ (-9223372036854775808 ≤ b ∧ b < 9223372036854775808) ∧ y = .agg [.int .i64 a, .int .i64 b] := by
 obtain ⟨cs, hc, rfl⟩ := h
 obtain ⟨x, r, hx, hr, rfl⟩ := hc
 obtain ⟨x2, r2, hx2, hr2, rfl⟩ := hr
 cases hr2
 obtain ⟨a, ha, rfl⟩ := is_int hx
 obtain ⟨b, hb, rfl⟩ := is_int hx2
 exact ⟨a, b, ha, hb, rfl⟩
theorem is_rows2 {y : T} (h : (Ty.sl (.sl (.int .u8))).is y) : ∃ l : List (List UInt8), l.length ≤ 9223372036854775807 ∧ (∀ d ∈ l, d.length ≤ 9223372036854775807) ∧ y = .sl (l.map bsT) := by
 obtain ⟨l, h1, h2, h3⟩ := is_rows h
 exact ⟨l, h1, fun d hd => by have := h2 d hd; omega, h3⟩
theorem is_ev {y : T} (h : (Ty.st [.int .i64, .int .i64, .sl (.sl (.int .u8)), .sl (.int .u8)]).is y) : ∃ (a b : Int) (l : List (List UInt8)) (d : List UInt8), (l.length ≤ 9223372036854775807 ∧ (∀ d ∈ l, d.length ≤ 9223372036854775807) ∧ d.length ≤ 9223372036854775807) ∧ y = .agg [.int .i64 a, .int .i64 b, .sl (l.map bsT), .sl (d.map byteT)] := by
 obtain ⟨cs, hc, rfl⟩ := h
 obtain ⟨x, r, hx, hr, rfl⟩ := hc
 obtain ⟨x2, r2, hx2, hr2, rfl⟩ := hr
 obtain ⟨x3, r3, hx3, hr3, rfl⟩ := hr2
 obtain ⟨x4, r4, hx4, hr4, rfl⟩ := hr3
 cases hr4
 obtain ⟨a, _, rfl⟩ := is_int hx
 obtain ⟨b, _, rfl⟩ := is_int hx2
 obtain ⟨l, h1, h2, rfl⟩ := is_rows2 hx3
 obtain ⟨d, h3, rfl⟩ := is_bytes hx4
 exact ⟨a, b, l, d, ⟨h1, h2, h3⟩, rfl⟩
end Go.Eng
end
section
set_option maxRecDepth 20000
namespace Go.Eng
theorem is_str {y : T} (h : Ty.str.is y) : ∃ s : List UInt8, s.length ≤ 9223372036854775807 ∧ y = strT s := by
 obtain ⟨⟨⟨s⟩⟩, hs, rfl⟩ := h
 rw [mx] at hs
 exact ⟨s, hs, rfl⟩
theorem is_im {y : T} (h : (Ty.st [.int .i64, .str, .int .i64, .sl (.int .u8)]).is y) : ∃ (a v : Int) (s p : List UInt8), rI a ∧ rI v ∧ s.length ≤ 9223372036854775807 ∧ p.length ≤ 9223372036854775807 ∧ y = imT (a, s, v, p) := by
 obtain ⟨cs, hc, rfl⟩ := h
 obtain ⟨x, r, hx, hr, rfl⟩ := hc
 obtain ⟨x2, r2, hx2, hr2, rfl⟩ := hr
 obtain ⟨x3, r3, hx3, hr3, rfl⟩ := hr2
 obtain ⟨x4, r4, hx4, hr4, rfl⟩ := hr3
 cases hr4
 obtain ⟨a, ha, rfl⟩ := is_int hx
 obtain ⟨s, hs, rfl⟩ := is_str hx2
 obtain ⟨v, hv, rfl⟩ := is_int hx3
 obtain ⟨p, hp, rfl⟩ := is_bytes hx4
 exact ⟨a, v, s, p, ha, hv, hs, hp, rfl⟩
end Go.Eng
end
section
set_option maxRecDepth 20000
namespace Go.Eng
open Go.MuLone
theorem ix_lib {c : UInt8} : ∀ {b : List UInt8} {n : Nat}, ixN c b n = if Lib.indexByte b c = -1 then -1 else (n : Int) + Lib.indexByte b c
 | [], n => rfl
 | x :: r, n => by
   have hg := Lib.indexByte_ge r c
   unfold ixN Lib.indexByte
   by_cases h : x = c
   · subst h; simp
   · rw [if_neg h, ix_lib]
     have hb : (x == c) = false := by simpa using h
     rw [hb]
     by_cases h2 : Lib.indexByte r c = -1
     · simp [h2]
     · have h2b : (Lib.indexByte r c == -1) = false := by simpa using h2
       rw [h2b, if_neg h2]
       simp only [Bool.false_eq_true, if_false]
       rw [if_neg (by omega)]
       push_cast; omega
theorem ok_bix {P : Program} {G : Nat → Option (List T)} {f : FuncId} {fn : Func} (hf : P.funcs[f]? = some fn) (hname : (fn.name == "runtime.NumGoroutine") = false) (hb : fn.body.isNone = true) (hn : Extern.findNext fn = none)
   (he : Extern.find fn = some Extern.BytealgIndexByte.indexByte) : FOk P G f ct_bix.fs := by
 intro as ins r outs hs
 have key : ∃ (b : List UInt8) (c : UInt8), 0 < b.length ∧ as = [.t (.sl (b.map byteT)), .t (byteT c)] ∧ ins = [] ∧ r = .t (.int .i64 (ixN c b 0)) ∧ outs = [] := by
   unfold Ct.fs at hs
   split at hs
   · rename_i hx
     cases hs
     have h1 := hx.choose_spec
     generalize hx.choose = y at h1 ⊢
     obtain ⟨⟨rfl, rfl⟩, h3⟩ := h1
     exact ⟨y.1, y.2, h3.1, rfl, rfl, rfl, rfl⟩
   · cases hs
 obtain ⟨b, c, hpos, rfl, rfl, rfl, rfl⟩ := key
 intro w β F vals env fits hargs
 have hβ : ∀ k, β k = none := fun k => fits.dom k (Nat.zero_le _)
 have hvals : ∃ (blk off cap : Nat), vals = #[.slice (some ⟨blk, off, none⟩) b.length cap, .int .u8 c.toNat] ∧ ∀ i, i < b.length → w.cell? ⟨blk, off + i, none⟩ = some (.int .u8 ((b.map fun x => (x.toNat : Int)).getD i 0)) := by
   obtain ⟨l⟩ := vals
   cases hargs with
   | cons h1 h2 =>
     cases h2 with
     | cons h2 h3 =>
       cases h3
       cases h1 with
       | t h1 =>
         cases h2 with
         | t h2 =>
           generalize hes : b.map byteT = es at h1
           have hlen : es.length = b.length := by rw [← hes]; simp
           cases h2
           cases h1 with
           | nil => simp at hlen; omega
           | sl _ ad cap sz news ha hc hn h1 hF hw hz h =>
             have hne : es ≠ [] := by intro e; rw [e] at hlen; simp at hlen; omega
             have hsp := ha hne
             have hsz : sz = 1 := by
               have hm : byteT b[0] ∈ es := by rw [← hes]; exact List.mem_map.2 ⟨_, List.getElem_mem hpos, rfl⟩
               exact (hz _ hm).symm
             subst hsz
             obtain ⟨blk, off, sp⟩ := ad
             simp only at hsp
             subst hsp
             refine ⟨blk, off, cap, by rw [hlen], fun i hi => ?_⟩
             have hi2 : i < news.length := by omega
             have hu : news[i]? = some news[i] := List.getElem?_eq_getElem hi2
             have hr : Rep F w (byteT b[i]) news[i] := h i (byteT b[i]) 0 (byteT b[i]) _ (by rw [← hes]; simp [hi]) rfl (by rw [Nat.mul_one, Nat.add_zero]; exact hu)
             have hc := hw i _ hu
             have e : (⟨blk, off, none⟩ : Addr).add i = ⟨blk, off + i, none⟩ := by unfold Addr.add; split <;> simp_all
             rw [e] at hc
             rw [hc]
             generalize news[i] = u at *
             cases hr
             simp [hi]
 obtain ⟨blk, off, cap, rfl, hc⟩ := hvals
 have hrun := Lib.run_indexByteSlice (P := P) w blk off b.length cap (b.map fun x => (x.toNat : Int)) (by simp) hc c.toNat
 have hbs : Lib.bytesOf (b.map fun x => (x.toNat : Int)) = b := by
   unfold Lib.bytesOf
   rw [List.map_map]
   refine (List.map_congr_left (fun x _ => ?_)).trans (List.map_id b)
   simp
 have hcc : ((c.toNat : Int).toNat).toUInt8 = c := by simp
 rw [hbs, hcc] at hrun
 have hres : ixN c b 0 = Lib.indexByte b c := by
   rw [ix_lib]
   split
   · rename_i h; rw [h]
   · simp
 refine .inr ⟨.int .i64 (Lib.indexByte b c), w, ?_, .int .i64 (Lib.indexByte b c), β, F, rfl, ?_⟩
 · rw [run_callFunc_extern hf hname hb hn he, hrun]; rfl
 · rw [hres]
   exact ⟨⟨fun k o hk => (by simp at hk), fun k _ => hβ k, fun i j bi bj b h1 => (by rw [hβ] at h1; cases h1), fun k bi b h1 => (by rw [hβ] at h1; cases h1)⟩, .t (.int _ _), fun _ _ => rfl, fun k bi b _ h1 => (by rw [hβ] at h1; cases h1), fun _ _ => Iff.rfl, env.Fw, rfl, rfl, rfl, Nat.le_refl _, fun _ _ _ => rfl⟩
end Go.Eng
end
