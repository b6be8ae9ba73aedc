/- My own text: an abstract machine, its walks over the functions reached, and their tie to the program. -/
import Derived.Test.YtgpbjaleeeacdaaGreatDoorRows
import Derived.Tactics
import Derived.Tactics2
import Derived.StillTactics
import Derived.Laws.AppendOwn
import Derived.Laws.Runes
import Derived.Laws.CopyRow
import Derived.Laws.Shifts
import Derived.Laws.Rows
import Derived.Laws.BitsLemmas
import Derived.Laws.Tables
import Derived.Laws.NewBlocks
import Derived.Laws.Unary
import Derived.Laws.Strings
import Derived.Laws.NewFold
import Derived.Laws.ShiftsVarLaws
import Derived.Laws.Bits
import Derived.Laws.Alloc2
import Derived.Laws.Bits128
import Derived.Laws.Strings2
import Derived.Laws.Wrap64
import Derived.Laws.ShiftsVar
import Derived.Laws.Closers25
import Derived.Laws.RangeString
import Derived.Laws.Concat
import Derived.Laws.Cells
import Derived.Laws.NewDeep
import Derived.Laws.Pointers
import Derived.Laws.StructEq
import Derived.Laws.Closers25b
import Derived.Laws.StandIn
import Derived.Laws.Bits64b
import Derived.Laws.LoneSync
import Derived.Laws.ByValue
import Derived.Laws.MathBits
import Derived.Laws.Externs
import Derived.Laws.BitsAll
import Derived.Laws.BitsAllLaws
import Derived.Laws.Bits64
import Derived.Laws.OwnMore
import Derived.Laws.Build
import Derived.Laws.ResultCell
import Derived.Laws.Entries
import Derived.Laws.Append
import Derived.Laws.RangeAny
import Derived.Laws.World
import Derived.Laws.Strings3
import Derived.Laws.Sem
import Derived.Laws.Slices
import Derived.Laws.MakeOwn
import Derived.Laws.Small
import Derived.Laws.BytesString
import Derived.Scope
import Derived.FnLit
import Derived.LoopTactic
import Derived.Test.YtgpbjaleeeacdaaGreatDoorW5
import Derived.Shelf.Strconv.Itoa3
import Derived.KernelRfl
import Derived.Lib.OthersKept
import Derived.Test.YtgpbjaleeeacdaaGreatDoorW4
import Derived.Test.YtgpbjaleeeacdaaGreatDoorTie
import Derived.Test.YtgpbjaleeeacdaaGreatDoorCards
import Derived.ProofKit
import Derived.LaidMore
import Derived.OpenShut
import Derived.Stop.Joined
import Derived.SevenTiedAt
set_option linter.unusedSimpArgs false
set_option linter.unusedVariables false
section
set_option maxRecDepth 1000000
set_option maxHeartbeats 6400000
set_option linter.unusedSimpArgs false
namespace Go.Proofs.YtgpbjaleeeacdaaGreatDoor
open Go.Eng (qCk okN)
theorem zPy {c:UInt8} (h:128≤c.toNat):okN c=false:=by
 unfold okN
 rw[decide_eq_true (show c.toNat>122 by omega),decide_eq_true (show c.toNat>57 by omega),decide_eq_false (show ¬ c=45 by intro e;subst e;revert h;decide)]
 simp
def okP (s:ByteArray) (pos:Nat):Prop:=pos≤s.size∧(s.data.toList.take pos).all okN=true
theorem qXj (s:ByteArray) (w:World) :
  Calls Tryz.prog 164 #[.string s] w fun e w'=>e = .returned (.bool (qCk s.data.toList))∧(w'=w ∨ ∃ pos,w'=w.iter s pos):=by
 by_cases z1:s.size<1
 ·have hr:qCk s.data.toList=false:=by
   unfold qCk
   rw[decide_eq_true (show s.data.toList.length<1 from z1)];rfl
  rw[hr]
  go_enter Tryz.func164,Tryz.ntmps164
  go_wp2
  go_ret
  exact⟨rfl,.inl rfl⟩
 by_cases z2:12<s.size
 ·have hr:qCk s.data.toList=false:=by
   unfold qCk
   rw[decide_eq_true (show 12<s.data.toList.length from z2)];simp
  rw[hr]
  go_enter Tryz.func164,Tryz.ntmps164
  go_wp2
  go_ret
  exact⟨rfl,.inl rfl⟩
 have z3:qCk s.data.toList=s.data.toList.all okN:=by
  unfold qCk
  rw[decide_eq_false (show ¬ s.data.toList.length<1 from z1),decide_eq_false (show ¬ 12<s.data.toList.length from z2)];rfl
 rw[z3]
 go_enter Tryz.func164,Tryz.ntmps164
 go_wp2
 go_loopw [] (fun w' => ∃ pos:Nat,w'=w.iter s pos∧okP s pos) (fun w'=>s.size-w'.iterPos w.heap.size)
 case atStart=>exact⟨0,rfl,Nat.zero_le _,rfl⟩
 case round=>
  obtain⟨pos,rfl,hle,hall⟩:=hrel
  by_cases hp:pos<s.size
  ·have hnx : ∀ ty,(Instr.next (.pointer (some ⟨w.heap.size,0,none⟩)) true ty).run Tryz.prog (w.iter s pos)=_:=fun ty=>run_next_any w s pos ty hp
   have hget:s.data.toList[pos]?=some (s[pos]'hp):=by
    rw[List.getElem?_eq_getElem (show pos<s.data.toList.length from hp)];rfl
   have hno:okN (s[pos]'hp)=false→s.data.toList.all okN=false:=fun h=>List.all_eq_false.2 ⟨_,List.mem_of_getElem? hget,by simp[h]⟩
   by_cases ha:(s[pos]'hp).toNat<128
   ·rw[decode_ascii s pos hp ha] at hnx
    have hst:okN (s[pos]'hp)=true→okP s (pos+1):=fun h=>by
     refine⟨hp,?_⟩
     rw[List.take_add_one,hget,List.all_append,hall];simp[h]
    generalize s[pos]'hp=c at *
    obtain⟨r,hr⟩ : ∃ r,c.toNat=r:=⟨_,rfl⟩
    have hc45:c=45↔r=45:=by
     rw[←hr]
     exact⟨fun e=>by subst e;rfl,fun e=>UInt8.toNat_inj.1 e⟩
    have hok:okN c=((!decide (r<97) && !decide (r>122))||((!decide (r<48) && !decide (r>57))||decide (r=45))):=by
     unfold okN;rw[hr];simp only[hc45]
    rw[hr] at hnx ha
    clear hr hc45
    by_cases b1:(r:Int)<97<;>by_cases b2:(122:Int)<r<;>by_cases b3:(r:Int)<48<;>by_cases b4:(57:Int)<r<;>by_cases b5:(r:Int)=45
    all_goals try omega
    all_goals have c1:decide (r<97)=decide ((r:Int)<97):=by rw[decide_eq_decide];omega
    all_goals have c2:decide (r>122)=decide ((122:Int)<r):=by rw[decide_eq_decide];omega
    all_goals have c3:decide (r<48)=decide ((r:Int)<48):=by rw[decide_eq_decide];omega
    all_goals have c4:decide (r>57)=decide ((57:Int)<r):=by rw[decide_eq_decide];omega
    all_goals have c5:decide (r=45)=decide ((r:Int)=45):=by rw[decide_eq_decide];omega
    all_goals rw[c1,c2,c3,c4,c5] at hok
    all_goals simp only[b1,b2,b3,b4,b5,decide_true,decide_false,Bool.not_true,Bool.not_false,Bool.and_true,Bool.and_false,Bool.or_true,Bool.or_false,Bool.true_and,Bool.false_and,Bool.true_or,Bool.false_or] at hok
    all_goals go_wp2
    all_goals first
     | (go_ret;exact⟨by first | rfl | (rw[hno hok];rfl) | rw[hno hok],.inr ⟨_,rfl⟩⟩)
     | (go_roundw;(case rel=>exact⟨pos+1,rfl,hst hok⟩);(case measure=>first | omega | (simp;omega)))
   ·have hh:=decode_high s pos hp (by omega)
    have hok:=zPy (c:=s[pos]'hp) (by omega)
    generalize (Utf8.decode s pos).1=r at *
    have b1 : ¬ (r:Int)<97:=by omega
    have b2:(122:Int)<r:=by omega
    have b3 : ¬ (r:Int)<48:=by omega
    have b4:(57:Int)<r:=by omega
    have b5 : ¬ (r:Int)=45:=by omega
    go_wp2
    go_ret
    exact⟨by first | rfl | (rw[hno hok];rfl) | rw[hno hok],.inr ⟨_,rfl⟩⟩
  ·have hnx : ∀ ty,(Instr.next (.pointer (some ⟨w.heap.size,0,none⟩)) true ty).run Tryz.prog (w.iter s pos)=_:=fun ty=>run_next_end w s pos ty hp
   have hall2:s.data.toList.all okN=true:=by
    have e:pos=s.data.toList.length:=by show pos=s.size;omega
    rw[e,List.take_length] at hall
    exact hall
   clear hall
   go_wp2
   go_ret
   exact⟨by first | rfl | (rw[hall2];rfl) | rw[hall2],.inr ⟨_,rfl⟩⟩
def Tryz.laysI_ren:Go.Shelf.Ren:=⟨fun | 171=>171 | 243=>200 | 246=>220 | 283=>225 | 284=>226 | 285=>227 | 286=>228 | 129=>230 | 317=>229 | 318=>231 | 319=>232 | 320=>233 | 337=>234 | 338=>235 | n=>n,fun | 3=>3 | 9=>9 | 2=>2 | 4=>4 | 171=>209 | 0=>0 | 53=>140 | 37=>23 | 5=>5 | 173=>212 | 212=>215 | 51=>131 | 20=>20 | 213=>216 | 46=>89 | 232=>219 | 233=>220 | n=>n,fun | 17=>3 | 18=>4 | 19=>5 | n=>n⟩
theorem Tryz.laysI:Go.Proofs.LaysM.n171 Tryz.prog Tryz.laysI_ren := {
 mixed:=by kernel_rfl,
 f129:=Tryz.func230.trans (congrArg some (by kernel_rfl)),
 f171:=Tryz.func171.trans (congrArg some (by kernel_rfl)),
 f243:=Tryz.func200.trans (congrArg some (by kernel_rfl)),
 f246:=Tryz.func220.trans (congrArg some (by kernel_rfl)),
 f283:=Tryz.func225.trans (congrArg some (by kernel_rfl)),
 f284:=Tryz.func226.trans (congrArg some (by kernel_rfl)),
 f285:=Tryz.func227.trans (congrArg some (by kernel_rfl)),
 f286:=Tryz.func228.trans (congrArg some (by kernel_rfl)),
 f317:=Tryz.func229.trans (congrArg some (by kernel_rfl)),
 f318:=Tryz.func231.trans (congrArg some (by kernel_rfl)),
 f319:=Tryz.func232.trans (congrArg some (by kernel_rfl)),
 f320:=Tryz.func233.trans (congrArg some (by kernel_rfl)),
 f337:=Tryz.func234.trans (congrArg some (by kernel_rfl)),
 f338:=Tryz.func235.trans (congrArg some (by kernel_rfl)),
 t0:=Tryz.underlying0,
 a0:=Tryz.isAgg0,
 z0:=Tryz.sizeOf0,
 v0:=Tryz.zeroValue0,
 t2:=Tryz.underlying2,
 a2:=Tryz.isAgg2,
 z2:=Tryz.sizeOf2,
 v2:=Tryz.zeroValue2,
 t3:=Tryz.underlying3,
 a3:=Tryz.isAgg3,
 z3:=Tryz.sizeOf3,
 v3:=Tryz.zeroValue3,
 t4:=Tryz.underlying4,
 a4:=Tryz.isAgg4,
 z4:=Tryz.sizeOf4,
 v4:=Tryz.zeroValue4,
 t5:=Tryz.underlying5,
 a5:=Tryz.isAgg5,
 z5:=Tryz.sizeOf5,
 v5:=Tryz.zeroValue5,
 t9:=Tryz.underlying9,
 a9:=Tryz.isAgg9,
 z9:=Tryz.sizeOf9,
 v9:=Tryz.zeroValue9,
 t20:=Tryz.underlying20,
 a20:=Tryz.isAgg20,
 z20:=Tryz.sizeOf20,
 v20:=Tryz.zeroValue20,
 t37:=Tryz.underlying23,
 a37:=Tryz.isAgg23,
 z37:=Tryz.sizeOf23,
 v37:=Tryz.zeroValue23,
 t46:=Tryz.underlying89,
 a46:=Tryz.isAgg89,
 z46:=Tryz.sizeOf89,
 v46:=Tryz.zeroValue89,
 t51:=Tryz.underlying131,
 a51:=Tryz.isAgg131,
 z51:=Tryz.sizeOf131,
 v51:=Tryz.zeroValue131,
 t53:=Tryz.underlying140,
 a53:=Tryz.isAgg140,
 z53:=Tryz.sizeOf140,
 v53:=Tryz.zeroValue140,
 t171:=Tryz.underlying209,
 a171:=Tryz.isAgg209,
 z171:=Tryz.sizeOf209,
 v171:=Tryz.zeroValue209,
 t173:=Tryz.underlying212,
 a173:=Tryz.isAgg212,
 z173:=Tryz.sizeOf212,
 v173:=Tryz.zeroValue212,
 t212:=Tryz.underlying215,
 a212:=Tryz.isAgg215,
 z212:=Tryz.sizeOf215,
 v212:=Tryz.zeroValue215,
 t213:=Tryz.underlying216,
 a213:=Tryz.isAgg216,
 z213:=Tryz.sizeOf216,
 t232:=Tryz.underlying219,
 a232:=Tryz.isAgg219,
 z232:=Tryz.sizeOf219,
 v232:=Tryz.zeroValue219,
 t233:=Tryz.underlying220,
 a233:=Tryz.isAgg220,
 z233:=Tryz.sizeOf220,
 v233:=Tryz.zeroValue220,
 g17:=by kernel_rfl,
 g18:=by kernel_rfl,
 g19:=by kernel_rfl,
 i0:=by kernel_rfl,
 i2:=by kernel_rfl,
 i3:=by kernel_rfl,
 i4:=by kernel_rfl,
 i5:=by kernel_rfl,
 i9:=by kernel_rfl,
 i20:=by kernel_rfl,
 i37:=by kernel_rfl,
 i46:=by kernel_rfl,
 i51:=by kernel_rfl,
 i53:=by kernel_rfl,
 i171:=by kernel_rfl,
 i173:=by kernel_rfl,
 i212:=by kernel_rfl,
 i232:=by kernel_rfl,
 i233:=by kernel_rfl,
 m17:=by kernel_rfl,
 m18:=by kernel_rfl,
 m19:=by kernel_rfl }
theorem zBq (n:Int) (h0 : -9223372036854775808≤n) (h1:n≤9223372036854775807) (w:World) (h:Lib.TabIs Tryz.prog w "internal/strconv.uint64pow10" .u64 Lib.pow10Tab):Calls Tryz.prog 171 #[.int .i64 n] w fun e w'=>e = .returned (.string ⟨(Lib.itoa n).toArray⟩) ∧ ∃ k os,w'=Go.Sort.grow (w.drewN k) os:=
 Any.strconv_Itoa Tryz.laysI n h0 h1 w h
end Go.Proofs.YtgpbjaleeeacdaaGreatDoor
end
section
set_option maxRecDepth 100000
namespace Go.Eng
open Go.Proofs Go.Proofs.YtgpbjaleeeacdaaGreatDoor
def gl0:Gl:=fun g=>if g=1 then some (qTb.map qK) else if g=0 then some (zBt) else if g=3 then some (qU5) else none
abbrev TO (t:Tab):Prop:=qBm Tryz.prog gl0 t
noncomputable def t1:Tab:=(37,qUa.fs)::([]:Tab)
theorem T1:TO t1:= .cons (zB Tryz.f37 [] _ _ qBm.nil qUa (fun _ _=>qYh ([]:Tab) gl0)) qBm.nil
noncomputable def t2:Tab:=(41,qM3.fs)::t1
theorem T2:TO t2:= .cons (zB Tryz.f41 [] _ _ T1 qM3 (fun x hx=>qFr t1 gl0 x hx)) T1
noncomputable def t3:Tab:=(164,qDe.fs)::t2
theorem T3:TO t3:= .cons (zQw (fn:=Tryz.f164) (c:=Tryz.f164.body.getD .skip) (by kernel_rfl) (by kernel_rfl) (by kernel_rfl) qXj) T2
noncomputable def t4:Tab:=(201,qKl.fs)::t3
theorem T4:TO t4:= .cons (zV3 (fn:=Tryz.f201) (by kernel_rfl) (by kernel_rfl) (by kernel_rfl) (by kernel_rfl) (by kernel_rfl)) T3
noncomputable def t5:Tab:=(172,qKl.fs)::t4
theorem T5:TO t5:= .cons (zB Tryz.f172 [] _ _ T4 qKl (fun x hx=>qJq t4 gl0 201 rfl x.1 x.2 hx)) T4
noncomputable def t6:Tab:=(173,qTt.fs)::t5
theorem T6:TO t6:= .cons (zB Tryz.f173 [] _ _ T5 qTt (fun x hx=>qJr t5 gl0 x hx)) T5
noncomputable def t7:Tab:=(136,qM6.fs)::t6
theorem T7:TO t7:= .cons (zB Tryz.f136 [] _ _ T6 qM6 (fun x hx=>qSy t6 gl0 172 173 rfl rfl x hx)) T6
noncomputable def t8:Tab:=(131,qKo.fs)::t7
theorem T8:TO t8:= .cons (zB Tryz.f131 [(7,[5])] _ _ T7 qKo (fun x hx=>qSx t7 gl0 164 136 rfl rfl x hx)) T7
noncomputable def t9:Tab:=(84,qMy.fs)::t8
theorem T9:TO t9:= .cons (zB Tryz.f84 [] _ _ T8 qMy (fun x hx=>qIx t8 gl0 131 rfl x hx)) T8
noncomputable def t10:Tab:=(138,qNg.fs)::t9
theorem T10:TO t10:= .cons (zB Tryz.f138 [] _ _ T9 qNg (fun x _=>qK8 t9 gl0 0 rfl x)) T9
noncomputable def t11:Tab:=(56,wF.fs)::t10
theorem T11:TO t11:= .cons (vB [] Tryz.f56 [] _ _ T10 wF (fun x hx=>qYy t10 gl0 x.1 x.2.1 x.2.2 hx.1 hx.2)) T10
noncomputable def t12:Tab:=(106,qA9.fs)::t11
theorem T12:TO t12:= .cons (vB [] Tryz.f106 [] _ _ T11 qA9 (fun x hx=>qYx t11 gl0 56 rfl x.1 x.2 hx.1 hx.2)) T11
noncomputable def t13:Tab:=(199,qTq.fs)::t12
theorem T13:TO t13:= .cons (zB Tryz.f199 [] _ _ T12 qTq (fun x hx=>qPt t12 gl0 131 56 106 rfl rfl rfl x hx)) T12
noncomputable def t14:Tab:=(143,qGa.fs)::t13
theorem T14:TO t14:= .cons (vB [] Tryz.f143 [] _ _ T13 qGa (fun x hx=>qVs t13 gl0 x hx)) T13
noncomputable def t15:Tab:=(180,qCi.fs)::t14
theorem T15:TO t15:= .cons (zB Tryz.f180 [] _ _ T14 qCi (fun x hx=>qSv t14 gl0 x.1 x.2 hx.1 hx.2)) T14
noncomputable def t16:Tab:=(181,qGu.fs)::t15
theorem T16:TO t16:= .cons (zB Tryz.f181 [] _ _ T15 qGu (fun x hx=>qG8 t15 gl0 x.1 x.2 hx)) T15
noncomputable def t17:Tab:=(144,(vP 5 qDc).fs)::t16
theorem T17:TO t17:= .cons (zB Tryz.f144 [] _ _ T16 (vP 5 qDc) (fun x hx=>qHe t16 gl0 180 181 rfl rfl x hx)) T16
noncomputable def t18:Tab:=(145,wH.fs)::t17
theorem T18:TO t18:= .cons (vB [] Tryz.f145 [] _ _ T17 wH (fun x hx=>qOr t17 gl0 x hx)) T17
noncomputable def t19:Tab:=(146,(vP 8 yX).fs)::t18
theorem T19:TO t19:= .cons (zB Tryz.f146 [] _ _ T18 (vP 8 yX) (fun x hx=>qFq t18 gl0 180 181 1 rfl rfl rfl x.2 x.1 hx.1 hx.2)) T18
noncomputable def t20:Tab:=(101,qAe.fs)::t19
theorem T20:TO t20:= .cons (vB [] Tryz.f101 [] _ _ T19 qAe (fun x hx=>qVr t19 gl0 143 144 145 146 rfl rfl rfl rfl x.1 hx.1 x.2 hx.2)) T19
noncomputable def t21:Tab:=(170,qTs.fs)::t20
theorem T21:TO t21:= .cons (zB Tryz.f170 [(2,[1])] _ _ T20 qTs (fun x hx=>qOu t20 gl0 199 101 rfl rfl x.1 x.2 hx.1 hx.2)) T20
noncomputable def t22:Tab:=(171,qEw.fs)::t21
theorem T22:TO t22:= .cons (zQv (fn:=Tryz.f171) (c:=Tryz.f171.body.getD .skip) (g:=3) (by kernel_rfl) (by kernel_rfl) (by kernel_rfl) rfl (by kernel_rfl) zBq) T21
noncomputable def t23:Tab:=(135,qKp.fs)::t22
theorem T23:TO t23:= .cons (zB Tryz.f135 [(3,[5])] _ _ T22 qKp (fun x hx=>qOt t22 gl0 131 138 170 171 rfl rfl rfl rfl x.1 x.2 hx.1 hx.2)) T22
noncomputable def t24:Tab:=(174,qH1.fs)::t23
theorem T24:TO t24:= .cons (zB Tryz.f174 [(900000,[1])] _ _ T23 qH1 (fun x hx=>qSs t23 gl0 x hx)) T23
noncomputable def t25:Tab:=(137,qJa.fs)::t24
theorem T25:TO t25:= .cons (zB Tryz.f137 [(1,[4])] _ _ T24 qJa (fun x hx=>qVw t24 gl0 174 101 rfl rfl x.1 x.2.1 x.2.2.1 x.2.2.2 hx.1 hx.2)) T24
noncomputable def t26:Tab:=(86,qTr.fs)::t25
theorem T26:TO t26:= .cons (zB Tryz.f86 [(8,[8]),(9,[1]),(12,[11]),(19,[4])] _ _ T25 qTr (fun x hx=>qLa t25 gl0 84 135 136 138 137 rfl rfl rfl rfl rfl x.1 x.2 hx)) T25
noncomputable def t27:Tab:=(166,qBb.fs)::t26
theorem T27:TO t27:= .cons (zB Tryz.f166 [] _ _ T26 qBb (fun x _=>qSu t26 gl0 x)) T26
noncomputable def t28:Tab:=(224,qB3.fs)::t27
theorem T28:TO t28:= .cons (zB Tryz.f224 [] _ _ T27 qB3 (fun x hx=>qVp t27 gl0 x hx)) T27
noncomputable def t29:Tab:=(218,qB3.fs)::t28
theorem T29:TO t29:= .cons (zB Tryz.f218 [] _ _ T28 qB3 (fun x hx=>zCv t28 gl0 223 224 rfl x hx)) T28
noncomputable def t30:Tab:=(219,qTz.fs)::t29
theorem T30:TO t30:= .cons (zV4 (fn:=Tryz.f219) (ps := #[3]) (t:=23) (e:=5) (by kernel_rfl) (by kernel_rfl) (by kernel_rfl) (by kernel_rfl) (by kernel_rfl) (by kernel_rfl)) T29
noncomputable def t31:Tab:=(198,qE0.fs)::t30
theorem T31:TO t31:= .cons (vB [] Tryz.f198 [] _ _ T30 qE0 (fun x hx=>qPn t30 gl0 218 219 rfl rfl x.1 x.2 hx)) T30
noncomputable def t32:Tab:=(165,qEu.fs)::t31
theorem T32:TO t32:= .cons (vB [] Tryz.f165 [] _ _ T31 qEu (fun x hx=>qLd t31 gl0 198 rfl x.2 x.1 hx)) T31
noncomputable def t33:Tab:=(132,qCw.fs)::t32
theorem T33:TO t33:= .cons (vB [] Tryz.f132 [] _ _ T32 qCw (fun x hx=>qLf t32 gl0 166 165 rfl rfl x)) T32
noncomputable def t34:Tab:=(133,qMz.fs)::t33
theorem T34:TO t34:= .cons (zB Tryz.f133 [] _ _ T33 qMz (fun x hx=>qPs t33 gl0 166 rfl x.1 x.2 hx)) T33
noncomputable def t35:Tab:=(167,wL.fs)::t34
theorem T35:TO t35:= .cons (zB Tryz.f167 [] _ _ T34 wL (fun x _=>qJv t34 gl0 x)) T34
noncomputable def t36:Tab:=(168,qB2.fs)::t35
theorem T36:TO t36:= .cons (zB Tryz.f168 [] _ _ T35 qB2 (fun x _=>qJw t35 gl0 x.1 x.2)) T35
noncomputable def t37:Tab:=(139,vD.fs)::t36
theorem T37:TO t37:= .cons (zB Tryz.f139 [] _ _ T36 vD (fun x hx=>qHf t36 gl0 x hx)) T36
noncomputable def t38:Tab:=(87,qGq.fs)::t37
theorem T38:TO t38:= .cons (zB Tryz.f87 [] _ _ T37 qGq (fun x hx=>qP0 t37 gl0 139 rfl x.1 x.2.1 hx.1 x.2.2 hx.2)) T37
noncomputable def t39:Tab:=(169,wE.fs)::t38
theorem T39:TO t39:= .cons (vB [] Tryz.f169 [] _ _ T38 wE (fun x hx=>qJ1 t38 gl0 x hx)) T38
noncomputable def t40:Tab:=(134,qCv.fs)::t39
theorem T40:TO t40:= .cons (zB Tryz.f134 [(17,[1])] _ _ T39 qCv (fun x hx=>qI1 t39 gl0 167 168 87 166 169 101 rfl rfl rfl rfl rfl rfl x hx)) T39
noncomputable def t41:Tab:=(85,qT8.fs)::t40
theorem T41:TO t41:= .cons (zB Tryz.f85 [(3,[2]),(9,[5])] _ _ T40 qT8 (fun x hx=>qI2 t40 gl0 132 133 134 rfl rfl rfl x.1 x.2.1 x.2.2 hx)) T40
noncomputable def t42:Tab:=(43,qT3.fs)::t41
theorem T42:TO t42:= .cons (zB Tryz.f43 [(6,[3,5])] _ _ T41 qT3 (fun x hx=>qG9 t41 gl0 84 86 85 rfl rfl rfl x.1 x.2 hx)) T41
noncomputable def t43:Tab:=(102,xE.fs)::t42
theorem T43:TO t43:= .cons (vB [] Tryz.f102 [] _ _ T42 xE (fun x hx=>qPo t42 gl0 x.1 hx.1 x.2 hx.2)) T42
noncomputable def t44:Tab:=(55,jQ.fs)::t43
theorem T44:TO t44:= .cons (vB [] Tryz.f55 [] _ _ T43 jQ (fun x hx=>qSt t43 gl0 102 101 rfl rfl x.1 x.2 hx.1 hx.2)) T43
noncomputable def t45:Tab:=(44,qGo.fs)::t44
theorem T45:TO t45:= .cons (vB [] Tryz.f44 [] _ _ T44 qGo (fun x hx=>qI0 t44 gl0 56 87 55 rfl rfl rfl x.1 x.2.1 x.2.2.1 x.2.2.2 hx)) T44
noncomputable def t46:Tab:=(15,qT2.fs)::t45
theorem T46:TO t46:= .cons (zB Tryz.f15 [(1,[2])] _ _ T45 qT2 (fun x hx=>qK9 t45 gl0 43 44 rfl rfl x.1 x.2.1 x.2.2.1 x.2.2.2 hx)) T45
noncomputable def t47:Tab:=(12,qMw.fs)::t46
theorem T47:TO t47:= .cons (zB Tryz.f12 [(2,[3])] _ _ T46 qMw (fun x hx=>qP1 t46 gl0 41 15 rfl rfl x.1 x.2 hx)) T46
noncomputable def t48:Tab:=(88,qT4.fs)::t47
theorem T48:TO t48:= .cons (vB [] Tryz.f88 [] _ _ T47 qT4 (fun _ _=>qPw t47 gl0)) T47
noncomputable def t49:Tab:=(46,qNf.fs)::t48
theorem T49:TO t49:= .cons (zB Tryz.f46 [] _ _ T48 qNf (fun x _=>qOy t48 gl0 x.1 x.2.1 x.2.2)) T48
noncomputable def t50:Tab:=(45,qNa.fs)::t49
theorem T50:TO t50:= .cons (zB Tryz.f45 [] _ _ T49 qNa (fun x _=>qJs t49 gl0 x)) T49
noncomputable def t51:Tab:=(17,qGr.fs)::t50
theorem T51:TO t51:= .cons (zB Tryz.f17 [] _ _ T50 qGr (fun x hx=>qPv t50 gl0 46 45 47 rfl rfl x hx)) T50
noncomputable def t52:Tab:=(140,qGt.fs)::t51
theorem T52:TO t52:= .cons (zB Tryz.f140 [] _ _ T51 qGt (fun x _=>qOx t51 gl0 56 rfl x.1 x.2)) T51
noncomputable def t53:Tab:=(89,qNb.fs)::t52
theorem T53:TO t53:= .cons (vB [] Tryz.f89 [(3,[7])] _ _ T52 qNb (fun x hx=>qOw t52 gl0 17 140 55 rfl rfl rfl x.1 x.2 hx.1 hx.2)) T52
noncomputable def t54:Tab:=(48,qGs.fs)::t53
theorem T54:TO t54:= .cons (zB Tryz.f48 [] _ _ T53 qGs (fun x hx=>qOv t53 gl0 88 89 rfl rfl x hx)) T53
noncomputable def t55:Tab:=(21,qMx.fs)::t54
theorem T55:TO t55:= .cons (zB Tryz.f21 [(7,[2]),(10,[3])] _ _ T54 qMx (fun x hx=>qLe t54 gl0 12 48 rfl rfl x.1 x.2 hx)) T54
noncomputable def t56:Tab:=(23,qNc.fs)::t55
theorem T56:TO t56:= .cons (zB Tryz.f23 [(1,[2]),(6,[3])] _ _ T55 qNc (fun x hx=>qP2 t55 gl0 21 48 rfl rfl x.1 x.2 hx)) T55
noncomputable def t57:Tab:=(93,qH2.fs)::t56
theorem T57:TO t57:= .cons (zB Tryz.f93 [] _ _ T56 qH2 (fun _ _=>qLb t56 gl0)) T56
noncomputable def t58:Tab:=(94,qGa.fs)::t57
theorem T58:TO t58:= .cons (vB [] Tryz.f94 [] _ _ T57 qGa (fun x hx=>zC3 t57 gl0 x hx)) T57
noncomputable def t59:Tab:=(95,qCi.fs)::t58
theorem T59:TO t59:= .cons (zB Tryz.f95 [] _ _ T58 qCi (fun x hx=>qYp t58 gl0 x.1 x.2 hx.1 hx.2)) T58
noncomputable def t60:Tab:=(96,qNj.fs)::t59
theorem T60:TO t60:= .cons (zB Tryz.f96 [] _ _ T59 qNj (fun x hx=>qYo t59 gl0 x.1 x.2 hx)) T59
noncomputable def t61:Tab:=(97,wH.fs)::t60
theorem T61:TO t61:= .cons (vB [] Tryz.f97 [] _ _ T60 wH (fun x hx=>qV1 t60 gl0 x hx)) T60
noncomputable def t62:Tab:=(52,(qKq 32 zS).fs)::t61
theorem T62:TO t62:= .cons (vB [] Tryz.f52 [] _ _ T61 (qKq 32 zS) (fun x hx=>qSz t61 gl0 93 94 95 96 97 rfl rfl rfl rfl rfl x hx)) T61
noncomputable def t63:Tab:=(100,qT6.fs)::t62
theorem T63:TO t63:= .cons (zB Tryz.f100 [] _ _ T62 qT6 (fun x _=>qIw t62 gl0 52 rfl x)) T62
noncomputable def t64:Tab:=(150,qEv.fs)::t63
theorem T64:TO t64:= .cons (vB [] Tryz.f150 [] _ _ T63 qEv (fun x _=>qYq t63 gl0 x)) T63
noncomputable def t65:Tab:=(151,qF9.fs)::t64
theorem T65:TO t65:= .cons (vB [] Tryz.f151 [] _ _ T64 qF9 (fun x hx=>zC4 t64 gl0 52 rfl x.1 x.2 hx.1 hx.2)) T64
noncomputable def t66:Tab:=(110,wG.fs)::t65
theorem T66:TO t66:= .cons (zB Tryz.f110 [] _ _ T65 wG (fun x hx=>qS0 t65 gl0 150 151 rfl rfl x.1 x.2.1 x.2.2.1 x.2.2.2 hx.1 hx.2.1 hx.2.2.1 hx.2.2.2)) T65
noncomputable def t67:Tab:=(178,qTv.fs)::t66
theorem T67:TO t67:= .cons (zB Tryz.f178 [(1,[4])] _ _ T66 qTv (fun x hx=>qOz t66 gl0 110 rfl x hx)) T66
noncomputable def t68:Tab:=(204,qT9.fs)::t67
theorem T68:TO t68:= .cons (zB Tryz.f204 [(1,[6])] _ _ T67 qT9 (fun x hx=>qV2 t67 gl0 110 rfl x.1 x.2.1 x.2.2 hx)) T67
noncomputable def t69:Tab:=(98,xE.fs)::t68
theorem T69:TO t69:= .cons (vB [] Tryz.f98 [] _ _ T68 xE (fun x hx=>qV0 t68 gl0 x.1 hx.1 x.2 hx.2)) T68
noncomputable def t70:Tab:=(59,jQ.fs)::t69
theorem T70:TO t70:= .cons (vB [] Tryz.f59 [] _ _ T69 jQ (fun x hx=>qYm t69 gl0 98 52 rfl rfl x.1 x.2 hx.1 hx.2)) T69
noncomputable def t71:Tab:=(203,qNl.fs)::t70
theorem T71:TO t71:= .cons (zB Tryz.f203 [] _ _ T70 qNl (fun x hx=>qV3 t70 gl0 59 rfl x.1 x.2.1 x.2.2 hx)) T70
noncomputable def t72:Tab:=(205,qNn.fs)::t71
theorem T72:TO t72:= .cons (zB Tryz.f205 [] _ _ T71 qNn (fun x hx=>qV4 t71 gl0 59 rfl x.1 x.2 hx)) T71
noncomputable def t73:Tab:=(179,qNd.fs)::t72
theorem T73:TO t73:= .cons (zB Tryz.f179 [(7,[6,7]),(8,[2])] _ _ T72 qNd (fun x hx=>qS2 t72 gl0 204 203 205 rfl rfl rfl x.1 x.2 hx)) T72
noncomputable def t74:Tab:=(142,qTw.fs)::t73
theorem T74:TO t74:= .cons (zB Tryz.f142 [(2,[2]),(6,[3])] _ _ T73 qTw (fun x hx=>qS4 t73 gl0 178 179 rfl rfl x hx)) T73
noncomputable def t75:Tab:=(175,qM4.fs)::t74
theorem T75:TO t75:= .cons (zB Tryz.f175 [] _ _ T74 qM4 (fun _ _=>qYv t74 gl0)) T74
noncomputable def t76:Tab:=(202,qTu.fs)::t75
theorem T76:TO t76:= .cons (zB Tryz.f202 [] _ _ T75 qTu (fun x hx=>qYw t75 gl0 59 rfl x.1 x.2 hx)) T75
noncomputable def t77:Tab:=(176,zEh.fs)::t76
theorem T77:TO t77:= .cons (zB Tryz.f176 [(5,[14])] _ _ T76 zEh (fun x hx=>zH5 t76 gl0 202 rfl x.1 x.2 hx)) T76
noncomputable def t78:Tab:=(177,qM0.fs)::t77
theorem T78:TO t78:= .cons (vB [] Tryz.f177 [] _ _ T77 qM0 (fun x hx=>qYl t77 gl0 x hx)) T77
noncomputable def t79:Tab:=(141,qNi.fs)::t78
theorem T79:TO t79:= .cons (zB Tryz.f141 [(7,[2])] _ _ T78 qNi (fun x hx=>qYu t78 gl0 175 176 177 rfl rfl rfl x.1 x.2 hx)) T78
noncomputable def t80:Tab:=(99,qT5.fs)::t79
theorem T80:TO t80:= .cons (zB Tryz.f99 [(3,[5,6])] _ _ T79 qT5 (fun x hx=>qS3 t79 gl0 142 141 rfl rfl x hx)) T79
noncomputable def t81:Tab:=(54,qT7.fs)::t80
theorem T81:TO t81:= .cons (zB Tryz.f54 [(1,[1,2])] _ _ T80 qT7 (fun x _=>qPr t80 gl0 100 99 rfl rfl x)) T80
noncomputable def t82:Tab:=(29,qM2.fs)::t81
theorem T82:TO t82:= .cons (zB Tryz.f29 [(1,[4,8])] _ _ T81 qM2 (fun x hx=>qOs t81 gl0 54 52 rfl rfl x.1 x.2 hx)) T81
noncomputable def t83:Tab:=(103,qTx.fs)::t82
theorem T83:TO t83:= .cons (zB Tryz.f103 [] _ _ T82 qTx (fun x _=>qS5 t82 gl0 x)) T82
noncomputable def t84:Tab:=(147,qUb.fs)::t83
theorem T84:TO t84:= .cons (zB Tryz.f147 [] _ _ T83 qUb (fun _ _=>qJp t83 gl0)) T83
noncomputable def t85:Tab:=(104,qNe.fs)::t84
theorem T85:TO t85:= .cons (zB Tryz.f104 [] _ _ T84 qNe (fun x hx=>qVo t84 gl0 147 rfl x.1 x.2 hx)) T84
noncomputable def t86:Tab:=(148,qEv.fs)::t85
theorem T86:TO t86:= .cons (vB [] Tryz.f148 [] _ _ T85 qEv (fun x _=>zC2 t85 gl0 x)) T85
noncomputable def t87:Tab:=(182,qM7.fs)::t86
theorem T87:TO t87:= .cons (vB [] Tryz.f182 [] _ _ T86 qM7 (fun x hx=>qYj t86 gl0 x.1 x.2 hx)) T86
noncomputable def t88:Tab:=(149,qF9.fs)::t87
theorem T88:TO t88:= .cons (vB [] Tryz.f149 [(4,[1]),(5,[1])] _ _ T87 qF9 (fun x hx=>zH4 t87 gl0 101 182 rfl rfl x.1 x.2 hx.1 hx.2)) T87
noncomputable def t89:Tab:=(105,wG.fs)::t88
theorem T89:TO t89:= .cons (zB Tryz.f105 [] _ _ T88 wG (fun x hx=>qVx t88 gl0 148 149 rfl rfl x.1 x.2.1 x.2.2.1 x.2.2.2 hx.1 hx.2.1 hx.2.2.1 hx.2.2.2)) T88
noncomputable def t90:Tab:=(71,qQg.fs)::t89
theorem T90:TO t90:= .cons (vB [] Tryz.f71 [] _ _ T89 qQg (fun x hx=>qS6 t89 gl0 120 55 rfl x.1 x.2.1 x.2.2 hx)) T89
noncomputable def t91:Tab:=(57,qTy.fs)::t90
theorem T91:TO t91:= .cons (zB Tryz.f57 [(8,[2]),(10,[1]),(12,[1]),(13,[2])] _ _ T90 qTy (fun x hx=>qY1 t90 gl0 103 104 105 71 rfl rfl rfl rfl x.1 x.2.1 x.2.2 hx)) T90
noncomputable def t92:Tab:=(66,qBa.fs)::t91
theorem T92:TO t92:= .cons (vB [] Tryz.f66 [] _ _ T91 qBa (fun x hx=>qSr t91 gl0 106 rfl x.1 x.2 hx)) T91
noncomputable def t93:Tab:=(113,qEz.fs)::t92
theorem T93:TO t93:= .cons (zB Tryz.f113 [] _ _ T92 qEz (fun x hx=>qYe t92 gl0 66 55 rfl rfl x.1 x.2 hx)) T92
noncomputable def t94:Tab:=(64,qJb.fs)::t93
theorem T94:TO t94:= .cons (zB Tryz.f64 [(1,[1]),(2,[3])] _ _ T93 qJb (fun x hx=>zC8 t93 gl0 113 105 rfl rfl x.1.1 x.1.2.1 x.1.2.2 x.2.1 x.2.2 hx)) T93
noncomputable def t95:Tab:=(152,qM9.fs)::t94
theorem T95:TO t95:= .cons (vB [] Tryz.f152 [] _ _ T94 qM9 (fun x hx=>qVq t94 gl0 x.1 x.2.1 x.2.2 hx.1 hx.2)) T94
noncomputable def t96:Tab:=(116,qH3.fs)::t95
theorem T96:TO t96:= .cons (vB [] Tryz.f116 [(1,[4]),(7,[4])] _ _ T95 qH3 (fun x hx=>zCy t95 gl0 105 152 rfl rfl x.1 x.2.1 x.2.2 hx)) T95
noncomputable def t97:Tab:=(115,qDd.fs)::t96
theorem T97:TO t97:= .cons (vB [] Tryz.f115 [(1,[2])] _ _ T96 qDd (fun x hx=>zH3 t96 gl0 105 102 149 rfl rfl rfl x.1 x.2.1 x.2.2.1 x.2.2.2 hx)) T96
noncomputable def t98:Tab:=(107,qNk.fs)::t97
theorem T98:TO t98:= .cons (zB Tryz.f107 [] _ _ T97 qNk (fun x hx=>zCx t97 gl0 116 106 115 rfl rfl rfl x.1 x.2.1 x.2.2.1 x.2.2.2 hx)) T97
noncomputable def t99:Tab:=(58,qNo.fs)::t98
theorem T99:TO t99:= .cons (zB Tryz.f58 [(1,[2]),(3,[5])] _ _ T98 qNo (fun x hx=>qP3 t98 gl0 64 106 66 107 rfl rfl rfl rfl x.1.1 x.1.2.1 x.1.2.2 x.2.1.1 x.2.1.2 x.2.2.1 x.2.2.2.1 x.2.2.2.2 hx)) T98
noncomputable def jAa:Tab:=(32,qKm.fs)::t99
theorem jBu:TO jAa:= .cons (zB Tryz.f32 [(3,[4]),(7,[5]),(10,[7]),(12,[4])] _ _ T99 qKm (fun x hx=>qV5 t99 gl0 23 56 55 57 58 21 rfl rfl rfl rfl rfl rfl x.1.1 x.1.2 x.2.1 x.2.2.1 x.2.2.2.1 x.2.2.2.2 hx)) T99
noncomputable def jAb:Tab:=(14,kQ.fs)::jAa
theorem jBv:TO jAb:= .cons (zB Tryz.f14 [] _ _ jBu kQ (fun x hx=>qYn jAa gl0 x.1 x.2 hx.1 hx.2)) jBu
noncomputable def jAc:Tab:=(9,qFh.fs)::jAb
theorem jBw:TO jAc:= .cons (zB Tryz.f9 [(1,[0,1]),(2,[0,1]),(3,[0,3,5])] _ _ jBv qFh (fun _ _=>zH2 jAb gl0 37 21 23 29 32 14 rfl rfl rfl rfl rfl rfl)) jBv
noncomputable def jAd:Tab:=(10,qM8.fs)::jAc
theorem jBx:TO jAd:= .cons (zB Tryz.f10 [] _ _ jBw qM8 (fun x hx=>zC0 jAc gl0 x.1 x.2 hx.1 hx.2)) jBw
noncomputable def jAe:Tab:=(30,qM1.fs)::jAd
theorem jBy:TO jAe:= .cons (zB Tryz.f30 [] _ _ jBx qM1 (fun x hx=>qSw jAd gl0 10 rfl x hx)) jBx
noncomputable def jAf:Tab:=(31,qKn.fs)::jAe
theorem jBz:TO jAf:= .cons (zB Tryz.f31 [] _ _ jBy qKn (fun x hx=>zCz jAe gl0 x.1 x.2 hx.1 hx.2)) jBy
noncomputable def jAg:Tab:=(38,qGp.fs)::jAf
theorem jB0:TO jAg:= .cons (vB [] Tryz.f38 [] _ _ jBz qGp (fun x hx=>zC1 jAf gl0 x.1 x.2 hx.1 hx.2)) jBz
noncomputable def jAh:Tab:=(39,qCf.fs)::jAg
theorem jB1:TO jAh:= .cons (zB Tryz.f39 [] _ _ jB0 qCf (fun x hx=>qYg jAg gl0 x.1 x.2 hx.1 hx.2.1 hx.2.2)) jB0
noncomputable def jAi:Tab:=(80,qT0.fs)::jAh
theorem jB2:TO jAi:= .cons (zB Tryz.f80 [] _ _ jB1 qT0 (fun _ _=>qVv jAh gl0)) jB1
noncomputable def jAj:Tab:=(126,qM5.fs)::jAi
theorem jB3:TO jAj:= .cons (zB Tryz.f126 [(2,[1])] _ _ jB2 qM5 (fun x hx=>qYf jAi gl0 39 rfl x hx)) jB2
noncomputable def jAk:Tab:=(81,qT1.fs)::jAj
theorem jB4:TO jAk:= .cons (zB Tryz.f81 [(2,[1]),(5,[2])] _ _ jB3 qT1 (fun x hx=>qPq jAj gl0 39 126 rfl rfl x hx)) jB3
noncomputable def jAl:Tab:=(40,qTp.fs)::jAk
theorem jB5:TO jAl:= .cons (zB Tryz.f40 [(1,[3,6]),(2,[1]),(3,[1]),(5,[1]),(7,[1]),(11,[4])] _ _ jB4 qTp (fun x hx=>qVu jAk gl0 80 39 81 rfl rfl rfl x.1 x.2 hx.1 hx.2)) jB4
noncomputable def jAm:Tab:=(11,qQf.fs)::jAl
theorem jB6:TO jAm:= .cons (zB Tryz.f11 [(1,[1]),(6,[1]),(8,[1]),(11,[2])] _ _ jB5 qQf (fun x hx=>qVt jAl gl0 38 39 40 rfl rfl rfl x hx)) jB5
noncomputable def jAn:Tab:=(20,qTo.fs)::jAm
theorem jB7:TO jAn:= .cons (zB Tryz.f20 [(1,[1]),(5,[1]),(8,[4])] _ _ jB6 qTo (fun x hx=>qPu jAm gl0 38 39 11 rfl rfl rfl x.1 x.2 hx.1 hx.2)) jB6
noncomputable def jAo:Tab:=(67,qCh.fs)::jAn
theorem jB8:TO jAo:= .cons (vB [8208] Tryz.f67 [] _ _ jB7 qCh (fun x hx=>zC7 jAn gl0 x hx)) jB7
noncomputable def jAp:Tab:=(117,yY.fs)::jAo
theorem jB9:TO jAp:= .cons (zB Tryz.f117 [] _ _ jB8 yY (fun x hx=>qV7 jAo gl0 x hx)) jB8
noncomputable def jAq:Tab:=(118,qI9.fs)::jAp
theorem jCa:TO jAq:= .cons (zB Tryz.f118 [] _ _ jB9 qI9 (fun x hx=>qYz jAp gl0 x.1 hx x.2)) jB9
noncomputable def jAr:Tab:=(68,xF.fs)::jAq
theorem jCb:TO jAr:= .cons (zB Tryz.f68 [(4,[5]),(6,[2]),(10,[1]),(12,[7]),(14,[2])] _ _ jCa xF (fun x hx=>qI3 jAq gl0 117 118 rfl rfl x.1 hx.1 x.2 hx.2)) jCa
noncomputable def jAs:Tab:=(114,qE1.fs)::jAr
theorem jCc:TO jAs:= .cons (zB Tryz.f114 [(4,[1]),(6,[6]),(8,[2])] _ _ jCb qE1 (fun x hx=>qJ0 jAr gl0 118 117 rfl rfl x.1 hx.1 x.2 hx.2)) jCb
noncomputable def jAt:Tab:=(119,qEx.fs)::jAs
theorem jCd:TO jAt:= .cons (zB Tryz.f119 [] _ _ jCc qEx (fun x hx=>qI4 jAs gl0 x hx)) jCc
noncomputable def jAu:Tab:=(69,qCg.fs)::jAt
theorem jCe:TO jAu:= .cons (zB Tryz.f69 [(1,[7])] _ _ jCd qCg (fun x hx=>qJz jAt gl0 119 rfl x hx)) jCd
noncomputable def jAv:Tab:=(70,kQ.fs)::jAu
theorem jCf:TO jAv:= .cons (zB Tryz.f70 [] _ _ jCe kQ (fun x hx=>qYi jAu gl0 x.1 x.2 hx)) jCe
noncomputable def jAw:Tab:=(65,qEy.fs)::jAv
theorem jCg:TO jAw:= .cons (zB Tryz.f65 [(1,[1]),(2,[1]),(3,[1]),(4,[1]),(5,[1])] _ _ jCf qEy (fun x hx=>zCw jAv gl0 67 68 114 69 115 70 116 rfl rfl rfl rfl rfl rfl rfl x.1 x.2.1 x.2.2 hx)) jCf
noncomputable def zY3:Tab:=(35,qDf.fs)::jAw
theorem zY5:TO zY3:= .cons (zB Tryz.f35 [(1,[2]),(2,[4]),(5,[1]),(7,[1]),(8,[1]),(9,[1]),(10,[1])] _ _ jCg qDf (fun x hx=>qY2 jAw gl0 64 66 65 67 68 69 71 70 rfl rfl rfl rfl rfl rfl rfl rfl x.1.1 x.1.2.1 x.1.2.2 x.2.1.1 x.2.1.2 x.2.2 hx)) jCg
theorem qG5 (cs:List UInt8) (hcs:cs.length≤9223372036854775807) (ma nu n a:Int) (hma:rI ma) (hnu:rI nu) (hn:rI n) (ha:rI a) (d:List UInt8) (hd:d.length≤9223372036854775807):zA4 Tryz.prog gl0 7 [.t (.sl (cs.map qA)),.t (.int .i64 ma),.t (.int .i64 nu),.t (.int .i64 n),.t (.int .i64 a),.t (.sl (d.map qA))] [] (.t (.bool true)) []:=zXb Tryz.f7 [(3,[5]),(4,[6,11]),(5,[2]),(8,[6]),(9,[4])] _ _ zY5 (qVm zY3 gl0 9 10 30 29 31 20 32 35 23 14 rfl rfl rfl rfl rfl rfl rfl rfl rfl rfl cs ma nu n a d hcs hma hnu hn ha hd)
noncomputable def jAx:Tab:=(60,wF.fs)::zY3
theorem jCh:TO jAx:= .cons (vB [] Tryz.f60 [] _ _ zY5 wF (fun x hx=>qYs zY3 gl0 x.1 x.2.1 x.2.2 hx.1 hx.2)) zY5
noncomputable def jAy:Tab:=(111,qA9.fs)::jAx
theorem jCi:TO jAy:= .cons (vB [] Tryz.f111 [] _ _ jCh qA9 (fun x hx=>qYr jAx gl0 60 rfl x.1 x.2 hx.1 hx.2)) jCh
noncomputable def jAz:Tab:=(75,qBa.fs)::jAy
theorem jCj:TO jAz:= .cons (vB [] Tryz.f75 [] _ _ jCi qBa (fun x hx=>qPx jAy gl0 111 rfl x.1 x.2 hx)) jCi
noncomputable def jA0:Tab:=(74,qEz.fs)::jAz
theorem jCk:TO jA0:= .cons (zB Tryz.f74 [] _ _ jCj qEz (fun x hx=>qVy jAz gl0 75 59 rfl rfl x.1 x.2 hx)) jCj
noncomputable def jA1:Tab:=(73,qNh.fs)::jA0
theorem jCl:TO jA1:= .cons (zB Tryz.f73 [(1,[3])] _ _ jCk qNh (fun x hx=>qYk jA0 gl0 110 rfl x.1.1 x.1.2.1 x.1.2.2 x.2.1 x.2.2 hx)) jCk
noncomputable def jA2:Tab:=(76,qCh.fs)::jA1
theorem jCm:TO jA2:= .cons (vB [] Tryz.f76 [] _ _ jCl qCh (fun x hx=>zC5 jA1 gl0 x hx)) jCl
noncomputable def jA3:Tab:=(124,vQ.fs)::jA2
theorem jCn:TO jA3:= .cons (zB Tryz.f124 [] _ _ jCm vQ (fun x hx=>qV6 jA2 gl0 x hx)) jCm
noncomputable def jA4:Tab:=(77,xF.fs)::jA3
theorem jCo:TO jA4:= .cons (zB Tryz.f77 [(1,[7]),(7,[3])] _ _ jCn xF (fun x hx=>qIy jA3 gl0 124 rfl x.1 hx.1 x.2 hx.2)) jCn
noncomputable def jA5:Tab:=(121,qE1.fs)::jA4
theorem jCp:TO jA5:= .cons (zB Tryz.f121 [(3,[8])] _ _ jCo qE1 (fun x hx=>qJu jA4 gl0 124 rfl x.1 hx.1 x.2 hx.2)) jCo
noncomputable def jA6:Tab:=(125,qEx.fs)::jA5
theorem jCq:TO jA6:= .cons (zB Tryz.f125 [] _ _ jCp qEx (fun x hx=>qIz jA5 gl0 x hx)) jCp
noncomputable def jA7:Tab:=(78,qCg.fs)::jA6
theorem jCr:TO jA7:= .cons (zB Tryz.f78 [(1,[7])] _ _ jCq qCg (fun x hx=>qJt jA6 gl0 125 rfl x hx)) jCq
noncomputable def jA8:Tab:=(122,qDd.fs)::jA7
theorem jCs:TO jA8:= .cons (vB [] Tryz.f122 [(1,[2])] _ _ jCr qDd (fun x hx=>zC6 jA7 gl0 110 98 151 rfl rfl rfl x.1 x.2.1 x.2.2.1 x.2.2.2 hx)) jCr
noncomputable def jA9:Tab:=(123,qH3.fs)::jA8
theorem jCt:TO jA9:= .cons (vB [] Tryz.f123 [(1,[4])] _ _ jCs qH3 (fun x hx=>qS1 jA8 gl0 110 rfl x.1 x.2.1 x.2.2 hx)) jCs
noncomputable def jBa:Tab:=(72,qEy.fs)::jA9
theorem jCu:TO jBa:= .cons (zB Tryz.f72 [(1,[1]),(2,[1]),(3,[1]),(4,[1]),(5,[1])] _ _ jCt qEy (fun x hx=>qYt jA9 gl0 76 77 121 78 122 14 123 rfl rfl rfl rfl rfl rfl rfl x.1 x.2.1 x.2.2 hx)) jCt
noncomputable def jBb:Tab:=(79,qNm.fs)::jBa
theorem jCv:TO jBb:= .cons (vB [] Tryz.f79 [(2,[3])] _ _ jCu qNm (fun x hx=>qPy jBa gl0 99 59 rfl x.1 x.2.1 x.2.2 hx)) jCu
noncomputable def jC6:Tab:=(36,qDf.fs)::jBb
theorem jC8:TO jC6:= .cons (zB Tryz.f36 [(1,[2,3,7]),(4,[1]),(6,[1]),(7,[1]),(8,[1]),(9,[1])] _ _ jCv qDf (fun x hx=>qVz jBb gl0 74 73 75 72 76 77 78 79 14 rfl rfl rfl rfl rfl rfl rfl rfl rfl x.1.1 x.1.2.1 x.1.2.2 x.2.1.1 x.2.1.2 x.2.2 hx)) jCv
theorem qG6 (cs:List UInt8) (hcs:cs.length≤9223372036854775807) (ma ot:Int) (hma:rI ma) (hot:rI ot) (d:List UInt8) (hd:d.length≤9223372036854775807):zA4 Tryz.prog gl0 8 [.t (.sl (cs.map qA)),.t (.int .i64 ma),.t (.int .i64 ot),.t (.sl (d.map qA))] [] (.t (.bool true)) []:=zXb Tryz.f8 [(4,[1,3]),(5,[2,4]),(6,[2]),(9,[6]),(12,[6])] _ _ jC8 (qVn jC6 gl0 9 10 29 31 11 32 35 14 36 rfl rfl rfl rfl rfl rfl rfl rfl rfl cs ma ot d hcs hma hot hd)
end Go.Eng
end
section
set_option maxRecDepth 100000
namespace Go.Proofs.YtgpbjaleeeacdaaGreatDoor
open Go.Eng Go.ChangeShapes Go.WideShapes Go.ChangeAt Go.WideElems Go.RowKit
def qCm {H:Type}:List (String×DataW H):=[("math/bits.deBruijn32tab",Rows.laid_math_bits_deBruijn32tab),("math/bits.deBruijn64tab",Rows.laid_math_bits_deBruijn64tab),("internal/strconv.uint64pow10",Rows.laid_internal_strconv_uint64pow10),("sealwright/digest.round256",Rows.laid_sealwright_digest_round256),("sealwright/image.measured",Rows.laid_sealwright_image_measured)]
theorem zWv:ownKnob Tryz.prog.godebug=none:=by kernel_rfl
theorem qVc:laidOutB Tryz.prog=true:=by kernel_rfl
theorem jEo:Tryz.prog.globalNamed "sealwright/digest.round256" = some 1:=by kernel_rfl
theorem zR2:(Rows.laid_sealwright_digest_round256:DataW Unit) = .agg ((qTb.map fun x=>(x.toNat:Int)).map fun m=> .lit (.int .u32 m)):=by rfl
theorem jEr (W:World) {ps:List MemPlace} (hv:DataW.LaidVars Tryz.prog W qCm ps):qL (fun _=>none) (fun b=>b<W.heap.size) W (.ro (qTb.map qK)) (.pointer (some ⟨1,0,none⟩))∧GSz W 1 (qTb.map qK).length:=by
 obtain⟨g,t,cs,fuel,p,h1,h2,h3,h4⟩:=qIb hv _ (.tail _ (.tail _ (.tail _ (.head _))))
 obtain rfl:=Option.some.inj (jEo.symm.trans h1)
 obtain rfl:=Option.some.inj ((show (Tryz.prog.globals[1]?).map (·.type)=some 132 by kernel_rfl).symm.trans h2)
 have h4':DataW.trod (fun _=>()) Tryz.prog W 0 (fun _=>true) false fuel 132 cs.toList=some (.agg ((qTb.map fun x=>(x.toNat:Int)).map fun m=> .lit (.int .u32 m)),p):=by rw[←zR2];exact h4
 have e:(qTb.map fun x=>(x.toNat:Int)).map (T.int .u32)=qTb.map qK:=by rw[List.map_map];rfl
 rw[←e]
 exact⟨qXt (F:=fun b=>b<W.heap.size) h1 h3 Tryz.underlying132 Tryz.underlying131 (by kernel_rfl) (by kernel_rfl) (by decide) h4' (fun h=>h),qW9 h1 h3 Tryz.underlying132 (by kernel_rfl) h4'⟩
theorem jEp:Tryz.prog.globalNamed "sealwright/image.measured" = some 0:=by kernel_rfl
theorem zR3:(Rows.laid_sealwright_image_measured:DataW Unit) = .agg (([-1,0,4,8,9]).map fun m=> .lit (.int .i64 m)):=by rfl
theorem jEs (W:World) {ps:List MemPlace} (hv:DataW.LaidVars Tryz.prog W qCm ps):qL (fun _=>none) (fun b=>b<W.heap.size) W (.ro (zBt)) (.pointer (some ⟨0,0,none⟩))∧GSz W 0 (zBt).length:=by
 obtain⟨g,t,cs,fuel,p,h1,h2,h3,h4⟩:=qIb hv _ (.tail _ (.tail _ (.tail _ (.tail _ (.head _)))))
 obtain rfl:=Option.some.inj (jEp.symm.trans h1)
 obtain rfl:=Option.some.inj ((show (Tryz.prog.globals[0]?).map (·.type)=some 187 by kernel_rfl).symm.trans h2)
 have h4':DataW.trod (fun _=>()) Tryz.prog W 0 (fun _=>true) false fuel 187 cs.toList=some (.agg (([-1,0,4,8,9]).map fun m=> .lit (.int .i64 m)),p):=by rw[←zR3];exact h4
 have e:([-1,0,4,8,9]).map (T.int .i64)=zBt:=rfl
 rw[←e]
 exact⟨qXt (F:=fun b=>b<W.heap.size) h1 h3 Tryz.underlying187 Tryz.underlying3 (by kernel_rfl) (by kernel_rfl) (by decide) h4' (fun h=>h),qW9 h1 h3 Tryz.underlying187 (by kernel_rfl) h4'⟩
theorem jEq:Tryz.prog.globalNamed "internal/strconv.uint64pow10" = some 3:=by kernel_rfl
theorem zR4:(Rows.laid_internal_strconv_uint64pow10:DataW Unit) = .agg ((Lib.pow10Tab).map fun m=> .lit (.int .u64 m)):=by rfl
theorem jEt (W:World) {ps:List MemPlace} (hv:DataW.LaidVars Tryz.prog W qCm ps):qL (fun _=>none) (fun b=>b<W.heap.size) W (.ro (qU5)) (.pointer (some ⟨3,0,none⟩))∧GSz W 3 (qU5).length:=by
 obtain⟨g,t,cs,fuel,p,h1,h2,h3,h4⟩:=qIb hv _ (.tail _ (.tail _ (.head _)))
 obtain rfl:=Option.some.inj (jEq.symm.trans h1)
 obtain rfl:=Option.some.inj ((show (Tryz.prog.globals[3]?).map (·.type)=some 215 by kernel_rfl).symm.trans h2)
 have h4':DataW.trod (fun _=>()) Tryz.prog W 0 (fun _=>true) false fuel 215 cs.toList=some (.agg ((Lib.pow10Tab).map fun m=> .lit (.int .u64 m)),p):=by rw[←zR4];exact h4
 have e:(Lib.pow10Tab).map (T.int .u64)=qU5:=rfl
 rw[←e]
 exact⟨qXt (F:=fun b=>b<W.heap.size) h1 h3 Tryz.underlying215 Tryz.underlying140 (by kernel_rfl) (by kernel_rfl) (by decide) h4' (fun h=>h),qW9 h1 h3 Tryz.underlying215 (by kernel_rfl) h4'⟩
theorem zWr (W:World) {ps:List MemPlace} (hv:DataW.LaidVars Tryz.prog W qCm ps) (g:Nat) (cs:List T) (hg:gl0 g=some cs):qL (fun _=>none) (fun b=>b<W.heap.size) W (.ro cs) (.pointer (some ⟨g,0,none⟩))∧GSz W g cs.length:=by
 unfold gl0 at hg
 split at hg
 ·rename_i h0;subst h0;cases hg;exact jEr W hv
 ·skip
  split at hg
  ·rename_i h0;subst h0;cases hg;exact jEs W hv
  ·skip
   split at hg
   ·rename_i h0;subst h0;cases hg;exact jEt W hv
   ·cases hg
theorem zWt (W:World) (h:laidMetH Tryz.prog qCm W):zDl gl0 (fun b=>b<W.heap.size) W:=by
 rw[MakeChecks.laidMetH_plain _ _ _ (by kernel_rfl)] at h
 obtain⟨ps,hv,_⟩:=h
 exact⟨fun _ h=>h,fun g cs hg=>(zWr W hv g cs hg).1,fun g cs hg=>(zWr W hv g cs hg).2⟩
abbrev zZ4:TypeId:=4
theorem zOl:Tryz.prog.underlying zZ4=some .bool:=Tryz.underlying4
theorem zAk (os:Os) (args:Array Value):((World.doorLaid Tryz.prog 400 os).forCall (fun _ _=>0) ⟨#[],args,[]⟩).Shaped Tryz.prog:=World.shaped_of_RefB (by kernel_rfl) (by kernel_rfl)
theorem qZo (os:Os) (args:Array Value):laidMetH Tryz.prog qCm ((World.doorLaid Tryz.prog 400 os).forCall (fun _ _=>0) ⟨#[],args,[]⟩).memory:=
 laidMetH_of_parts3 (fuel:=8) (laidMet_of_run' 8 (by kernel_rfl) (by kernel_rfl)) (by kernel_rfl) (by kernel_rfl)
end Go.Proofs.YtgpbjaleeeacdaaGreatDoor
end
section
set_option maxRecDepth 20000
namespace Go.Eng
theorem zVc {y:T} (h:(Ty.sl (.st [.int .i64,.str,.int .i64,.sl (.int .u8)])).is y) : ∃ l:List Im,qQm l∧y = .sl (l.map imT):=by
 obtain⟨es,hl,he,rfl⟩:=h
 have key : ∀ y∈es,∃ x:Im,y=imT x∧imX x:=fun y hy=>by
  obtain⟨a,v,s,p,h1,h2,h3,h4,rfl⟩:=zZl (he y hy)
  exact⟨(a,s,v,p),rfl,h1,h2,h3,h4⟩
 obtain⟨l,hl2⟩:=qR0 (f:=imT) (es:=es) (fun y hy=>by obtain⟨e,h1,_⟩:=key y hy;exact⟨e,h1⟩)
 subst hl2
 rw[List.length_map,mx] at hl
 refine⟨l,⟨hl,fun x hx=>?_⟩,rfl⟩
 obtain⟨e',h1,h2⟩:=key (imT x) (List.mem_map_of_mem hx)
 cases qDk h1
 exact h2
end Go.Eng
end
section
set_option maxRecDepth 20000
namespace Go.Eng
theorem zP7 {y:T} (h:(Ty.sl (.sl (.st [.int .i64,.str,.int .i64,.sl (.int .u8)]))).is y) : ∃ ls:List (List Im),lsX ls∧y = .sl (ls.map qI8):=by
 obtain⟨es,hl,he,rfl⟩:=h
 have key : ∀ y∈es,∃ x:List Im,y=qI8 x∧qQm x:=fun y hy=>by
  obtain⟨l,h1,rfl⟩:=zVc (he y hy)
  exact⟨l,rfl,h1⟩
 obtain⟨l,hl2⟩:=qR0 (f:=qI8) (es:=es) (fun y hy=>by obtain⟨e,h1,_⟩:=key y hy;exact⟨e,h1⟩)
 subst hl2
 rw[List.length_map,mx] at hl
 refine⟨l,⟨hl,fun x hx=>?_⟩,rfl⟩
 obtain⟨e',h1,h2⟩:=key (qI8 x) (List.mem_map_of_mem hx)
 rw[qLp h1]
 exact h2
theorem jC0 {y:T} (h:(Ty.st [.int .i64,.int .i64,.sl (.int .u8),.sl (.sl (.st [.int .i64,.str,.int .i64,.sl (.int .u8)]))]).is y) : ∃ (a b:Int) (d:List UInt8) (ls:List (List Im)),rI a∧rI b∧lsX ls∧y=qTc a b d ls:=by
 obtain⟨cs,hc,rfl⟩:=h
 obtain⟨x,r,hx,hr,rfl⟩:=hc
 obtain⟨x2,r2,hx2,hr2,rfl⟩:=hr
 obtain⟨x3,r3,hx3,hr3,rfl⟩:=hr2
 obtain⟨x4,r4,hx4,hr4,rfl⟩:=hr3
 cases hr4
 obtain⟨a,ha,rfl⟩:=qB4 hx
 obtain⟨b,hb,rfl⟩:=qB4 hx2
 obtain⟨d,_,rfl⟩:=qAm hx3
 obtain⟨ls,hl,rfl⟩:=zP7 hx4
 exact⟨a,b,d,ls,ha,hb,hl,rfl⟩
end Go.Eng
end
