/- My own text: an abstract machine, its walks over the functions reached, and their tie to the program. -/
import Derived.Test.YtgpbjaleeeacdaaGreatDoorRows
import Derived.Tactics
import Derived.Tactics2
import Derived.StillTactics
import Derived.Laws.AppendOwn
import Derived.Laws.Runes
import Derived.Laws.CopyRow
import Derived.Laws.Shifts
import Derived.Laws.Rows
import Derived.Laws.BitsLemmas
import Derived.Laws.Tables
import Derived.Laws.NewBlocks
import Derived.Laws.Unary
import Derived.Laws.Strings
import Derived.Laws.NewFold
import Derived.Laws.ShiftsVarLaws
import Derived.Laws.Bits
import Derived.Laws.Alloc2
import Derived.Laws.Bits128
import Derived.Laws.Strings2
import Derived.Laws.Wrap64
import Derived.Laws.ShiftsVar
import Derived.Laws.Closers25
import Derived.Laws.RangeString
import Derived.Laws.Concat
import Derived.Laws.Cells
import Derived.Laws.NewDeep
import Derived.Laws.Pointers
import Derived.Laws.StructEq
import Derived.Laws.Closers25b
import Derived.Laws.StandIn
import Derived.Laws.Bits64b
import Derived.Laws.LoneSync
import Derived.Laws.ByValue
import Derived.Laws.MathBits
import Derived.Laws.Externs
import Derived.Laws.BitsAll
import Derived.Laws.BitsAllLaws
import Derived.Laws.Bits64
import Derived.Laws.OwnMore
import Derived.Laws.Build
import Derived.Laws.ResultCell
import Derived.Laws.Entries
import Derived.Laws.Append
import Derived.Laws.RangeAny
import Derived.Laws.World
import Derived.Laws.Strings3
import Derived.Laws.Sem
import Derived.Laws.Slices
import Derived.Laws.MakeOwn
import Derived.Laws.Small
import Derived.Laws.BytesString
import Derived.Scope
import Derived.FnLit
import Derived.LoopTactic
import Derived.Test.YtgpbjaleeeacdaaGreatDoorV6
import Derived.Shelf.Strconv.Itoa3
import Derived.KernelRfl
import Derived.Lib.OthersKept
import Derived.Test.YtgpbjaleeeacdaaGreatDoorV4
import Derived.Test.YtgpbjaleeeacdaaGreatDoorTie
import Derived.Test.YtgpbjaleeeacdaaGreatDoorCards
import Derived.ProofKit
import Derived.LaidMore
import Derived.OpenShut
import Derived.Stop.Joined
import Derived.SevenTiedAt
import Derived.Test.YtgpbjaleeeacdaaGreatDoorV5
set_option linter.unusedSimpArgs false
set_option linter.unusedVariables false
section
set_option maxRecDepth 1000000
set_option maxHeartbeats 6400000
set_option linter.unusedSimpArgs false
namespace Go.Proofs.YtgpbjaleeeacdaaGreatDoor
open Go.Eng (qAn okN)
theorem zUy {c:UInt8} (h:128≤c.toNat):okN c=false:=by
 unfold okN
 rw[decide_eq_true (show c.toNat>122 by omega),decide_eq_true (show c.toNat>57 by omega),decide_eq_false (show ¬ c=45 by intro e;subst e;revert h;decide)]
 simp
def okP (s:ByteArray) (pos:Nat):Prop:=pos≤s.size∧(s.data.toList.take pos).all okN=true
theorem zCo (s:ByteArray) (w:World) :
  Calls Tryz.prog 164 #[.string s] w fun e w'=>e = .returned (.bool (qAn s.data.toList))∧(w'=w ∨ ∃ pos,w'=w.iter s pos):=by
 by_cases z1:s.size<1
 ·have hr:qAn s.data.toList=false:=by
   unfold qAn
   rw[decide_eq_true (show s.data.toList.length<1 from z1)];rfl
  rw[hr]
  go_enter Tryz.func164,Tryz.ntmps164
  go_wp2
  go_ret
  exact⟨rfl,.inl rfl⟩
 by_cases z2:12<s.size
 ·have hr:qAn s.data.toList=false:=by
   unfold qAn
   rw[decide_eq_true (show 12<s.data.toList.length from z2)];simp
  rw[hr]
  go_enter Tryz.func164,Tryz.ntmps164
  go_wp2
  go_ret
  exact⟨rfl,.inl rfl⟩
 have z3:qAn s.data.toList=s.data.toList.all okN:=by
  unfold qAn
  rw[decide_eq_false (show ¬ s.data.toList.length<1 from z1),decide_eq_false (show ¬ 12<s.data.toList.length from z2)];rfl
 rw[z3]
 go_enter Tryz.func164,Tryz.ntmps164
 go_wp2
 go_loopw [] (fun w' => ∃ pos:Nat,w'=w.iter s pos∧okP s pos) (fun w'=>s.size-w'.iterPos w.heap.size)
 case atStart=>exact⟨0,rfl,Nat.zero_le _,rfl⟩
 case round=>
  obtain⟨pos,rfl,hle,hall⟩:=hrel
  by_cases hp:pos<s.size
  ·have hnx : ∀ ty,(Instr.next (.pointer (some ⟨w.heap.size,0,none⟩)) true ty).run Tryz.prog (w.iter s pos)=_:=fun ty=>run_next_any w s pos ty hp
   have hget:s.data.toList[pos]?=some (s[pos]'hp):=by
    rw[List.getElem?_eq_getElem (show pos<s.data.toList.length from hp)];rfl
   have hno:okN (s[pos]'hp)=false→s.data.toList.all okN=false:=fun h=>List.all_eq_false.2 ⟨_,List.mem_of_getElem? hget,by simp[h]⟩
   by_cases ha:(s[pos]'hp).toNat<128
   ·rw[decode_ascii s pos hp ha] at hnx
    have hst:okN (s[pos]'hp)=true→okP s (pos+1):=fun h=>by
     refine⟨hp,?_⟩
     rw[List.take_add_one,hget,List.all_append,hall];simp[h]
    generalize s[pos]'hp=c at *
    obtain⟨r,hr⟩ : ∃ r,c.toNat=r:=⟨_,rfl⟩
    have hc45:c=45↔r=45:=by
     rw[←hr]
     exact⟨fun e=>by subst e;rfl,fun e=>UInt8.toNat_inj.1 e⟩
    have hok:okN c=((!decide (r<97) && !decide (r>122))||((!decide (r<48) && !decide (r>57))||decide (r=45))):=by
     unfold okN;rw[hr];simp only[hc45]
    rw[hr] at hnx ha
    clear hr hc45
    by_cases b1:(r:Int)<97<;>by_cases b2:(122:Int)<r<;>by_cases b3:(r:Int)<48<;>by_cases b4:(57:Int)<r<;>by_cases b5:(r:Int)=45
    all_goals try omega
    all_goals have c1:decide (r<97)=decide ((r:Int)<97):=by rw[decide_eq_decide];omega
    all_goals have c2:decide (r>122)=decide ((122:Int)<r):=by rw[decide_eq_decide];omega
    all_goals have c3:decide (r<48)=decide ((r:Int)<48):=by rw[decide_eq_decide];omega
    all_goals have c4:decide (r>57)=decide ((57:Int)<r):=by rw[decide_eq_decide];omega
    all_goals have c5:decide (r=45)=decide ((r:Int)=45):=by rw[decide_eq_decide];omega
    all_goals rw[c1,c2,c3,c4,c5] at hok
    all_goals simp only[b1,b2,b3,b4,b5,decide_true,decide_false,Bool.not_true,Bool.not_false,Bool.and_true,Bool.and_false,Bool.or_true,Bool.or_false,Bool.true_and,Bool.false_and,Bool.true_or,Bool.false_or] at hok
    all_goals go_wp2
    all_goals first
     | (go_ret;exact⟨by first | rfl | (rw[hno hok];rfl) | rw[hno hok],.inr ⟨_,rfl⟩⟩)
     | (go_roundw;(case rel=>exact⟨pos+1,rfl,hst hok⟩);(case measure=>first | omega | (simp;omega)))
   ·have hh:=decode_high s pos hp (by omega)
    have hok:=zUy (c:=s[pos]'hp) (by omega)
    generalize (Utf8.decode s pos).1=r at *
    have b1 : ¬ (r:Int)<97:=by omega
    have b2:(122:Int)<r:=by omega
    have b3 : ¬ (r:Int)<48:=by omega
    have b4:(57:Int)<r:=by omega
    have b5 : ¬ (r:Int)=45:=by omega
    go_wp2
    go_ret
    exact⟨by first | rfl | (rw[hno hok];rfl) | rw[hno hok],.inr ⟨_,rfl⟩⟩
  ·have hnx : ∀ ty,(Instr.next (.pointer (some ⟨w.heap.size,0,none⟩)) true ty).run Tryz.prog (w.iter s pos)=_:=fun ty=>run_next_end w s pos ty hp
   have hall2:s.data.toList.all okN=true:=by
    have e:pos=s.data.toList.length:=by show pos=s.size;omega
    rw[e,List.take_length] at hall
    exact hall
   clear hall
   go_wp2
   go_ret
   exact⟨by first | rfl | (rw[hall2];rfl) | rw[hall2],.inr ⟨_,rfl⟩⟩
def Tryz.laysI_ren:Go.Shelf.Ren:=⟨fun | 171=>171 | 243=>200 | 246=>220 | 283=>225 | 284=>226 | 285=>227 | 286=>228 | 129=>230 | 317=>229 | 318=>231 | 319=>232 | 320=>233 | 337=>234 | 338=>235 | n=>n,fun | 3=>3 | 9=>9 | 2=>2 | 4=>4 | 171=>209 | 0=>0 | 53=>140 | 37=>23 | 5=>5 | 173=>212 | 212=>215 | 51=>131 | 20=>20 | 213=>216 | 46=>89 | 232=>219 | 233=>220 | n=>n,fun | 17=>3 | 18=>4 | 19=>5 | n=>n⟩
theorem Tryz.laysI:Go.Proofs.LaysM.n171 Tryz.prog Tryz.laysI_ren := {
 mixed:=by kernel_rfl,
 f129:=Tryz.func230.trans (congrArg some (by kernel_rfl)),
 f171:=Tryz.func171.trans (congrArg some (by kernel_rfl)),
 f243:=Tryz.func200.trans (congrArg some (by kernel_rfl)),
 f246:=Tryz.func220.trans (congrArg some (by kernel_rfl)),
 f283:=Tryz.func225.trans (congrArg some (by kernel_rfl)),
 f284:=Tryz.func226.trans (congrArg some (by kernel_rfl)),
 f285:=Tryz.func227.trans (congrArg some (by kernel_rfl)),
 f286:=Tryz.func228.trans (congrArg some (by kernel_rfl)),
 f317:=Tryz.func229.trans (congrArg some (by kernel_rfl)),
 f318:=Tryz.func231.trans (congrArg some (by kernel_rfl)),
 f319:=Tryz.func232.trans (congrArg some (by kernel_rfl)),
 f320:=Tryz.func233.trans (congrArg some (by kernel_rfl)),
 f337:=Tryz.func234.trans (congrArg some (by kernel_rfl)),
 f338:=Tryz.func235.trans (congrArg some (by kernel_rfl)),
 t0:=Tryz.underlying0,
 a0:=Tryz.isAgg0,
 z0:=Tryz.sizeOf0,
 v0:=Tryz.zeroValue0,
 t2:=Tryz.underlying2,
 a2:=Tryz.isAgg2,
 z2:=Tryz.sizeOf2,
 v2:=Tryz.zeroValue2,
 t3:=Tryz.underlying3,
 a3:=Tryz.isAgg3,
 z3:=Tryz.sizeOf3,
 v3:=Tryz.zeroValue3,
 t4:=Tryz.underlying4,
 a4:=Tryz.isAgg4,
 z4:=Tryz.sizeOf4,
 v4:=Tryz.zeroValue4,
 t5:=Tryz.underlying5,
 a5:=Tryz.isAgg5,
 z5:=Tryz.sizeOf5,
 v5:=Tryz.zeroValue5,
 t9:=Tryz.underlying9,
 a9:=Tryz.isAgg9,
 z9:=Tryz.sizeOf9,
 v9:=Tryz.zeroValue9,
 t20:=Tryz.underlying20,
 a20:=Tryz.isAgg20,
 z20:=Tryz.sizeOf20,
 v20:=Tryz.zeroValue20,
 t37:=Tryz.underlying23,
 a37:=Tryz.isAgg23,
 z37:=Tryz.sizeOf23,
 v37:=Tryz.zeroValue23,
 t46:=Tryz.underlying89,
 a46:=Tryz.isAgg89,
 z46:=Tryz.sizeOf89,
 v46:=Tryz.zeroValue89,
 t51:=Tryz.underlying131,
 a51:=Tryz.isAgg131,
 z51:=Tryz.sizeOf131,
 v51:=Tryz.zeroValue131,
 t53:=Tryz.underlying140,
 a53:=Tryz.isAgg140,
 z53:=Tryz.sizeOf140,
 v53:=Tryz.zeroValue140,
 t171:=Tryz.underlying209,
 a171:=Tryz.isAgg209,
 z171:=Tryz.sizeOf209,
 v171:=Tryz.zeroValue209,
 t173:=Tryz.underlying212,
 a173:=Tryz.isAgg212,
 z173:=Tryz.sizeOf212,
 v173:=Tryz.zeroValue212,
 t212:=Tryz.underlying215,
 a212:=Tryz.isAgg215,
 z212:=Tryz.sizeOf215,
 v212:=Tryz.zeroValue215,
 t213:=Tryz.underlying216,
 a213:=Tryz.isAgg216,
 z213:=Tryz.sizeOf216,
 t232:=Tryz.underlying219,
 a232:=Tryz.isAgg219,
 z232:=Tryz.sizeOf219,
 v232:=Tryz.zeroValue219,
 t233:=Tryz.underlying220,
 a233:=Tryz.isAgg220,
 z233:=Tryz.sizeOf220,
 v233:=Tryz.zeroValue220,
 g17:=by kernel_rfl,
 g18:=by kernel_rfl,
 g19:=by kernel_rfl,
 i0:=by kernel_rfl,
 i2:=by kernel_rfl,
 i3:=by kernel_rfl,
 i4:=by kernel_rfl,
 i5:=by kernel_rfl,
 i9:=by kernel_rfl,
 i20:=by kernel_rfl,
 i37:=by kernel_rfl,
 i46:=by kernel_rfl,
 i51:=by kernel_rfl,
 i53:=by kernel_rfl,
 i171:=by kernel_rfl,
 i173:=by kernel_rfl,
 i212:=by kernel_rfl,
 i232:=by kernel_rfl,
 i233:=by kernel_rfl,
 m17:=by kernel_rfl,
 m18:=by kernel_rfl,
 m19:=by kernel_rfl }
theorem zG1 (n:Int) (h0 : -9223372036854775808≤n) (h1:n≤9223372036854775807) (w:World) (h:Lib.TabIs Tryz.prog w "internal/strconv.uint64pow10" .u64 Lib.pow10Tab):Calls Tryz.prog 171 #[.int .i64 n] w fun e w'=>e = .returned (.string ⟨(Lib.itoa n).toArray⟩) ∧ ∃ k os,w'=Go.Sort.grow (w.drewN k) os:=
 Any.strconv_Itoa Tryz.laysI n h0 h1 w h
end Go.Proofs.YtgpbjaleeeacdaaGreatDoor
end
section
set_option maxRecDepth 100000
namespace Go.Eng
open Go.Proofs Go.Proofs.YtgpbjaleeeacdaaGreatDoor
def gl0:Gl:=fun g=>if g=1 then some (qXx.map qP) else if g=0 then some (zG4) else if g=3 then some (qZm) else none
abbrev TO (t:Tab):Prop:=qD3 Tryz.prog gl0 t
noncomputable def t1:Tab:=(37,qYq.fs)::([]:Tab)
theorem T1:TO t1:= .cons (qW Tryz.f37 [] _ _ qD3.nil qYq (fun _ _=>zDk ([]:Tab) gl0)) qD3.nil
noncomputable def t2:Tab:=(41,qF2.fs)::t1
theorem T2:TO t2:= .cons (qW Tryz.f41 [] _ _ T1 qF2 (fun x hx=>qI0 t1 gl0 x hx)) T1
noncomputable def t3:Tab:=(164,qCl.fs)::t2
theorem T3:TO t3:= .cons (zVu (fn:=Tryz.f164) (c:=Tryz.f164.body.getD .skip) (by kernel_rfl) (by kernel_rfl) (by kernel_rfl) zCo) T2
noncomputable def t4:Tab:=(201,qOi.fs)::t3
theorem T4:TO t4:= .cons (jAd (fn:=Tryz.f201) (by kernel_rfl) (by kernel_rfl) (by kernel_rfl) (by kernel_rfl) (by kernel_rfl)) T3
noncomputable def t5:Tab:=(172,qOi.fs)::t4
theorem T5:TO t5:= .cons (qW Tryz.f172 [] _ _ T4 qOi (fun x hx=>qNk t4 gl0 201 rfl x.1 x.2 hx)) T4
noncomputable def t6:Tab:=(173,qYc.fs)::t5
theorem T6:TO t6:= .cons (qW Tryz.f173 [] _ _ T5 qYc (fun x hx=>qNl t5 gl0 x hx)) T5
noncomputable def t7:Tab:=(136,qGt.fs)::t6
theorem T7:TO t7:= .cons (qW Tryz.f136 [] _ _ T6 qGt (fun x hx=>qW8 t6 gl0 172 173 rfl rfl x hx)) T6
noncomputable def t8:Tab:=(131,qFh.fs)::t7
theorem T8:TO t8:= .cons (qW Tryz.f131 [(7,[5])] _ _ T7 qFh (fun x hx=>qW7 t7 gl0 164 136 rfl rfl x hx)) T7
noncomputable def t9:Tab:=(84,qHq.fs)::t8
theorem T9:TO t9:= .cons (qW Tryz.f84 [] _ _ T8 qHq (fun x hx=>qMs t8 gl0 131 rfl x hx)) T8
noncomputable def t10:Tab:=(138,qJr.fs)::t9
theorem T10:TO t10:= .cons (qW Tryz.f138 [] _ _ T9 qJr (fun x _=>qPb t9 gl0 0 rfl x)) T9
noncomputable def t11:Tab:=(56,vT.fs)::t10
theorem T11:TO t11:= .cons (yM [] Tryz.f56 [] _ _ T10 vT (fun x hx=>zD6 t10 gl0 x.1 x.2.1 x.2.2 hx.1 hx.2)) T10
noncomputable def t12:Tab:=(106,qA1.fs)::t11
theorem T12:TO t12:= .cons (yM [] Tryz.f106 [] _ _ T11 qA1 (fun x hx=>zD5 t11 gl0 56 rfl x.1 x.2 hx.1 hx.2)) T11
noncomputable def t13:Tab:=(199,qOj.fs)::t12
theorem T13:TO t13:= .cons (qW Tryz.f199 [] _ _ T12 qOj (fun x hx=>qTx t12 gl0 131 56 106 rfl rfl rfl x hx)) T12
noncomputable def t14:Tab:=(143,qHu.fs)::t13
theorem T14:TO t14:= .cons (yM [] Tryz.f143 [] _ _ T13 qHu (fun x hx=>qZ4 t13 gl0 x hx)) T13
noncomputable def t15:Tab:=(180,qDm.fs)::t14
theorem T15:TO t15:= .cons (qW Tryz.f180 [] _ _ T14 qDm (fun x hx=>qW4 t14 gl0 x.1 x.2 hx.1 hx.2)) T14
noncomputable def t16:Tab:=(181,qJ9.fs)::t15
theorem T16:TO t16:= .cons (qW Tryz.f181 [] _ _ T15 qJ9 (fun x hx=>qKo t15 gl0 x.1 x.2 hx)) T15
noncomputable def t17:Tab:=(144,(kU 5 qCk).fs)::t16
theorem T17:TO t17:= .cons (qW Tryz.f144 [] _ _ T16 (kU 5 qCk) (fun x hx=>qKw t16 gl0 180 181 rfl rfl x hx)) T16
noncomputable def t18:Tab:=(145,kW.fs)::t17
theorem T18:TO t18:= .cons (yM [] Tryz.f145 [] _ _ T17 kW (fun x hx=>qSp t17 gl0 x hx)) T17
noncomputable def t19:Tab:=(146,(kU 8 wP).fs)::t18
theorem T19:TO t19:= .cons (qW Tryz.f146 [] _ _ T18 (kU 8 wP) (fun x hx=>qIz t18 gl0 180 181 1 rfl rfl rfl x.2 x.1 hx.1 hx.2)) T18
noncomputable def t20:Tab:=(101,kA.fs)::t19
theorem T20:TO t20:= .cons (yM [] Tryz.f101 [] _ _ T19 kA (fun x hx=>qZ3 t19 gl0 143 144 145 146 rfl rfl rfl rfl x.1 hx.1 x.2 hx.2)) T19
noncomputable def t21:Tab:=(170,qOl.fs)::t20
theorem T21:TO t21:= .cons (qW Tryz.f170 [(2,[1])] _ _ T20 qOl (fun x hx=>qSs t20 gl0 199 101 rfl rfl x.1 x.2 hx.1 hx.2)) T20
noncomputable def t22:Tab:=(171,qHt.fs)::t21
theorem T22:TO t22:= .cons (zVt (fn:=Tryz.f171) (c:=Tryz.f171.body.getD .skip) (g:=3) (by kernel_rfl) (by kernel_rfl) (by kernel_rfl) rfl (by kernel_rfl) zG1) T21
noncomputable def t23:Tab:=(135,qGu.fs)::t22
theorem T23:TO t23:= .cons (qW Tryz.f135 [(3,[5])] _ _ T22 qGu (fun x hx=>qSr t22 gl0 131 138 170 171 rfl rfl rfl rfl x.1 x.2 hx.1 hx.2)) T22
noncomputable def t24:Tab:=(174,qLl.fs)::t23
theorem T24:TO t24:= .cons (qW Tryz.f174 [(900000,[1])] _ _ T23 qLl (fun x hx=>qW1 t23 gl0 x hx)) T23
noncomputable def t25:Tab:=(137,qF3.fs)::t24
theorem T25:TO t25:= .cons (qW Tryz.f137 [(1,[4])] _ _ T24 qF3 (fun x hx=>qZ8 t24 gl0 174 101 rfl rfl x.1 x.2.1 x.2.2.1 x.2.2.2 hx.1 hx.2)) T24
noncomputable def t26:Tab:=(86,qOk.fs)::t25
theorem T26:TO t26:= .cons (qW Tryz.f86 [(8,[8]),(9,[1]),(12,[11]),(19,[4])] _ _ T25 qOk (fun x hx=>qPd t25 gl0 84 135 136 138 137 rfl rfl rfl rfl rfl x.1 x.2 hx)) T25
noncomputable def t27:Tab:=(166,kV.fs)::t26
theorem T27:TO t27:= .cons (qW Tryz.f166 [] _ _ T26 kV (fun x _=>qW3 t26 gl0 x)) T26
noncomputable def t28:Tab:=(224,qEl.fs)::t27
theorem T28:TO t28:= .cons (qW Tryz.f224 [] _ _ T27 qEl (fun x hx=>qZ1 t27 gl0 x hx)) T27
noncomputable def t29:Tab:=(218,qEl.fs)::t28
theorem T29:TO t29:= .cons (qW Tryz.f218 [] _ _ T28 qEl (fun x hx=>zH5 t28 gl0 223 224 rfl x hx)) T28
noncomputable def t30:Tab:=(219,qYi.fs)::t29
theorem T30:TO t30:= .cons (jAe (fn:=Tryz.f219) (ps := #[3]) (t:=23) (e:=5) (by kernel_rfl) (by kernel_rfl) (by kernel_rfl) (by kernel_rfl) (by kernel_rfl) (by kernel_rfl)) T29
noncomputable def t31:Tab:=(198,qHx.fs)::t30
theorem T31:TO t31:= .cons (yM [] Tryz.f198 [] _ _ T30 qHx (fun x hx=>qTr t30 gl0 218 219 rfl rfl x.1 x.2 hx)) T30
noncomputable def t32:Tab:=(165,wZ.fs)::t31
theorem T32:TO t32:= .cons (yM [] Tryz.f165 [] _ _ T31 wZ (fun x hx=>qPi t31 gl0 198 rfl x.2 x.1 hx)) T31
noncomputable def t33:Tab:=(132,xL.fs)::t32
theorem T33:TO t33:= .cons (yM [] Tryz.f132 [] _ _ T32 xL (fun x hx=>qPk t32 gl0 166 165 rfl rfl x)) T32
noncomputable def t34:Tab:=(133,qHr.fs)::t33
theorem T34:TO t34:= .cons (qW Tryz.f133 [] _ _ T33 qHr (fun x hx=>qTw t33 gl0 166 rfl x.1 x.2 hx)) T33
noncomputable def t35:Tab:=(167,qAa.fs)::t34
theorem T35:TO t35:= .cons (qW Tryz.f167 [] _ _ T34 qAa (fun x _=>qNr t34 gl0 x)) T34
noncomputable def t36:Tab:=(168,qEk.fs)::t35
theorem T36:TO t36:= .cons (qW Tryz.f168 [] _ _ T35 qEk (fun x _=>qNs t35 gl0 x.1 x.2)) T35
noncomputable def t37:Tab:=(139,wT.fs)::t36
theorem T37:TO t37:= .cons (qW Tryz.f139 [] _ _ T36 wT (fun x hx=>qKx t36 gl0 x hx)) T36
noncomputable def t38:Tab:=(87,qJ7.fs)::t37
theorem T38:TO t38:= .cons (qW Tryz.f87 [] _ _ T37 qJ7 (fun x hx=>qUd t37 gl0 139 rfl x.1 x.2.1 hx.1 x.2.2 hx.2)) T37
noncomputable def t39:Tab:=(169,yJ.fs)::t38
theorem T39:TO t39:= .cons (yM [] Tryz.f169 [] _ _ T38 yJ (fun x hx=>qNv t38 gl0 x hx)) T38
noncomputable def t40:Tab:=(134,kI.fs)::t39
theorem T40:TO t40:= .cons (qW Tryz.f134 [(17,[1])] _ _ T39 kI (fun x hx=>qMv t39 gl0 167 168 87 166 169 101 rfl rfl rfl rfl rfl rfl x hx)) T39
noncomputable def t41:Tab:=(85,qOq.fs)::t40
theorem T41:TO t41:= .cons (qW Tryz.f85 [(3,[2]),(9,[5])] _ _ T40 qOq (fun x hx=>qMw t40 gl0 132 133 134 rfl rfl rfl x.1 x.2.1 x.2.2 hx)) T40
noncomputable def t42:Tab:=(43,qOo.fs)::t41
theorem T42:TO t42:= .cons (qW Tryz.f43 [(6,[3,5])] _ _ T41 qOo (fun x hx=>qKp t41 gl0 84 86 85 rfl rfl rfl x.1 x.2 hx)) T41
noncomputable def t43:Tab:=(102,qA2.fs)::t42
theorem T43:TO t43:= .cons (yM [] Tryz.f102 [] _ _ T42 qA2 (fun x hx=>qTs t42 gl0 x.1 hx.1 x.2 hx.2)) T42
noncomputable def t44:Tab:=(55,yE.fs)::t43
theorem T44:TO t44:= .cons (yM [] Tryz.f55 [] _ _ T43 yE (fun x hx=>qW2 t43 gl0 102 101 rfl rfl x.1 x.2 hx.1 hx.2)) T43
noncomputable def t45:Tab:=(44,qE0.fs)::t44
theorem T45:TO t45:= .cons (yM [] Tryz.f44 [] _ _ T44 qE0 (fun x hx=>qMu t44 gl0 56 87 55 rfl rfl rfl x.1 x.2.1 x.2.2.1 x.2.2.2 hx)) T44
noncomputable def t46:Tab:=(15,qJq.fs)::t45
theorem T46:TO t46:= .cons (qW Tryz.f15 [(1,[2])] _ _ T45 qJq (fun x hx=>qPc t45 gl0 43 44 rfl rfl x.1 x.2.1 x.2.2.1 x.2.2.2 hx)) T45
noncomputable def t47:Tab:=(12,qCs.fs)::t46
theorem T47:TO t47:= .cons (qW Tryz.f12 [(2,[3])] _ _ T46 qCs (fun x hx=>qUe t46 gl0 41 15 rfl rfl x.1 x.2 hx)) T46
noncomputable def t48:Tab:=(88,qOp.fs)::t47
theorem T48:TO t48:= .cons (yM [] Tryz.f88 [] _ _ T47 qOp (fun _ _=>qT1 t47 gl0)) T47
noncomputable def t49:Tab:=(46,qRb.fs)::t48
theorem T49:TO t49:= .cons (qW Tryz.f46 [] _ _ T48 qRb (fun x _=>qSw t48 gl0 x.1 x.2.1 x.2.2)) T48
noncomputable def t50:Tab:=(45,qQ6.fs)::t49
theorem T50:TO t50:= .cons (qW Tryz.f45 [] _ _ T49 qQ6 (fun x _=>qNm t49 gl0 x)) T49
noncomputable def t51:Tab:=(17,qCm.fs)::t50
theorem T51:TO t51:= .cons (qW Tryz.f17 [] _ _ T50 qCm (fun x hx=>qT0 t50 gl0 46 45 47 rfl rfl x hx)) T50
noncomputable def t52:Tab:=(140,qJ8.fs)::t51
theorem T52:TO t52:= .cons (qW Tryz.f140 [] _ _ T51 qJ8 (fun x _=>qSv t51 gl0 56 rfl x.1 x.2)) T51
noncomputable def t53:Tab:=(89,qF4.fs)::t52
theorem T53:TO t53:= .cons (yM [] Tryz.f89 [(3,[7])] _ _ T52 qF4 (fun x hx=>qSu t52 gl0 17 140 55 rfl rfl rfl x.1 x.2 hx.1 hx.2)) T52
noncomputable def t54:Tab:=(48,qCn.fs)::t53
theorem T54:TO t54:= .cons (qW Tryz.f48 [] _ _ T53 qCn (fun x hx=>qSt t53 gl0 88 89 rfl rfl x hx)) T53
noncomputable def t55:Tab:=(21,qDl.fs)::t54
theorem T55:TO t55:= .cons (qW Tryz.f21 [(7,[2]),(10,[3])] _ _ T54 qDl (fun x hx=>qPj t54 gl0 12 48 rfl rfl x.1 x.2 hx)) T54
noncomputable def t56:Tab:=(23,qFi.fs)::t55
theorem T56:TO t56:= .cons (qW Tryz.f23 [(1,[2]),(6,[3])] _ _ T55 qFi (fun x hx=>qUf t55 gl0 21 48 rfl rfl x.1 x.2 hx)) T55
noncomputable def t57:Tab:=(93,qLm.fs)::t56
theorem T57:TO t57:= .cons (qW Tryz.f93 [] _ _ T56 qLm (fun _ _=>qPe t56 gl0)) T56
noncomputable def t58:Tab:=(94,qHu.fs)::t57
theorem T58:TO t58:= .cons (yM [] Tryz.f94 [] _ _ T57 qHu (fun x hx=>zId t57 gl0 x hx)) T57
noncomputable def t59:Tab:=(95,qDm.fs)::t58
theorem T59:TO t59:= .cons (qW Tryz.f95 [] _ _ T58 qDm (fun x hx=>zDu t58 gl0 x.1 x.2 hx.1 hx.2)) T58
noncomputable def t60:Tab:=(96,qRe.fs)::t59
theorem T60:TO t60:= .cons (qW Tryz.f96 [] _ _ T59 qRe (fun x hx=>zDt t59 gl0 x.1 x.2 hx)) T59
noncomputable def t61:Tab:=(97,kW.fs)::t60
theorem T61:TO t61:= .cons (yM [] Tryz.f97 [] _ _ T60 kW (fun x hx=>zAf t60 gl0 x hx)) T60
noncomputable def t62:Tab:=(52,(qFj 32 zK).fs)::t61
theorem T62:TO t62:= .cons (yM [] Tryz.f52 [] _ _ T61 (qFj 32 zK) (fun x hx=>qXb t61 gl0 93 94 95 96 97 rfl rfl rfl rfl rfl x hx)) T61
noncomputable def t63:Tab:=(100,qYm.fs)::t62
theorem T63:TO t63:= .cons (qW Tryz.f100 [] _ _ T62 qYm (fun x _=>qMr t62 gl0 52 rfl x)) T62
noncomputable def t64:Tab:=(150,qHs.fs)::t63
theorem T64:TO t64:= .cons (yM [] Tryz.f150 [] _ _ T63 qHs (fun x _=>zDw t63 gl0 x)) T63
noncomputable def t65:Tab:=(151,qJo.fs)::t64
theorem T65:TO t65:= .cons (yM [] Tryz.f151 [] _ _ T64 qJo (fun x hx=>zIe t64 gl0 52 rfl x.1 x.2 hx.1 hx.2)) T64
noncomputable def t66:Tab:=(110,xK.fs)::t65
theorem T66:TO t66:= .cons (qW Tryz.f110 [] _ _ T65 xK (fun x hx=>qXg t65 gl0 150 151 rfl rfl x.1 x.2.1 x.2.2.1 x.2.2.2 hx.1 hx.2.1 hx.2.2.1 hx.2.2.2)) T65
noncomputable def t67:Tab:=(178,qYf.fs)::t66
theorem T67:TO t67:= .cons (qW Tryz.f178 [(1,[4])] _ _ T66 qYf (fun x hx=>qS2 t66 gl0 110 rfl x hx)) T66
noncomputable def t68:Tab:=(204,qYp.fs)::t67
theorem T68:TO t68:= .cons (qW Tryz.f204 [(1,[6])] _ _ T67 qYp (fun x hx=>zAk t67 gl0 110 rfl x.1 x.2.1 x.2.2 hx)) T67
noncomputable def t69:Tab:=(98,qA2.fs)::t68
theorem T69:TO t69:= .cons (yM [] Tryz.f98 [] _ _ T68 qA2 (fun x hx=>zAd t68 gl0 x.1 hx.1 x.2 hx.2)) T68
noncomputable def t70:Tab:=(59,yE.fs)::t69
theorem T70:TO t70:= .cons (yM [] Tryz.f59 [] _ _ T69 yE (fun x hx=>zDo t69 gl0 98 52 rfl rfl x.1 x.2 hx.1 hx.2)) T69
noncomputable def t71:Tab:=(203,qRf.fs)::t70
theorem T71:TO t71:= .cons (qW Tryz.f203 [] _ _ T70 qRf (fun x hx=>zAl t70 gl0 59 rfl x.1 x.2.1 x.2.2 hx)) T70
noncomputable def t72:Tab:=(205,qRh.fs)::t71
theorem T72:TO t72:= .cons (qW Tryz.f205 [] _ _ T71 qRh (fun x hx=>zAm t71 gl0 59 rfl x.1 x.2 hx)) T71
noncomputable def t73:Tab:=(179,qRa.fs)::t72
theorem T73:TO t73:= .cons (qW Tryz.f179 [(7,[6,7]),(8,[2])] _ _ T72 qRa (fun x hx=>qXi t72 gl0 204 203 205 rfl rfl rfl x.1 x.2 hx)) T72
noncomputable def t74:Tab:=(142,qYg.fs)::t73
theorem T74:TO t74:= .cons (qW Tryz.f142 [(2,[2]),(6,[3])] _ _ T73 qYg (fun x hx=>qXk t73 gl0 178 179 rfl rfl x hx)) T73
noncomputable def t75:Tab:=(175,qQ1.fs)::t74
theorem T75:TO t75:= .cons (qW Tryz.f175 [] _ _ T74 qQ1 (fun _ _=>zD1 t74 gl0)) T74
noncomputable def t76:Tab:=(202,qYd.fs)::t75
theorem T76:TO t76:= .cons (qW Tryz.f202 [] _ _ T75 qYd (fun x hx=>zD2 t75 gl0 59 rfl x.1 x.2 hx)) T75
noncomputable def t77:Tab:=(176,zJs.fs)::t76
theorem T77:TO t77:= .cons (qW Tryz.f176 [(5,[14])] _ _ T76 zJs (fun x hx=>zNe t76 gl0 202 rfl x.1 x.2 hx)) T76
noncomputable def t78:Tab:=(177,qF1.fs)::t77
theorem T78:TO t78:= .cons (yM [] Tryz.f177 [] _ _ T77 qF1 (fun x hx=>zDn t77 gl0 x hx)) T77
noncomputable def t79:Tab:=(141,qRd.fs)::t78
theorem T79:TO t79:= .cons (qW Tryz.f141 [(7,[2])] _ _ T78 qRd (fun x hx=>zD0 t78 gl0 175 176 177 rfl rfl rfl x.1 x.2 hx)) T78
noncomputable def t80:Tab:=(99,qYl.fs)::t79
theorem T80:TO t80:= .cons (qW Tryz.f99 [(3,[5,6])] _ _ T79 qYl (fun x hx=>qXj t79 gl0 142 141 rfl rfl x hx)) T79
noncomputable def t81:Tab:=(54,qYn.fs)::t80
theorem T81:TO t81:= .cons (qW Tryz.f54 [(1,[1,2])] _ _ T80 qYn (fun x _=>qTv t80 gl0 100 99 rfl rfl x)) T80
noncomputable def t82:Tab:=(29,qUu.fs)::t81
theorem T82:TO t82:= .cons (qW Tryz.f29 [(1,[4,8])] _ _ T81 qUu (fun x hx=>qSq t81 gl0 54 52 rfl rfl x.1 x.2 hx)) T81
noncomputable def t83:Tab:=(103,qYh.fs)::t82
theorem T83:TO t83:= .cons (qW Tryz.f103 [] _ _ T82 qYh (fun x _=>qXq t82 gl0 x)) T82
noncomputable def t84:Tab:=(147,qLq.fs)::t83
theorem T84:TO t84:= .cons (qW Tryz.f147 [] _ _ T83 qLq (fun _ _=>qNj t83 gl0)) T83
noncomputable def t85:Tab:=(104,qHw.fs)::t84
theorem T85:TO t85:= .cons (qW Tryz.f104 [] _ _ T84 qHw (fun x hx=>qZ0 t84 gl0 147 rfl x.1 x.2 hx)) T84
noncomputable def t86:Tab:=(148,qHs.fs)::t85
theorem T86:TO t86:= .cons (yM [] Tryz.f148 [] _ _ T85 qHs (fun x _=>zIb t85 gl0 x)) T85
noncomputable def t87:Tab:=(182,qQ3.fs)::t86
theorem T87:TO t87:= .cons (yM [] Tryz.f182 [] _ _ T86 qQ3 (fun x hx=>zDl t86 gl0 x.1 x.2 hx)) T86
noncomputable def t88:Tab:=(149,qJo.fs)::t87
theorem T88:TO t88:= .cons (yM [] Tryz.f149 [(4,[1]),(5,[1])] _ _ T87 qJo (fun x hx=>zNd t87 gl0 101 182 rfl rfl x.1 x.2 hx.1 hx.2)) T87
noncomputable def t89:Tab:=(105,xK.fs)::t88
theorem T89:TO t89:= .cons (qW Tryz.f105 [] _ _ T88 xK (fun x hx=>qZ9 t88 gl0 148 149 rfl rfl x.1 x.2.1 x.2.2.1 x.2.2.2 hx.1 hx.2.1 hx.2.2.1 hx.2.2.2)) T88
noncomputable def t90:Tab:=(71,qYr.fs)::t89
theorem T90:TO t90:= .cons (yM [] Tryz.f71 [] _ _ T89 qYr (fun x hx=>qXr t89 gl0 120 55 rfl x.1 x.2.1 x.2.2 hx)) T89
noncomputable def t91:Tab:=(57,qOm.fs)::t90
theorem T91:TO t91:= .cons (qW Tryz.f57 [(8,[2]),(10,[1]),(12,[1]),(13,[2])] _ _ T90 qOm (fun x hx=>zD7 t90 gl0 103 104 105 71 rfl rfl rfl rfl x.1 x.2.1 x.2.2 hx)) T90
noncomputable def t92:Tab:=(66,qE3.fs)::t91
theorem T92:TO t92:= .cons (yM [] Tryz.f66 [] _ _ T91 qE3 (fun x hx=>qW0 t91 gl0 106 rfl x.1 x.2 hx)) T91
noncomputable def t93:Tab:=(113,qHv.fs)::t92
theorem T93:TO t93:= .cons (qW Tryz.f113 [] _ _ T92 qHv (fun x hx=>zDg t92 gl0 66 55 rfl rfl x.1 x.2 hx)) T92
noncomputable def t94:Tab:=(64,qRi.fs)::t93
theorem T94:TO t94:= .cons (qW Tryz.f64 [(1,[1]),(2,[3])] _ _ T93 qRi (fun x hx=>zIh t93 gl0 113 105 rfl rfl x.1.1 x.1.2.1 x.1.2.2 x.2.1 x.2.2 hx)) T93
noncomputable def t95:Tab:=(152,qQ5.fs)::t94
theorem T95:TO t95:= .cons (yM [] Tryz.f152 [] _ _ T94 qQ5 (fun x hx=>qZ2 t94 gl0 x.1 x.2.1 x.2.2 hx.1 hx.2)) T94
noncomputable def t96:Tab:=(116,qOn.fs)::t95
theorem T96:TO t96:= .cons (yM [] Tryz.f116 [(1,[4]),(7,[4])] _ _ T95 qOn (fun x hx=>zH7 t95 gl0 105 152 rfl rfl x.1 x.2.1 x.2.2 hx)) T95
noncomputable def t97:Tab:=(115,qHp.fs)::t96
theorem T97:TO t97:= .cons (yM [] Tryz.f115 [(1,[2])] _ _ T96 qHp (fun x hx=>zNc t96 gl0 105 102 149 rfl rfl rfl x.1 x.2.1 x.2.2.1 x.2.2.2 hx)) T96
noncomputable def t98:Tab:=(107,qHy.fs)::t97
theorem T98:TO t98:= .cons (qW Tryz.f107 [] _ _ T97 qHy (fun x hx=>zH6 t97 gl0 116 106 115 rfl rfl rfl x.1 x.2.1 x.2.2.1 x.2.2.2 hx)) T97
noncomputable def t99:Tab:=(58,qHz.fs)::t98
theorem T99:TO t99:= .cons (qW Tryz.f58 [(1,[2]),(3,[5])] _ _ T98 qHz (fun x hx=>qUg t98 gl0 64 106 66 107 rfl rfl rfl rfl x.1.1 x.1.2.1 x.1.2.2 x.2.1.1 x.2.1.2 x.2.2.1 x.2.2.2.1 x.2.2.2.2 hx)) T98
noncomputable def jEb:Tab:=(32,qGs.fs)::t99
theorem jGz:TO jEb:= .cons (qW Tryz.f32 [(3,[4]),(7,[5]),(10,[7]),(12,[4])] _ _ T99 qGs (fun x hx=>zAt t99 gl0 23 56 55 57 58 21 rfl rfl rfl rfl rfl rfl x.1.1 x.1.2 x.2.1 x.2.2.1 x.2.2.2.1 x.2.2.2.2 hx)) T99
noncomputable def jEc:Tab:=(14,xR.fs)::jEb
theorem jG0:TO jEc:= .cons (qW Tryz.f14 [] _ _ jGz xR (fun x hx=>zDp jEb gl0 x.1 x.2 hx.1 hx.2)) jGz
noncomputable def jEd:Tab:=(9,qEj.fs)::jEc
theorem jG1:TO jEd:= .cons (qW Tryz.f9 [(1,[0,1]),(2,[0,1]),(3,[0,3,5])] _ _ jG0 qEj (fun _ _=>zNb jEc gl0 37 21 23 29 32 14 rfl rfl rfl rfl rfl rfl)) jG0
noncomputable def jEe:Tab:=(10,qJp.fs)::jEd
theorem jG2:TO jEe:= .cons (qW Tryz.f10 [] _ _ jG1 qJp (fun x hx=>zH9 jEd gl0 x.1 x.2 hx.1 hx.2)) jG1
noncomputable def jEf:Tab:=(38,qJ6.fs)::jEe
theorem jG3:TO jEf:= .cons (yM [] Tryz.f38 [] _ _ jG2 qJ6 (fun x hx=>zIa jEe gl0 x.1 x.2 hx.1 hx.2)) jG2
noncomputable def jEg:Tab:=(39,qE2.fs)::jEf
theorem jG4:TO jEg:= .cons (qW Tryz.f39 [] _ _ jG3 qE2 (fun x hx=>zDi jEf gl0 x.1 x.2 hx.1 hx.2.1 hx.2.2)) jG3
noncomputable def jEh:Tab:=(80,qYj.fs)::jEg
theorem jG5:TO jEh:= .cons (qW Tryz.f80 [] _ _ jG4 qYj (fun _ _=>qZ7 jEg gl0)) jG4
noncomputable def jEi:Tab:=(126,qQ2.fs)::jEh
theorem jG6:TO jEi:= .cons (qW Tryz.f126 [(2,[1])] _ _ jG5 qQ2 (fun x hx=>zDh jEh gl0 39 rfl x hx)) jG5
noncomputable def jEj:Tab:=(81,qYk.fs)::jEi
theorem jG7:TO jEj:= .cons (qW Tryz.f81 [(2,[1]),(5,[2])] _ _ jG6 qYk (fun x hx=>qTu jEi gl0 39 126 rfl rfl x hx)) jG6
noncomputable def jEk:Tab:=(40,qYb.fs)::jEj
theorem jG8:TO jEk:= .cons (qW Tryz.f40 [(1,[3,6]),(2,[1]),(3,[1]),(5,[1]),(7,[1]),(11,[4])] _ _ jG7 qYb (fun x hx=>qZ6 jEj gl0 80 39 81 rfl rfl rfl x.1 x.2 hx.1 hx.2)) jG7
noncomputable def jEl:Tab:=(11,qQy.fs)::jEk
theorem jG9:TO jEl:= .cons (qW Tryz.f11 [(1,[1]),(6,[1]),(8,[1]),(11,[2])] _ _ jG8 qQy (fun x hx=>qZ5 jEk gl0 38 39 40 rfl rfl rfl x hx)) jG8
noncomputable def jEm:Tab:=(16,qF2.fs)::jEl
theorem jHa:TO jEm:= .cons (qW Tryz.f16 [] _ _ jG9 qF2 (fun x hx=>qNo jEl gl0 x hx)) jG9
noncomputable def jEn:Tab:=(187,qCl.fs)::jEm
theorem jHb:TO jEn:= .cons (qW Tryz.f187 [] _ _ jHa qCl (fun x hx=>zAh jEm gl0 x hx)) jHa
noncomputable def jEo:Tab:=(163,qGt.fs)::jEn
theorem jHc:TO jEo:= .cons (qW Tryz.f163 [] _ _ jHb qGt (fun x hx=>qXf jEn gl0 x hx)) jHb
noncomputable def jEp:Tab:=(156,qFh.fs)::jEo
theorem jHd:TO jEp:= .cons (qW Tryz.f156 [(7,[5])] _ _ jHc qFh (fun x hx=>qXd jEo gl0 187 163 rfl rfl x hx)) jHc
noncomputable def jEq:Tab:=(127,qHq.fs)::jEp
theorem jHe:TO jEq:= .cons (qW Tryz.f127 [] _ _ jHd qHq (fun x hx=>qXc jEp gl0 156 rfl x hx)) jHd
noncomputable def jEr:Tab:=(161,qYo.fs)::jEq
theorem jHf:TO jEr:= .cons (yM [] Tryz.f161 [] _ _ jHe qYo (fun _ _=>qNn jEq gl0)) jHe
noncomputable def jEs:Tab:=(194,qFg.fs)::jEr
theorem jHg:TO jEs:= .cons (qW Tryz.f194 [] _ _ jHf qFg (fun x hx=>zDv jEr gl0 x hx)) jHf
noncomputable def jEt:Tab:=(222,qLp.fs)::jEs
theorem jHh:TO jEt:= .cons (qW Tryz.f222 [] _ _ jHg qLp (fun x hx=>zDs jEs gl0 x.1 x.2 hx)) jHg
noncomputable def jEu:Tab:=(215,(qFj 20 qJy).fs)::jEt
theorem jHi:TO jEu:= .cons (yM [] Tryz.f215 [] _ _ jHh (qFj 20 qJy) (fun x hx=>zDr jEt gl0 94 95 222 97 rfl rfl rfl rfl x hx)) jHh
noncomputable def jEv:Tab:=(193,kA.fs)::jEu
theorem jHj:TO jEv:= .cons (yM [] Tryz.f193 [] _ _ jHi kA (fun x hx=>zIc jEu gl0 215 52 rfl rfl x.1 hx.1 x.2 hx.2)) jHi
noncomputable def jEw:Tab:=(160,qF3.fs)::jEv
theorem jHk:TO jEw:= .cons (qW Tryz.f160 [] _ _ jHj qF3 (fun x hx=>zAg jEv gl0 194 193 rfl rfl x.1 x.2.1 x.2.2.1 x.2.2.2 hx.1 hx.2)) jHj
noncomputable def jEx:Tab:=(195,qJr.fs)::jEw
theorem jHl:TO jEx:= .cons (qW Tryz.f195 [] _ _ jHk qJr (fun x _=>qPf jEw gl0 x)) jHk
noncomputable def jEy:Tab:=(60,vT.fs)::jEx
theorem jHm:TO jEy:= .cons (yM [] Tryz.f60 [] _ _ jHl vT (fun x hx=>zDy jEx gl0 x.1 x.2.1 x.2.2 hx.1 hx.2)) jHl
noncomputable def jEz:Tab:=(111,qA1.fs)::jEy
theorem jHn:TO jEz:= .cons (yM [] Tryz.f111 [] _ _ jHm qA1 (fun x hx=>zDx jEy gl0 60 rfl x.1 x.2 hx.1 hx.2)) jHm
noncomputable def jE0:Tab:=(216,qOj.fs)::jEz
theorem jHo:TO jE0:= .cons (qW Tryz.f216 [] _ _ jHn qOj (fun x hx=>qKq jEz gl0 156 60 111 rfl rfl rfl x hx)) jHn
noncomputable def jE1:Tab:=(196,qOl.fs)::jE0
theorem jHp:TO jE1:= .cons (qW Tryz.f196 [(2,[1])] _ _ jHo qOl (fun x hx=>qSy jE0 gl0 216 194 193 rfl rfl rfl x.1 x.2 hx.1 hx.2)) jHo
noncomputable def jE2:Tab:=(217,(qAi 0).fs)::jE1
theorem jHq:TO jE2:= .cons (yM [] Tryz.f217 [] _ _ jHp (qAi 0) (fun x hx=>qSz jE1 gl0 217 x hx.1)) jHp
noncomputable def jE3:Tab:=(217,(qAi 1).fs)::jE2
theorem jHr:TO jE3:= .cons (yM [] Tryz.f217 [] _ _ jHq (qAi 1) (fun x hx=>vP jE2 gl0 217 0 rfl x hx.1 hx.2 (by decide))) jHq
noncomputable def jE4:Tab:=(217,(qAi 2).fs)::jE3
theorem jHs:TO jE4:= .cons (yM [] Tryz.f217 [] _ _ jHr (qAi 2) (fun x hx=>vP jE3 gl0 217 1 rfl x hx.1 hx.2 (by decide))) jHr
noncomputable def jE5:Tab:=(217,(qAi 3).fs)::jE4
theorem jHt:TO jE5:= .cons (yM [] Tryz.f217 [] _ _ jHs (qAi 3) (fun x hx=>vP jE4 gl0 217 2 rfl x hx.1 hx.2 (by decide))) jHs
noncomputable def jE6:Tab:=(217,(qAi 4).fs)::jE5
theorem jHu:TO jE6:= .cons (yM [] Tryz.f217 [] _ _ jHt (qAi 4) (fun x hx=>vP jE5 gl0 217 3 rfl x hx.1 hx.2 (by decide))) jHt
noncomputable def jE7:Tab:=(217,(qAi 5).fs)::jE6
theorem jHv:TO jE7:= .cons (yM [] Tryz.f217 [] _ _ jHu (qAi 5) (fun x hx=>vP jE6 gl0 217 4 rfl x hx.1 hx.2 (by decide))) jHu
noncomputable def jE8:Tab:=(217,(qAi 6).fs)::jE7
theorem jHw:TO jE8:= .cons (yM [] Tryz.f217 [] _ _ jHv (qAi 6) (fun x hx=>vP jE7 gl0 217 5 rfl x hx.1 hx.2 (by decide))) jHv
noncomputable def jE9:Tab:=(217,(qAi 7).fs)::jE8
theorem jHx:TO jE9:= .cons (yM [] Tryz.f217 [] _ _ jHw (qAi 7) (fun x hx=>vP jE8 gl0 217 6 rfl x hx.1 hx.2 (by decide))) jHw
noncomputable def jFa:Tab:=(197,qYe.fs)::jE9
theorem jHy:TO jFa:= .cons (qW Tryz.f197 [] _ _ jHx qYe (fun x hx=>qXe jE9 gl0 217 rfl x.1 x.2 hx.1 hx.2)) jHx
noncomputable def jFb:Tab:=(162,qGu.fs)::jFa
theorem jHz:TO jFb:= .cons (qW Tryz.f162 [(3,[5,10])] _ _ jHy qGu (fun x hx=>qS0 jFa gl0 156 195 196 197 rfl rfl rfl rfl x.1 x.2 hx.1 hx.2)) jHy
noncomputable def jFc:Tab:=(129,qOk.fs)::jFb
theorem jH0:TO jFc:= .cons (qW Tryz.f129 [(11,[4]),(17,[6]),(18,[4]),(22,[6])] _ _ jHz qOk (fun x hx=>qT5 jFb gl0 127 161 160 162 163 rfl rfl rfl rfl rfl x.1 x.2 hx)) jHz
noncomputable def jFd:Tab:=(191,kV.fs)::jFc
theorem jH1:TO jFd:= .cons (qW Tryz.f191 [] _ _ jH0 kV (fun x _=>zDq jFc gl0 x)) jH0
noncomputable def jFe:Tab:=(188,qQ0.fs)::jFd
theorem jH2:TO jFe:= .cons (qW Tryz.f188 [] _ _ jH1 qQ0 (fun x hx=>qKr jFd gl0 194 191 rfl rfl x.1 x.2 hx.1 hx.2)) jH1
noncomputable def jFf:Tab:=(157,qHr.fs)::jFe
theorem jH3:TO jFf:= .cons (qW Tryz.f157 [] _ _ jH2 qHr (fun x hx=>qT4 jFe gl0 188 rfl x.1 x.2 hx)) jH2
noncomputable def jFg:Tab:=(214,wZ.fs)::jFf
theorem jH4:TO jFg:= .cons (yM [] Tryz.f214 [] _ _ jH3 wZ (fun x hx=>zAv jFf gl0 x hx)) jH3
noncomputable def jFh:Tab:=(189,qE1.fs)::jFg
theorem jH5:TO jFh:= .cons (yM [] Tryz.f189 [] _ _ jH4 qE1 (fun x hx=>qUb jFg gl0 191 214 rfl rfl x.1 hx x.2)) jH4
noncomputable def jFi:Tab:=(158,xL.fs)::jFh
theorem jH6:TO jFi:= .cons (yM [] Tryz.f158 [] _ _ jH5 xL (fun x hx=>zD8 jFh gl0 189 rfl x)) jH5
noncomputable def jFj:Tab:=(190,qB0.fs)::jFi
theorem jH7:TO jFj:= .cons (qW Tryz.f190 [] _ _ jH6 qB0 (fun x _=>zAp jFi gl0 x.1 x.2)) jH6
noncomputable def jFk:Tab:=(130,vN.fs)::jFj
theorem jH8:TO jFk:= .cons (qW Tryz.f130 [] _ _ jH7 vN (fun x hx=>qUh jFj gl0 x hx)) jH7
noncomputable def jFl:Tab:=(192,yJ.fs)::jFk
theorem jH9:TO jFl:= .cons (yM [] Tryz.f192 [] _ _ jH8 yJ (fun x hx=>zAu jFk gl0 177 rfl x hx)) jH8
noncomputable def jFm:Tab:=(159,kI.fs)::jFl
theorem jIa:TO jFm:= .cons (qW Tryz.f159 [(15,[1])] _ _ jH9 kI (fun x hx=>qXn jFl gl0 190 130 191 192 177 193 rfl rfl rfl rfl rfl rfl x hx)) jH9
noncomputable def jFn:Tab:=(128,qOq.fs)::jFm
theorem jIb:TO jFn:= .cons (qW Tryz.f128 [(9,[2]),(14,[13])] _ _ jIa qOq (fun x hx=>qT6 jFm gl0 157 158 159 rfl rfl rfl x.1 x.2.1 x.2.2 hx)) jIa
noncomputable def jFo:Tab:=(82,qOo.fs)::jFn
theorem jIc:TO jFo:= .cons (qW Tryz.f82 [(6,[3,5])] _ _ jIb qOo (fun x hx=>qS1 jFn gl0 127 129 128 rfl rfl rfl x.1 x.2 hx)) jIb
noncomputable def jFp:Tab:=(83,qE0.fs)::jFo
theorem jId:TO jFp:= .cons (yM [] Tryz.f83 [] _ _ jIc qE0 (fun x hx=>qXm jFo gl0 130 60 59 rfl rfl rfl x.1 x.2.1 x.2.2.1 x.2.2.2 hx)) jIc
noncomputable def jFq:Tab:=(42,qJq.fs)::jFp
theorem jIe:TO jFq:= .cons (qW Tryz.f42 [(1,[2])] _ _ jId qJq (fun x hx=>qIf jFp gl0 82 83 rfl rfl x.1 x.2.1 x.2.2.1 x.2.2.2 hx)) jId
noncomputable def jC3:Tab:=(13,qCs.fs)::jFq
theorem jC7:TO jC3:= .cons (qW Tryz.f13 [(2,[3])] _ _ jIe qCs (fun x hx=>qT7 jFq gl0 16 42 rfl rfl x.1 x.2 hx)) jIe
theorem qIx (raw:List Im) (hx:qKe raw) (cs:List UInt8) (hcs:cs.length≤9223372036854775807) (a:Int) (ha:rI a):qX2 Tryz.prog gl0 3 [.t (.sl (raw.map imT)),.t (.sl (cs.map qA)),.t (.int .i64 a)] [] (.t (.bool true)) []:=zRq Tryz.f3 [(6,[2]),(9,[2]),(10,[2]),(14,[4])] _ _ jC7 (qWy jC3 gl0 9 10 11 12 13 14 16 15 17 rfl rfl rfl rfl rfl rfl rfl rfl rfl raw cs a hx hcs ha)
noncomputable def jFr:Tab:=(18,qM1.fs)::jC3
theorem jIf:TO jFr:= .cons (qW Tryz.f18 [] _ _ jC7 qM1 (fun x hx=>qW5 jC3 gl0 10 rfl x hx)) jC7
noncomputable def jFs:Tab:=(31,qLn.fs)::jFr
theorem jIg:TO jFs:= .cons (qW Tryz.f31 [] _ _ jIf qLn (fun x hx=>zH8 jFr gl0 x.1 x.2 hx.1 hx.2)) jIf
noncomputable def jFt:Tab:=(19,qIm.fs)::jFs
theorem jIh:TO jFt:= .cons (qW Tryz.f19 [(14,[7])] _ _ jIg qIm (fun x hx=>zDj jFs gl0 31 rfl x hx)) jIg
noncomputable def jFu:Tab:=(20,qQx.fs)::jFt
theorem jIi:TO jFu:= .cons (qW Tryz.f20 [(1,[1]),(5,[1]),(8,[4])] _ _ jIh qQx (fun x hx=>qTy jFt gl0 38 39 11 rfl rfl rfl x.1 x.2 hx.1 hx.2)) jIh
noncomputable def jFv:Tab:=(50,qOp.fs)::jFu
theorem jIj:TO jFv:= .cons (yM [] Tryz.f50 [] _ _ jIi qOp (fun _ _=>zAs jFu gl0)) jIi
noncomputable def jFw:Tab:=(90,qQ9.fs)::jFv
theorem jIk:TO jFw:= .cons (qW Tryz.f90 [] _ _ jIj qQ9 (fun x hx=>qUc jFv gl0 x.1 x.2 hx.1 hx.2)) jIj
noncomputable def jFx:Tab:=(92,qQ7.fs)::jFw
theorem jIl:TO jFx:= .cons (qW Tryz.f92 [] _ _ jIk qQ7 (fun x hx=>qS3 jFw gl0 x hx)) jIk
noncomputable def jFy:Tab:=(51,qCm.fs)::jFx
theorem jIm:TO jFy:= .cons (qW Tryz.f51 [] _ _ jIl qCm (fun x hx=>zAq jFx gl0 90 91 92 rfl rfl x hx)) jIl
noncomputable def jFz:Tab:=(53,qQ8.fs)::jFy
theorem jIn:TO jFz:= .cons (yM [] Tryz.f53 [] _ _ jIm qQ8 (fun x hx=>zAr jFy gl0 60 98 rfl rfl x.1 x.2 hx.1 hx.2)) jIm
noncomputable def jF0:Tab:=(28,qF4.fs)::jFz
theorem jIo:TO jF0:= .cons (yM [] Tryz.f28 [] _ _ jIn qF4 (fun x hx=>qXp jFz gl0 51 53 52 rfl rfl rfl x.1 x.2 hx.1 hx.2)) jIn
noncomputable def jF1:Tab:=(26,qCn.fs)::jF0
theorem jIp:TO jF1:= .cons (qW Tryz.f26 [] _ _ jIo qCn (fun x hx=>qXo jF0 gl0 50 28 rfl rfl x hx)) jIo
noncomputable def jF2:Tab:=(22,qDl.fs)::jF1
theorem jIq:TO jF2:= .cons (qW Tryz.f22 [(7,[5]),(10,[3])] _ _ jIp qDl (fun x hx=>qPg jF1 gl0 13 26 rfl rfl x.1 x.2 hx)) jIp
noncomputable def jF3:Tab:=(49,qLo.fs)::jF2
theorem jIr:TO jF3:= .cons (qW Tryz.f49 [(3,[3])] _ _ jIq qLo (fun x hx=>zAj jF2 gl0 26 rfl x hx)) jIq
noncomputable def jF4:Tab:=(24,qFi.fs)::jF3
theorem jIs:TO jF4:= .cons (qW Tryz.f24 [(1,[2]),(4,[1])] _ _ jIr qFi (fun x hx=>qT8 jF3 gl0 22 49 rfl rfl x.1 x.2 hx)) jIr
noncomputable def jC4:Tab:=(25,qCx.fs)::jF4
theorem jC8:TO jC4:= .cons (qW Tryz.f25 [] _ _ jIs qCx (fun x hx=>zAe jF4 gl0 14 rfl x.1 x.2 hx.1 hx.2)) jIs
theorem qIy (raw:List (List Im)) (hx:lsX raw) (cs:List UInt8) (hcs:cs.length≤9223372036854775807) (n a:Int) (hn:rI n) (ha:rI a):qX2 Tryz.prog gl0 4 [.t (.sl (raw.map qAm)),.t (.sl (cs.map qA)),.t (.int .i64 n),.t (.int .i64 a)] [] (.t (.bool true)) []:=zRq Tryz.f4 [(4,[1,5]),(7,[2]),(8,[2]),(9,[2]),(10,[2])] _ _ jC8 (qWz jC4 gl0 9 18 19 10 20 21 22 23 24 25 14 rfl rfl rfl rfl rfl rfl rfl rfl rfl rfl rfl raw cs n a hx hcs hn ha)
noncomputable def jC5:Tab:=(27,qQ4.fs)::jC4
theorem jC9:TO jC5:= .cons (qW Tryz.f27 [] _ _ jC8 qQ4 (fun x hx=>qTz jC4 gl0 14 rfl x.1 x.2 hx)) jC8
theorem qIe (cs os:List UInt8) (hcs:cs.length≤9223372036854775807) (hos:os.length≤9223372036854775807) (n p a:Int) (hn:rI n) (hp:rI p) (ha:rI a):qX2 Tryz.prog gl0 5 [.t (.sl (cs.map qA)),.t (.sl (os.map qA)),.t (.int .i64 n),.t (.int .i64 p),.t (.int .i64 a)] [] (.t (.bool true)) []:=zRq Tryz.f5 [(4,[4]),(5,[2]),(6,[2]),(9,[8]),(10,[2]),(17,[1,3]),(20,[2]),(25,[5])] _ _ jC9 (qTq jC5 gl0 9 18 10 20 23 21 12 26 27 28 14 11 13 rfl rfl rfl rfl rfl rfl rfl rfl rfl rfl rfl rfl rfl cs os n p a hcs hos hn hp ha)
noncomputable def jF5:Tab:=(30,qQz.fs)::jC5
theorem jIt:TO jF5:= .cons (qW Tryz.f30 [] _ _ jC9 qQz (fun x hx=>qW6 jC5 gl0 10 rfl x hx)) jC9
noncomputable def jF6:Tab:=(108,qLq.fs)::jF5
theorem jIu:TO jF6:= .cons (qW Tryz.f108 [] _ _ jIt qLq (fun _ _=>qMt jF5 gl0)) jIt
noncomputable def t171:Tab:=(109,qHw.fs)::jF6
theorem jIv:TO t171:= .cons (qW Tryz.f109 [] _ _ jIu qHw (fun x hx=>qW9 jF6 gl0 108 rfl x.1 x.2 hx)) jIu
noncomputable def jF7:Tab:=(79,qRg.fs)::t171
theorem jIw:TO jF7:= .cons (yM [] Tryz.f79 [(2,[3])] _ _ jIv qRg (fun x hx=>qT3 t171 gl0 99 59 rfl x.1 x.2.1 x.2.2 hx)) jIv
noncomputable def t173:Tab:=(61,qOm.fs)::jF7
theorem jIx:TO t173:= .cons (qW Tryz.f61 [(11,[2])] _ _ jIw qOm (fun x hx=>zAc jF7 gl0 108 109 110 79 rfl rfl rfl rfl x.1 x.2.1 x.2.2 hx)) jIw
noncomputable def jF8:Tab:=(75,qE3.fs)::t173
theorem jIy:TO jF8:= .cons (yM [] Tryz.f75 [] _ _ jIx qE3 (fun x hx=>qT2 t173 gl0 111 rfl x.1 x.2 hx)) jIx
noncomputable def jF9:Tab:=(74,qHv.fs)::jF8
theorem jIz:TO jF9:= .cons (qW Tryz.f74 [] _ _ jIy qHv (fun x hx=>zAa jF8 gl0 75 59 rfl rfl x.1 x.2 hx)) jIy
noncomputable def jGa:Tab:=(73,qRc.fs)::jF9
theorem jI0:TO jGa:= .cons (qW Tryz.f73 [(1,[3])] _ _ jIz qRc (fun x hx=>zDm jF9 gl0 110 rfl x.1.1 x.1.2.1 x.1.2.2 x.2.1 x.2.2 hx)) jIz
noncomputable def jGb:Tab:=(123,qOn.fs)::jGa
theorem jI1:TO jGb:= .cons (yM [] Tryz.f123 [(1,[4])] _ _ jI0 qOn (fun x hx=>qXh jGa gl0 110 rfl x.1 x.2.1 x.2.2 hx)) jI0
noncomputable def jGc:Tab:=(122,qHp.fs)::jGb
theorem jI2:TO jGc:= .cons (yM [] Tryz.f122 [(1,[2])] _ _ jI1 qHp (fun x hx=>zIf jGb gl0 110 98 151 rfl rfl rfl x.1 x.2.1 x.2.2.1 x.2.2.2 hx)) jI1
noncomputable def jGd:Tab:=(112,qHy.fs)::jGc
theorem jI3:TO jGd:= .cons (qW Tryz.f112 [] _ _ jI2 qHy (fun x hx=>zDz jGc gl0 123 111 122 rfl rfl rfl x.1 x.2.1 x.2.2.1 x.2.2.2 hx)) jI2
noncomputable def jGe:Tab:=(62,qHz.fs)::jGd
theorem jI4:TO jGe:= .cons (qW Tryz.f62 [(1,[1]),(3,[2,8])] _ _ jI3 qHz (fun x hx=>qSx jGd gl0 74 111 73 75 112 rfl rfl rfl rfl rfl x.1.1 x.1.2.1 x.1.2.2 x.2.1.1 x.2.1.2 x.2.2.1 x.2.2.2.1 x.2.2.2.2 hx)) jI3
noncomputable def jGf:Tab:=(33,qGs.fs)::jGe
theorem jI5:TO jGf:= .cons (qW Tryz.f33 [(3,[4]),(7,[5]),(10,[7]),(12,[4])] _ _ jI4 qGs (fun x hx=>zAi jGe gl0 24 60 59 61 62 22 rfl rfl rfl rfl rfl rfl x.1.1 x.1.2 x.2.1 x.2.2.1 x.2.2.2.1 x.2.2.2.2 hx)) jI4
noncomputable def jGg:Tab:=(63,qCy.fs)::jGf
theorem jI6:TO jGg:= .cons (qW Tryz.f63 [] _ _ jI5 qCy (fun x hx=>qXa jGf gl0 14 rfl x hx)) jI5
noncomputable def jJk:Tab:=(34,qJs.fs)::jGg
theorem jJl:TO jJk:= .cons (qW Tryz.f34 [] _ _ jI6 qJs (fun x hx=>qNp jGg gl0 63 14 25 rfl rfl rfl x hx)) jI6
theorem qMk (rm rn:Int) (rd:List UInt8) (rc:List (List Im)) (hrm:rI rm) (hrn:rI rn) (hrc:lsX rc) (cs:List UInt8) (hcs:cs.length≤9223372036854775807) (ma nu n a:Int) (hma:rI ma) (hnu:rI nu) (hn:rI n) (ha:rI a) (d:List UInt8) (hd:d.length≤9223372036854775807) (any:Bool):qX2 Tryz.prog gl0 6 [.t (qKz rm rn rd rc),.t (.sl (cs.map qA)),.t (.int .i64 ma),.t (.int .i64 nu),.t (.int .i64 n),.t (.int .i64 a),.t (.sl (d.map qA)),.t (.bool any)] [] (.t (.bool true)) []:=zRq Tryz.f6 [(3,[5]),(4,[6,11]),(9,[2]),(10,[2]),(11,[2])] _ _ jJl (zDf jJk gl0 9 10 30 29 31 20 19 32 33 34 rfl rfl rfl rfl rfl rfl rfl rfl rfl rfl rm rn rd rc cs ma nu n a d any hrm hrn hrc hcs hma hnu hn ha hd)
end Go.Eng
end
section
set_option maxRecDepth 100000
namespace Go.Proofs.YtgpbjaleeeacdaaGreatDoor
open Go.Eng Go.ChangeShapes Go.WideShapes Go.ChangeAt Go.WideElems Go.RowKit
def qA9 {H:Type}:List (String×DataW H):=[("math/bits.deBruijn32tab",Rows.laid_math_bits_deBruijn32tab),("math/bits.deBruijn64tab",Rows.laid_math_bits_deBruijn64tab),("internal/strconv.uint64pow10",Rows.laid_internal_strconv_uint64pow10),("sealwright/digest.round256",Rows.laid_sealwright_digest_round256),("sealwright/image.measured",Rows.laid_sealwright_image_measured)]
theorem zQ3:ownKnob Tryz.prog.godebug=none:=by kernel_rfl
theorem qL9:laidOutB Tryz.prog=true:=by kernel_rfl
theorem jKv:Tryz.prog.globalNamed "sealwright/digest.round256" = some 1:=by kernel_rfl
theorem zWy:(Rows.laid_sealwright_digest_round256:DataW Unit) = .agg ((qXx.map fun x=>(x.toNat:Int)).map fun m=> .lit (.int .u32 m)):=by rfl
theorem jKy (W:World) {ps:List MemPlace} (hv:DataW.LaidVars Tryz.prog W qA9 ps):qU (fun _=>none) (fun b=>b<W.heap.size) W (.ro (qXx.map qP)) (.pointer (some ⟨1,0,none⟩))∧GSz W 1 (qXx.map qP).length:=by
 obtain⟨g,t,cs,fuel,p,h1,h2,h3,h4⟩:=qL0 hv _ (.tail _ (.tail _ (.tail _ (.head _))))
 obtain rfl:=Option.some.inj (jKv.symm.trans h1)
 obtain rfl:=Option.some.inj ((show (Tryz.prog.globals[1]?).map (·.type)=some 132 by kernel_rfl).symm.trans h2)
 have h4':DataW.trod (fun _=>()) Tryz.prog W 0 (fun _=>true) false fuel 132 cs.toList=some (.agg ((qXx.map fun x=>(x.toNat:Int)).map fun m=> .lit (.int .u32 m)),p):=by rw[←zWy];exact h4
 have e:(qXx.map fun x=>(x.toNat:Int)).map (T.int .u32)=qXx.map qP:=by rw[List.map_map];rfl
 rw[←e]
 exact⟨zCy (F:=fun b=>b<W.heap.size) h1 h3 Tryz.underlying132 Tryz.underlying131 (by kernel_rfl) (by kernel_rfl) (by decide) h4' (fun h=>h),zCa h1 h3 Tryz.underlying132 (by kernel_rfl) h4'⟩
theorem jKw:Tryz.prog.globalNamed "sealwright/image.measured" = some 0:=by kernel_rfl
theorem zWz:(Rows.laid_sealwright_image_measured:DataW Unit) = .agg (([-1,0,4,8,9]).map fun m=> .lit (.int .i64 m)):=by rfl
theorem jKz (W:World) {ps:List MemPlace} (hv:DataW.LaidVars Tryz.prog W qA9 ps):qU (fun _=>none) (fun b=>b<W.heap.size) W (.ro (zG4)) (.pointer (some ⟨0,0,none⟩))∧GSz W 0 (zG4).length:=by
 obtain⟨g,t,cs,fuel,p,h1,h2,h3,h4⟩:=qL0 hv _ (.tail _ (.tail _ (.tail _ (.tail _ (.head _)))))
 obtain rfl:=Option.some.inj (jKw.symm.trans h1)
 obtain rfl:=Option.some.inj ((show (Tryz.prog.globals[0]?).map (·.type)=some 187 by kernel_rfl).symm.trans h2)
 have h4':DataW.trod (fun _=>()) Tryz.prog W 0 (fun _=>true) false fuel 187 cs.toList=some (.agg (([-1,0,4,8,9]).map fun m=> .lit (.int .i64 m)),p):=by rw[←zWz];exact h4
 have e:([-1,0,4,8,9]).map (T.int .i64)=zG4:=rfl
 rw[←e]
 exact⟨zCy (F:=fun b=>b<W.heap.size) h1 h3 Tryz.underlying187 Tryz.underlying3 (by kernel_rfl) (by kernel_rfl) (by decide) h4' (fun h=>h),zCa h1 h3 Tryz.underlying187 (by kernel_rfl) h4'⟩
theorem jKx:Tryz.prog.globalNamed "internal/strconv.uint64pow10" = some 3:=by kernel_rfl
theorem zW0:(Rows.laid_internal_strconv_uint64pow10:DataW Unit) = .agg ((Lib.pow10Tab).map fun m=> .lit (.int .u64 m)):=by rfl
theorem jK0 (W:World) {ps:List MemPlace} (hv:DataW.LaidVars Tryz.prog W qA9 ps):qU (fun _=>none) (fun b=>b<W.heap.size) W (.ro (qZm)) (.pointer (some ⟨3,0,none⟩))∧GSz W 3 (qZm).length:=by
 obtain⟨g,t,cs,fuel,p,h1,h2,h3,h4⟩:=qL0 hv _ (.tail _ (.tail _ (.head _)))
 obtain rfl:=Option.some.inj (jKx.symm.trans h1)
 obtain rfl:=Option.some.inj ((show (Tryz.prog.globals[3]?).map (·.type)=some 215 by kernel_rfl).symm.trans h2)
 have h4':DataW.trod (fun _=>()) Tryz.prog W 0 (fun _=>true) false fuel 215 cs.toList=some (.agg ((Lib.pow10Tab).map fun m=> .lit (.int .u64 m)),p):=by rw[←zW0];exact h4
 have e:(Lib.pow10Tab).map (T.int .u64)=qZm:=rfl
 rw[←e]
 exact⟨zCy (F:=fun b=>b<W.heap.size) h1 h3 Tryz.underlying215 Tryz.underlying140 (by kernel_rfl) (by kernel_rfl) (by decide) h4' (fun h=>h),zCa h1 h3 Tryz.underlying215 (by kernel_rfl) h4'⟩
theorem jAz (W:World) {ps:List MemPlace} (hv:DataW.LaidVars Tryz.prog W qA9 ps) (g:Nat) (cs:List T) (hg:gl0 g=some cs):qU (fun _=>none) (fun b=>b<W.heap.size) W (.ro cs) (.pointer (some ⟨g,0,none⟩))∧GSz W g cs.length:=by
 unfold gl0 at hg
 split at hg
 ·rename_i h0;subst h0;cases hg;exact jKy W hv
 ·skip
  split at hg
  ·rename_i h0;subst h0;cases hg;exact jKz W hv
  ·skip
   split at hg
   ·rename_i h0;subst h0;cases hg;exact jK0 W hv
   ·cases hg
theorem zQ1 (W:World) (h:laidMetH Tryz.prog qA9 W):zIt gl0 (fun b=>b<W.heap.size) W:=by
 rw[MakeChecks.laidMetH_plain _ _ _ (by kernel_rfl)] at h
 obtain⟨ps,hv,_⟩:=h
 exact⟨fun _ h=>h,fun g cs hg=>(jAz W hv g cs hg).1,fun g cs hg=>(jAz W hv g cs hg).2⟩
abbrev jA4:TypeId:=4
theorem zFy:Tryz.prog.underlying jA4=some .bool:=Tryz.underlying4
theorem qP0 (os:Os) (args:Array Value):((World.doorLaid Tryz.prog 400 os).forCall (fun _ _=>0) ⟨#[],args,[]⟩).Shaped Tryz.prog:=World.shaped_of_RefB (by kernel_rfl) (by kernel_rfl)
theorem qPt (os:Os) (args:Array Value):laidMetH Tryz.prog qA9 ((World.doorLaid Tryz.prog 400 os).forCall (fun _ _=>0) ⟨#[],args,[]⟩).memory:=
 laidMetH_of_parts3 (fuel:=8) (laidMet_of_run' 8 (by kernel_rfl) (by kernel_rfl)) (by kernel_rfl) (by kernel_rfl)
end Go.Proofs.YtgpbjaleeeacdaaGreatDoor
end
section
set_option maxRecDepth 20000
namespace Go.Eng
theorem zS4 {y:T} (h:(Ty.sl (.st [.int .i64,.str,.int .i64,.sl (.int .u8)])).is y) : ∃ l:List Im,qKe l∧y = .sl (l.map imT):=by
 obtain⟨es,hl,he,rfl⟩:=h
 have key : ∀ y∈es,∃ x:Im,y=imT x∧imX x:=fun y hy=>by
  obtain⟨a,v,s,p,h1,h2,h3,h4,rfl⟩:=jDq (he y hy)
  exact⟨(a,s,v,p),rfl,h1,h2,h3,h4⟩
 obtain⟨l,hl2⟩:=qV6 (f:=imT) (es:=es) (fun y hy=>by obtain⟨e,h1,_⟩:=key y hy;exact⟨e,h1⟩)
 subst hl2
 rw[List.length_map,mx] at hl
 refine⟨l,⟨hl,fun x hx=>?_⟩,rfl⟩
 obtain⟨e',h1,h2⟩:=key (imT x) (List.mem_map_of_mem hx)
 cases qF8 h1
 exact h2
end Go.Eng
end
section
set_option maxRecDepth 20000
namespace Go.Eng
theorem zK0 {y:T} (h:(Ty.sl (.sl (.st [.int .i64,.str,.int .i64,.sl (.int .u8)]))).is y) : ∃ ls:List (List Im),lsX ls∧y = .sl (ls.map qAm):=by
 obtain⟨es,hl,he,rfl⟩:=h
 have key : ∀ y∈es,∃ x:List Im,y=qAm x∧qKe x:=fun y hy=>by
  obtain⟨l,h1,rfl⟩:=zS4 (he y hy)
  exact⟨l,rfl,h1⟩
 obtain⟨l,hl2⟩:=qV6 (f:=qAm) (es:=es) (fun y hy=>by obtain⟨e,h1,_⟩:=key y hy;exact⟨e,h1⟩)
 subst hl2
 rw[List.length_map,mx] at hl
 refine⟨l,⟨hl,fun x hx=>?_⟩,rfl⟩
 obtain⟨e',h1,h2⟩:=key (qAm x) (List.mem_map_of_mem hx)
 rw[qLj h1]
 exact h2
theorem zZo {y:T} (h:(Ty.st [.int .i64,.int .i64,.sl (.int .u8),.sl (.sl (.st [.int .i64,.str,.int .i64,.sl (.int .u8)]))]).is y) : ∃ (a b:Int) (d:List UInt8) (ls:List (List Im)),rI a∧rI b∧lsX ls∧y=qKz a b d ls:=by
 obtain⟨cs,hc,rfl⟩:=h
 obtain⟨x,r,hx,hr,rfl⟩:=hc
 obtain⟨x2,r2,hx2,hr2,rfl⟩:=hr
 obtain⟨x3,r3,hx3,hr3,rfl⟩:=hr2
 obtain⟨x4,r4,hx4,hr4,rfl⟩:=hr3
 cases hr4
 obtain⟨a,ha,rfl⟩:=qBb hx
 obtain⟨b,hb,rfl⟩:=qBb hx2
 obtain⟨d,_,rfl⟩:=qA3 hx3
 obtain⟨ls,hl,rfl⟩:=zK0 hx4
 exact⟨a,b,d,ls,ha,hb,hl,rfl⟩
end Go.Eng
end
